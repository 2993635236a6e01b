/- THE CARD OF MeanNests: it returns true for every input of bulk at most 1048576; its arguments read behind the call as they read before. -/
import Derived.Test.YtloeagdggmolcabGreatDoorX
import Derived.Test.YtloeagdggmolcabGreatDoorPartD

set_option linter.unusedVariables false
set_option linter.unusedSimpArgs false
namespace Go.Proofs.YtloeagdggmolcabGreatDoor.fnMeanNests
open Go.ChangeShapes Go.WideShapes Go.ChangeAt Go.RowKit Go.Am Go.Proofs.Mm

set_option maxRecDepth 100000 in
theorem contract (H : Type) (enc : TypeId × Value → H) (W : World) (base : Nat) (args : Array Value) (ds gs : List (DataW H)) (before : List MemPlace)
    (hval : ∀ (j : Nat) t v, Tryz.f3.params[j]? = some t → args[j]? = some v → Value.okWide Tryz.prog W .any base t v)
    (hW : DataW.Whole enc Tryz.prog Tryz.f3.params.toList Rows.meanNestsSpec.vars false W args.toList ds gs before) (hL : laidMetH Tryz.prog Rows.meanNestsUptoRow.laid W) (hk : Rows.uptoSmall H (ds ++ gs) = true) :
    Calls Tryz.prog 3 args W fun e W' => ∃ v, e = .returned v ∧ Rows.meanNestsSpec.post enc Tryz.prog Tryz.f3 false true false false W args v W' := by
  have hp : Tryz.f3.params.toList = [22, 22] := by rw [Tryz.params3]
  have hsz := dszL_small hk
  have hlen : ds.length = 2 := by
    obtain ⟨p, q, hA, _⟩ := hW
    rw [hp] at hA
    have := trodAll_len hA
    simpa using this.2
  obtain ⟨d0, d1, rfl⟩ : ∃ d0 d1, ds = [d0, d1] := by
    match ds, hlen with
    | [d0, d1], _ => exact ⟨d0, d1, rfl⟩
  refine law_of_run (f := 3) (fn := Tryz.f3) (P := Tryz.prog) (gl := gl) (gs := [0, 4, 6, 7]) (A := Trmm.aprog) prog_ok Rows.meanNestsSpec sPlain sLaidOut sRowed sLt (by kernel_rfl) (tb := 4) (by kernel_rfl) t4 rfl hval hW (sGl hL) rfl (fun hl hty => ?_)
  rw [hp]
  simp only [List.cons_append, dszL] at hsz
  have hty : ∀ (j : Nat) t d, ([22, 22] : List TypeId)[j]? = some t → [d0, d1][j]? = some d → ∃ n, dty Tryz.prog n t d := fun j t d h1 h2 => hty j t d (by rw [← hp] at h1; simpa using h1) h2
  obtain ⟨n0, k0⟩ := hty 0 22 d0 rfl rfl
  obtain ⟨n1, k1⟩ := hty 1 22 d1 rfl rfl
  obtain ⟨l1, v1, h1, h2, h3, h4⟩ := ty_slint t22 t27 k0
  obtain ⟨l2, v2, g1, g2, g3, g4⟩ := ty_slint t22 t27 k1
  have hb : ∀ l : List Int, (∀ x ∈ l, (Lit.int .i8 x).wf = true) → ∀ x ∈ l, -128 ≤ x ∧ x ≤ 127 := fun l h x hx => by
    have := h x hx
    simp [Lit.wf, IntKind.has, IntKind.min, IntKind.max, IntKind.signed, IntKind.bits] at this
    omega
  simp only [dargs]
  rw [argOne (by kernel_rfl) h3, argOne (by kernel_rfl) g3]
  exact law_nests l1 l2 v1 v2 h2 g2 (hb l1 h1) (hb l2 g1) (by omega) (by omega)

set_option maxRecDepth 100000 in
theorem reads (os : Os) {H : Type} (enc : TypeId × Value → H) : DataW.whole enc Tryz.prog ((laidWorld os).forCall (fun _ _ => 0) ⟨#[], #[.slice none 0 0, .slice none 0 0], []⟩).memory Tryz.f3.params.toList Rows.meanNestsSpec.vars false (#[.slice none 0 0, .slice none 0 0] : Array Value).toList 12 = some ([.nil, .nil], [], []) := by kernel_rfl

theorem witness (os : Os) {H : Type} (enc : TypeId × Value → H) : ∃ (w : World) (tape : Tape) (i : Input), w.os = os ∧ (w.forCall tape i).Shaped Tryz.checked.prog ∧ i.vars = [] ∧ Input.okWide Tryz.checked.prog (w.forCall tape i) .any w.heap.size 3 i ∧
      (Rows.OpenSpec.upto Rows.meanNestsSpec).preRow enc Tryz.checked.prog Tryz.f3 Rows.meanNestsUptoRow.domain false Rows.meanNestsUptoRow.laid (w.forCall tape i).memory i.args ∧ ({ modest := false } : Assume).holds Tryz.checked.prog (lone (Frame.enter Tryz.checked.prog 3 i.args .normal) [] (w.forCall tape i)) := by
  obtain ⟨w, tape, i, h1, h2, h3, h4, h5, h6, _⟩ := OpenSpec.witness_stopped_atRef (enc := enc) (C := Tryz.checked) (f := 3) (fn := Tryz.f3) (s := Rows.OpenSpec.upto Rows.meanNestsSpec) (conds := Rows.meanNestsUptoRow.domain) (apart := false) (laid := Rows.meanNestsUptoRow.laid) false (laidWorld os) #[.slice none 0 0, .slice none 0 0] rfl (by kernel_rfl) (by kernel_rfl) (by kernel_rfl)
    (OpenSpec.preRow_of_cond 12 (reads os enc) (by kernel_rfl) (fun k hk => by cases hk; kernel_rfl) (by kernel_rfl) (laid_met os _)) (fun _ _ _ => 0)
  exact ⟨w, tape, i, h1, h2, h3, h4, h5, h6⟩

set_option maxRecDepth 100000 in
theorem liftedUpto (os : Os) (started : os.Started) (H : Type) (enc : TypeId × Value → H) (F : Stop.Interp) :
    ReturnsInHanded {} Tryz.checked os 3 .any ((Rows.OpenSpec.upto Rows.meanNestsSpec).preRow enc Tryz.prog Tryz.f3 Rows.meanNestsUptoRow.domain false Rows.meanNestsUptoRow.laid) (((Rows.OpenSpec.upto Rows.meanNestsSpec).at F).post enc Tryz.prog Tryz.f3 false true false false) := by
  refine returnsInHanded_of_row (C := Tryz.checked) (s := Rows.OpenSpec.upto Rows.meanNestsSpec) sOwn started (by kernel_rfl) Tryz.func3
    (witness os enc) ?_
  intro W base args ds gs before hval hW _ hcond _ hL _ _
  exact contract H enc W base args ds gs before hval hW hL (hcond _ rfl)

theorem j1 : (Rows.meanNestsUptoRow.inPlace == Tryz.pinned.checked.prog.inPlace 3) = true := by kernel_rfl
theorem j2 : (Rows.meanNestsUptoRow.unfollowed == Tryz.pinned.checked.prog.unfollowed 3) = true := by kernel_rfl
theorem j3 : (Rows.meanNestsUptoRow.recurses == Tryz.pinned.checked.prog.recurses 3) = true := by kernel_rfl
theorem j4 : (Rows.meanNestsUptoRow.named == Tryz.pinned.checked.prog.varsNamed 3) = true := by kernel_rfl
set_option maxRecDepth 100000 in
theorem jf : joinedFacts Tryz.pinned.checked.prog 3 Tryz.f3 (Rows.OpenSpec.upto Rows.meanNestsSpec).bare Rows.meanNestsUptoRow = true := by
  unfold joinedFacts
  rw [j1, j2, j3, j4]
  kernel_rfl
theorem saidUpto : Rows.MeanNestsUptoSaid :=
  OpenClaim.holds_of_cond 3 Tryz.f3 rfl rfl rfl rfl rfl rfl rfl ⟨rfl, rfl, rfl, rfl, rfl⟩ rfl rfl rfl rfl rfl (by kernel_rfl) Tryz.func3 jf
    (of_decide_eq_true (by kernel_rfl)) (by unfold Func.isWrapper; first | (rw [if_pos (by decide +kernel)]; kernel_rfl) | (rw [if_neg (by decide +kernel)]; exact ⟨rfl, rfl⟩))
    (fun os started H enc _ F => by rw [OpenClaim.pre_eq_preRow]; exact liftedUpto os started H enc F)

theorem plain (f : FuncId) (fn : Func) (hf : Tryz.pinned.checked.prog.funcNamed "sheafworks/sheafworkslaw13.MeanNests" = some f) (hfn : Tryz.pinned.checked.prog.funcs[f]? = some fn) :
    true = Tryz.pinned.checked.prog.looks [] ∧ ∀ (j : Nat) t, fn.params[j]? = some t → Tryz.pinned.checked.prog.wantsStandIn t = false := by
  obtain rfl : f = 3 := Option.some.inj ((show Tryz.prog.funcNamed "sheafworks/sheafworkslaw13.MeanNests" = some 3 by kernel_rfl).symm.trans hf) |>.symm
  obtain rfl : fn = Tryz.f3 := (Option.some.inj (Tryz.func3.symm.trans hfn)).symm
  refine ⟨by kernel_rfl, fun j t ht => ?_⟩
  have h1 : ∀ t ∈ ([22, 22] : List TypeId), Tryz.prog.wantsStandIn t = false := fun t h => by
    have := List.all_eq_true.1 (show ([22, 22] : List TypeId).all (fun t => Tryz.prog.wantsStandIn t == false) = true by kernel_rfl) t h
    simpa using this
  rw [Tryz.params3] at ht
  exact h1 t (by simpa using Array.mem_of_getElem? ht)

theorem card : Rows.MeanNestsUptoCardSaid :=
  Claim7.holds_tied_plain_at .later [] _ _ _ _ saidUpto (fun _ h => by cases h) (by kernel_rfl) (fun _ h => by cases h) meanNestsUpto_row_tie rfl ⟨rfl, rfl⟩ (by kernel_rfl) rfl plain (by kernel_rfl)
end Go.Proofs.YtloeagdggmolcabGreatDoor.fnMeanNests
