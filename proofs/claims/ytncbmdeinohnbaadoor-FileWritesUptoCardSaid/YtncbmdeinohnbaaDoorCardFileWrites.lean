/- THE CARD OF FileWrites: it returns true for every input of bulk at most 1048576; its arguments read behind the call as they read before. -/
import Derived.Test.YtncbmdeinohnbaaDoorFileX
import Derived.Test.YtncbmdeinohnbaaDoorFileL

set_option linter.unusedVariables false
set_option linter.unusedSimpArgs false
namespace Go.Proofs.YtncbmdeinohnbaaDoor.fnFileWrites
open Go.ChangeShapes Go.WideShapes Go.ChangeAt Go.RowKit Go.Am Go.Proofs.FileA

theorem trodAll_len {H : Type} {enc : TypeId × Value → H} {P : Program} {w : World} {base : Nat} {spare : Nat → Bool} {held : Bool} : ∀ {ts : List TypeId} {vs : List Value} {ds : List (DataW H)} {ps : List MemPlace}, DataW.TrodAll enc P w base spare held ts vs ds ps → vs.length = ts.length ∧ ds.length = ts.length
  | [], [], [], _, _ => ⟨rfl, rfl⟩
  | _ :: _, _ :: _, _ :: _, _, ⟨_, _, _, hs, _⟩ => by
    obtain ⟨h1, h2⟩ := trodAll_len hs
    simp [h1, h2]
theorem isAgg (t : TypeId) (h : isAggT Tryd.prog t = true) {H : Type} (d : DataW H) : darg Tryd.prog t d = .agg (dcells d) := by
  unfold darg
  rw [if_pos h]

set_option maxRecDepth 100000 in
theorem contract (H : Type) (enc : TypeId × Value → H) (W : World) (base : Nat) (args : Array Value) (ds gs : List (DataW H)) (before : List MemPlace)
    (hval : ∀ (j : Nat) t v, Tryd.f3.params[j]? = some t → args[j]? = some v → Value.okWide Tryd.prog W .any base t v)
    (hW : DataW.Whole enc Tryd.prog Tryd.f3.params.toList Rows.fileWritesSpec.vars false W args.toList ds gs before) (hL : laidMetH Tryd.prog Rows.fileWritesUptoRow.laid W) (hk : Rows.uptoSmall H (ds ++ gs) = true) :
    Calls Tryd.prog 3 args W fun e W' => ∃ v, e = .returned v ∧ Rows.fileWritesSpec.post enc Tryd.prog Tryd.f3 false true false false W args v W' := by
  have hp : Tryd.f3.params.toList = [24, 27, 30, 33] := by rw [Tryd.params3]
  have hsz := dszL_small hk
  have hlen : ds.length = 4 := by
    obtain ⟨p, q, hA, _⟩ := hW
    rw [hp] at hA
    have := trodAll_len hA
    simpa using this.2
  obtain ⟨d0, d1, d2, d3, rfl⟩ : ∃ d0 d1 d2 d3, ds = [d0, d1, d2, d3] := by
    match ds, hlen with
    | [d0, d1, d2, d3], _ => exact ⟨d0, d1, d2, d3, rfl⟩
  refine law_of_run (f := 3) (fn := Tryd.f3) (P := Tryd.prog) (gl := gl0) (gs := [0]) (A := FileA.Tryd.aprog) FileA.prog_ok Rows.fileWritesSpec sPlain sLaidOut sRowed sLt (by kernel_rfl) (tb := 4) (by kernel_rfl) t4 rfl hval hW (sGl hL) rfl (fun hl hty => ?_)
  rw [hp]
  simp only [List.cons_append, dszL] at hsz
  have hty : ∀ (j : Nat) t d, ([24, 27, 30, 33] : List TypeId)[j]? = some t → [d0, d1, d2, d3][j]? = some d → ∃ n, dty Tryd.prog n t d := fun j t d h1 h2 => hty j t d (by rw [← hp] at h1; simpa using h1) h2
  have hargs : dargs Tryd.prog [24, 27, 30, 33] [d0, d1, d2, d3] = [.agg (dcells d0), .agg (dcells d1), .agg (dcells d2), .agg (dcells d3)] := by
    simp only [dargs]
    rw [isAgg 24 (by kernel_rfl), isAgg 27 (by kernel_rfl), isAgg 30 (by kernel_rfl), isAgg 33 (by kernel_rfl)]
  rw [hargs]
  obtain ⟨n0, k0⟩ := hty 0 24 d0 rfl rfl
  obtain ⟨n1, k1⟩ := hty 1 27 d1 rfl rfl
  obtain ⟨n2, k2⟩ := hty 2 30 d2 rfl rfl
  obtain ⟨n3, k3⟩ := hty 3 33 d3 rfl rfl
  obtain ⟨x, hx, sx⟩ := ty24 k0 (by omega)
  obtain ⟨p, hp, sp⟩ := ty27 k1 (by omega)
  obtain ⟨q, hq, sq⟩ := ty30 k2 (by omega)
  obtain ⟨l, hl, sl⟩ := ty33 k3 (by omega)
  exact law_writes hx hp hq hl (by omega) (by omega) (by omega) (by omega)

theorem reads (os : Os) {H : Type} (enc : TypeId × Value → H) : DataW.whole enc Tryd.prog ((laidWorld os).forCall (fun _ _ => 0) ⟨#[], #[.agg #[.int .i64 0, .int .i64 0, .slice none 0 0], .agg #[.slice none 0 0, .int .i64 0], .agg #[.slice none 0 0, .int .i64 0], .agg #[.int .i64 0, .slice none 0 0, .slice none 0 0]], []⟩).memory Tryd.f3.params.toList Rows.fileWritesSpec.vars false (#[.agg #[.int .i64 0, .int .i64 0, .slice none 0 0], .agg #[.slice none 0 0, .int .i64 0], .agg #[.slice none 0 0, .int .i64 0], .agg #[.int .i64 0, .slice none 0 0, .slice none 0 0]] : Array Value).toList 12 = some ([.agg [.lit (.int .i64 0), .lit (.int .i64 0), .nil], .agg [.nil, .lit (.int .i64 0)], .agg [.nil, .lit (.int .i64 0)], .agg [.lit (.int .i64 0), .nil, .nil]], [], []) := by kernel_rfl

set_option maxRecDepth 100000 in
theorem liftedUpto (os : Os) (started : os.Started) (H : Type) (enc : TypeId × Value → H) (F : Stop.Interp) :
    ReturnsInHanded {} Tryd.checked os 3 .any ((Rows.OpenSpec.upto Rows.fileWritesSpec).preRow enc Tryd.prog Tryd.f3 Rows.fileWritesUptoRow.domain false Rows.fileWritesUptoRow.laid) (((Rows.OpenSpec.upto Rows.fileWritesSpec).at F).post enc Tryd.prog Tryd.f3 false true false false) := by
  have hx := reads os enc
  refine returnsInHanded_of_row (C := Tryd.checked) (s := Rows.OpenSpec.upto Rows.fileWritesSpec) sOwn started (by kernel_rfl) Tryd.func3
    (witness_row_at (enc := enc) (C := Tryd.checked) false (laidWorld os) #[.agg #[.int .i64 0, .int .i64 0, .slice none 0 0], .agg #[.slice none 0 0, .int .i64 0], .agg #[.slice none 0 0, .int .i64 0], .agg #[.int .i64 0, .slice none 0 0, .slice none 0 0]] rfl (by kernel_rfl) (by kernel_rfl) (by kernel_rfl)
      (OpenSpec.preRow_of_cond 12 hx (by kernel_rfl) (fun k hk => by cases hk; kernel_rfl) (by kernel_rfl) (laid_met os _))) ?_
  intro W base args ds gs before hval hW _ hcond _ hL _ _
  exact contract H enc W base args ds gs before hval hW hL (hcond _ rfl)

theorem saidUpto : Rows.FileWritesUptoSaid :=
  OpenClaim.holds_of_cond 3 Tryd.f3 rfl rfl rfl rfl rfl rfl rfl ⟨rfl, rfl, rfl, rfl, rfl⟩ rfl rfl rfl rfl rfl (by kernel_rfl) Tryd.func3 (by kernel_rfl)
    (of_decide_eq_true (by kernel_rfl)) (by unfold Func.isWrapper; first | (rw [if_pos (by decide +kernel)]; kernel_rfl) | (rw [if_neg (by decide +kernel)]; exact ⟨rfl, rfl⟩))
    (fun os started H enc _ F => by rw [OpenClaim.pre_eq_preRow]; exact liftedUpto os started H enc F)

theorem plain (f : FuncId) (fn : Func) (hf : Tryd.pinned.checked.prog.funcNamed "sheafworks/sheafworkslaw33.FileWrites" = some f) (hfn : Tryd.pinned.checked.prog.funcs[f]? = some fn) :
    true = Tryd.pinned.checked.prog.looks [] ∧ ∀ (j : Nat) t, fn.params[j]? = some t → Tryd.pinned.checked.prog.wantsStandIn t = false := by
  obtain rfl : f = 3 := Option.some.inj ((show Tryd.prog.funcNamed "sheafworks/sheafworkslaw33.FileWrites" = some 3 by kernel_rfl).symm.trans hf) |>.symm
  obtain rfl : fn = Tryd.f3 := (Option.some.inj (Tryd.func3.symm.trans hfn)).symm
  refine ⟨by kernel_rfl, fun j t ht => ?_⟩
  have h1 : ∀ t ∈ ([24, 27, 30, 33] : List TypeId), Tryd.prog.wantsStandIn t = false := fun t h => by
    have := List.all_eq_true.1 (show ([24, 27, 30, 33] : List TypeId).all (fun t => Tryd.prog.wantsStandIn t == false) = true by kernel_rfl) t h
    simpa using this
  rw [Tryd.params3] at ht
  exact h1 t (by simpa using Array.mem_of_getElem? ht)

theorem card : Rows.FileWritesUptoCardSaid :=
  Claim7.holds_tied_plain_at .later [] _ _ _ _ saidUpto (fun _ h => by cases h) (by kernel_rfl) (fun _ h => by cases h) fileWritesUpto_row_tie rfl ⟨rfl, rfl⟩ (by kernel_rfl) rfl plain (by kernel_rfl)
end Go.Proofs.YtncbmdeinohnbaaDoor.fnFileWrites
