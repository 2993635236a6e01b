/- THE CARD OF NestMoves: it returns true for every input of bulk at most 1048576; its arguments read behind the call as they read before. -/
import Derived.Test.YtlgehpjbhijknaaGreatDoorX
import Derived.Test.YtlgehpjbhijknaaGreatDoorPartD

set_option linter.unusedVariables false
set_option linter.unusedSimpArgs false
namespace Go.Proofs.YtlgehpjbhijknaaGreatDoor.fnNestMoves
open Go.ChangeShapes Go.WideShapes Go.ChangeAt Go.RowKit Go.Am Go.Proofs.Nst

set_option maxRecDepth 100000 in
theorem contract (H : Type) (enc : TypeId × Value → H) (W : World) (base : Nat) (args : Array Value) (ds gs : List (DataW H)) (before : List MemPlace)
    (hval : ∀ (j : Nat) t v, Tryz.f4.params[j]? = some t → args[j]? = some v → Value.okWide Tryz.prog W .any base t v)
    (hW : DataW.Whole enc Tryz.prog Tryz.f4.params.toList Rows.nestMovesSpec.vars false W args.toList ds gs before) (hL : laidMetH Tryz.prog Rows.nestMovesUptoRow.laid W) (hk : Rows.uptoSmall H (ds ++ gs) = true) :
    Calls Tryz.prog 4 args W fun e W' => ∃ v, e = .returned v ∧ Rows.nestMovesSpec.post enc Tryz.prog Tryz.f4 false true false false W args v W' := by
  have hp : Tryz.f4.params.toList = [24, 41, 42] := by rw [Tryz.params4]
  have hsz := dszL_small hk
  have hlen : ds.length = 3 := by
    obtain ⟨p, q, hA, _⟩ := hW
    rw [hp] at hA
    have := trodAll_len hA
    simpa using this.2
  obtain ⟨d0, d1, d2, rfl⟩ : ∃ d0 d1 d2, ds = [d0, d1, d2] := by
    match ds, hlen with
    | [d0, d1, d2], _ => exact ⟨d0, d1, d2, rfl⟩
  refine law_of_run (f := 4) (fn := Tryz.f4) (P := Tryz.prog) (gl := gl) (gs := [0, 1, 2]) (A := Trnz.aprog) prog_ok Rows.nestMovesSpec sPlain sLaidOut sRowed sLt (by kernel_rfl) (tb := 4) (by kernel_rfl) t4 rfl hval hW (sGl hL) rfl (fun hl hty => ?_)
  rw [hp]
  simp only [List.cons_append, dszL] at hsz
  have hty : ∀ (j : Nat) t d, ([24, 41, 42] : List TypeId)[j]? = some t → [d0, d1, d2][j]? = some d → ∃ n, dty Tryz.prog n t d := fun j t d h1 h2 => hty j t d (by rw [← hp] at h1; simpa using h1) h2
  obtain ⟨n0, k0⟩ := hty 0 24 d0 rfl rfl
  obtain ⟨n1, k1⟩ := hty 1 41 d1 rfl rfl
  obtain ⟨n2, k2⟩ := hty 2 42 d2 rfl rfl
  obtain ⟨t, h1, h2, h3⟩ := ty24 k0
  obtain ⟨a, b, A, B, vA, vB, e1, e2, e3, e4, e5, e6, e7, e8, e9⟩ := ty41 k1
  obtain ⟨p, vp, p1, p2, p3, p4⟩ := ty42 k2
  simp only [dargs]
  rw [argAgg (by kernel_rfl), argAgg (by kernel_rfl), argOne (by kernel_rfl) p3, h2, e7]
  exact law_moves t h1 (by omega) a b e1 e2 e5 e6 (by omega) (by omega) (fun r hr => by have := (e3 r hr).1; omega) (fun r hr => ⟨by have := (e4 r hr).1; omega, (e4 r hr).2⟩) p2 (by omega)

set_option maxRecDepth 100000 in
theorem reads (os : Os) {H : Type} (enc : TypeId × Value → H) : DataW.whole enc Tryz.prog ((laidWorld os).forCall (fun _ _ => 0) ⟨#[], #[.agg #[.int .i64 0, .int .i64 0, .slice none 0 0], .agg #[.int .i64 0, .int .i64 0, .slice none 0 0, .slice none 0 0], .slice none 0 0], []⟩).memory Tryz.f4.params.toList Rows.nestMovesSpec.vars false (#[.agg #[.int .i64 0, .int .i64 0, .slice none 0 0], .agg #[.int .i64 0, .int .i64 0, .slice none 0 0, .slice none 0 0], .slice none 0 0] : Array Value).toList 12 = some ([.agg [.lit (.int .i64 0), .lit (.int .i64 0), .nil], .agg [.lit (.int .i64 0), .lit (.int .i64 0), .nil, .nil], .nil], [], []) := by kernel_rfl

theorem witness (os : Os) {H : Type} (enc : TypeId × Value → H) : ∃ (w : World) (tape : Tape) (i : Input), w.os = os ∧ (w.forCall tape i).Shaped Tryz.checked.prog ∧ i.vars = [] ∧ Input.okWide Tryz.checked.prog (w.forCall tape i) .any w.heap.size 4 i ∧
      (Rows.OpenSpec.upto Rows.nestMovesSpec).preRow enc Tryz.checked.prog Tryz.f4 Rows.nestMovesUptoRow.domain false Rows.nestMovesUptoRow.laid (w.forCall tape i).memory i.args ∧ ({ modest := false } : Assume).holds Tryz.checked.prog (lone (Frame.enter Tryz.checked.prog 4 i.args .normal) [] (w.forCall tape i)) := by
  obtain ⟨w, tape, i, h1, h2, h3, h4, h5, h6, _⟩ := OpenSpec.witness_stopped_atRef (enc := enc) (C := Tryz.checked) (f := 4) (fn := Tryz.f4) (s := Rows.OpenSpec.upto Rows.nestMovesSpec) (conds := Rows.nestMovesUptoRow.domain) (apart := false) (laid := Rows.nestMovesUptoRow.laid) false (laidWorld os) #[.agg #[.int .i64 0, .int .i64 0, .slice none 0 0], .agg #[.int .i64 0, .int .i64 0, .slice none 0 0, .slice none 0 0], .slice none 0 0] rfl (by kernel_rfl) (by kernel_rfl) (by kernel_rfl)
    (OpenSpec.preRow_of_cond 12 (reads os enc) (by kernel_rfl) (fun k hk => by cases hk; kernel_rfl) (by kernel_rfl) (laid_met os _)) (fun _ _ _ => 0)
  exact ⟨w, tape, i, h1, h2, h3, h4, h5, h6⟩

set_option maxRecDepth 100000 in
theorem liftedUpto (os : Os) (started : os.Started) (H : Type) (enc : TypeId × Value → H) (F : Stop.Interp) :
    ReturnsInHanded {} Tryz.checked os 4 .any ((Rows.OpenSpec.upto Rows.nestMovesSpec).preRow enc Tryz.prog Tryz.f4 Rows.nestMovesUptoRow.domain false Rows.nestMovesUptoRow.laid) (((Rows.OpenSpec.upto Rows.nestMovesSpec).at F).post enc Tryz.prog Tryz.f4 false true false false) := by
  refine returnsInHanded_of_row (C := Tryz.checked) (s := Rows.OpenSpec.upto Rows.nestMovesSpec) sOwn started (by kernel_rfl) Tryz.func4
    (witness os enc) ?_
  intro W base args ds gs before hval hW _ hcond _ hL _ _
  exact contract H enc W base args ds gs before hval hW hL (hcond _ rfl)

theorem saidUpto : Rows.NestMovesUptoSaid :=
  OpenClaim.holds_of_cond 4 Tryz.f4 rfl rfl rfl rfl rfl rfl rfl ⟨rfl, rfl, rfl, rfl, rfl⟩ rfl rfl rfl rfl rfl (by kernel_rfl) Tryz.func4 (by kernel_rfl)
    (of_decide_eq_true (by kernel_rfl)) (by unfold Func.isWrapper; first | (rw [if_pos (by decide +kernel)]; kernel_rfl) | (rw [if_neg (by decide +kernel)]; exact ⟨rfl, rfl⟩))
    (fun os started H enc _ F => by rw [OpenClaim.pre_eq_preRow]; exact liftedUpto os started H enc F)

theorem plain (f : FuncId) (fn : Func) (hf : Tryz.pinned.checked.prog.funcNamed "sheafworks/sheafworkslaw03.NestMoves" = some f) (hfn : Tryz.pinned.checked.prog.funcs[f]? = some fn) :
    true = Tryz.pinned.checked.prog.looks [] ∧ ∀ (j : Nat) t, fn.params[j]? = some t → Tryz.pinned.checked.prog.wantsStandIn t = false := by
  obtain rfl : f = 4 := Option.some.inj ((show Tryz.prog.funcNamed "sheafworks/sheafworkslaw03.NestMoves" = some 4 by kernel_rfl).symm.trans hf) |>.symm
  obtain rfl : fn = Tryz.f4 := (Option.some.inj (Tryz.func4.symm.trans hfn)).symm
  refine ⟨by kernel_rfl, fun j t ht => ?_⟩
  have h1 : ∀ t ∈ ([24, 41, 42] : List TypeId), Tryz.prog.wantsStandIn t = false := fun t h => by
    have := List.all_eq_true.1 (show ([24, 41, 42] : List TypeId).all (fun t => Tryz.prog.wantsStandIn t == false) = true by kernel_rfl) t h
    simpa using this
  rw [Tryz.params4] at ht
  exact h1 t (by simpa using Array.mem_of_getElem? ht)

theorem card : Rows.NestMovesUptoCardSaid :=
  Claim7.holds_tied_plain_at .later [] _ _ _ _ saidUpto (fun _ h => by cases h) (by kernel_rfl) (fun _ h => by cases h) nestMovesUpto_row_tie rfl ⟨rfl, rfl⟩ (by kernel_rfl) rfl plain (by kernel_rfl)
end Go.Proofs.YtlgehpjbhijknaaGreatDoor.fnNestMoves
