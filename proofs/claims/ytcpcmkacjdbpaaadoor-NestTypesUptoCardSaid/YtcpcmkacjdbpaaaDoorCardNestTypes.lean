/- THE CARD OF NestTypes: it returns true for every input of bulk at most 1048576; its arguments read behind the call as they read before. -/
import Derived.Test.YtcpcmkacjdbpaaaDoorX
import Derived.Test.YtcpcmkacjdbpaaaDoorLaw

set_option linter.unusedVariables false
set_option linter.unusedSimpArgs false
namespace Go.Proofs.YtcpcmkacjdbpaaaDoor.fnNestTypes
open Go.ChangeShapes Go.WideShapes Go.ChangeAt Go.RowKit Go.Am Go.Proofs.Nst

set_option maxRecDepth 100000 in
theorem contract (H : Type) (enc : TypeId × Value → H) (W : World) (base : Nat) (args : Array Value) (ds gs : List (DataW H)) (before : List MemPlace)
    (hval : ∀ (j : Nat) t v, Tryd.f3.params[j]? = some t → args[j]? = some v → Value.okWide Tryd.prog W .any base t v)
    (hW : DataW.Whole enc Tryd.prog Tryd.f3.params.toList Rows.nestTypesSpec.vars false W args.toList ds gs before) (hL : laidMetH Tryd.prog Rows.nestTypesUptoRow.laid W) (hk : Rows.uptoSmall H (ds ++ gs) = true) :
    Calls Tryd.prog 3 args W fun e W' => ∃ v, e = .returned v ∧ Rows.nestTypesSpec.post enc Tryd.prog Tryd.f3 false true false false W args v W' := by
  have hp : Tryd.f3.params.toList = [24, 27] := by rw [Tryd.params3]
  have hsz := dszL_small hk
  have hlen : ds.length = 2 := by
    obtain ⟨p, q, hA, _⟩ := hW
    rw [hp] at hA
    have := trodAll_len hA
    simpa using this.2
  obtain ⟨d0, d1, rfl⟩ : ∃ d0 d1, ds = [d0, d1] := by
    match ds, hlen with
    | [d0, d1], _ => exact ⟨d0, d1, rfl⟩
  refine law_of_run (f := 3) (fn := Tryd.f3) (P := Tryd.prog) (gl := gl) (gs := [0, 1, 2]) (A := Trnx.aprog) prog_ok Rows.nestTypesSpec sPlain sLaidOut sRowed sLt (by kernel_rfl) (tb := 4) (by kernel_rfl) t4 rfl hval hW (sGl hL) rfl (fun hl hty => ?_)
  rw [hp]
  simp only [List.cons_append, dszL] at hsz
  have hty : ∀ (j : Nat) t d, ([24, 27] : List TypeId)[j]? = some t → [d0, d1][j]? = some d → ∃ n, dty Tryd.prog n t d := fun j t d h1 h2 => hty j t d (by rw [← hp] at h1; simpa using h1) h2
  obtain ⟨n0, k0⟩ := hty 0 24 d0 rfl rfl
  obtain ⟨n1, k1⟩ := hty 1 27 d1 rfl rfl
  obtain ⟨t, h1, h2, h3⟩ := ty24 k0
  obtain ⟨u, h4, h5, h6⟩ := ty27 k1
  simp only [dargs]
  rw [arg24 (by kernel_rfl), arg27 (by kernel_rfl), h2, h5]
  exact law_types t u h1 h4 (by omega) (by omega)

set_option maxRecDepth 100000 in
theorem reads (os : Os) {H : Type} (enc : TypeId × Value → H) : DataW.whole enc Tryd.prog ((laidWorld os).forCall (fun _ _ => 0) ⟨#[], #[.agg #[.int .i64 0, .int .i64 0, .slice none 0 0], .agg #[.int .i64 0, .int .i64 0, .slice none 0 0]], []⟩).memory Tryd.f3.params.toList Rows.nestTypesSpec.vars false (#[.agg #[.int .i64 0, .int .i64 0, .slice none 0 0], .agg #[.int .i64 0, .int .i64 0, .slice none 0 0]] : Array Value).toList 12 = some ([.agg [.lit (.int .i64 0), .lit (.int .i64 0), .nil], .agg [.lit (.int .i64 0), .lit (.int .i64 0), .nil]], [], []) := by kernel_rfl

set_option maxRecDepth 100000 in
theorem liftedUpto (os : Os) (started : os.Started) (H : Type) (enc : TypeId × Value → H) (F : Stop.Interp) :
    ReturnsInHanded {} Tryd.checked os 3 .any ((Rows.OpenSpec.upto Rows.nestTypesSpec).preRow enc Tryd.prog Tryd.f3 Rows.nestTypesUptoRow.domain false Rows.nestTypesUptoRow.laid) (((Rows.OpenSpec.upto Rows.nestTypesSpec).at F).post enc Tryd.prog Tryd.f3 false true false false) := by
  have hx := reads os enc
  refine returnsInHanded_of_row (C := Tryd.checked) (s := Rows.OpenSpec.upto Rows.nestTypesSpec) sOwn started (by kernel_rfl) Tryd.func3
    (witness_row_at (enc := enc) (C := Tryd.checked) false (laidWorld os) #[.agg #[.int .i64 0, .int .i64 0, .slice none 0 0], .agg #[.int .i64 0, .int .i64 0, .slice none 0 0]] rfl (by kernel_rfl) (by kernel_rfl) (by kernel_rfl)
      (OpenSpec.preRow_of_cond 12 hx (by kernel_rfl) (fun k hk => by cases hk; kernel_rfl) (by kernel_rfl) (laid_met os _))) ?_
  intro W base args ds gs before hval hW _ hcond _ hL _ _
  exact contract H enc W base args ds gs before hval hW hL (hcond _ rfl)

theorem saidUpto : Rows.NestTypesUptoSaid :=
  OpenClaim.holds_of_cond 3 Tryd.f3 rfl rfl rfl rfl rfl rfl rfl ⟨rfl, rfl, rfl, rfl, rfl⟩ rfl rfl rfl rfl rfl (by kernel_rfl) Tryd.func3 (by kernel_rfl)
    (of_decide_eq_true (by kernel_rfl)) (by unfold Func.isWrapper; first | (rw [if_pos (by decide +kernel)]; kernel_rfl) | (rw [if_neg (by decide +kernel)]; exact ⟨rfl, rfl⟩))
    (fun os started H enc _ F => by rw [OpenClaim.pre_eq_preRow]; exact liftedUpto os started H enc F)

theorem plain (f : FuncId) (fn : Func) (hf : Tryd.pinned.checked.prog.funcNamed "sheafworks/sheafworkslaw03.NestTypes" = some f) (hfn : Tryd.pinned.checked.prog.funcs[f]? = some fn) :
    true = Tryd.pinned.checked.prog.looks [] ∧ ∀ (j : Nat) t, fn.params[j]? = some t → Tryd.pinned.checked.prog.wantsStandIn t = false := by
  obtain rfl : f = 3 := Option.some.inj ((show Tryd.prog.funcNamed "sheafworks/sheafworkslaw03.NestTypes" = some 3 by kernel_rfl).symm.trans hf) |>.symm
  obtain rfl : fn = Tryd.f3 := (Option.some.inj (Tryd.func3.symm.trans hfn)).symm
  refine ⟨by kernel_rfl, fun j t ht => ?_⟩
  have h1 : ∀ t ∈ ([24, 27] : List TypeId), Tryd.prog.wantsStandIn t = false := fun t h => by
    have := List.all_eq_true.1 (show ([24, 27] : List TypeId).all (fun t => Tryd.prog.wantsStandIn t == false) = true by kernel_rfl) t h
    simpa using this
  rw [Tryd.params3] at ht
  exact h1 t (by simpa using Array.mem_of_getElem? ht)

theorem card : Rows.NestTypesUptoCardSaid :=
  Claim7.holds_tied_plain_at .later [] _ _ _ _ saidUpto (fun _ h => by cases h) (by kernel_rfl) (fun _ h => by cases h) nestTypesUpto_row_tie rfl ⟨rfl, rfl⟩ (by kernel_rfl) rfl plain (by kernel_rfl)
end Go.Proofs.YtcpcmkacjdbpaaaDoor.fnNestTypes
