/- THE CARD OF NestContexts: it returns true for every input of bulk at most 1048576; its arguments read behind the call as they read before. -/
import Derived.Test.YtcpcmkacjdbpaaaDoorX
import Derived.Test.YtcpcmkacjdbpaaaDoorPick

set_option linter.unusedVariables false
set_option linter.unusedSimpArgs false
namespace Go.Proofs.YtcpcmkacjdbpaaaDoor.fnNestContexts
open Go.ChangeShapes Go.WideShapes Go.ChangeAt Go.RowKit Go.Am Go.Proofs.Nst

set_option maxRecDepth 100000 in
theorem contract (H : Type) (enc : TypeId × Value → H) (W : World) (base : Nat) (args : Array Value) (ds gs : List (DataW H)) (before : List MemPlace)
    (hval : ∀ (j : Nat) t v, Tryd.f6.params[j]? = some t → args[j]? = some v → Value.okWide Tryd.prog W .any base t v)
    (hW : DataW.Whole enc Tryd.prog Tryd.f6.params.toList Rows.nestContextsSpec.vars false W args.toList ds gs before) (hL : laidMetH Tryd.prog Rows.nestContextsUptoRow.laid W) (hk : Rows.uptoSmall H (ds ++ gs) = true) :
    Calls Tryd.prog 6 args W fun e W' => ∃ v, e = .returned v ∧ Rows.nestContextsSpec.post enc Tryd.prog Tryd.f6 false true false false W args v W' := by
  have hp : Tryd.f6.params.toList = [24, 25, 25, 46] := by rw [Tryd.params6]
  have hsz := dszL_small hk
  have hlen : ds.length = 4 := by
    obtain ⟨p, q, hA, _⟩ := hW
    rw [hp] at hA
    have := trodAll_len hA
    simpa using this.2
  obtain ⟨d0, d1, d2, d3, rfl⟩ : ∃ d0 d1 d2 d3, ds = [d0, d1, d2, d3] := by
    match ds, hlen with
    | [d0, d1, d2, d3], _ => exact ⟨d0, d1, d2, d3, rfl⟩
  refine law_of_run (f := 6) (fn := Tryd.f6) (P := Tryd.prog) (gl := gl) (gs := [0, 1, 2]) (A := Trnx.aprog) prog_ok Rows.nestContextsSpec sPlain sLaidOut sRowed sLt (by kernel_rfl) (tb := 4) (by kernel_rfl) t4 rfl hval hW (sGl hL) rfl (fun hl hty => ?_)
  rw [hp]
  simp only [List.cons_append, dszL] at hsz
  have hty : ∀ (j : Nat) t d, ([24, 25, 25, 46] : List TypeId)[j]? = some t → [d0, d1, d2, d3][j]? = some d → ∃ n, dty Tryd.prog n t d := fun j t d h1 h2 => hty j t d (by rw [← hp] at h1; simpa using h1) h2
  obtain ⟨n0, k0⟩ := hty 0 24 d0 rfl rfl
  obtain ⟨n1, k1⟩ := hty 1 25 d1 rfl rfl
  obtain ⟨n2, k2⟩ := hty 2 25 d2 rfl rfl
  obtain ⟨n3, k3⟩ := hty 3 46 d3 rfl rfl
  obtain ⟨t, h1, h2, h3⟩ := ty24 k0
  obtain ⟨l, v, h4, h5, h6, h7⟩ := ty25 k1
  obtain ⟨m, w, g4, g5, g6, g7⟩ := ty25 k2
  obtain ⟨p, u, i4, i5, i6, i7⟩ := ty46 k3
  simp only [dargs]
  rw [arg24 (by kernel_rfl), arg25 (by kernel_rfl) h6, arg25 (by kernel_rfl) g6, arg46 (by kernel_rfl) i6, h2]
  exact law_contexts t h1 l v h4 h5 m w g4 g5 p u i4 i5 (by omega) (by omega) (by omega) (by omega)

set_option maxRecDepth 100000 in
theorem reads (os : Os) {H : Type} (enc : TypeId × Value → H) : DataW.whole enc Tryd.prog ((laidWorld os).forCall (fun _ _ => 0) ⟨#[], #[.agg #[.int .i64 0, .int .i64 0, .slice none 0 0], .slice none 0 0, .slice none 0 0, .slice none 0 0], []⟩).memory Tryd.f6.params.toList Rows.nestContextsSpec.vars false (#[.agg #[.int .i64 0, .int .i64 0, .slice none 0 0], .slice none 0 0, .slice none 0 0, .slice none 0 0] : Array Value).toList 12 = some ([.agg [.lit (.int .i64 0), .lit (.int .i64 0), .nil], .nil, .nil, .nil], [], []) := by kernel_rfl

set_option maxRecDepth 100000 in
theorem liftedUpto (os : Os) (started : os.Started) (H : Type) (enc : TypeId × Value → H) (F : Stop.Interp) :
    ReturnsInHanded {} Tryd.checked os 6 .any ((Rows.OpenSpec.upto Rows.nestContextsSpec).preRow enc Tryd.prog Tryd.f6 Rows.nestContextsUptoRow.domain false Rows.nestContextsUptoRow.laid) (((Rows.OpenSpec.upto Rows.nestContextsSpec).at F).post enc Tryd.prog Tryd.f6 false true false false) := by
  have hx := reads os enc
  refine returnsInHanded_of_row (C := Tryd.checked) (s := Rows.OpenSpec.upto Rows.nestContextsSpec) sOwn started (by kernel_rfl) Tryd.func6
    (witness_row_at (enc := enc) (C := Tryd.checked) false (laidWorld os) #[.agg #[.int .i64 0, .int .i64 0, .slice none 0 0], .slice none 0 0, .slice none 0 0, .slice none 0 0] rfl (by kernel_rfl) (by kernel_rfl) (by kernel_rfl)
      (OpenSpec.preRow_of_cond 12 hx (by kernel_rfl) (fun k hk => by cases hk; kernel_rfl) (by kernel_rfl) (laid_met os _))) ?_
  intro W base args ds gs before hval hW _ hcond _ hL _ _
  exact contract H enc W base args ds gs before hval hW hL (hcond _ rfl)

theorem saidUpto : Rows.NestContextsUptoSaid :=
  OpenClaim.holds_of_cond 6 Tryd.f6 rfl rfl rfl rfl rfl rfl rfl ⟨rfl, rfl, rfl, rfl, rfl⟩ rfl rfl rfl rfl rfl (by kernel_rfl) Tryd.func6 (by kernel_rfl)
    (of_decide_eq_true (by kernel_rfl)) (by unfold Func.isWrapper; first | (rw [if_pos (by decide +kernel)]; kernel_rfl) | (rw [if_neg (by decide +kernel)]; exact ⟨rfl, rfl⟩))
    (fun os started H enc _ F => by rw [OpenClaim.pre_eq_preRow]; exact liftedUpto os started H enc F)

theorem plain (f : FuncId) (fn : Func) (hf : Tryd.pinned.checked.prog.funcNamed "sheafworks/sheafworkslaw03.NestContexts" = some f) (hfn : Tryd.pinned.checked.prog.funcs[f]? = some fn) :
    true = Tryd.pinned.checked.prog.looks [] ∧ ∀ (j : Nat) t, fn.params[j]? = some t → Tryd.pinned.checked.prog.wantsStandIn t = false := by
  obtain rfl : f = 6 := Option.some.inj ((show Tryd.prog.funcNamed "sheafworks/sheafworkslaw03.NestContexts" = some 6 by kernel_rfl).symm.trans hf) |>.symm
  obtain rfl : fn = Tryd.f6 := (Option.some.inj (Tryd.func6.symm.trans hfn)).symm
  refine ⟨by kernel_rfl, fun j t ht => ?_⟩
  have h1 : ∀ t ∈ ([24, 25, 25, 46] : List TypeId), Tryd.prog.wantsStandIn t = false := fun t h => by
    have := List.all_eq_true.1 (show ([24, 25, 25, 46] : List TypeId).all (fun t => Tryd.prog.wantsStandIn t == false) = true by kernel_rfl) t h
    simpa using this
  rw [Tryd.params6] at ht
  exact h1 t (by simpa using Array.mem_of_getElem? ht)

theorem card : Rows.NestContextsUptoCardSaid :=
  Claim7.holds_tied_plain_at .later [] _ _ _ _ saidUpto (fun _ h => by cases h) (by kernel_rfl) (fun _ h => by cases h) nestContextsUpto_row_tie rfl ⟨rfl, rfl⟩ (by kernel_rfl) rfl plain (by kernel_rfl)
end Go.Proofs.YtcpcmkacjdbpaaaDoor.fnNestContexts
