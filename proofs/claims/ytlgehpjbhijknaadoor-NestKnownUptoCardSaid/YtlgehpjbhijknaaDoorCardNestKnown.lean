/- THE CARD OF NestKnown: it returns true for every input of bulk at most 1048576; its arguments read behind the call as they read before. -/
import Derived.Test.YtlgehpjbhijknaaDoorX
import Derived.Test.YtlgehpjbhijknaaDoorPartC

set_option linter.unusedVariables false
set_option linter.unusedSimpArgs false
namespace Go.Proofs.YtlgehpjbhijknaaDoor.fnNestKnown
open Go.ChangeShapes Go.WideShapes Go.ChangeAt Go.RowKit Go.Am Go.Proofs.Nst

set_option maxRecDepth 100000 in
theorem contract (H : Type) (enc : TypeId × Value → H) (W : World) (base : Nat) (args : Array Value) (ds gs : List (DataW H)) (before : List MemPlace)
    (hval : ∀ (j : Nat) t v, Tryd.f9.params[j]? = some t → args[j]? = some v → Value.okWide Tryd.prog W .any base t v)
    (hW : DataW.Whole enc Tryd.prog Tryd.f9.params.toList Rows.nestKnownSpec.vars false W args.toList ds gs before) (hL : laidMetH Tryd.prog Rows.nestKnownUptoRow.laid W) (hk : Rows.uptoSmall H (ds ++ gs) = true) :
    Calls Tryd.prog 9 args W fun e W' => ∃ v, e = .returned v ∧ Rows.nestKnownSpec.post enc Tryd.prog Tryd.f9 false true false false W args v W' := by
  have hp : Tryd.f9.params.toList = [] := by rw [Tryd.params9]
  have hsz := dszL_small hk
  have hlen : ds.length = 0 := by
    obtain ⟨p, q, hA, _⟩ := hW
    rw [hp] at hA
    have := trodAll_len hA
    simpa using this.2
  obtain rfl : ds = [] := List.length_eq_zero_iff.1 hlen
  refine law_of_run (f := 9) (fn := Tryd.f9) (P := Tryd.prog) (gl := gl) (gs := [0, 1, 2]) (A := Trnx.aprog) prog_ok Rows.nestKnownSpec sPlain sLaidOut sRowed sLt (by kernel_rfl) (tb := 4) (by kernel_rfl) t4 rfl hval hW (sGl hL) rfl (fun hl hty => ?_)
  rw [hp]
  exact ⟨_, kk210⟩

set_option maxRecDepth 100000 in
theorem reads (os : Os) {H : Type} (enc : TypeId × Value → H) : DataW.whole enc Tryd.prog ((laidWorld os).forCall (fun _ _ => 0) ⟨#[], #[], []⟩).memory Tryd.f9.params.toList Rows.nestKnownSpec.vars false (#[] : Array Value).toList 12 = some ([], [], []) := by kernel_rfl

set_option maxRecDepth 100000 in
theorem liftedUpto (os : Os) (started : os.Started) (H : Type) (enc : TypeId × Value → H) (F : Stop.Interp) :
    ReturnsInHanded {} Tryd.checked os 9 .any ((Rows.OpenSpec.upto Rows.nestKnownSpec).preRow enc Tryd.prog Tryd.f9 Rows.nestKnownUptoRow.domain false Rows.nestKnownUptoRow.laid) (((Rows.OpenSpec.upto Rows.nestKnownSpec).at F).post enc Tryd.prog Tryd.f9 false true false false) := by
  have hx := reads os enc
  refine returnsInHanded_of_row (C := Tryd.checked) (s := Rows.OpenSpec.upto Rows.nestKnownSpec) sOwn started (by kernel_rfl) Tryd.func9
    (witness_row_at (enc := enc) (C := Tryd.checked) false (laidWorld os) #[] rfl (by kernel_rfl) (by kernel_rfl) (by kernel_rfl)
      (OpenSpec.preRow_of_cond 12 hx (by kernel_rfl) (fun k hk => by cases hk; kernel_rfl) (by kernel_rfl) (laid_met os _))) ?_
  intro W base args ds gs before hval hW _ hcond _ hL _ _
  exact contract H enc W base args ds gs before hval hW hL (hcond _ rfl)

theorem saidUpto : Rows.NestKnownUptoSaid :=
  OpenClaim.holds_of_cond 9 Tryd.f9 rfl rfl rfl rfl rfl rfl rfl ⟨rfl, rfl, rfl, rfl, rfl⟩ rfl rfl rfl rfl rfl (by kernel_rfl) Tryd.func9 (by kernel_rfl)
    (of_decide_eq_true (by kernel_rfl)) (by unfold Func.isWrapper; first | (rw [if_pos (by decide +kernel)]; kernel_rfl) | (rw [if_neg (by decide +kernel)]; exact ⟨rfl, rfl⟩))
    (fun os started H enc _ F => by rw [OpenClaim.pre_eq_preRow]; exact liftedUpto os started H enc F)

theorem plain (f : FuncId) (fn : Func) (hf : Tryd.pinned.checked.prog.funcNamed "sheafworks/sheafworkslaw03.NestKnown" = some f) (hfn : Tryd.pinned.checked.prog.funcs[f]? = some fn) :
    true = Tryd.pinned.checked.prog.looks [] ∧ ∀ (j : Nat) t, fn.params[j]? = some t → Tryd.pinned.checked.prog.wantsStandIn t = false := by
  obtain rfl : f = 9 := Option.some.inj ((show Tryd.prog.funcNamed "sheafworks/sheafworkslaw03.NestKnown" = some 9 by kernel_rfl).symm.trans hf) |>.symm
  obtain rfl : fn = Tryd.f9 := (Option.some.inj (Tryd.func9.symm.trans hfn)).symm
  refine ⟨by kernel_rfl, fun j t ht => ?_⟩
  have h1 : ∀ t ∈ ([] : List TypeId), Tryd.prog.wantsStandIn t = false := fun t h => by
    have := List.all_eq_true.1 (show ([] : List TypeId).all (fun t => Tryd.prog.wantsStandIn t == false) = true by kernel_rfl) t h
    simpa using this
  rw [Tryd.params9] at ht
  exact h1 t (by simpa using Array.mem_of_getElem? ht)

theorem card : Rows.NestKnownUptoCardSaid :=
  Claim7.holds_tied_plain_at .later [] _ _ _ _ saidUpto (fun _ h => by cases h) (by kernel_rfl) (fun _ h => by cases h) nestKnownUpto_row_tie rfl ⟨rfl, rfl⟩ (by kernel_rfl) rfl plain (by kernel_rfl)
end Go.Proofs.YtlgehpjbhijknaaDoor.fnNestKnown
