/- The seat's facts: bytes and numbers as arguments. -/
import Derived.Test.YtncbmdeinohnbaaDoorFileX
/- The seat's facts: bytes and numbers as arguments. -/
set_option linter.unusedVariables false
set_option linter.unusedSimpArgs false
namespace Go.Proofs.YtncbmdeinohnbaaDoor
open Go.ChangeShapes Go.WideShapes Go.ChangeAt Go.RowKit Go.Am Go.Proofs.FileA

section
variable {H : Type} {n : Nat} {d : DataW H}
theorem ty3 (h : dty Tryd.prog n 3 d) : ∃ m, d = .lit (.int .i64 m) ∧ is64 m := dty_int t3 h
theorem ty34 (h : dty Tryd.prog n 34 d) : ∃ (b : List UInt8) (v : V), dcells d = [v] ∧ SlV (bytesV b) v ∧ b.length ≤ dsz d := by
  cases n with
  | zero => exact h.elim
  | succ m =>
    simp only [dty, t34] at h
    rcases h with rfl | ⟨es, rest, rfl, hl, he⟩
    · exact ⟨[], .nils, rfl, .nil rfl, by simp⟩
    · have key : ∀ es : List (DataW H), (∀ x ∈ es, dty Tryd.prog m 5 x) → ∃ b : List UInt8, dcellsL es = bytesV b ∧ b.length = es.length := by
        intro es
        induction es with
        | nil => intro _; exact ⟨[], rfl, rfl⟩
        | cons x es ih =>
          intro hx
          obtain ⟨b, hb, hbl⟩ := ih (fun y hy => hx y (by simp [hy]))
          have h1 := hx x (by simp)
          cases m with
          | zero => exact h1.elim
          | succ m =>
            simp only [dty, t5] at h1
            obtain ⟨k, rfl, hk⟩ := h1
            simp [Lit.wf, IntKind.has, IntKind.min, IntKind.max, IntKind.signed, IntKind.bits] at hk
            refine ⟨UInt8.ofNat k.toNat :: b, ?_, by simp [hbl]⟩
            have h2 : ((UInt8.ofNat k.toNat).toNat : Int) = k := by simp; omega
            simp only [dcellsL, hb, dcells, bytesV, List.map_cons, h2]
      obtain ⟨b, hb, hbl⟩ := key es he
      exact ⟨b, .sv (bytesV b) false, by simp only [dcells, hb], .sv false, by have := dszL_len es; simp only [dsz]; omega⟩
theorem arg3 (h : isAggT Tryd.prog 3 = false) {m : Int} : darg Tryd.prog 3 (.lit (.int .i64 m) : DataW H) = .int .i64 m := by
  unfold darg
  rw [if_neg (by simp [h])]
  rfl
theorem arg34 (h : isAggT Tryd.prog 34 = false) {v : V} (hd : dcells d = [v]) : darg Tryd.prog 34 d = v := by
  unfold darg
  rw [if_neg (by simp [h]), hd]
  rfl
end
end Go.Proofs.YtncbmdeinohnbaaDoor
