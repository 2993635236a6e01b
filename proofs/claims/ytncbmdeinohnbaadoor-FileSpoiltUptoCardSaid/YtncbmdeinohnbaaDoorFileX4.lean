/- The seat's facts: three numbers as an argument. -/
import Derived.Test.YtncbmdeinohnbaaDoorFileZ
/- The seat's facts: three numbers as an argument. -/
set_option linter.unusedVariables false
set_option linter.unusedSimpArgs false
namespace Go.Proofs.YtncbmdeinohnbaaDoor
open Go.ChangeShapes Go.WideShapes Go.ChangeAt Go.RowKit Go.Am Go.Proofs.FileA

section
variable {H : Type} {n : Nat} {d : DataW H}
theorem ty71 (h : dty Tryd.prog n 71 d) : ∃ a b c : Int, dcells d = [.int .i64 a, .int .i64 b, .int .i64 c] ∧ is64 a ∧ is64 b ∧ is64 c := by
  cases n with
  | zero => exact h.elim
  | succ m =>
    simp only [dty, arrOf_ex (P := Tryd.prog) (t := 71) (n := 3) (e := 3) (by kernel_rfl)] at h
    obtain ⟨ps, rfl, hl, he⟩ := h
    match ps, hl with
    | [x, y, z], _ =>
      obtain ⟨a, rfl, ha⟩ := ty3 (he x (by simp))
      obtain ⟨b, rfl, hb⟩ := ty3 (he y (by simp))
      obtain ⟨c, rfl, hc⟩ := ty3 (he z (by simp))
      exact ⟨a, b, c, rfl, ha, hb, hc⟩
theorem arg71 (h : isAggT Tryd.prog 71 = true) {vs : List V} (hd : dcells d = vs) : darg Tryd.prog 71 d = .agg vs := by
  unfold darg
  rw [if_pos h, hd]
end
end Go.Proofs.YtncbmdeinohnbaaDoor
