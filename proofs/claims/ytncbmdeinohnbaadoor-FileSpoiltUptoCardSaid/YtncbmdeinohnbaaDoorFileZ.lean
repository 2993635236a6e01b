/- The seat's facts: one of each kind as an argument. -/
import Derived.Test.YtncbmdeinohnbaaDoorFileY
import Derived.Test.YtncbmdeinohnbaaDoorFileBoth
/- The seat's facts: one of each kind as an argument. -/
set_option linter.unusedVariables false
set_option linter.unusedSimpArgs false
namespace Go.Proofs.YtncbmdeinohnbaaDoor
open Go.ChangeShapes Go.WideShapes Go.ChangeAt Go.RowKit Go.Am Go.Proofs.FileA

section
variable {H : Type} {n : Nat} {d : DataW H}
theorem dtyAll4 {P : Program} {m : Nat} {t0 t1 t2 t3 : TypeId} {ps : List (DataW H)} (h : dtyAll P m [t0, t1, t2, t3] ps) : ∃ p0 p1 p2 p3, ps = [p0, p1, p2, p3] ∧ dty P m t0 p0 ∧ dty P m t1 p1 ∧ dty P m t2 p2 ∧ dty P m t3 p3 := by
  match ps, h with
  | [p0, p1, p2, p3], ⟨k0, k1, k2, k3, _⟩ => exact ⟨p0, p1, p2, p3, rfl, k0, k1, k2, k3⟩
theorem ty63 (h : dty Tryd.prog n 63 d) (hsz : dsz d ≤ 2 ^ 40) : ∃ X, IsThings X (dcells d) ∧ ∀ k, (contentK X k).length ≤ 9 * dsz d := by
  obtain ⟨fs, h1, h2⟩ := structOf_ex s63
  obtain ⟨m, ps, rfl, rfl, hall⟩ := dty_struct h1 h2 h
  obtain ⟨p0, p1, p2, p3, rfl, k0, k1, k2, k3⟩ := dtyAll4 hall
  simp only [dsz, dszL] at hsz ⊢
  obtain ⟨x, hx, sx⟩ := ty24 k0 (by omega)
  obtain ⟨p, hp, sp⟩ := ty27 k1 (by omega)
  obtain ⟨q, hq, sq⟩ := ty30 k2 (by omega)
  obtain ⟨l, hl, sl⟩ := ty33 k3 (by omega)
  refine ⟨⟨x, p, q, l⟩, ?_, ?_⟩
  · have := IsThings.make (X := ⟨x, p, q, l⟩) hx hp hq hl
    simpa only [dcells, dflat, List.append_nil, List.append_assoc] using this
  · intro k
    match k with
    | 0 => simp only [contentK]; omega
    | 1 => simp only [contentK]; omega
    | 2 => simp only [contentK]; omega
    | k + 3 => simp only [contentK]; omega
theorem arg63 (h : isAggT Tryd.prog 63 = true) : darg Tryd.prog 63 d = .agg (dcells d) := by
  unfold darg
  rw [if_pos h]
end
end Go.Proofs.YtncbmdeinohnbaaDoor
