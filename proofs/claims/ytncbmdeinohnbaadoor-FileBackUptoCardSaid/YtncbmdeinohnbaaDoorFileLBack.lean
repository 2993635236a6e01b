/- The law FileBack over the abstract machine. -/
import Derived.Test.YtncbmdeinohnbaaDoorFileGet
/- The law FileBack over the abstract machine. -/
set_option linter.unusedVariables false
set_option linter.unusedSimpArgs false
namespace Go.Proofs.FileA
open Go Go.Am

theorem only_put (X : ThingsT) (k : Nat) : depthK (onlyX X k) k = depthK X k ∧ contentK (onlyX X k) k = contentK X k := by
  match k with
  | 0 => exact ⟨rfl, rfl⟩
  | 1 => exact ⟨rfl, rfl⟩
  | 2 => exact ⟨rfl, rfl⟩
  | k + 3 => exact ⟨rfl, rfl⟩

theorem law_back {X : ThingsT} {cs : List V} (hX : IsThings X cs) (n : Int) (hn : is64 n) : ∃ h', (lim gl0 Tryd.aprog).call 5 [.agg cs, .int .i64 n] [] = some (.ret (.bool true), h') := by
  have key : CallP gl0 Tryd.aprog 5 [.agg cs, .int .i64 n] [] (fun r h' => r = .ret (.bool true)) := by
    have hf := filed_pc
    have ht := turn_q gl0 n 4 hn (by omega) (by omega)
    obtain ⟨k, hk, hnk⟩ : ∃ k : Nat, k < 4 ∧ n % 4 = k := ⟨(n % 4).toNat, by omega, by omega⟩
    rw [hnk] at ht
    have p1 := put_q hX k hk
    obtain ⟨xs, o1, hXo⟩ := only_q hX k hk gl0
    have hrb := read_back hX k hk
    obtain ⟨hop1, hop2⟩ := only_put X k
    obtain ⟨a0, a1, a2, b0, b1, c0, c1, d0, d1, d2, rfl, _, _, _, _, ⟨f1, f2, f3⟩, ⟨f4, f5⟩, ⟨f6, f7⟩, ⟨f8, f9, f10⟩, _⟩ := hX.facts
    refine call_ofQ (af := Tryd.a5) rfl rfl fun Q hQ => ?_
    simp only [Tryd.a5]
    rcases putR_cases (depthK X k) (UInt8.ofNat k) (contentK X k) with ⟨e1, he1, r1⟩ | ⟨hd1, hl1, r1⟩
    · rw [r1] at p1
      rcases he1 with rfl | rfl
      · simp [f1, f2, f3, f4, f5, f6, f7, f8, f9, f10, ht, p1, hf, slotOf, -pcall]
        exact hQ _ _ rfl
      · simp [f1, f2, f3, f4, f5, f6, f7, f8, f9, f10, ht, p1, hf, slotOf, -pcall]
        exact hQ _ _ rfl
    · obtain ⟨hrx, hre⟩ := hrb hd1 hl1
      obtain ⟨ys, g1, hY⟩ := get_q gl0 (b := fileOf (UInt8.ofNat k) (contentK X k)) (.sv false)
      rw [hrx] at hY
      have p2 := put_q hY k hk
      rw [hop1, hop2, r1] at p2
      have hs := says_true (things_same hY hXo) rfl gl0
      have e23 := kind_ok (l := fileOf (UInt8.ofNat k) (contentK X k)) (.sv false) gl0
      unfold kindV at e23
      rw [kindOf_file _ _ hl1] at e23
      have hkk : (UInt8.ofNat k).toNat = k := by simp; omega
      simp only [hkk] at e23
      have heq := equalBytes_pc (l := fileOf (UInt8.ofNat k) (contentK X k)) (m := fileOf (UInt8.ofNat k) (contentK X k)) (.sv false) (.sv false) gl0
      rw [decide_eq_true rfl] at heq
      rw [hre 0 (by omega), hre 1 (by omega), hre 2 (by omega), hre 3 (by omega)] at g1
      have hlen : ((fileOf (UInt8.ofNat k) (contentK X k)).length : Int) ≤ 200000 := by rw [fileOf_length]; omega
      have hlen2 : (fileOf (UInt8.ofNat k) (contentK X k)).length ≤ 200000 := by rw [fileOf_length]; omega
      rw [r1] at p1
      obtain ⟨y0, y1, y2, y3, y4, y5, y6, y7, y8, y9, rfl, _, _, _, _, ⟨u1, u2, u3⟩, ⟨u4, u5⟩, ⟨u6, u7⟩, ⟨u8, u9, u10⟩, _⟩ := hY.facts
      generalize fileOf (UInt8.ofNat k) (contentK X k) = fl at *
      clear hX hXo hrb hrx hre hop1 hop2 hY hn hkk hd1 hl1 r1
      generalize hE0 : (if 0 = k then (0 : Int) else 15) = E0 at g1
      generalize hE1 : (if 1 = k then (0 : Int) else 15) = E1 at g1
      generalize hE2 : (if 2 = k then (0 : Int) else 15) = E2 at g1
      generalize hE3 : (if 3 = k then (0 : Int) else 15) = E3 at g1
      simp [f1, f2, f3, f4, f5, f6, f7, f8, f9, f10, u1, u2, u3, u4, u5, u6, u7, u8, u9, u10, ht, p1, e23, g1, slotOf, -pcall]
      refine loop_nQ 4 (fun i c => c = ⟨[.agg [a0, a1, a2, b0, b1, c0, c1, d0, d1, d2], .int .i64 n, .agg [a0, a1, a2, b0, b1, c0, c1, d0, d1, d2], .bool false, .int .i64 k, .sv (bytesV fl) false, .int .i64 0, .int .i64 k, .int .i64 0, .agg [y0, y1, y2, y3, y4, y5, y6, y7, y8, y9], .agg [.int .i64 E0, .int .i64 E1, .int .i64 E2, .int .i64 E3], .int .i64 i, .undef, .undef], [], none, none, []⟩) ?_ rfl
      rintro I hI i c hi rfl
      by_cases hlt : i < 4
      · have hw3 : IntKind.i64.wrap ((i : Int) + 1) = ((i + 1 : Nat) : Int) := by rw [wrap64 (by omega) (by omega)]; rfl
        have nxt := hI (i + 1) _ rfl
        obtain rfl | rfl | rfl | rfl : i = 0 ∨ i = 1 ∨ i = 2 ∨ i = 3 := by omega
        all_goals
          obtain rfl | rfl | rfl | rfl : k = 0 ∨ k = 1 ∨ k = 2 ∨ k = 3 := by omega
        all_goals
          simp at hE0 hE1 hE2 hE3
          subst hE0 hE1 hE2 hE3
          simp [f1, f2, f3, f4, f5, f6, f7, f8, f9, f10, u1, u2, u3, u4, u5, u6, u7, u8, u9, u10, hw3, slotOf]
          exact nxt
      · obtain rfl : i = 4 := by omega
        simp [f1, f2, f3, f4, f5, f6, f7, f8, f9, f10, u1, u2, u3, u4, u5, u6, u7, u8, u9, u10, p2, o1, hs, heq, hf, hlen, hlen2, slotOf, -pcall]
        exact hQ _ _ rfl
  obtain ⟨r, h', e, rfl⟩ := OptP.ex key
  exact ⟨h', e⟩
end Go.Proofs.FileA
