/- The law FileOthers over the abstract machine. -/
import Derived.Test.YtncbmdeinohnbaaDoorFileBoth
/- The law FileOthers over the abstract machine. -/
set_option linter.unusedVariables false
set_option linter.unusedSimpArgs false
namespace Go.Proofs.FileA
open Go Go.Am

theorem putR_cases (d : Nat) (k : UInt8) (c : L) : (∃ e : Int, (e = 1 ∨ e = 3) ∧ putR d k c = .tup [.nils, .int .i64 e]) ∨ (d ≤ 60 ∧ c.length + 7 ≤ 200000 ∧ putR d k c = .tup [.sv (bytesV (fileOf k c)) false, .int .i64 0]) := by
  unfold putR
  split
  · exact .inl ⟨1, .inl rfl, rfl⟩
  · split
    · exact .inl ⟨3, .inr rfl, rfl⟩
    · exact .inr ⟨by omega, by omega, rfl⟩

theorem others_iff {X Y : ThingsT} {cs ds : List V} (hX : IsThings X cs) (hY : IsThings Y ds) (k : Nat) (h1 : depthK X k ≤ 60) (h2 : depthK Y k ≤ 60) : contentK X k = contentK Y k ↔ onlyX X k = onlyX Y k := by
  obtain ⟨a0, a1, a2, b0, b1, c0, c1, d0, d1, d2, rfl, x1, x2, x3, x4⟩ := hX.ex
  obtain ⟨i0, i1, i2, j0, j1, k0, k1, m0, m1, m2, rfl, y1, y2, y3, y4⟩ := hY.ex
  match k with
  | 0 =>
    simp only [depthK, contentK, onlyX, ThingsT.mk.injEq, and_true] at *
    exact ⟨codec_inj (codec_T 2 0 60) (okT_of 60 _ _ x1 h1) (okT_of 60 _ _ y1 h2), fun h => by rw [h]⟩
  | 1 =>
    simp only [depthK, contentK, onlyX, ThingsT.mk.injEq, and_true, true_and] at *
    exact ⟨codec_inj codec_prog (okProg_of x2 h1) (okProg_of y2 h2), fun h => by rw [h]⟩
  | 2 =>
    simp only [depthK, contentK, onlyX, ThingsT.mk.injEq, and_true, true_and] at *
    exact ⟨codec_inj codec_vec (okVec_of x3 h1) (okVec_of y3 h2), fun h => by rw [h]⟩
  | k + 3 =>
    simp only [depthK, contentK, onlyX, ThingsT.mk.injEq, and_true, true_and] at *
    exact ⟨codec_inj codec_log (okLog_of x4) (okLog_of y4), fun h => by rw [h]⟩

theorem law_others {X Y : ThingsT} {cs ds : List V} (hX : IsThings X cs) (hY : IsThings Y ds) (n : Int) (hn : is64 n) : ∃ h', (lim gl0 Tryd.aprog).call 8 [.agg cs, .agg ds, .int .i64 n] [] = some (.ret (.bool true), h') := by
  have key : CallP gl0 Tryd.aprog 8 [.agg cs, .agg ds, .int .i64 n] [] (fun r h' => r = .ret (.bool true)) := by
    have hf := filed_pc
    have ht := turn_q gl0 n 4 hn (by omega) (by omega)
    obtain ⟨k, hk, hnk⟩ : ∃ k : Nat, k < 4 ∧ n % 4 = k := ⟨(n % 4).toNat, by omega, by omega⟩
    rw [hnk] at ht
    have p1 := put_q hX k hk
    have p2 := put_q hY k hk
    obtain ⟨xs, o1, hXo⟩ := only_q hX k hk gl0
    obtain ⟨ys, o2, hYo⟩ := only_q hY k hk gl0
    obtain ⟨b, hs, hb⟩ := things_same hXo hYo gl0
    have hiff := others_iff hX hY k
    obtain ⟨a0, a1, a2, b0, b1, c0, c1, d0, d1, d2, rfl, _, _, _, _, ⟨f1, f2, f3⟩, ⟨f4, f5⟩, ⟨f6, f7⟩, ⟨f8, f9, f10⟩, _⟩ := hX.facts
    obtain ⟨i0, i1, i2, j0, j1, k0, k1, m0, m1, m2, rfl, _, _, _, _, ⟨q1, q2, q3⟩, ⟨q4, q5⟩, ⟨q6, q7⟩, ⟨q8, q9, q10⟩, _⟩ := hY.facts
    refine call_ofQ (af := Tryd.a8) rfl rfl fun Q hQ => ?_
    simp only [Tryd.a8]
    rcases putR_cases (depthK X k) (UInt8.ofNat k) (contentK X k) with ⟨e1, he1, r1⟩ | ⟨hd1, hl1, r1⟩
    · have hne1 : (e1 != 0) = true := by rw [bne_iff_ne]; omega
      rw [r1] at p1
      rcases putR_cases (depthK Y k) (UInt8.ofNat k) (contentK Y k) with ⟨e2, he2, r2⟩ | ⟨hd2, hl2, r2⟩
      · have hne2 : (e2 != 0) = true := by rw [bne_iff_ne]; omega
        rw [r2] at p2
        simp [f1, f2, f3, f4, f5, f6, f7, f8, f9, f10, q1, q2, q3, q4, q5, q6, q7, q8, q9, q10, ht, p1, p2, hne1, hne2, hf, slotOf, -pcall]
        exact hQ _ _ rfl
      · rw [r2] at p2
        have hlen : (((fileOf (UInt8.ofNat k) (contentK Y k)).length : Int) == 0) = false := by rw [fileOf_length]; simp; omega
        simp [f1, f2, f3, f4, f5, f6, f7, f8, f9, f10, q1, q2, q3, q4, q5, q6, q7, q8, q9, q10, ht, p1, p2, hne1, hlen, hf, slotOf, -pcall]
        exact hQ _ _ rfl
    · rw [r1] at p1
      have hlen1 : (((fileOf (UInt8.ofNat k) (contentK X k)).length : Int) == 0) = false := by rw [fileOf_length]; simp; omega
      rcases putR_cases (depthK Y k) (UInt8.ofNat k) (contentK Y k) with ⟨e2, he2, r2⟩ | ⟨hd2, hl2, r2⟩
      · have hne2 : (e2 != 0) = true := by rw [bne_iff_ne]; omega
        rw [r2] at p2
        simp [f1, f2, f3, f4, f5, f6, f7, f8, f9, f10, q1, q2, q3, q4, q5, q6, q7, q8, q9, q10, ht, p1, p2, hlen1, hne2, hf, slotOf, -pcall]
        exact hQ _ _ rfl
      · rw [r2] at p2
        have hiff := hiff hd1 hd2
        have heq := equalBytes_pc (l := fileOf (UInt8.ofNat k) (contentK X k)) (m := fileOf (UInt8.ofNat k) (contentK Y k)) (.sv false) (.sv false) gl0
        have hdb : decide (fileOf (UInt8.ofNat k) (contentK X k) = fileOf (UInt8.ofNat k) (contentK Y k)) = b := by
          rw [← hiff] at hb
          by_cases hc : contentK X k = contentK Y k
          · rw [hb.2 hc, decide_eq_true (by rw [hc])]
          · have : b = false := by cases b with
              | false => rfl
              | true => exact absurd (hb.1 rfl) hc
            rw [this, decide_eq_false (fun h => hc (fileOf_inj h))]
        rw [hdb] at heq
        obtain ⟨x0, x1, x2, y0, y1, z0, z1, w0, w1, w2, rfl, _, _, _, _, ⟨u1, u2, u3⟩, ⟨u4, u5⟩, ⟨u6, u7⟩, ⟨u8, u9, u10⟩, _⟩ := hXo.facts
        obtain ⟨x0', x1', x2', y0', y1', z0', z1', w0', w1', w2', rfl, _, _, _, _, ⟨u1', u2', u3'⟩, ⟨u4', u5'⟩, ⟨u6', u7'⟩, ⟨u8', u9', u10'⟩, _⟩ := hYo.facts
        simp [f1, f2, f3, f4, f5, f6, f7, f8, f9, f10, q1, q2, q3, q4, q5, q6, q7, q8, q9, q10, ht, p1, p2, heq, o1, o2, hs, hf, slotOf, -pcall]
        exact hQ _ _ rfl
  obtain ⟨r, h', e, rfl⟩ := OptP.ex key
  exact ⟨h', e⟩
end Go.Proofs.FileA
