/- The law FileSpoilt over the abstract machine. -/
import Derived.Test.YtncbmdeinohnbaaDoorFileSpoil
/- The law FileSpoilt over the abstract machine. -/
set_option linter.unusedVariables false
set_option linter.unusedSimpArgs false
namespace Go.Proofs.FileA
open Go Go.Am

/-- what a round finds of bytes that are not the file -/
theorem spoilt_round {f c : L} {i : Nat} (hl : c.length = f.length) (h7 : 7 ≤ f.length) (h3 : f.length ≤ 200000) (hk : (kindOf sumOf c).2 ≠ 0) (hhead : f[0]? = some 83 ∧ f[1]? = some 119) (hsame : ∀ j, 1 < i → j < 2 → c[j]? = f[j]?) :
    ∃ e : Int, e ≠ 0 ∧ (e = 10 ∨ (e = 8 ∧ i ≤ 1)) ∧ kindOf sumOf c = (0, e) ∧ readX c = zThings ∧ ∀ j, readE c j = e := by
  obtain ⟨k1, k2⟩ := kind_none (by omega) (by omega) hk
  obtain ⟨r1, r2⟩ := read_none hk
  refine ⟨_, hk, ?_, Prod.ext k1 rfl, r1, r2⟩
  rcases k2 with k2 | ⟨k2, k3⟩
  · exact .inl k2
  · refine .inr ⟨k2, ?_⟩
    by_cases hi : i ≤ 1
    · exact hi
    · have h0 := hsame 0 (by omega) (by omega)
      have h1 := hsame 1 (by omega) (by omega)
      rw [hhead.1] at h0
      rw [hhead.2] at h1
      rw [h0, h1] at k3
      simp at k3

theorem xor_u8 (x d : UInt8) : intBin .xor .u8 (x.toNat : Int) (d.toNat : Int) = some (.int .u8 ((x ^^^ d).toNat : Int)) := by
  have hx := x.toNat_lt
  have hd := d.toNat_lt
  have h1 : (BitVec.ofInt IntKind.u8.bits (x.toNat : Int) ^^^ BitVec.ofInt IntKind.u8.bits (d.toNat : Int)).toNat = (x ^^^ d).toNat := by
    have e1 : BitVec.ofInt IntKind.u8.bits (x.toNat : Int) = x.toBitVec := by
      apply BitVec.eq_of_toNat_eq
      simp [IntKind.bits]
    have e2 : BitVec.ofInt IntKind.u8.bits (d.toNat : Int) = d.toBitVec := by
      apply BitVec.eq_of_toNat_eq
      simp [IntKind.bits]
    rw [e1, e2]
    rfl
  simp only [intBin, h1]
  rw [wrapu8 (by omega) (by have := (x ^^^ d).toNat_lt; omega)]
theorem xor_ne {x d : UInt8} (h : d ≠ 0) : x ^^^ d ≠ x := fun e => h (by
  have h1 : x ^^^ (x ^^^ d) = x ^^^ x := congrArg (x ^^^ ·) e
  rw [← UInt8.xor_assoc, UInt8.xor_self, UInt8.zero_xor] at h1
  exact h1)
theorem set_split {f : L} {i : Nat} (hi : i < f.length) (y : UInt8) : f = f.take i ++ f[i] :: f.drop (i + 1) ∧ f.set i y = f.take i ++ y :: f.drop (i + 1) := by
  refine ⟨?_, ?_⟩
  · rw [List.getElem_cons_drop, List.take_append_drop]
  · rw [List.set_eq_take_append_cons_drop, if_pos hi]
theorem set2_split {f : L} {i : Nat} (hi : i + 1 < f.length) : f = f.take i ++ f[i] :: f[i + 1] :: f.drop (i + 2) ∧ (f.set i f[i + 1]).set (i + 1) f[i] = f.take i ++ f[i + 1] :: f[i] :: f.drop (i + 2) := by
  have h1 : f = f.take i ++ f[i] :: f[i + 1] :: f.drop (i + 2) := by
    rw [List.getElem_cons_drop, List.getElem_cons_drop, List.take_append_drop]
  refine ⟨h1, ?_⟩
  have hl : (f.take i).length = i := by simp; omega
  generalize f[i + 1] = y at *
  generalize f[i] = x at *
  generalize f.take i = P at *
  generalize f.drop (i + 2) = S at *
  subst h1
  subst hl
  simp [List.set_append]
theorem loadB {h : Heap} {o : Nat} {f : L} (ho : OwnB o f h) {i : Nat} (hi : i < f.length) : loadV h (.ref o i f.length) 1 false = some (.int .u8 (f[i].toNat : Int)) := by
  unfold OwnB cellsB at ho
  have hl : (bytesC f).length = f.length := by simp [bytesC]
  have hd : (bytesC f).drop i = .int .u8 (f[i].toNat : Int) :: (bytesC f).drop (i + 1) := by
    rw [List.drop_eq_getElem_cons (by omega)]
    simp [bytesC]
  simp only [loadV, objCells, ho]
  rw [if_pos ⟨trivial, by omega⟩, hd]
  simp [mkV]
theorem storeB {h : Heap} {o : Nat} {f : L} (ho : OwnB o f h) {i : Nat} (hi : i < f.length) (y : UInt8) : storeV h (.ref o i f.length) (.int .u8 (y.toNat : Int)) 1 = some (h.set o (cellsB (f.set i y))) := by
  unfold OwnB cellsB at ho
  have hl : (bytesC f).length = f.length := by simp [bytesC]
  have hs : splice (bytesC f) i [.int .u8 (y.toNat : Int)] = bytesC (f.set i y) := by
    rw [(set_split hi y).2]
    simp [splice, bytesC, List.map_take, List.map_drop]
  simp only [storeV, objCells, ho]
  rw [if_pos ⟨trivial, by omega, rfl, rfl⟩]
  simp only [cellsV_int, hs, cellsB, List.length_set]
end Go.Proofs.FileA
/- The law FileSpoilt over the abstract machine: the walk. -/
set_option linter.unusedVariables false
set_option linter.unusedSimpArgs false

namespace Go.Proofs.FileA
open Go Go.Am

theorem ib_eql (k : IntKind) (a b : Int) : intBin .eql k a b = some (.bool (a == b)) := rfl
theorem ib_neq (k : IntKind) (a b : Int) : intBin .neq k a b = some (.bool (a != b)) := rfl
theorem ib_gtr (k : IntKind) (a b : Int) : intBin .gtr k a b = some (.bool (decide (a > b))) := rfl

theorem loadPv (h : Heap) (v : V) : loadV h (.pv [v]) 1 false = some v := by simp

set_option maxHeartbeats 1000000 in
theorem law_spoilt {X : ThingsT} {cs : List V} (hX : IsThings X cs) (n0 n1 n2 : Int) (hn0 : is64 n0) (hn1 : is64 n1) (hn2 : is64 n2) : ∃ h', (lim gl0 Tryd.aprog).call 7 [.agg cs, .agg [.int .i64 n0, .int .i64 n1, .int .i64 n2]] [] = some (.ret (.bool true), h') := by
  have key : CallP gl0 Tryd.aprog 7 [.agg cs, .agg [.int .i64 n0, .int .i64 n1, .int .i64 n2]] [] (fun r h' => r = .ret (.bool true)) := by
    have hf := filed_pc
    have ht := turn_q gl0 n0 4 hn0 (by omega) (by omega)
    have ht2 := turn_q gl0 n2 255 hn2 (by omega) (by omega)
    obtain ⟨k, hk, hnk⟩ : ∃ k : Nat, k < 4 ∧ n0 % 4 = k := ⟨(n0 % 4).toNat, by omega, by omega⟩
    rw [hnk] at ht
    have p1 := put_q hX k hk
    obtain ⟨a0, a1, a2, b0, b1, c0, c1, d0, d1, d2, rfl, _, _, _, _, ⟨f1, f2, f3⟩, ⟨f4, f5⟩, ⟨f6, f7⟩, ⟨f8, f9, f10⟩, _⟩ := hX.facts
    refine call_ofQ (af := Tryd.a7) rfl rfl fun Q hQ => ?_
    simp only [Tryd.a7]
    rcases putR_cases (depthK X k) (UInt8.ofNat k) (contentK X k) with ⟨e1, he1, r1⟩ | ⟨hd1, hl1, r1⟩
    · rw [r1] at p1
      have hne : (e1 != 0) = true := by rw [bne_iff_ne]; omega
      have hne2 : (e1 == 0) = false := by rw [beq_eq_false_iff_ne]; omega
      simp [f1, f2, f3, f4, f5, f6, f7, f8, f9, f10, ht, p1, hne, hne2, hf, slotOf, -pcall]
      exact hQ _ _ rfl
    · rw [r1] at p1
      have hfl := fileOf_length (UInt8.ofNat k) (contentK X k)
      have hhead := fileOf_head (UInt8.ofNat k) (contentK X k)
      have hch := fun P S x y => @spoilt_change (UInt8.ofNat k) (contentK X k) P S x y
      have hsw := fun P S x y => @spoilt_swap (UInt8.ofNat k) (contentK X k) P S x y
      generalize fileOf (UInt8.ofNat k) (contentK X k) = f at *
      by_cases h3 : 3000 < f.length
      · have h3' : (3000 : Int) < f.length := by omega
        simp [f1, f2, f3, f4, f5, f6, f7, f8, f9, f10, ht, p1, h3, h3', hf, slotOf, -pcall]
        exact hQ _ _ rfl
      · have h3' : ¬ (3000 : Int) < f.length := by omega
        have h7 : ¬ f.length < 7 := by omega
        have h7' : ¬ (f.length : Int) < 7 := by omega
        have hw1 : IntKind.i64.wrap ((f.length : Int) - 1) = ((f.length - 1 : Nat) : Int) := by rw [wrap64 (by omega) (by omega)]; omega
        have ht1 := turn_q gl0 n1 ((f.length - 1 : Nat) : Int) hn1 (by omega) (by omega)
        obtain ⟨i, hi, hni⟩ : ∃ i : Nat, i < f.length - 1 ∧ n1 % ((f.length - 1 : Nat) : Int) = i := ⟨(n1 % ((f.length - 1 : Nat) : Int)).toNat, by have := Int.emod_lt_of_pos n1 (show (0 : Int) < ((f.length - 1 : Nat) : Int) by omega); have := Int.emod_nonneg n1 (show ((f.length - 1 : Nat) : Int) ≠ 0 by omega); omega, by have := Int.emod_nonneg n1 (show ((f.length - 1 : Nat) : Int) ≠ 0 by omega); omega⟩
        rw [hni] at ht1
        have hm0 : (0 : Int) ≤ n2 % 255 ∧ n2 % 255 < 255 := ⟨Int.emod_nonneg _ (by omega), Int.emod_lt_of_pos _ (by omega)⟩
        obtain ⟨dd, hdd, hd0⟩ : ∃ dd : UInt8, ((dd.toNat : Nat) : Int) = 1 + n2 % 255 ∧ dd ≠ 0 := by
          refine ⟨UInt8.ofNat (1 + n2 % 255).toNat, by simp; omega, fun h => ?_⟩
          have := congrArg UInt8.toNat h
          simp at this
          omega
        have hw2 : IntKind.i64.wrap (1 + n2 % 255) = (dd.toNat : Int) := by rw [wrap64 (by omega) (by omega), hdd]
        have hw3 : IntKind.u8.wrap (dd.toNat : Int) = (dd.toNat : Int) := by have := dd.toNat_lt; rw [wrapu8 (by omega) (by omega)]
        have hw4 : IntKind.i64.wrap ((i : Int) + 1) = ((i + 1 : Nat) : Int) := by rw [wrap64 (by omega) (by omega)]; rfl
        have ha1 : appV [Am.Obj.cells 0 1 []] (V.sl 0 0 0 0 1 false) (.sv (bytesV f) false) 1 1 = some (slB 0 f, [cellsB f]) := by
          have := app_own (own_new ([] : Heap) []) (.sv false : SlV (bytesV f) (.sv (bytesV f) false)) (by simp; omega)
          exact this
        have ha2 : appV [cellsB f, Am.Obj.cells 0 1 []] (V.sl 1 0 0 0 1 false) (.sv (bytesV f) false) 1 1 = some (slB 1 f, [cellsB f, cellsB f]) := by
          have := app_own (own_new [cellsB f] []) (.sv false : SlV (bytesV f) (.sv (bytesV f) false)) (by simp; omega)
          exact this
        have hx0 : idxV (slB 0 f) (i : Int) 1 = some (.ref 0 i f.length) := by simp [slB]; omega
        have hx1 : idxV (slB 1 f) (i : Int) 1 = some (.ref 1 i f.length) := by simp [slB]; omega
        have hx2 : idxV (slB 1 f) ((i + 1 : Nat) : Int) 1 = some (.ref 1 (i + 1) f.length) := by simp [slB]; omega
        have hy0 := idx_bytes (.sv false : SlV (bytesV f) (.sv (bytesV f) false)) (i := i) (by omega)
        have hy1 := idx_bytes (.sv false : SlV (bytesV f) (.sv (bytesV f) false)) (i := i + 1) (by omega)
        have hld := loadB (h := [cellsB f, cellsB f]) (o := 0) (f := f) rfl (i := i) (by omega)
        have hxor := xor_u8 (f[i]'(by omega)) dd
        have hst0 := storeB (h := [cellsB f, cellsB f]) (o := 0) (f := f) rfl (i := i) (by omega) ((f[i]'(by omega)) ^^^ dd)
        obtain ⟨nb, hnb⟩ : ∃ nb : UInt8, nb = (f[i]'(by omega)) ^^^ dd := ⟨_, rfl⟩
        rw [← hnb] at hxor hst0
        obtain ⟨fo, hfo⟩ : ∃ fo, fo = f.set i nb := ⟨_, rfl⟩
        rw [← hfo] at hst0
        have hst1 := storeB (h := [cellsB fo, cellsB f]) (o := 1) (f := f) rfl (i := i) (by omega) (f[i + 1]'(by omega))
        obtain ⟨f1', hf1⟩ : ∃ f1', f1' = f.set i (f[i + 1]'(by omega)) := ⟨_, rfl⟩
        rw [← hf1] at hst1
        have hl1 : f1'.length = f.length := by rw [hf1]; simp
        have hst2 := storeB (h := [cellsB fo, cellsB f1']) (o := 1) (f := f1') rfl (i := i + 1) (by omega) (f[i]'(by omega))
        rw [hl1] at hst2
        obtain ⟨ft, hft⟩ : ∃ ft, ft = f1'.set (i + 1) (f[i]'(by omega)) := ⟨_, rfl⟩
        rw [← hft] at hst2
        have hlo : fo.length = f.length := by rw [hfo]; simp
        have hlt : ft.length = f.length := by rw [hft, List.length_set]; exact hl1
        have hz1 : frzV [cellsB fo, cellsB ft] (slB 1 f) = some (.sv (bytesV ft) false, [cellsB fo, .gone]) := by
          have := own_frz (h := [cellsB fo, cellsB ft]) (o := 1) (l := ft) rfl
          unfold slB at this ⊢
          rw [hlt] at this
          exact this
        have hz0 : frzV [cellsB fo, .gone] (slB 0 f) = some (.sv (bytesV fo) false, [.gone, .gone]) := by
          have := own_frz (h := [cellsB fo, .gone]) (o := 0) (l := fo) rfl
          unfold slB at this ⊢
          rw [hlo] at this
          exact this
        simp only [List.set_cons_zero, List.set_cons_succ] at hst0 hst1 hst2
        have hlv : lenV (.sv (bytesV f) false) = some (.int .i64 (f.length : Int)) := by simp [bytesV]
        simp [f1, f2, f3, f4, f5, f6, f7, f8, f9, f10, ht, p1, h3, h3', h7, h7', hw1, ht1, ht2, hw2, hw3, hw4, fill, chunks, ha1, ha2, hx0, hx1, hx2, hy0, hy1, hld, hxor, hst0, hst1, hst2, WX_frz, hz1, hz0, slotOf, -pcall, -idxV_sl, -loadV, loadPv, -intBin, ib_eql, ib_neq, ib_gtr, intBin_lss, intBin_add, intBin_sub, -Int.natCast_add]
        have hrnd : ∀ c : L, (c = fo ∨ c = ft) → c ≠ f → ∃ e : Int, e ≠ 0 ∧ (e = 10 ∨ (e = 8 ∧ i ≤ 1)) ∧ kindOf sumOf c = (0, e) ∧ readX c = zThings ∧ ∀ j, readE c j = e := by
          intro c hc hcf
          obtain ⟨s1, s2⟩ := set_split (f := f) (i := i) (by omega) nb
          have hlen : c.length = f.length := by rcases hc with rfl | rfl <;> assumption
          refine spoilt_round hlen (by omega) (by omega) ?_ ⟨hhead.1, hhead.2.1⟩ ?_
          · rcases hc with rfl | rfl
            · rw [hfo, s2]
              exact hch _ _ _ _ s1 (by rw [hnb]; exact (xor_ne hd0).symm)
            · have hs2 := set2_split (f := f) (i := i) (by omega)
              have hft2 : c = (f.set i (f[i + 1]'(by omega))).set (i + 1) (f[i]'(by omega)) := hft.trans (by simp only [hf1])
              obtain ⟨g1, g2⟩ := hs2
              have hc2 := hft2.trans g2
              clear hft2 g2
              generalize f[i + 1]'(by omega) = y1 at *
              generalize f[i]'(by omega) = x1 at *
              rw [hc2]
              refine hsw _ _ _ _ g1 (fun hxy => hcf ?_)
              rw [hc2, hxy]
              rw [hxy] at g1
              exact g1.symm
          · intro j h1 h2
            rcases hc with rfl | rfl
            · rw [hfo, List.getElem?_set_ne (by omega)]
            · rw [hft, List.getElem?_set_ne (by omega), hf1, List.getElem?_set_ne (by omega)]
        have hix0 : idxV (.sv [[.sv (bytesV fo) false], [.sv (bytesV ft) false]] true) 0 1 = some (.pv [.sv (bytesV fo) false]) := rfl
        have hix1 : idxV (.sv [[.sv (bytesV fo) false], [.sv (bytesV ft) false]] true) 1 1 = some (.pv [.sv (bytesV ft) false]) := rfl
        refine loop_nQ 2 (fun j c => ∃ (a11 a12 a13 a14 a15 : V), c = ⟨[.agg [a0, a1, a2, b0, b1, c0, c1, d0, d1, d2], .agg [.int .i64 n0, .int .i64 n1, .int .i64 n2], .agg [a0, a1, a2, b0, b1, c0, c1, d0, d1, d2], .agg [.int .i64 n0, .int .i64 n1, .int .i64 n2], .bool false, .sv (bytesV f) false, .int .i64 0, .int .i64 i, .sv (bytesV fo) false, .sv (bytesV ft) false, .int .i64 j, a11, a12, a13, a14, a15], [], none, none, [.gone, .gone]⟩) ?_ ⟨_, _, _, _, _, rfl⟩
        rintro I hI j c hj ⟨a11, a12, a13, a14, a15, rfl⟩
        by_cases hlt2 : j < 2
        · obtain rfl | rfl : j = 0 ∨ j = 1 := by omega
          · have heq := equalBytes_pc (l := fo) (m := f) (.sv false) (.sv false) gl0
            by_cases hcf : fo = f
            · rw [decide_eq_true hcf] at heq
              simp [hix0, hix1, heq, fill, chunks, slotOf, -pcall]
              exact hI 1 _ ⟨_, _, _, _, _, rfl⟩
            · rw [decide_eq_false hcf] at heq
              obtain ⟨e, he0, he, hkd, hrx, hre⟩ := hrnd fo (.inl rfl) hcf
              have e23 := kind_ok (l := fo) (.sv false) gl0
              unfold kindV at e23
              rw [hkd] at e23
              obtain ⟨ys, g1, hY⟩ := get_q gl0 (b := fo) (.sv false)
              rw [hrx] at hY
              rw [hre 0, hre 1, hre 2, hre 3] at g1
              have hzz : IsThings zThings [.int .i64 0, .int .i64 0, .nils, .nils, .int .i64 0, .nils, .int .i64 0, .int .i64 0, .nils, .nils] := ⟨_, _, _, _, _, _, _, _, _, _, rfl, zero_value, zero_prog, zero_vec, zero_log⟩
              have hs := says_true (things_same hY hzz) rfl gl0
              obtain ⟨y0, y1, y2, y3, y4, y5, y6, y7, y8, y9, rfl, _, _, _, _, ⟨u1, u2, u3⟩, ⟨u4, u5⟩, ⟨u6, u7⟩, ⟨u8, u9, u10⟩, _⟩ := hY.facts
              have hi1 : e = 8 → ¬ (1 : Int) < i := fun h => by rcases he with h2 | ⟨_, h2⟩ <;> omega
              rcases he with rfl | ⟨rfl, _⟩
              · simp [hix0, hix1, heq, e23, g1, hs, u1, u2, u3, u4, u5, u6, u7, u8, u9, u10, fill, chunks, slotOf, sameInts, -pcall]
                exact hI 1 _ ⟨_, _, _, _, _, rfl⟩
              · have hi2 := hi1 rfl
                simp [hix0, hix1, heq, e23, g1, hs, hi2, u1, u2, u3, u4, u5, u6, u7, u8, u9, u10, fill, chunks, slotOf, sameInts, -pcall]
                exact hI 1 _ ⟨_, _, _, _, _, rfl⟩
          · have heq := equalBytes_pc (l := ft) (m := f) (.sv false) (.sv false) gl0
            by_cases hcf : ft = f
            · rw [decide_eq_true hcf] at heq
              simp [hix0, hix1, heq, fill, chunks, slotOf, -pcall]
              exact hI 2 _ ⟨_, _, _, _, _, rfl⟩
            · rw [decide_eq_false hcf] at heq
              obtain ⟨e, he0, he, hkd, hrx, hre⟩ := hrnd ft (.inr rfl) hcf
              have e23 := kind_ok (l := ft) (.sv false) gl0
              unfold kindV at e23
              rw [hkd] at e23
              obtain ⟨ys, g1, hY⟩ := get_q gl0 (b := ft) (.sv false)
              rw [hrx] at hY
              rw [hre 0, hre 1, hre 2, hre 3] at g1
              have hzz : IsThings zThings [.int .i64 0, .int .i64 0, .nils, .nils, .int .i64 0, .nils, .int .i64 0, .int .i64 0, .nils, .nils] := ⟨_, _, _, _, _, _, _, _, _, _, rfl, zero_value, zero_prog, zero_vec, zero_log⟩
              have hs := says_true (things_same hY hzz) rfl gl0
              obtain ⟨y0, y1, y2, y3, y4, y5, y6, y7, y8, y9, rfl, _, _, _, _, ⟨u1, u2, u3⟩, ⟨u4, u5⟩, ⟨u6, u7⟩, ⟨u8, u9, u10⟩, _⟩ := hY.facts
              have hi1 : e = 8 → ¬ (1 : Int) < i := fun h => by rcases he with h2 | ⟨_, h2⟩ <;> omega
              rcases he with rfl | ⟨rfl, _⟩
              · simp [hix0, hix1, heq, e23, g1, hs, u1, u2, u3, u4, u5, u6, u7, u8, u9, u10, fill, chunks, slotOf, sameInts, -pcall]
                exact hI 2 _ ⟨_, _, _, _, _, rfl⟩
              · have hi2 := hi1 rfl
                simp [hix0, hix1, heq, e23, g1, hs, hi2, u1, u2, u3, u4, u5, u6, u7, u8, u9, u10, fill, chunks, slotOf, sameInts, -pcall]
                exact hI 2 _ ⟨_, _, _, _, _, rfl⟩
        · obtain rfl : j = 2 := by omega
          simp [hf, slotOf, -pcall]
          exact hQ _ _ rfl
  obtain ⟨r, h', e, rfl⟩ := OptP.ex key
  exact ⟨h', e⟩
end Go.Proofs.FileA
