/- The law FileCanon over the abstract machine. -/
import Derived.Test.YtncbmdeinohnbaaDoorFileGet
/- The law FileCanon over the abstract machine. -/
set_option linter.unusedVariables false
set_option linter.unusedSimpArgs false
namespace Go.Proofs.FileA
open Go Go.Am

theorem okProg_depth {p : ProgT} (h : OkProg p) : progDepth p ≤ 60 := depths_le.2 fun t ht => by
  obtain ⟨f, hf, rfl⟩ := List.mem_map.1 ht
  exact okT_depth 60 _ (h.1.1 f hf).2.2
theorem okVec_depth {p : VecT} (h : OkVec p) : vecDepth p ≤ 60 := foldr_max_le.2 fun n hn => by
  obtain ⟨f, hf, rfl⟩ := List.mem_map.1 hn
  exact depths_le.2 fun t ht => okT_depth 60 t ((h.1.1 f hf).2.1.1 t ht)

/-- what is read is what is written of it -/
theorem canon_fact (l : L) (i : Nat) (hi : i < 4) (h : readE l i = 0) : depthK (readX l) i ≤ 60 ∧ (contentK (readX l) i).length + 7 ≤ 200000 ∧ fileOf (UInt8.ofNat i) (contentK (readX l) i) = l ∧ (kindOf sumOf l).1 = i := by
  have fin : ∀ {c : L}, l = fileOf (UInt8.ofNat i) c → l.length ≤ 200000 → c.length + 7 ≤ 200000 := fun {c} e hl => by rw [e, fileOf_length] at hl; exact hl
  obtain rfl | rfl | rfl | rfl : i = 0 ∨ i = 1 ∨ i = 2 ∨ i = 3 := by omega
  · obtain ⟨x, h1, h2, h3, h4, h5⟩ := readOf_back (codec_T 2 0 60) h
    simp only [depthK, contentK, readX, h1, Option.getD_some]
    exact ⟨okT_depth 60 _ h3, fin h2 h4, h2.symm, h5⟩
  · obtain ⟨x, h1, h2, h3, h4, h5⟩ := readOf_back codec_prog h
    simp only [depthK, contentK, readX, h1, Option.getD_some]
    exact ⟨okProg_depth h3, fin h2 h4, h2.symm, h5⟩
  · obtain ⟨x, h1, h2, h3, h4, h5⟩ := readOf_back codec_vec h
    simp only [depthK, contentK, readX, h1, Option.getD_some]
    exact ⟨okVec_depth h3, fin h2 h4, h2.symm, h5⟩
  · obtain ⟨x, h1, h2, h3, h4, h5⟩ := readOf_back codec_log h
    simp only [depthK, contentK, readX, h1, Option.getD_some]
    exact ⟨Nat.zero_le _, fin h2 h4, h2.symm, h5⟩
theorem frz_pure {es : List (List V)} {v : V} (h : SlV es v) (hp : Heap) : frzV hp v = some (v, hp) := by cases h <;> rfl
theorem putR_ok {d : Nat} {k : UInt8} {c : L} (h1 : d ≤ 60) (h2 : c.length + 7 ≤ 200000) : putR d k c = .tup [.sv (bytesV (fileOf k c)) false, .int .i64 0] := by
  unfold putR
  rw [if_neg (by omega), if_neg (by omega)]

theorem law_canon {b : L} {v : V} (hv : SlV (bytesV b) v) (hb : b.length ≤ 2 ^ 46) (n : Int) (hn : is64 n) : ∃ h', (lim gl0 Tryd.aprog).call 6 [v, .int .i64 n] [] = some (.ret (.bool true), h') := by
  have key : CallP gl0 Tryd.aprog 6 [v, .int .i64 n] [] (fun r h' => r = .ret (.bool true)) := by
    have hf := filed_pc
    have ht := turn_q gl0 n 5 hn (by omega) (by omega)
    have hlv := hv.len
    rw [bytesV_length] at hlv
    refine call_ofQ (af := Tryd.a6) rfl rfl fun Q hQ => ?_
    simp only [Tryd.a6]
    refine WX_step _ _ (by simp; rfl) ?_
    rw [WX_seq]
    refine WX.mono (Q := fun o c' => o = .norm ∧ ∃ (l : L) (w v' a3 : V) (hh h2 : Heap), frzV hh w = some (v', h2) ∧ SlV (bytesV l) v' ∧ c' = ⟨[w, .int .i64 n, .bool false, a3, .undef, .undef, .undef, .undef, .undef, .undef], [], none, none, hh⟩) ?_ ?_
    · by_cases h2 : 0 < n % 5 ∧ (b.length : Int) < 199993
      · obtain ⟨h3, h4⟩ := h2
        obtain ⟨kk, hkk, hnk⟩ : ∃ kk : Nat, kk < 4 ∧ n % 5 = kk + 1 := ⟨(n % 5).toNat - 1, by omega, by omega⟩
        rw [hnk] at ht h3
        have hw : IntKind.i64.wrap ((kk : Int) + 1 - 1) = (kk : Int) := by rw [wrap64 (by omega) (by omega)]; omega
        have hw' : IntKind.i64.wrap (kk : Int) = (kk : Int) := by rw [wrap64 (by omega) (by omega)]
        have hu : IntKind.u8.wrap (kk : Int) = ((UInt8.ofNat kk).toNat : Int) := by rw [u8_of (Int.natCast_nonneg _), Int.toNat_natCast]
        generalize UInt8.ofNat kk = k8 at *
        have hown := own_new ([] : Heap) [83, 119, k8]
        obtain ⟨l1, hl1, ha1⟩ := app_first (m := b) hown hv (by simp; omega)
        have hm1 := congrArg List.length hl1
        rw [List.length_append] at hm1
        simp only [List.length_cons, List.length_nil] at hm1
        have ha1' : appV [Am.Obj.cells 3 1 [V.int .u8 83, V.int .u8 119, V.int .u8 k8.toNat]] (V.sl 0 0 3 3 1 false) v 1 1 = some (slB 0 l1, [cellsB l1]) := ha1
        have hown1 : OwnB 0 l1 [cellsB l1] := rfl
        have hv1 := own_view hown1
        have hsum := sum_sl (gl := gl0) (l := l1) (.sv false) (by omega) []
        obtain ⟨l2, hl2, ha2⟩ := app_first (m := be 4 (sumOf l1)) (y := .sv (bytesV (be 4 (sumOf l1))) true) hown1 (.sv true) (by simp; omega)
        have hb : ∀ j, ((UInt8.ofNat (sumOf l1 / 256 ^ j)).toNat : Int) = IntKind.u8.wrap ((sumOf l1 : Int).fdiv (2 ^ (8 * j))) := fun j => by rw [shr_eq, u8_of (Int.natCast_nonneg _), Int.toNat_natCast]
        have ha2' : appV [cellsB l1] (slB 0 l1) (.sv [[V.int .u8 (IntKind.u8.wrap ((sumOf l1 : Int).fdiv 16777216))], [V.int .u8 (IntKind.u8.wrap ((sumOf l1 : Int).fdiv 65536))], [V.int .u8 (IntKind.u8.wrap ((sumOf l1 : Int).fdiv 256))], [V.int .u8 (IntKind.u8.wrap (sumOf l1 : Int))]] true) 1 1 = some (slB 0 l2, [cellsB l2]) := by
          rw [be4] at ha2
          simp only [bytesV, List.map_cons, List.map_nil, hb] at ha2
          simpa using ha2
        have hfz := own_frz (show OwnB 0 l2 [cellsB l2] from rfl)
        simp [ht, h3, h4, hlv, hw, hw', hu, fill, ha1', bcall, viewL, hv1, hsum, plainV, chunks, IntKind.bits, ha2', slotOf, -pcall]
        exact ⟨l2, _, _, _, _, ⟨_, hfz⟩, .sv false, ⟨rfl, rfl⟩, rfl⟩
      · by_cases h3 : 0 < n % 5
        · have h4 : ¬ (b.length : Int) < 199993 := fun h => h2 ⟨h3, h⟩
          simp [ht, h3, h4, hlv, slotOf, -pcall]
          exact ⟨b, v, v, _, _, ⟨_, frz_pure hv _⟩, hv, ⟨rfl, rfl⟩, rfl⟩
        · simp [ht, h3, slotOf, -pcall]
          exact ⟨b, v, v, _, _, ⟨_, frz_pure hv _⟩, hv, ⟨rfl, rfl⟩, rfl⟩
    rintro o c' ⟨rfl, l, w, v', a3, hh, h2, hfz, hv', rfl⟩
    obtain ⟨xs, g1, hX⟩ := get_q gl0 hv'
    have hcf := canon_fact l
    have hputs := fun i hi => put_q hX i hi
    have heq := equalBytes_pc (l := l) (m := l) (.sv false) hv' gl0
    rw [decide_eq_true rfl] at heq
    obtain ⟨y0, y1, y2, y3, y4, y5, y6, y7, y8, y9, rfl, _, _, _, _, ⟨u1, u2, u3⟩, ⟨u4, u5⟩, ⟨u6, u7⟩, ⟨u8, u9, u10⟩, _⟩ := hX.facts
    generalize (kindOf sumOf l).1 = K at *
    show WX _ _ _ _ _
    simp [hfz, g1, u1, u2, u3, u4, u5, u6, u7, u8, u9, u10, WX_frz, -pcall]
    refine loop_nQ 4 (fun i c => ∃ (m : Nat) (a8 a9 : V), m ≤ 1 ∧ (i ≤ K → m = 0) ∧ c = ⟨[v', .int .i64 n, .bool false, a3, .agg [y0, y1, y2, y3, y4, y5, y6, y7, y8, y9], .agg [.int .i64 (readE l 0), .int .i64 (readE l 1), .int .i64 (readE l 2), .int .i64 (readE l 3)], .int .i64 m, .int .i64 i, a8, a9], [], none, none, h2⟩) ?_ ⟨0, _, _, by omega, fun _ => rfl, rfl⟩
    rintro I hI i c hi ⟨m, a8, a9, hm1, hmK, rfl⟩
    by_cases hlt : i < 4
    · have hw3 : IntKind.i64.wrap ((i : Int) + 1) = ((i + 1 : Nat) : Int) := by rw [wrap64 (by omega) (by omega)]; rfl
      have hwm : IntKind.i64.wrap ((m : Int) + 1) = ((m + 1 : Nat) : Int) := by rw [wrap64 (by omega) (by omega)]; rfl
      by_cases hE : readE l i = 0
      · obtain ⟨c1, c2, c3, c4⟩ := hcf i hlt hE
        have hp := hputs i hlt
        rw [putR_ok c1 c2, c3] at hp
        obtain ⟨ii, hii⟩ : ∃ ii : Int, ii = (i : Int) := ⟨_, rfl⟩
        rw [← hii] at hp
        have nxt := hI (i + 1) _ ⟨m + 1, .sv (bytesV l) false, .int .i64 0, by have := hmK (by omega); omega, fun h => by omega, rfl⟩
        obtain rfl | rfl | rfl | rfl : i = 0 ∨ i = 1 ∨ i = 2 ∨ i = 3 := by omega
        all_goals
          simp at hii
          subst hii
          simp [hE, hp, heq, hw3, hwm, u1, u2, u3, u4, u5, u6, u7, u8, u9, u10, slotOf, -pcall]
          rw [hE] at nxt
          exact nxt
      · have nxt := hI (i + 1) _ ⟨m, a8, a9, hm1, fun h => hmK (by omega), rfl⟩
        obtain rfl | rfl | rfl | rfl : i = 0 ∨ i = 1 ∨ i = 2 ∨ i = 3 := by omega
        all_goals
          simp [hE, hw3, hwm, u1, u2, u3, u4, u5, u6, u7, u8, u9, u10, slotOf, -pcall]
          exact nxt
    · obtain rfl : i = 4 := by omega
      have hm1' : (m : Int) ≤ 1 := by omega
      simp [hm1, hm1', hf, slotOf, -pcall]
      exact hQ _ _ rfl
  obtain ⟨r, h', e, rfl⟩ := OptP.ex key
  exact ⟨h', e⟩
end Go.Proofs.FileA
