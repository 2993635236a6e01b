/- The law FileReads over the abstract machine. -/
import Derived.Test.YtncbmdeinohnbaaDoorFileU
/- The law FileReads over the abstract machine. -/
set_option linter.unusedVariables false
set_option linter.unusedSimpArgs false
namespace Go.Proofs.FileA
open Go Go.Am
variable {gl : Nat → List V}

theorem turn_q (gl : Nat → List V) (n k : Int) (hn : is64 n) (hk : 1 ≤ k) (hk2 : k ≤ 4294967296) : pcall (lim gl Tryd.aprog) (.func (.func 22) [] []) [.int .i64 n, .int .i64 k] = some (.val (.int .i64 (n % k))) := by
  unfold is64 at hn
  have key : CallP gl Tryd.aprog 22 [.int .i64 n, .int .i64 k] [] (fun r h' => r = .ret (.int .i64 (n % k))) := by
    refine call_ofQ (af := Tryd.a22) rfl rfl fun Q hQ => ?_
    simp only [Tryd.a22]
    have h1 : ¬ k < 1 := by omega
    have h0 : ¬ k = 0 := by omega
    have htm : n % k = if n.tmod k < 0 then n.tmod k + k else n.tmod k := by
      have hlt := Int.tmod_lt_of_pos n (show 0 < k by omega)
      have hlt2 := Int.tmod_lt_of_pos (-n) (show 0 < k by omega)
      rw [Int.neg_tmod] at hlt2
      have hmod : n % k = n.tmod k % k := by rw [Int.tmod_def, Int.sub_mul_emod_self_left]
      rw [hmod]
      split
      · rw [← Int.add_emod_right, Int.emod_eq_of_lt (by omega) (by omega)]
      · rw [Int.emod_eq_of_lt (by omega) (by omega)]
    by_cases hneg : n.tmod k < 0
    · rw [if_pos hneg] at htm
      have hw : IntKind.i64.wrap (n.tmod k + k) = n % k := by
        have := Int.emod_lt_of_pos n (show 0 < k by omega)
        have := Int.emod_nonneg n h0
        rw [← htm, wrap64 (by omega) (by omega)]
      simp [h1, h0, hneg, hw, slotOf]
      exact hQ _ _ rfl
    · rw [if_neg hneg] at htm
      simp [h1, h0, hneg, slotOf]
      exact hQ _ _ (by rw [htm])
  obtain ⟨r, h', e, rfl⟩ := OptP.ex key
  exact pcall_of e (by simp [pureL, pureV]) (by simp [viewV])

/-- two Gets of the same bytes -/
theorem GetEnd.two {α : Type} {R : α → List V → Prop} {sz : Nat} {zero : List V} {o : Option α × Int} {x y : V} (hx : GetEnd R sz zero o x) (hy : GetEnd R sz zero o y) {z : α} (hz : R z zero) :
    ∃ c1 c2 t, x = .tup [.agg c1, .int .i64 o.2] ∧ y = .tup [.agg c2, .int .i64 o.2] ∧ Cells sz c1 ∧ Cells sz c2 ∧ R t c1 ∧ R t c2 := by
  obtain ⟨c1, rfl, h1, n1, s1⟩ := hx.ex
  obtain ⟨c2, rfl, h2, n2, s2⟩ := hy.ex
  cases ho : o.1 with
  | none => exact ⟨c1, c2, z, rfl, rfl, h1, h2, by rw [n1 ho]; exact hz, by rw [n2 ho]; exact hz⟩
  | some a => exact ⟨c1, c2, a, rfl, rfl, h1, h2, s1 a ho, s2 a ho⟩
theorem says_true {f : Nat} {args : List V} {P : Prop} (h : Says f args P) (hp : P) (gl : Nat → List V) : pcall (lim gl Tryd.aprog) (.func (.func f) [] []) args = some (.val (.bool true)) := by
  obtain ⟨b, e, hb⟩ := h gl
  rw [hb.2 hp] at e
  exact e
theorem zero_value : IsT 2 0 (.mk [0, 0] [] []) [.int .i64 0, .int .i64 0, .nils] := by
  simp only [IsT]
  exact ⟨rfl, rfl, by simp [is64], [], .nils, [], rfl, by simp [IsLists], .nil rfl, by simp [small], by simp [IsTs]⟩
theorem zero_prog : IsProg ⟨[], 0⟩ [.nils, .int .i64 0] := ⟨⟨.nils, [], rfl, .nil rfl, trivial⟩, by simp [is64], by simp [small]⟩
theorem zero_vec : IsVec ⟨[], 0⟩ [.nils, .int .i64 0] := ⟨⟨.nils, [], rfl, .nil rfl, trivial⟩, by simp [is64], by simp [small]⟩
theorem zero_log : IsLog ⟨0, [], []⟩ [.int .i64 0, .nils, .nils] := ⟨⟨.nils, .nils, rfl, ⟨.nil rfl, by simp [small], by simp⟩, ⟨.nil rfl, by simp [small], by simp⟩⟩, by simp [is64]⟩

theorem law_reads {b : L} {v : V} (hv : SlV (bytesV b) v) (hb : b.length ≤ 2 ^ 46) (n : Int) (hn : is64 n) : ∃ h', (lim gl0 Tryd.aprog).call 4 [v, .int .i64 n] [] = some (.ret (.bool true), h') := by
  have key : CallP gl0 Tryd.aprog 4 [v, .int .i64 n] [] (fun r h' => r = .ret (.bool true)) := by
    have hf := filed_pc
    have b1 := fun h => bcall_sum (gl := gl0) hv (by omega) h
    have b2 := fun h => bcall_rsum (gl := gl0) hv (by omega) h
    have ht := turn_q gl0 n 2 hn (by omega) (by omega)
    refine call_ofQ (af := Tryd.a4) rfl rfl fun Q hQ => ?_
    simp only [Tryd.a4]
    refine WX_step _ _ (by simp; rfl) ?_
    rw [WX_assoc]
    refine WX_step _ _ (by simp [b1, b2, slotOf, -pcall]; rfl) ?_
    rw [WX_ite_seq]
    simp only [Bool.false_eq_true, if_false, WX_skip_seq]
    rw [WX_assoc]
    refine WX_step _ _ (by simp [ht, slotOf, -pcall]; rfl) ?_
    rw [WX_seq]
    refine WX.mono (Q := fun o c' => o = .norm ∧ ∃ (l : L) (v' a3 : V) (hh : Heap), SlV (bytesV l) v' ∧ c' = ⟨[v', .int .i64 n, .bool false, a3, .undef, .undef, .undef, .undef, .undef, .undef, .undef, .undef, .undef, .undef, .undef, .undef, .undef, .undef, .undef, .undef], [], none, none, hh⟩) ?_ ?_
    · by_cases h2 : n % 2 = 1
      · rw [h2]
        have hown := own_new ([] : Heap) []
        obtain ⟨l1, hl1, ha1⟩ := app_first (m := b) hown hv (by simp; omega)
        rw [List.nil_append] at hl1
        subst hl1
        have ha1' : appV [Am.Obj.cells 0 1 []] (V.sl 0 0 0 0 1 false) v 1 1 = some (slB 0 l1, [cellsB l1]) := ha1
        have hown1 : OwnB 0 l1 [cellsB l1] := rfl
        obtain ⟨l2, hl2, ha2⟩ := app_first (m := be 4 (sumOf l1)) (y := .sv (bytesV (be 4 (sumOf l1))) true) hown1 (.sv true) (by simp; omega)
        have hb : ∀ j, ((UInt8.ofNat (sumOf l1 / 256 ^ j)).toNat : Int) = IntKind.u8.wrap ((sumOf l1 : Int).fdiv (2 ^ (8 * j))) := fun j => by rw [shr_eq, u8_of (Int.natCast_nonneg _), Int.toNat_natCast]
        have ha2' : appV [cellsB l1] (slB 0 l1) (.sv [[V.int .u8 (IntKind.u8.wrap ((sumOf l1 : Int).fdiv 16777216))], [V.int .u8 (IntKind.u8.wrap ((sumOf l1 : Int).fdiv 65536))], [V.int .u8 (IntKind.u8.wrap ((sumOf l1 : Int).fdiv 256))], [V.int .u8 (IntKind.u8.wrap (sumOf l1 : Int))]] true) 1 1 = some (slB 0 l2, [cellsB l2]) := by
          rw [be4] at ha2
          simp only [bytesV, List.map_cons, List.map_nil, hb] at ha2
          simpa using ha2
        have hfz := own_frz (show OwnB 0 l2 [cellsB l2] from rfl)
        simp only [List.set_cons_zero] at hfz
        simp [b2, fill, ha1', chunks, IntKind.bits, ha2', hfz, -pcall]
        exact ⟨l2, .sv false⟩
      · have hne : (n % 2 == 1) = false := by simpa using h2
        simp [hne]
        exact ⟨b, hv⟩
    rintro o c' ⟨rfl, l, v', a3, hh, hv', rfl⟩
    have e23 := kind_ok hv' gl0
    have e24 := rkind_ok hv' gl0
    obtain ⟨x25, e25, g25⟩ := pget25 hv' gl0
    obtain ⟨x26, e26, g26⟩ := rget26 hv' gl0
    obtain ⟨x28, e28, g28⟩ := pget28 hv' gl0
    obtain ⟨x29, e29, g29⟩ := rget29 hv' gl0
    obtain ⟨x30, e30, g30⟩ := pget30 hv' gl0
    obtain ⟨x31, e31, g31⟩ := rget31 hv' gl0
    obtain ⟨x32, e32, g32⟩ := pget32 hv' gl0
    obtain ⟨x33, e33, g33⟩ := rget33 hv' gl0
    obtain ⟨p1, q1, t1, rfl, rfl, hp1, hq1, r1, s1⟩ := g25.two g26 zero_value
    obtain ⟨p2, q2, t2, rfl, rfl, hp2, hq2, r2, s2⟩ := g28.two g29 zero_prog
    obtain ⟨p3, q3, t3, rfl, rfl, hp3, hq3, r3, s3⟩ := g30.two g31 zero_vec
    obtain ⟨p4, q4, t4, rfl, rfl, hp4, hq4, r4, s4⟩ := g32.two g33 zero_log
    have w1 := says_true (value_same _ _ _ _ _ (Nat.le_refl _) r1 s1) rfl gl0
    have w2 := says_true (prog_same r2 s2) rfl gl0
    have w3 := says_true (vec_same r3 s3) rfl gl0
    have w4 := says_true (log_same r4 s4) rfl gl0
    unfold kindV at e23 e24
    generalize (kindOf sumOf l).1 = kn at *
    generalize (kindOf sumOf l).2 = ke at *
    generalize (readOf sumOf 0 (decT 2 0 60) l).2 = ea at *
    generalize (readOf sumOf 1 decProg l).2 = eb at *
    generalize (readOf sumOf 2 decVec l).2 = ec at *
    generalize (readOf sumOf 3 decLog l).2 = ed at *
    have lp1 := hp1.len
    have lq1 := hq1.len
    have lp2 := hp2.len
    have lq2 := hq2.len
    have lp3 := hp3.len
    have lq3 := hq3.len
    have lp4 := hp4.len
    have lq4 := hq4.len
    have cp1 := hp1.cell
    have cq1 := hq1.cell
    have cp2 := hp2.cell
    have cq2 := hq2.cell
    have cp3 := hp3.cell
    have cq3 := hq3.cell
    have cp4 := hp4.cell
    have cq4 := hq4.cell
    have tp1 : p1.take 3 = p1 := List.take_of_length_le (by omega)
    have tq1 : q1.take 3 = q1 := List.take_of_length_le (by omega)
    have tp2 : p2.take 2 = p2 := List.take_of_length_le (by omega)
    have tq2 : q2.take 2 = q2 := List.take_of_length_le (by omega)
    have tp3 : p3.take 2 = p3 := List.take_of_length_le (by omega)
    have tq3 : q3.take 2 = q3 := List.take_of_length_le (by omega)
    have tp4 : p4.take 3 = p4 := List.take_of_length_le (by omega)
    have tq4 : q4.take 3 = q4 := List.take_of_length_le (by omega)
    have dp1 : p1.drop 3 = [] := List.drop_of_length_le (by omega)
    have dq1 : q1.drop 3 = [] := List.drop_of_length_le (by omega)
    have dp2 : p2.drop 2 = [] := List.drop_of_length_le (by omega)
    have dq2 : q2.drop 2 = [] := List.drop_of_length_le (by omega)
    have dp3 : p3.drop 2 = [] := List.drop_of_length_le (by omega)
    have dq3 : q3.drop 2 = [] := List.drop_of_length_le (by omega)
    have dp4 : p4.drop 3 = [] := List.drop_of_length_le (by omega)
    have dq4 : q4.drop 3 = [] := List.drop_of_length_le (by omega)
    show WX _ _ _ _ _
    refine WX_step _ _ (by simp [e23, -pcall]; rfl) ?_
    refine WX_step _ _ (by simp [e24, -pcall]; rfl) ?_
    refine WX_step _ _ (by simp [e25, lp1, cp1, -pcall, -List.all_eq_true]; rfl) ?_
    refine WX_step _ _ (by simp [e26, lq1, cq1, -pcall, -List.all_eq_true]; rfl) ?_
    rw [WX_assoc]
    refine WX_step _ _ (by simp [lp1, lq1, tp1, tq1, w1, slotOf, -pcall, -List.all_eq_true]; rfl) ?_
    rw [WX_ite_seq]
    simp only [Bool.false_eq_true, if_false, WX_skip_seq]
    refine WX_step _ _ (by simp [e28, lp2, cp2, -pcall, -List.all_eq_true]; rfl) ?_
    refine WX_step _ _ (by simp [e29, lq2, cq2, -pcall, -List.all_eq_true]; rfl) ?_
    refine WX_step _ _ (by simp [e30, lp3, cp3, -pcall, -List.all_eq_true]; rfl) ?_
    refine WX_step _ _ (by simp [e31, lq3, cq3, -pcall, -List.all_eq_true]; rfl) ?_
    refine WX_step _ _ (by simp [e32, lp4, cp4, -pcall, -List.all_eq_true]; rfl) ?_
    refine WX_step _ _ (by simp [e33, lq4, cq4, -pcall, -List.all_eq_true]; rfl) ?_
    refine WX_step _ _ (by simp [lp2, lq2, lp3, lq3, lp4, lq4, tp2, tq2, tp3, tq3, tp4, tq4, w2, w3, w4, hf, slotOf, -pcall, -List.all_eq_true]; rfl) ?_
    rw [WX_ret]
    simp
    exact hQ _ _ rfl
  obtain ⟨r, h', e, rfl⟩ := OptP.ex key
  exact ⟨h', e⟩
end Go.Proofs.FileA
