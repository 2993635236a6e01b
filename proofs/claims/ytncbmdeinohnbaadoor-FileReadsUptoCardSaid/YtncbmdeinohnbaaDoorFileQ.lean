/- What the reference's reader does. -/
import Derived.Test.YtncbmdeinohnbaaDoorFileP
/- The reference's reader: numbers. -/
set_option linter.unusedVariables false
set_option linter.unusedSimpArgs false
namespace Go.Proofs.FileA
open Go Go.Am
variable {gl : Nat → List V}

/-- what is left, if all was right so far -/
def IsRest : Option L → List V → Prop
  | some l, cs => ∃ v, cs = [v, .bool true] ∧ SlV (bytesV l) v ∧ l.length ≤ 200000
  | none, cs => cs = [.nils, .bool false]
theorem IsRest.cells {o : Option L} {cs : List V} (h : IsRest o cs) : Cells 2 cs := by
  cases o with
  | none => simp only [IsRest] at h; subst h; exact ⟨rfl, rfl, rfl⟩
  | some l => obtain ⟨v, rfl, hv, _⟩ := h; exact ⟨rfl, by simp [hv.cell], by simp [pureL, pureV, hv.pure]⟩

theorem wrong_pc : pcall (lim gl Tryd.aprog) (.func (.func 79) [] []) [] = some (.val (.agg [.nils, .bool false])) := by
  have : CallP gl Tryd.aprog 79 [] [] (fun r h' => r = .ret (.agg [.nils, .bool false])) := by
    refine call_ofQ (af := Tryd.a79) rfl rfl fun Q hQ => ?_
    simp only [Tryd.a79]
    simp [fill]
    exact hQ _ _ rfl
  obtain ⟨r, h', e, rfl⟩ := OptP.ex this
  exact pcall_of e rfl (by simp [viewV, viewL])

/-- a number, and what is left -/
def numR (o : Option L) : Int × Option L := match o.bind decNum with
  | some x => (x.1, some x.2)
  | none => (0, none)

theorem beVal_cons (c : UInt8) (l : L) : beVal (c :: l) = c.toNat * 256 ^ l.length + beVal l := by
  have key : ∀ (n : Nat) (l : L), l.length = n → beVal (c :: l) = c.toNat * 256 ^ l.length + beVal l := by
    intro n
    induction n with
    | zero => intro l h; have : l = [] := List.length_eq_zero_iff.1 h; subst this; simp [beVal]
    | succ n ih =>
      intro l h
      have hne : l ≠ [] := by intro hh; simp [hh] at h
      obtain ⟨l', b, rfl⟩ : ∃ l' b, l = l' ++ [b] := ⟨l.dropLast, l.getLast hne, (List.dropLast_concat_getLast hne).symm⟩
      rw [← List.cons_append, beVal_snoc, beVal_snoc, ih l' (by simpa using h)]
      simp only [List.length_append, List.length_singleton, Nat.pow_succ]
      rw [Nat.add_mul, Nat.mul_assoc, Nat.add_assoc]
  exact key _ l rfl
theorem beVal_take (l : L) (j : Nat) (h : j ≤ l.length) : beVal (l.take j) * 256 ^ (l.length - j) ≤ beVal l := by
  have key : ∀ (k : Nat), ∀ l : L, l.length = j + k → beVal (l.take j) * 256 ^ k ≤ beVal l := by
    intro k
    induction k with
    | zero => intro l h; rw [List.take_of_length_le (by omega)]; simp
    | succ k ih =>
      intro l h
      have hne : l ≠ [] := by intro hh; simp [hh] at h
      obtain ⟨l', b, rfl⟩ : ∃ l' b, l = l' ++ [b] := ⟨l.dropLast, l.getLast hne, (List.dropLast_concat_getLast hne).symm⟩
      have hl' : l'.length = j + k := by simp at h; omega
      have := ih l' hl'
      rw [List.take_append_of_le_length (by omega), beVal_snoc, Nat.pow_succ, ← Nat.mul_assoc]
      omega
  exact key _ l (by omega)

/-- it is right just if it would be written so -/
theorem least_iff {first k : Nat} {bs : L} (h240 : ¬ first < 240) (hf : first < 256) (hk : decK first = k) (hl : bs.length = k) (h63 : beVal bs < 2 ^ 63) :
    decLeast first bs = true ↔ ((numB (if 247 < first then -1 - (beVal bs : Int) else (beVal bs : Int))).length = 1 + k ∧ (numB (if 247 < first then -1 - (beVal bs : Int) else (beVal bs : Int)))[0]? = some (UInt8.ofNat first)) := by
  have hk1 : 1 ≤ k := by unfold decK at hk; split at hk <;> omega
  have hlt := beVal_lt bs
  rw [hl] at hlt
  have hwle : wid (beVal bs) ≤ k := by
    obtain ⟨k', rfl⟩ : ∃ k', k = k' + 1 := ⟨k - 1, by omega⟩
    exact wid_le k' _ hlt
  have hwp := wid_pos (beVal bs)
  have hhead : 1 < k → (headPos bs = true ↔ wid (beVal bs) = k) := by
    intro hk2
    cases bs with
    | nil => simp at hl; omega
    | cons c cs =>
      have hcl : cs.length = k - 1 := by simp at hl; omega
      have hc1 := beVal_lt cs
      have hwl := wid_lt (k - 1) (beVal (c :: cs)) (by omega)
      rw [beVal_cons, hcl] at hwl
      rw [hcl] at hc1
      have hp : 0 < 256 ^ (k - 1) := Nat.pow_pos (by omega)
      simp only [headPos, decide_eq_true_eq]
      constructor
      · intro h
        have h1 : 256 ^ (k - 1) ≤ c.toNat * 256 ^ (k - 1) + beVal cs := Nat.le_trans (Nat.le_mul_of_pos_left _ h) (Nat.le_add_right _ _)
        have h2 := hwl.2 h1
        rw [beVal_cons, hcl] at hwle ⊢
        omega
      · intro h
        have h2 := hwl.1 (by rw [beVal_cons, hcl] at h; omega)
        cases hc : c.toNat with
        | zero => rw [hc] at h2; omega
        | succ n => omega
  have hw1 : beVal bs < 256 → wid (beVal bs) = 1 := fun h => by unfold wid; rw [dif_pos h]
  unfold decLeast
  rw [hk]
  by_cases h247 : 247 < first
  · rw [if_pos h247]
    have hfk : first = 247 + k := by unfold decK at hk; rw [if_pos h247] at hk; omega
    have hn : numB (-1 - (beVal bs : Int)) = UInt8.ofNat (247 + wid (beVal bs)) :: be (wid (beVal bs)) (beVal bs) := by
      unfold numB
      rw [if_neg (by omega), if_neg (by omega)]
      have : (-1 - (-1 - (beVal bs : Int))).toNat = beVal bs := by omega
      rw [this]
    rw [hn]
    simp only [List.length_cons, be_length, List.getElem?_cons_zero, Option.some.injEq]
    by_cases hk2 : 1 < k
    · rw [if_pos hk2, hhead hk2]
      constructor
      · intro h; rw [h, hfk]; exact ⟨by omega, rfl⟩
      · intro h; omega
    · rw [if_neg hk2]
      have hk3 : k = 1 := by omega
      have h1 := hw1 (by rw [hk3] at hlt; omega)
      simp [h247, h1, hk3, hfk]
  · rw [if_neg h247]
    have hfk : first = 239 + k := by unfold decK at hk; rw [if_neg h247] at hk; omega
    by_cases hm : beVal bs < 240
    · have hn : numB (beVal bs : Int) = [UInt8.ofNat (beVal bs)] := by unfold numB; rw [if_pos (by omega)]; simp
      rw [hn]
      have h1 := hw1 (by omega)
      simp only [List.length_singleton]
      by_cases hk2 : 1 < k
      · rw [if_pos hk2, hhead hk2]; constructor <;> intro h <;> omega
      · rw [if_neg hk2]
        simp only [decide_eq_true_eq]
        constructor <;> intro h <;> omega
    · have hn : numB (beVal bs : Int) = UInt8.ofNat (239 + wid (beVal bs)) :: be (wid (beVal bs)) (beVal bs) := by
        unfold numB
        rw [if_neg (by omega), if_pos (by omega)]
        simp
      rw [hn]
      simp only [List.length_cons, be_length, List.getElem?_cons_zero, Option.some.injEq]
      by_cases hk2 : 1 < k
      · rw [if_pos hk2, hhead hk2]
        constructor
        · intro h; rw [h, hfk]; exact ⟨by omega, rfl⟩
        · intro h; omega
      · rw [if_neg hk2]
        have hk3 : k = 1 := by omega
        have h1 := hw1 (by rw [hk3] at hlt; omega)
        have : 239 < beVal bs := by omega
        simp [this, h1, hk3, hfk]
end Go.Proofs.FileA
/- The reference's reader: a number. -/
set_option linter.unusedVariables false
set_option linter.unusedSimpArgs false
namespace Go.Proofs.FileA
open Go Go.Am
variable {gl : Nat → List V}

theorem IsRest.form {o : Option L} {cs : List V} (h : IsRest o cs) : ∃ v, cs = [v, .bool o.isSome] ∧ isCell v = true ∧ pureV v = true ∧ (∀ p h', viewV p h' v = some v) := by
  cases o with
  | none => simp only [IsRest] at h; subst h; exact ⟨.nils, rfl, rfl, rfl, fun _ _ => rfl⟩
  | some l => obtain ⟨v, rfl, hv, _⟩ := h; exact ⟨v, rfl, hv.cell, hv.pure, fun p h' => hv.view p h'⟩

theorem intBin_gtr (k : IntKind) (a b : Int) : intBin .gtr k a b = some (.bool (decide (a > b))) := rfl
theorem intBin_leq (k : IntKind) (a b : Int) : intBin .leq k a b = some (.bool (decide (a ≤ b))) := rfl
theorem or_i64' (n b : Nat) (h : n < 2 ^ 55) (hb : b < 256) : intBin .or .i64 (IntKind.i64.wrap ((n : Int) * 256)) (IntKind.i64.wrap (b : Int)) = some (.int .i64 ((n * 256 + b : Nat) : Int)) := by
  have h1 : IntKind.i64.wrap ((n : Int) * 256) = ((n * 256 : Nat) : Int) := by rw [wrap64 (by omega) (by omega)]; omega
  have h2 : IntKind.i64.wrap (b : Int) = (b : Int) := by rw [wrap64 (by omega) (by omega)]
  rw [h1, h2]
  simp only [intBin, Option.some.injEq, V.int.injEq, true_and]
  have h3 : (BitVec.ofInt IntKind.i64.bits ((n * 256 : Nat) : Int) ||| BitVec.ofInt IntKind.i64.bits (b : Int)).toNat = n * 256 + b := by
    refine (or64 _ _).trans ?_
    have a1 : (((n * 256 : Nat) : Int) % 18446744073709551616).toNat = n <<< 8 := by rw [Nat.shiftLeft_eq]; omega
    have a2 : (((b : Nat) : Int) % 18446744073709551616).toNat = b := by omega
    rw [a1, a2, ← Nat.shiftLeft_add_eq_or_of_lt (show b < 2 ^ 8 by omega) n, Nat.shiftLeft_eq]
  rw [h3, wrap64 (by omega) (by omega)]

theorem numB_ne (n : Int) : numB n ≠ [] := by
  unfold numB
  split
  · simp
  · split <;> simp

theorem num80 (gl : Nat → List V) {o : Option L} {cs : List V} (hr : IsRest o cs) : ∃ cs', pcall (lim gl Tryd.aprog) (.func (.func 80) [] []) [.agg cs] = some (.val (.tup [.int .i64 (numR o).1, .agg cs'])) ∧ IsRest (numR o).2 cs' := by
  have hw := wrong_pc (gl := gl)
  have key : CallP gl Tryd.aprog 80 [.agg cs] [] (fun r h' => ∃ cs', r = .ret (.tup [.int .i64 (numR o).1, .agg cs']) ∧ IsRest (numR o).2 cs') := by
    cases o with
    | none =>
      simp only [IsRest] at hr; subst hr
      refine call_ofQ (af := Tryd.a80) rfl rfl fun Q hQ => ?_
      simp only [Tryd.a80]
      simp [slotOf, hw, -pcall]
      exact hQ _ _ ⟨_, rfl, rfl⟩
    | some l =>
      obtain ⟨v, rfl, hv, hlen⟩ := hr
      have hlv := hv.len
      rw [bytesV_length] at hlv
      cases l with
      | nil =>
        refine call_ofQ (af := Tryd.a80) rfl rfl fun Q hQ => ?_
        simp only [Tryd.a80]
        simp [slotOf, hw, hlv, hv.cell, -pcall]
        exact hQ _ _ ⟨_, rfl, rfl⟩
      | cons b r =>
        have hb := b.toNat_lt
        have hi1 := idx_bytes hv (i := 0) (by simp)
        simp only [List.getElem_cons_zero, Int.natCast_zero] at hi1
        have hw1 : IntKind.i64.wrap (b.toNat : Int) = (b.toNat : Int) := by rw [wrap64 (by omega) (by omega)]
        simp only [List.length_cons] at hlen hlv
        have hr0 : ¬ ((r.length : Int) + 1 = 0) := by omega
        have hnum : numR (some (b :: r)) = match decNum (b :: r) with
          | some x => (x.1, some x.2)
          | none => (0, none) := rfl
        simp only [decNum] at hnum
        generalize hfb : b.toNat = first at *
        refine call_ofQ (af := Tryd.a80) rfl rfl fun Q hQ => ?_
        simp only [Tryd.a80]
        by_cases h240 : first < 240
        · have h240' : (first : Int) ≤ 239 := by omega
          obtain ⟨v2, e2, s2⟩ := slc_from hv (n := 1) (by simp) .i64
          simp only [Int.natCast_one, List.drop_succ_cons, List.drop_zero] at e2 s2
          rw [if_pos h240] at hnum
          simp [slotOf, hlv, hv.cell, hi1, hw1, h240', e2, s2.cell, s2.cells, fill, hr0, -pcall]
          refine hQ _ _ ⟨_, by rw [hnum], ?_⟩
          rw [hnum]
          have : r.length ≤ 200000 := by omega
          exact ⟨v2, rfl, s2, this⟩
        · have h240' : ¬ (first : Int) ≤ 239 := by omega
          rw [if_neg h240] at hnum
          have hk : ∃ k, decK first = k ∧ 1 ≤ k ∧ k ≤ 8 := by unfold decK; split <;> exact ⟨_, rfl, by omega, by omega⟩
          obtain ⟨k, hk, hk1, hk8⟩ := hk
          rw [hk] at hnum
          have hw2 : IntKind.i64.wrap ((first : Int) - 239) = ((first - 239 : Nat) : Int) := by rw [wrap64 (by omega) (by omega)]; omega
          have hkc : (247 < first → IntKind.i64.wrap ((first : Int) - 247) = (k : Int)) ∧ (¬ 247 < first → ((first - 239 : Nat) : Int) = (k : Int)) := by
            unfold decK at hk
            refine ⟨fun h => ?_, fun h => ?_⟩
            · rw [if_pos h] at hk; rw [wrap64 (by omega) (by omega)]; omega
            · rw [if_neg h] at hk; omega
          have hw3 : IntKind.i64.wrap (1 + (k : Int)) = ((1 + k : Nat) : Int) := by rw [wrap64 (by omega) (by omega)]; omega
          by_cases hlen2 : r.length < k
          · have hlt : (r.length : Int) + 1 < ((1 + k : Nat) : Int) := by omega
            have hltN : r.length + 1 < 1 + k := by omega
            rw [if_pos hlen2] at hnum
            by_cases h247 : 247 < first
            · have h247' : (247 : Int) < first := by omega
              have hk' := hkc.1 h247
              simp [slotOf, hw, hlv, hv.cell, hi1, hw1, h240', hw2, h247', hk', hw3, hlt, hltN, hr0, -pcall, -Int.natCast_add]
              refine hQ _ _ ?_
              exact ⟨_, by rw [hnum], by rw [hnum]; rfl⟩
            · have h247' : ¬ (247 : Int) < first := by omega
              have hk' := hkc.2 h247
              rw [hk'] at hw2
              simp [slotOf, hw, hlv, hv.cell, hi1, hw1, h240', hw2, h247', hw3, hlt, hltN, hr0, -pcall, -Int.natCast_add]
              refine hQ _ _ ?_
              exact ⟨_, by rw [hnum], by rw [hnum]; rfl⟩
          · have hlt : ¬ (r.length : Int) + 1 < ((1 + k : Nat) : Int) := by omega
            have hltN : ¬ r.length + 1 < 1 + k := by omega
            rw [if_neg hlen2] at hnum
            have hbl : (r.take k).length = k := by simp; omega
            have hbv := beVal_lt (r.take k)
            rw [hbl] at hbv
            have hbs0 : ∀ i : Nat, i < k → (r.take k)[i]? = r[i]? := fun i h => by simp [List.getElem?_take, h]
            generalize hbs : r.take k = bs at *
            have hfin : decLeast first bs = true → beVal bs < 2 ^ 63 → numR (some (b :: r)) = (if 247 < first then -1 - (beVal bs : Int) else (beVal bs : Int), some (r.drop k)) := fun h1 h2 => by
              rw [hnum, if_pos ⟨h1, h2⟩]
            have hbad : ¬ (decLeast first bs = true ∧ beVal bs < 2 ^ 63) → numR (some (b :: r)) = (0, none) := fun h => by
              rw [hnum, if_neg h]
            clear hnum hbs
            have hwr : ¬ (decLeast first bs = true ∧ beVal bs < 2 ^ 63) → Q (.ret (.tup [.int .i64 0, .agg [.nils, .bool false]])) [] := fun h => hQ _ _ ⟨_, by rw [hbad h], by rw [hbad h]; rfl⟩
            by_cases h247 : 247 < first
            case' pos =>
              have h247' : (247 : Int) < first := by omega
              have hk' := hkc.1 h247
              simp [slotOf, hw, hlv, hv.cell, hi1, hw1, h240', hw2, h247', hk', hw3, hlt, hltN, hr0, -pcall, -Int.natCast_add]
            case' neg =>
              have h247' : ¬ (247 : Int) < first := by omega
              have hk' := hkc.2 h247
              rw [hk'] at hw2
              simp [slotOf, hw, hlv, hv.cell, hi1, hw1, h240', hw2, h247', hw3, hlt, hltN, hr0, -pcall, -Int.natCast_add]
            all_goals
              refine loop_nQ k (fun j c => beVal (bs.take j) < 2 ^ 63 ∧ c = ⟨[.agg [v, .bool true], .agg [v, .bool true], .int .i64 0, .agg [.nils, .bool false], .int .i64 first, .int .i64 k, .int .i64 (beVal (bs.take j) : Nat), .int .i64 (j + 1 : Nat), .undef], [], none, none, []⟩) ?_ ⟨by simp [beVal], rfl⟩
              rintro I hI j c hj ⟨hj63, rfl⟩
              by_cases hlt : j < k
              · have hlt' : j + 1 ≤ k := by omega
                have hix := idx_bytes hv (i := j + 1) (by simp; omega)
                simp only [List.getElem_cons_succ] at hix
                have hri : r[j]'(by omega) = bs[j]'(by omega) := by
                  have := hbs0 j hlt
                  rw [List.getElem?_eq_getElem (by omega), List.getElem?_eq_getElem (by omega)] at this
                  exact (Option.some.inj this).symm
                rw [hri] at hix
                have hw4 : IntKind.i64.wrap (((j + 1 : Nat) : Int) + 1) = ((j + 1 + 1 : Nat) : Int) := by rw [wrap64 (by omega) (by omega)]; rfl
                have hti : bs.take (j + 1) = bs.take j ++ [bs[j]'(by omega)] := (List.take_append_getElem (by omega)).symm
                have hbt := beVal_take bs j (by omega)
                by_cases hbig : beVal (bs.take j) < 2 ^ 55
                · have hbig' : ¬ (36028797018963967 : Int) < (beVal (bs.take j) : Nat) := by omega
                  have hor := or_i64' (beVal (bs.take j)) (bs[j]'(by omega)).toNat hbig (UInt8.toNat_lt _)
                  have hcc := UInt8.toNat_lt (bs[j]'(by omega))
                  have hq := beVal_snoc (bs.take j) (bs[j]'(by omega))
                  rw [← hti] at hq
                  rw [← hq] at hor
                  generalize (bs[j]'(by omega)).toNat = cc at *
                  generalize beVal (bs.take j) = q at *
                  simp [hlt', hix, hor, IntKind.bits, hbig', hw4, -intBin, intBin_gtr, intBin_leq, intBin_add, -Int.natCast_add]
                  exact ⟨hlt, hI _ _ ⟨by omega, rfl⟩⟩
                · have hbig' : (36028797018963967 : Int) < (beVal (bs.take j) : Nat) := by omega
                  have h63 : ¬ beVal bs < 2 ^ 63 := by
                    obtain ⟨d, hd⟩ : ∃ d, bs.length - j = d + 1 := ⟨bs.length - j - 1, by omega⟩
                    rw [hd, Nat.pow_succ, ← Nat.mul_assoc] at hbt
                    have hp : 1 ≤ 256 ^ d := Nat.pow_pos (by omega)
                    have h1 : beVal (bs.take j) * 1 ≤ beVal (bs.take j) * 256 ^ d := Nat.mul_le_mul_left _ hp
                    omega
                  have hwr := hwr (fun h => h63 h.2)
                  generalize beVal (bs.take j) = q at *
                  simp [hlt', hbig', slotOf, hw, -pcall, -Int.natCast_add]
                  exact hwr
              · obtain rfl : j = k := by omega
                rw [List.take_of_length_le (by omega)] at hj63 ⊢
                have hlf := least_iff h240 hb hk hbl hj63
                have hw5 : IntKind.i64.wrap (-1 - (beVal bs : Int)) = -1 - (beVal bs : Int) := wrap64 (by omega) (by omega)
                have hjj : ¬ (j + 1 ≤ j) := by omega
                have hpn := rnum_pc (if 247 < first then -1 - (beVal bs : Int) else (beVal bs : Int)) (by unfold is64; split <;> omega) gl
                have hWlen : (numB (if 247 < first then -1 - (beVal bs : Int) else (beVal bs : Int))).length ≤ 9 := numB_le _ (by unfold is64; split <;> omega)
                have hWne : numB (if 247 < first then -1 - (beVal bs : Int) else (beVal bs : Int)) ≠ [] := numB_ne _
                generalize numB (if 247 < first then -1 - (beVal bs : Int) else (beVal bs : Int)) = W at *
                first
                  | rw [if_pos h247] at hpn hfin
                  | rw [if_neg h247] at hpn hfin
                obtain ⟨v3, e3, s3⟩ := slc_from hv (n := 1 + j) (by simp; omega) .i64
                rw [Nat.add_comm 1 j, List.drop_succ_cons] at s3
                have hrd : (r.drop j).length ≤ 200000 := by simp; omega
                cases W with
                | nil => exact absurd rfl hWne
                | cons w0 ws =>
                  have hix := idx_bytes (.sv false : SlV (bytesV (w0 :: ws)) (.sv (bytesV (w0 :: ws)) false)) (i := 0) (by simp)
                  simp only [List.getElem_cons_zero, Int.natCast_zero] at hix
                  simp only [List.length_cons, List.getElem?_cons_zero, Option.some.injEq] at hlf
                  have hlw : lenV (.sv (bytesV (w0 :: ws)) false) = some (.int .i64 ((ws.length + 1 : Nat) : Int)) := by simp [bytesV]
                  have hu : w0 = UInt8.ofNat first ↔ w0.toNat = first := by
                    constructor
                    · intro h; rw [h]; simp; omega
                    · intro h; rw [← h]; simp
                  rw [hu] at hlf
                  generalize w0.toNat = w at *
                  by_cases hA : ws.length + 1 = 1 + j
                  · by_cases hB : w = first
                    · have hok := hfin (hlf.2 ⟨hA, hB⟩) hj63
                      have hA' : ((ws.length + 1 : Nat) : Int) = ((1 + j : Nat) : Int) := by omega
                      simp [hjj, h247', hpn, hlw, hix, hw3, hA', hB, slotOf, hw5, hi1, hw1, hv.cell, hv.cells, e3, s3.cell, s3.cells, fill, -pcall, -Int.natCast_add]
                      refine hQ _ _ ⟨_, by rw [hok], ?_⟩
                      rw [hok]
                      exact ⟨v3, rfl, s3, hrd⟩
                    · have hno := hwr (fun h => hB (hlf.1 h.1).2)
                      have hA' : ((ws.length + 1 : Nat) : Int) = ((1 + j : Nat) : Int) := by omega
                      have hB' : ((w : Int) != (first : Int)) = true := by simp; omega
                      simp [hjj, h247', hpn, hlw, hix, hw3, hA', hB', slotOf, hw5, hi1, hw1, hw, hv.cell, -pcall, -Int.natCast_add]
                      exact hno
                  · have hno := hwr (fun h => hA (hlf.1 h.1).1)
                    have hA' : (((ws.length + 1 : Nat) : Int) != ((1 + j : Nat) : Int)) = true := by simp; omega
                    simp [hjj, h247', hpn, hlw, hw3, hA', slotOf, hw5, hw, -pcall, -Int.natCast_add]
                    exact hno
  obtain ⟨r, h', e, cs', rfl, hr'⟩ := OptP.ex key
  obtain ⟨v1, h1, _, hp, _⟩ := hr.form
  obtain ⟨v2, h2, _, _, hw2⟩ := hr'.form
  refine ⟨cs', pcall_of e (by simp [h1, pureL, pureV, hp]) ?_, hr'⟩
  rw [h2]
  simp [viewV, viewL, hw2]
end Go.Proofs.FileA
/- The reference's reader: counts and lists of numbers. -/
set_option linter.unusedVariables false
set_option linter.unusedSimpArgs false
namespace Go.Proofs.FileA
open Go Go.Am
variable {gl : Nat → List V}

/-- what is left behind a read -/
def st {α : Type} (dec : L → Option (α × L)) (o : Option L) : Option L := (o.bind dec).map (·.2)

theorem num_q (gl : Nat → List V) {o : Option L} {cs : List V} (hr : IsRest o cs) : ∃ n cs', pcall (lim gl Tryd.aprog) (.func (.func 80) [] []) [.agg cs] = some (.val (.tup [.int .i64 n, .agg cs'])) ∧
    IsRest (st decNum o) cs' ∧ is64 n ∧ ∀ a l', o.bind decNum = some (a, l') → n = a := by
  obtain ⟨cs', e, h⟩ := num80 gl hr
  refine ⟨_, cs', e, ?_⟩
  unfold numR at *
  unfold st
  cases hd : o.bind decNum with
  | none => rw [hd] at h; exact ⟨h, by unfold is64; simp, fun a l' hh => by cases hh⟩
  | some x =>
    obtain ⟨n, l'⟩ := x
    rw [hd] at h
    refine ⟨h, ?_, fun a l'' hh => by cases hh; rfl⟩
    cases o with
    | none => cases hd
    | some l => exact decNum_range hd

theorem pcall_tup {n : Nat} {as cs : List V} {x : V} {o : Option L} {h : Heap} (hp : pureL as = true) (hc : (lim gl Tryd.aprog).call n as [] = some (.ret (.tup [x, .agg cs]), h)) {y : V} (hv : viewV 0 h x = some y) (hr : IsRest o cs) :
    pcall (lim gl Tryd.aprog) (.func (.func n) [] []) as = some (.val (.tup [y, .agg cs])) := by
  obtain ⟨v2, h2, _, _, hw2⟩ := hr.form
  refine pcall_of hc hp ?_
  rw [h2]
  simp [viewV, viewL, hw2, hv]

theorem IsRest.pureL {o : Option L} {cs : List V} (h : IsRest o cs) : Go.Am.pureL cs = true := by
  obtain ⟨v2, h2, _, hp, _⟩ := h.form
  simp [h2, Go.Am.pureV, Go.Am.pureL, hp]

theorem count_q (gl : Nat → List V) {o : Option L} {cs : List V} (hr : IsRest o cs) : ∃ (m : Nat) (cs' : List V), pcall (lim gl Tryd.aprog) (.func (.func 81) [] []) [.agg cs] = some (.val (.tup [.int .i64 m, .agg cs'])) ∧
    IsRest (st decCount o) cs' ∧ m ≤ 200000 ∧ ((o.bind decCount = none ∧ m = 0) ∨ ∃ l', o.bind decCount = some (m, l') ∧ m ≤ l'.length) := by
  have hw := wrong_pc (gl := gl)
  obtain ⟨n, cs1, e, hr1, h64, hn⟩ := num_q gl hr
  have key : CallP gl Tryd.aprog 81 [.agg cs] [] (fun r h' => ∃ (m : Nat) (cs' : List V), r = .ret (.tup [.int .i64 m, .agg cs']) ∧ IsRest (st decCount o) cs' ∧ m ≤ 200000 ∧ ((o.bind decCount = none ∧ m = 0) ∨ ∃ l', o.bind decCount = some (m, l') ∧ m ≤ l'.length)) := by
    refine call_ofQ (af := Tryd.a81) rfl rfl fun Q hQ => ?_
    simp only [Tryd.a81]
    obtain ⟨v0, rfl, hv0, _, _⟩ := hr.form
    obtain ⟨v1, rfl, hv1, hp1, hw1⟩ := hr1.form
    cases hd : o.bind decNum with
    | none =>
      have hs : st decNum o = none := by simp [st, hd]
      have hdc : o.bind decCount = none := by
        cases o with
        | none => rfl
        | some l => simp only [Option.bind_some] at hd ⊢; simp [decCount, hd]
      rw [hs] at hr1 e
      simp only [IsRest] at hr1
      simp only [Option.isSome_none] at e hr1
      simp [e, hv0, hv1, hw, slotOf, -pcall]
      exact hQ _ _ ⟨0, _, rfl, by simp [st, hdc, IsRest], by omega, .inl ⟨hdc, rfl⟩⟩
    | some x =>
      obtain ⟨n', l1⟩ := x
      obtain rfl := hn _ _ hd
      have hs : st decNum o = some l1 := by simp [st, hd]
      cases o with
      | none => cases hd
      | some l =>
      simp only [Option.bind_some] at hd
      have hdc : (some l).bind decCount = if n < 0 ∨ (l1.length : Int) < n then none else some (n.toNat, l1) := by simp [decCount, hd]
      rw [hs] at hr1 e
      simp only [Option.isSome_some] at e hr1
      obtain ⟨v, hvv, sv, hl1⟩ := hr1
      obtain rfl : v1 = v := by simpa using hvv
      have hlv := sv.len
      rw [bytesV_length] at hlv
      by_cases hn0 : n < 0
      · rw [if_pos (.inl hn0)] at hdc
        simp [e, hv0, hv1, hw, slotOf, hn0, -pcall]
        exact hQ _ _ ⟨0, _, rfl, by simp only [st, hdc]; rfl, by omega, .inl ⟨hdc, rfl⟩⟩
      · by_cases hn1 : (l1.length : Int) < n
        · rw [if_pos (.inr hn1)] at hdc
          simp [e, hv0, hv1, hw, slotOf, hn0, hn1, hlv, -pcall]
          exact hQ _ _ ⟨0, _, rfl, by simp only [st, hdc]; rfl, by omega, .inl ⟨hdc, rfl⟩⟩
        · rw [if_neg (by omega)] at hdc
          simp [e, hv0, hv1, slotOf, hn0, hn1, hlv, -pcall]
          have hnn : n = (n.toNat : Nat) := by omega
          have h2 : n.toNat ≤ l1.length := by omega
          have h3 : n.toNat ≤ 200000 := by omega
          refine hQ _ _ ⟨n.toNat, _, by rw [← hnn], by simp only [st, hdc]; exact ⟨_, rfl, sv, hl1⟩, h3, .inr ⟨l1, hdc, h2⟩⟩
  obtain ⟨r, h', e2, m, cs', rfl, hr', hm, hx⟩ := OptP.ex key
  exact ⟨m, cs', pcall_tup (by simp [pureL, pureV, hr.pureL]) e2 (by simp [viewV]) hr', hr', hm, hx⟩

theorem list_q (gl : Nat → List V) {o : Option L} {cs : List V} (hr : IsRest o cs) : ∃ x cs', pcall (lim gl Tryd.aprog) (.func (.func 88) [] []) [.agg cs] = some (.val (.tup [x, .agg cs'])) ∧
    IsRest (st decList o) cs' ∧ (∃ es, x = .sv es false) ∧ ∀ a l', o.bind decList = some (a, l') → IsInts a x := by
  obtain ⟨m, cs1, e, hr1, hm, hc⟩ := count_q gl hr
  have key : CallP gl Tryd.aprog 88 [.agg cs] [] (fun r h' => ∃ x y cs', r = .ret (.tup [x, .agg cs']) ∧ viewV 0 h' x = some y ∧ IsRest (st decList o) cs' ∧ (∃ es, y = .sv es false) ∧ ∀ a l', o.bind decList = some (a, l') → IsInts a y) := by
    refine call_ofQ (af := Tryd.a88) rfl rfl fun Q hQ => ?_
    simp only [Tryd.a88]
    obtain ⟨v0, rfl, hv0, _, _⟩ := hr.form
    obtain ⟨v1, h1, hv1, hp1, hw1⟩ := hr1.form
    rw [h1] at e
    simp [e, hv0, hv1, fill, -pcall]
    refine loop_nQ m (fun i c => ∃ (es : List (List V)) (oi : Option L) (v : V) (a7 : V), c = ⟨[.agg [v0, .bool o.isSome], .agg [v, .bool oi.isSome], .nils, .agg [.nils, .bool false], slE 0 1 es, .int .i64 m, .int .i64 i, a7], [], none, none, [cellsE 1 es]⟩ ∧ es.length ≤ i ∧
      isCell v = true ∧ IsRest oi [v, .bool oi.isSome] ∧ (∀ e ∈ es, Cells 1 e) ∧ ((oi = none ∧ o.bind decList = none) ∨ ∃ l1 l2 as, oi = some l2 ∧ o.bind decCount = some (m, l1) ∧ decMany decNum i l1 = some (as, l2) ∧ es = intsV as ∧ ∀ n ∈ as, is64 n)) ?_
      ⟨[], st decCount o, v1, _, rfl, by simp, hv1, by rw [← h1]; exact hr1, by simp, ?_⟩
    · rintro I hI i c hi ⟨es, oi, v, a7, rfl, hel, hv, hri, hce, hcs⟩
      have stop : (oi = none ∧ o.bind decList = none) ∨ (∃ l1 l2 as, oi = some l2 ∧ o.bind decCount = some (m, l1) ∧ decMany decNum m l1 = some (as, l2) ∧ es = intsV as ∧ ∀ n ∈ as, is64 n) →
          Q (.ret (.tup [.sv es false, .agg [v, .bool oi.isSome]])) [.gone] := by
        intro hh
        refine hQ _ _ ⟨.sv es false, .sv es false, _, rfl, by simp [viewV], ?_, ⟨es, rfl⟩, ?_⟩
        · rcases hh with ⟨rfl, h2⟩ | ⟨l1, l2, as, rfl, h2, h3, h4⟩
          · simp only [st, h2]; exact hri
          · have : o.bind decList = some (as, l2) := by
              cases o with
              | none => cases h2
              | some l => simp only [Option.bind_some] at h2; simp [decList, decAll, h2, h3]
            simp only [st, this]; exact hri
        · intro a l' ha
          rcases hh with ⟨rfl, h2⟩ | ⟨l1, l2, as, rfl, h2, h3, rfl, h5⟩
          · rw [h2] at ha; cases ha
          · have : o.bind decList = some (as, l2) := by
              cases o with
              | none => cases h2
              | some l => simp only [Option.bind_some] at h2; simp [decList, decAll, h2, h3]
            rw [this] at ha
            cases ha
            have := decMany_len _ _ _ h3
            simp only at this
            exact ⟨.sv _, by unfold small; omega, h5⟩
      have hfz := ownE_frz (h := [cellsE 1 es]) (o := 0) (sz := 1) (es := es) rfl (fun e he => (hce e he).len) (fun e he => (hce e he).pure)
      simp only [List.set_cons_zero] at hfz
      cases oi with
      | none =>
        simp [hv, hfz, slotOf]
        have hh := hcs.resolve_right (by rintro ⟨_, _, _, h, _⟩; cases h)
        exact stop (.inl hh)
      | some l2 =>
        obtain ⟨l1, l2', as, h2, hdc, hdm, rfl, h64⟩ := hcs.resolve_left (by rintro ⟨h, _⟩; cases h)
        cases h2
        by_cases hlt : i < m
        · have hlt' : (i : Int) < m := by omega
          have hw3 : IntKind.i64.wrap ((i : Int) + 1) = ((i + 1 : Nat) : Int) := by rw [wrap64 (by omega) (by omega)]; rfl
          obtain ⟨n, cs2, e2, hr2, hn64, hn⟩ := num_q gl hri
          obtain ⟨v2, h2, hv2, _, _⟩ := hr2.form
          subst h2
          have happ := ownE_app (h := [cellsE 1 (intsV as)]) (o := 0) (sz := 1) (bytes := 8) (es := intsV as) (e := [.int .i64 n]) (ex := true) rfl rfl (by unfold room; omega)
          simp only [List.set_cons_zero] at happ
          simp only [Option.isSome_some] at e2
          simp [hv, hv2, hlt', e2, fill, chunks, happ, hw3, -pcall]
          refine ⟨hlt, hI _ _ ⟨intsV as ++ [[.int .i64 n]], st decNum (some l2), v2, _, rfl, by simp at hel ⊢; omega, hv2, hr2, ?_, ?_⟩⟩
          · intro e' he'
            rcases List.mem_append.1 he' with he' | he'
            · exact hce e' he'
            · rw [List.mem_singleton.1 he']; exact ⟨rfl, rfl, rfl⟩
          · have hsn := decMany_snoc (f := decNum) i l1
            rw [hdm, Option.bind_some] at hsn
            cases hd : decNum l2 with
            | none =>
              left
              refine ⟨by simp [st, hd], ?_⟩
              rw [hd] at hsn
              have := decMany_none hsn m (by omega)
              cases o with
              | none => rfl
              | some l => simp only [Option.bind_some] at hdc; simp [decList, decAll, hdc, this]
            | some x =>
              obtain ⟨n', l3⟩ := x
              obtain rfl := hn n' l3 (by simp [hd])
              rw [hd] at hsn
              right
              refine ⟨l1, l3, as ++ [n], by simp [st, hd], hdc, hsn, by simp [intsV], ?_⟩
              intro k hk
              rcases List.mem_append.1 hk with hk | hk
              · exact h64 k hk
              · rw [List.mem_singleton.1 hk]; exact hn64
        · obtain rfl : i = m := by omega
          simp [hv, hfz, slotOf]
          exact stop (.inr ⟨l1, l2, as, rfl, hdc, hdm, rfl, h64⟩)
    · rcases hc with ⟨hc, rfl⟩ | ⟨l1, hc, hm1⟩
      · left
        refine ⟨by simp [st, hc], ?_⟩
        cases o with
        | none => rfl
        | some l => simp only [Option.bind_some] at hc; simp [decList, decAll, hc]
      · right
        exact ⟨l1, l1, [], by simp [st, hc], hc, rfl, rfl, by simp⟩
  obtain ⟨r, h', e2, x, y, cs', rfl, hv, hr', hs, hx⟩ := OptP.ex key
  exact ⟨y, cs', pcall_tup (by simp [pureL, pureV, hr.pureL]) e2 hv hr', hr', hs, hx⟩
end Go.Proofs.FileA
/- The reference's reader: trees. -/
set_option linter.unusedVariables false
set_option linter.unusedSimpArgs false
namespace Go.Proofs.FileA
open Go Go.Am
variable {gl : Nat → List V}

/-- a list that grows in a field -/
def Grown (sz : Nat) (es : List (List V)) (v : V) (h : Heap) : Prop := (es = [] ∧ v = .nils ∧ h = []) ∨ (es ≠ [] ∧ v = slE 0 sz es ∧ h = [cellsE sz es])
theorem Grown.cell {sz : Nat} {es : List (List V)} {v : V} {h : Heap} (g : Grown sz es v h) : isCell v = true := by rcases g with ⟨_, rfl, _⟩ | ⟨_, rfl, _⟩ <;> rfl
theorem Grown.cells {sz : Nat} {es : List (List V)} {v : V} {h : Heap} (g : Grown sz es v h) : cellsV v = [v] := by rcases g with ⟨_, rfl, _⟩ | ⟨_, rfl, _⟩ <;> rfl
theorem Grown.app {sz : Nat} {es : List (List V)} {v : V} {h : Heap} (g : Grown sz es v h) {e : List V} {bytes : Nat} (he : e.length = sz) (hb : (es.length + 1) * bytes ≤ room) :
    ∃ v' h', appV h v (.sv [e] true) sz bytes = some (v', h') ∧ Grown sz (es ++ [e]) v' h' := by
  rcases g with ⟨rfl, rfl, rfl⟩ | ⟨_, rfl, rfl⟩
  · refine ⟨slE 0 sz [e], [cellsE sz [e]], ?_, .inr ⟨by simp, rfl, rfl⟩⟩
    have hb' : bytes ≤ room := by simpa using hb
    simp [appV, sliceLen, sliceCells, he, hb', slE, cellsE]
  · have := ownE_app (h := [cellsE sz es]) (o := 0) (bytes := bytes) (ex := true) rfl he hb
    rw [List.set_cons_zero] at this
    exact ⟨_, _, this, .inr ⟨by simp, rfl, rfl⟩⟩
theorem Grown.view {sz : Nat} {es : List (List V)} {v : V} {h : Heap} (g : Grown sz es v h) (h1 : ∀ e ∈ es, Cells sz e) : ∃ y, viewV 0 h v = some y ∧ SlV es y := by
  rcases g with ⟨rfl, rfl, rfl⟩ | ⟨_, rfl, rfl⟩
  · exact ⟨.nils, rfl, .nil rfl⟩
  · refine ⟨.sv es false, ?_, .sv false⟩
    simp [viewV, slE, objCells, cellsE, pureL_flatten (fun e he => (h1 e he).pure), chunks_flatten (fun e he => (h1 e he).len)]

theorem val_q : ∀ d : Nat, d < 1000 → ∀ (gl : Nat → List V) {o : Option L} {cs : List V}, IsRest o cs → ∃ ex cs', pcall (lim gl Tryd.aprog) (.func (.func 56) [] []) [.agg cs, .int .i64 d] = some (.val (.tup [.agg ex, .agg cs'])) ∧
    IsRest (st (decT 2 0 d) o) cs' ∧ Cells 3 ex ∧ ∀ a l', o.bind (decT 2 0 d) = some (a, l') → IsT 2 0 a ex := by
  intro d
  induction d with
  | zero =>
    intro _ gl o cs hr
    have hw := wrong_pc (gl := gl)
    have hn : o.bind (decT 2 0 0) = none := by cases o <;> rfl
    obtain ⟨v0, rfl, hv0, _, _⟩ := hr.form
    have key : CallP gl Tryd.aprog 56 [.agg [v0, .bool o.isSome], .int .i64 (0 : Nat)] [] (fun r h' => r = .ret (.tup [.agg [.int .i64 0, .int .i64 0, .nils], .agg [.nils, .bool false]])) := by
      refine call_ofQ (af := Tryd.a56) rfl rfl fun Q hQ => ?_
      simp only [Tryd.a56]
      simp [fill, hv0, hw, -pcall]
      exact hQ _ _ rfl
    obtain ⟨r, h', e2, rfl⟩ := OptP.ex key
    have hf : IsRest (st (decT 2 0 0) o) [.nils, .bool false] := by simp only [st, hn]; rfl
    refine ⟨_, _, pcall_tup (by simpa [pureL, pureV] using hr.pureL) e2 (by simp [viewV, viewL]; rfl) hf, hf, ⟨rfl, rfl, rfl⟩, fun a l' h => by rw [hn] at h; cases h⟩
  | succ d ih =>
    intro hdl gl o cs hr
    replace ih := ih (by omega)
    have hw2 : IntKind.i64.wrap ((d : Int) + 1 - 1) = (d : Int) := by rw [wrap64 (by omega) (by omega)]; omega
    have hw1 : IntKind.i64.wrap (d : Int) = (d : Int) := by rw [wrap64 (by omega) (by omega)]
    have hdz : ¬ ((d : Int) + 1 = 0) := by omega
    obtain ⟨n0, c0, e0, hr0, h640, hn0⟩ := num_q gl hr
    obtain ⟨n1, c1, e1, hr1, h641, hn1⟩ := num_q gl hr0
    obtain ⟨m, cm, em, hrm, hm, hc⟩ := count_q gl hr1
    have hst : ∀ om, om = st decCount (st decNum (st decNum (o))) →
        (om = none ∧ m = 0 ∧ o.bind (decT 2 0 (d + 1)) = none) ∨ ∃ l1, om = some l1 ∧ m ≤ l1.length ∧ o.bind (decT 2 0 (d + 1)) = (decMany (decT 2 0 d) m l1).map (fun w => (T.mk [n0, n1] [] w.1, w.2)) := by
      rintro om rfl
      cases o with
      | none => left; refine ⟨rfl, ?_, rfl⟩; rcases hc with ⟨_, h⟩ | ⟨l', h, _⟩; exact h; cases h
      | some l =>
        cases hd0 : decNum l with
        | none =>
          left
          have hcn : (st decNum (st decNum (some l))).bind decCount = none := by simp [st, hd0]
          refine ⟨by simp only [st] at hcn ⊢; rw [hcn]; rfl, ?_, by simp [decT, decMany, hd0]⟩
          rcases hc with ⟨_, h⟩ | ⟨l', h, _⟩
          · exact h
          · rw [hcn] at h; cases h
        | some x0 =>
        obtain ⟨k0, l0⟩ := x0
        have hs0 : st decNum (some l) = some l0 := by simp [st, hd0]
        obtain rfl : n0 = k0 := hn0 k0 l0 (by simp [st, hd0])
        cases hd1 : decNum l0 with
        | none =>
          left
          have hcn : (st decNum (st decNum (some l))).bind decCount = none := by simp [st, hd0, hd1]
          refine ⟨by simp only [st] at hcn ⊢; rw [hcn]; rfl, ?_, by simp [decT, decMany, hd0, hd1]⟩
          rcases hc with ⟨_, h⟩ | ⟨l', h, _⟩
          · exact h
          · rw [hcn] at h; cases h
        | some x1 =>
        obtain ⟨k1, l1⟩ := x1
        have hs1 : st decNum (some l0) = some l1 := by simp [st, hd0, hd1]
        obtain rfl : n1 = k1 := hn1 k1 l1 (by simp [st, hd0, hd1])
        rw [hs0, hs1] at hc
        simp only [Option.bind_some] at hc
        rcases hc with ⟨hc, rfl⟩ | ⟨l', hc, hml⟩
        · left; exact ⟨by simp [st, hd0, hd1, hc], rfl, by simp [decT, decMany, hd0, hd1, decAll, hc]⟩
        · right; exact ⟨l', by simp [st, hd0, hd1, hc], hml, by simp [decT, decMany, hd0, hd1, decAll, hc]⟩
    replace hst := hst _ rfl
    clear hc
    generalize st decCount (st decNum (st decNum (o))) = om at *
    obtain ⟨w0, rfl, hw_0, _, _⟩ := hr0.form
    obtain ⟨w1, rfl, hw_1, _, _⟩ := hr1.form
    obtain ⟨wm, rfl, hwm, _, _⟩ := hrm.form
    have hp0 := hr.pureL
    obtain ⟨v0, rfl, hv0, _, _⟩ := hr.form
    have key : CallP gl Tryd.aprog 56 [.agg [v0, .bool o.isSome], .int .i64 (d + 1 : Nat)] [] (fun r h' => ∃ x y cs', r = .ret (.tup [x, .agg cs']) ∧ viewV 0 h' x = some (.agg y) ∧ IsRest (st (decT 2 0 (d + 1)) o) cs' ∧ Cells 3 y ∧ ∀ a l', o.bind (decT 2 0 (d + 1)) = some (a, l') → IsT 2 0 a y) := by
      refine call_ofQ (af := Tryd.a56) rfl rfl fun Q hQ => ?_
      simp only [Tryd.a56]
      simp [hdz, hv0, hw_0, hw_1, hwm, e0, e1, em, fill, -pcall]
      refine loop_nQ m (fun i c => ∃ (es : List (List V)) (oi : Option L) (v vL a8 : V) (hh : Heap), c = ⟨[.agg [v0, .bool o.isSome], .int .i64 ((d : Int) + 1), .agg [v, .bool oi.isSome], .agg [.int .i64 0, .int .i64 0, .nils], .agg [.nils, .bool false], .agg [.int .i64 n0, .int .i64 n1, vL], .int .i64 m, .int .i64 i, a8], [], none, none, hh⟩ ∧
        es.length ≤ i ∧ isCell v = true ∧ IsRest oi [v, .bool oi.isSome] ∧ Grown 3 es vL hh ∧ (∀ e ∈ es, Cells 3 e) ∧ ((oi = none ∧ o.bind (decT 2 0 (d + 1)) = none) ∨ ∃ l1 l2 as, oi = some l2 ∧ o.bind (decT 2 0 (d + 1)) = (decMany (decT 2 0 d) m l1).map (fun w => (T.mk [n0, n1] [] w.1, w.2)) ∧ decMany (decT 2 0 d) i l1 = some (as, l2) ∧ All2 (IsT 2 0) as es)) ?_
        ⟨[], om, wm, .nils, _, _, rfl, by simp, hwm, hrm, .inl ⟨rfl, rfl, rfl⟩, by simp, ?_⟩
      · rintro I hI i c hi ⟨es, oi, v, vL, a8, hh, rfl, hel, hv, hri, hg, hce, hcs⟩
        have hgc := hg.cell
        have hgs := hg.cells
        have stop : (oi = none ∧ o.bind (decT 2 0 (d + 1)) = none) ∨ (∃ l1 l2 as, oi = some l2 ∧ o.bind (decT 2 0 (d + 1)) = (decMany (decT 2 0 d) m l1).map (fun w => (T.mk [n0, n1] [] w.1, w.2)) ∧ decMany (decT 2 0 d) m l1 = some (as, l2) ∧ All2 (IsT 2 0) as es) →
            Q (.ret (.tup [.agg [.int .i64 n0, .int .i64 n1, vL], .agg [v, .bool oi.isSome]])) hh := by
          intro hq
          obtain ⟨y, hy, sy⟩ := hg.view hce
          refine hQ _ _ ⟨_, [.int .i64 n0, .int .i64 n1, y], _, rfl, by simp [viewV, viewL, hy], ?_, ⟨rfl, by simp [sy.cell], by simp [pureL, pureV, sy.pure]⟩, ?_⟩
          · rcases hq with ⟨rfl, h2⟩ | ⟨l1, l2, as, rfl, h2, h3, h4⟩
            · simp only [st, h2]; exact hri
            · simp only [st, h2, h3]; exact hri
          · intro a l' ha
            rcases hq with ⟨rfl, h2⟩ | ⟨l1, l2, as, rfl, h2, h3, h4⟩
            · rw [h2] at ha; cases ha
            · rw [h2, h3] at ha
              cases ha
              have hlen := decMany_len _ _ _ h3
              simp only at hlen
              simp only [IsT]
              exact ⟨rfl, rfl, by simp [h640, h641], [], y, es, rfl, by simp [IsLists], sy, by unfold small; omega, isTs_of h4⟩
        cases oi with
        | none =>
          simp [hv, hgc, hgs, slotOf]
          have hq := hcs.resolve_right (by rintro ⟨_, _, _, h, _⟩; cases h)
          exact stop (.inl hq)
        | some l2 =>
          obtain ⟨l1, l2', as, h2, hdc, hdm, hall⟩ := hcs.resolve_left (by rintro ⟨h, _⟩; cases h)
          cases h2
          by_cases hlt : i < m
          · have hlt' : (i : Int) < m := by omega
            have hw3 : IntKind.i64.wrap ((i : Int) + 1) = ((i + 1 : Nat) : Int) := by rw [wrap64 (by omega) (by omega)]; rfl
            obtain ⟨ex, cs2, e2, hr2, hcx, hx⟩ := ih gl hri
            obtain ⟨v2, h2, hv2, _, _⟩ := hr2.form
            subst h2
            obtain ⟨vL', hh', happ, hg'⟩ := hg.app (e := ex) (bytes := 40) hcx.len (by unfold room; omega)
            have hgc' := hg'.cell
            have hgs' := hg'.cells
            simp only [Option.isSome_some] at e2
            have hdr : (ex ++ List.drop ex.length [.int .i64 0, .int .i64 0, .nils] : List V) = ex := by rw [hcx.len]; simp
            have htk : ex.take 3 = ex := List.take_of_length_le (by rw [hcx.len]; omega)
            simp [hv, hv2, hlt', e2, hw1, hw2, fill, chunks, happ, hw3, hcx.len, hcx.cell, hcx.pure, hdr, htk, hgc, hgs, hgc', hgs', -pcall, -List.all_eq_true]
            refine ⟨hlt, hI _ _ ⟨es ++ [ex], st (decT 2 0 d) (some l2), v2, vL', _, hh', rfl, by simp; omega, hv2, hr2, hg', ?_, ?_⟩⟩
            · intro e' he'
              rcases List.mem_append.1 he' with he' | he'
              · exact hce e' he'
              · rw [List.mem_singleton.1 he']; exact hcx
            · have hsn := decMany_snoc (f := decT 2 0 d) i l1
              rw [hdm, Option.bind_some] at hsn
              cases hd : decT 2 0 d l2 with
              | none =>
                left
                rw [hd] at hsn
                exact ⟨by simp [st, hd], by rw [hdc, decMany_none hsn m (by omega)]; rfl⟩
              | some x =>
                obtain ⟨t, l3⟩ := x
                rw [hd] at hsn
                exact .inr ⟨l1, l3, as ++ [t], by simp [st, hd], hdc, hsn, hall.snoc (hx t l3 (by simp [hd]))⟩
          · obtain rfl : i = m := by omega
            simp [hv, hgc, hgs, slotOf]
            exact stop (.inr ⟨l1, l2, as, rfl, hdc, hdm, hall⟩)
      · rcases hst with ⟨rfl, rfl, h⟩ | ⟨l1, rfl, hml, h⟩
        · exact .inl ⟨rfl, h⟩
        · exact .inr ⟨l1, l1, [], rfl, h, rfl, trivial⟩
    obtain ⟨r, h', e9, x, y, cs', rfl, hv, hr', hs, hx⟩ := OptP.ex key
    exact ⟨y, cs', pcall_tup (by simpa [pureL, pureV] using hp0) e9 hv hr', hr', hs, hx⟩

theorem exp_q : ∀ d : Nat, d < 1000 → ∀ (gl : Nat → List V) {o : Option L} {cs : List V}, IsRest o cs → ∃ ex cs', pcall (lim gl Tryd.aprog) (.func (.func 84) [] []) [.agg cs, .int .i64 d] = some (.val (.tup [.agg ex, .agg cs'])) ∧
    IsRest (st (decT 3 0 d) o) cs' ∧ Cells 4 ex ∧ ∀ a l', o.bind (decT 3 0 d) = some (a, l') → IsT 3 0 a ex := by
  intro d
  induction d with
  | zero =>
    intro _ gl o cs hr
    have hw := wrong_pc (gl := gl)
    have hn : o.bind (decT 3 0 0) = none := by cases o <;> rfl
    obtain ⟨v0, rfl, hv0, _, _⟩ := hr.form
    have key : CallP gl Tryd.aprog 84 [.agg [v0, .bool o.isSome], .int .i64 (0 : Nat)] [] (fun r h' => r = .ret (.tup [.agg [.int .i64 0, .int .i64 0, .int .i64 0, .nils], .agg [.nils, .bool false]])) := by
      refine call_ofQ (af := Tryd.a84) rfl rfl fun Q hQ => ?_
      simp only [Tryd.a84]
      simp [fill, hv0, hw, -pcall]
      exact hQ _ _ rfl
    obtain ⟨r, h', e2, rfl⟩ := OptP.ex key
    have hf : IsRest (st (decT 3 0 0) o) [.nils, .bool false] := by simp only [st, hn]; rfl
    refine ⟨_, _, pcall_tup (by simpa [pureL, pureV] using hr.pureL) e2 (by simp [viewV, viewL]; rfl) hf, hf, ⟨rfl, rfl, rfl⟩, fun a l' h => by rw [hn] at h; cases h⟩
  | succ d ih =>
    intro hdl gl o cs hr
    replace ih := ih (by omega)
    have hw2 : IntKind.i64.wrap ((d : Int) + 1 - 1) = (d : Int) := by rw [wrap64 (by omega) (by omega)]; omega
    have hw1 : IntKind.i64.wrap (d : Int) = (d : Int) := by rw [wrap64 (by omega) (by omega)]
    have hdz : ¬ ((d : Int) + 1 = 0) := by omega
    obtain ⟨n0, c0, e0, hr0, h640, hn0⟩ := num_q gl hr
    obtain ⟨n1, c1, e1, hr1, h641, hn1⟩ := num_q gl hr0
    obtain ⟨n2, c2, e2, hr2, h642, hn2⟩ := num_q gl hr1
    obtain ⟨m, cm, em, hrm, hm, hc⟩ := count_q gl hr2
    have hst : ∀ om, om = st decCount (st decNum (st decNum (st decNum (o)))) →
        (om = none ∧ m = 0 ∧ o.bind (decT 3 0 (d + 1)) = none) ∨ ∃ l1, om = some l1 ∧ m ≤ l1.length ∧ o.bind (decT 3 0 (d + 1)) = (decMany (decT 3 0 d) m l1).map (fun w => (T.mk [n0, n1, n2] [] w.1, w.2)) := by
      rintro om rfl
      cases o with
      | none => left; refine ⟨rfl, ?_, rfl⟩; rcases hc with ⟨_, h⟩ | ⟨l', h, _⟩; exact h; cases h
      | some l =>
        cases hd0 : decNum l with
        | none =>
          left
          have hcn : (st decNum (st decNum (st decNum (some l)))).bind decCount = none := by simp [st, hd0]
          refine ⟨by simp only [st] at hcn ⊢; rw [hcn]; rfl, ?_, by simp [decT, decMany, hd0]⟩
          rcases hc with ⟨_, h⟩ | ⟨l', h, _⟩
          · exact h
          · rw [hcn] at h; cases h
        | some x0 =>
        obtain ⟨k0, l0⟩ := x0
        have hs0 : st decNum (some l) = some l0 := by simp [st, hd0]
        obtain rfl : n0 = k0 := hn0 k0 l0 (by simp [st, hd0])
        cases hd1 : decNum l0 with
        | none =>
          left
          have hcn : (st decNum (st decNum (st decNum (some l)))).bind decCount = none := by simp [st, hd0, hd1]
          refine ⟨by simp only [st] at hcn ⊢; rw [hcn]; rfl, ?_, by simp [decT, decMany, hd0, hd1]⟩
          rcases hc with ⟨_, h⟩ | ⟨l', h, _⟩
          · exact h
          · rw [hcn] at h; cases h
        | some x1 =>
        obtain ⟨k1, l1⟩ := x1
        have hs1 : st decNum (some l0) = some l1 := by simp [st, hd0, hd1]
        obtain rfl : n1 = k1 := hn1 k1 l1 (by simp [st, hd0, hd1])
        cases hd2 : decNum l1 with
        | none =>
          left
          have hcn : (st decNum (st decNum (st decNum (some l)))).bind decCount = none := by simp [st, hd0, hd1, hd2]
          refine ⟨by simp only [st] at hcn ⊢; rw [hcn]; rfl, ?_, by simp [decT, decMany, hd0, hd1, hd2]⟩
          rcases hc with ⟨_, h⟩ | ⟨l', h, _⟩
          · exact h
          · rw [hcn] at h; cases h
        | some x2 =>
        obtain ⟨k2, l2⟩ := x2
        have hs2 : st decNum (some l1) = some l2 := by simp [st, hd0, hd1, hd2]
        obtain rfl : n2 = k2 := hn2 k2 l2 (by simp [st, hd0, hd1, hd2])
        rw [hs0, hs1, hs2] at hc
        simp only [Option.bind_some] at hc
        rcases hc with ⟨hc, rfl⟩ | ⟨l', hc, hml⟩
        · left; exact ⟨by simp [st, hd0, hd1, hd2, hc], rfl, by simp [decT, decMany, hd0, hd1, hd2, decAll, hc]⟩
        · right; exact ⟨l', by simp [st, hd0, hd1, hd2, hc], hml, by simp [decT, decMany, hd0, hd1, hd2, decAll, hc]⟩
    replace hst := hst _ rfl
    clear hc
    generalize st decCount (st decNum (st decNum (st decNum (o)))) = om at *
    obtain ⟨w0, rfl, hw_0, _, _⟩ := hr0.form
    obtain ⟨w1, rfl, hw_1, _, _⟩ := hr1.form
    obtain ⟨w2, rfl, hw_2, _, _⟩ := hr2.form
    obtain ⟨wm, rfl, hwm, _, _⟩ := hrm.form
    have hp0 := hr.pureL
    obtain ⟨v0, rfl, hv0, _, _⟩ := hr.form
    have key : CallP gl Tryd.aprog 84 [.agg [v0, .bool o.isSome], .int .i64 (d + 1 : Nat)] [] (fun r h' => ∃ x y cs', r = .ret (.tup [x, .agg cs']) ∧ viewV 0 h' x = some (.agg y) ∧ IsRest (st (decT 3 0 (d + 1)) o) cs' ∧ Cells 4 y ∧ ∀ a l', o.bind (decT 3 0 (d + 1)) = some (a, l') → IsT 3 0 a y) := by
      refine call_ofQ (af := Tryd.a84) rfl rfl fun Q hQ => ?_
      simp only [Tryd.a84]
      simp [hdz, hv0, hw_0, hw_1, hw_2, hwm, e0, e1, e2, em, fill, -pcall]
      refine loop_nQ m (fun i c => ∃ (es : List (List V)) (oi : Option L) (v vL a8 : V) (hh : Heap), c = ⟨[.agg [v0, .bool o.isSome], .int .i64 ((d : Int) + 1), .agg [v, .bool oi.isSome], .agg [.int .i64 0, .int .i64 0, .int .i64 0, .nils], .agg [.nils, .bool false], .agg [.int .i64 n0, .int .i64 n1, .int .i64 n2, vL], .int .i64 m, .int .i64 i, a8], [], none, none, hh⟩ ∧
        es.length ≤ i ∧ isCell v = true ∧ IsRest oi [v, .bool oi.isSome] ∧ Grown 4 es vL hh ∧ (∀ e ∈ es, Cells 4 e) ∧ ((oi = none ∧ o.bind (decT 3 0 (d + 1)) = none) ∨ ∃ l1 l2 as, oi = some l2 ∧ o.bind (decT 3 0 (d + 1)) = (decMany (decT 3 0 d) m l1).map (fun w => (T.mk [n0, n1, n2] [] w.1, w.2)) ∧ decMany (decT 3 0 d) i l1 = some (as, l2) ∧ All2 (IsT 3 0) as es)) ?_
        ⟨[], om, wm, .nils, _, _, rfl, by simp, hwm, hrm, .inl ⟨rfl, rfl, rfl⟩, by simp, ?_⟩
      · rintro I hI i c hi ⟨es, oi, v, vL, a8, hh, rfl, hel, hv, hri, hg, hce, hcs⟩
        have hgc := hg.cell
        have hgs := hg.cells
        have stop : (oi = none ∧ o.bind (decT 3 0 (d + 1)) = none) ∨ (∃ l1 l2 as, oi = some l2 ∧ o.bind (decT 3 0 (d + 1)) = (decMany (decT 3 0 d) m l1).map (fun w => (T.mk [n0, n1, n2] [] w.1, w.2)) ∧ decMany (decT 3 0 d) m l1 = some (as, l2) ∧ All2 (IsT 3 0) as es) →
            Q (.ret (.tup [.agg [.int .i64 n0, .int .i64 n1, .int .i64 n2, vL], .agg [v, .bool oi.isSome]])) hh := by
          intro hq
          obtain ⟨y, hy, sy⟩ := hg.view hce
          refine hQ _ _ ⟨_, [.int .i64 n0, .int .i64 n1, .int .i64 n2, y], _, rfl, by simp [viewV, viewL, hy], ?_, ⟨rfl, by simp [sy.cell], by simp [pureL, pureV, sy.pure]⟩, ?_⟩
          · rcases hq with ⟨rfl, h2⟩ | ⟨l1, l2, as, rfl, h2, h3, h4⟩
            · simp only [st, h2]; exact hri
            · simp only [st, h2, h3]; exact hri
          · intro a l' ha
            rcases hq with ⟨rfl, h2⟩ | ⟨l1, l2, as, rfl, h2, h3, h4⟩
            · rw [h2] at ha; cases ha
            · rw [h2, h3] at ha
              cases ha
              have hlen := decMany_len _ _ _ h3
              simp only at hlen
              simp only [IsT]
              exact ⟨rfl, rfl, by simp [h640, h641, h642], [], y, es, rfl, by simp [IsLists], sy, by unfold small; omega, isTs_of h4⟩
        cases oi with
        | none =>
          simp [hv, hgc, hgs, slotOf]
          have hq := hcs.resolve_right (by rintro ⟨_, _, _, h, _⟩; cases h)
          exact stop (.inl hq)
        | some l2 =>
          obtain ⟨l1, l2', as, h2, hdc, hdm, hall⟩ := hcs.resolve_left (by rintro ⟨h, _⟩; cases h)
          cases h2
          by_cases hlt : i < m
          · have hlt' : (i : Int) < m := by omega
            have hw3 : IntKind.i64.wrap ((i : Int) + 1) = ((i + 1 : Nat) : Int) := by rw [wrap64 (by omega) (by omega)]; rfl
            obtain ⟨ex, cs2, e2, hr2, hcx, hx⟩ := ih gl hri
            obtain ⟨v2, h2, hv2, _, _⟩ := hr2.form
            subst h2
            obtain ⟨vL', hh', happ, hg'⟩ := hg.app (e := ex) (bytes := 48) hcx.len (by unfold room; omega)
            have hgc' := hg'.cell
            have hgs' := hg'.cells
            simp only [Option.isSome_some] at e2
            have hdr : (ex ++ List.drop ex.length [.int .i64 0, .int .i64 0, .int .i64 0, .nils] : List V) = ex := by rw [hcx.len]; simp
            have htk : ex.take 4 = ex := List.take_of_length_le (by rw [hcx.len]; omega)
            simp [hv, hv2, hlt', e2, hw1, hw2, fill, chunks, happ, hw3, hcx.len, hcx.cell, hcx.pure, hdr, htk, hgc, hgs, hgc', hgs', -pcall, -List.all_eq_true]
            refine ⟨hlt, hI _ _ ⟨es ++ [ex], st (decT 3 0 d) (some l2), v2, vL', _, hh', rfl, by simp; omega, hv2, hr2, hg', ?_, ?_⟩⟩
            · intro e' he'
              rcases List.mem_append.1 he' with he' | he'
              · exact hce e' he'
              · rw [List.mem_singleton.1 he']; exact hcx
            · have hsn := decMany_snoc (f := decT 3 0 d) i l1
              rw [hdm, Option.bind_some] at hsn
              cases hd : decT 3 0 d l2 with
              | none =>
                left
                rw [hd] at hsn
                exact ⟨by simp [st, hd], by rw [hdc, decMany_none hsn m (by omega)]; rfl⟩
              | some x =>
                obtain ⟨t, l3⟩ := x
                rw [hd] at hsn
                exact .inr ⟨l1, l3, as ++ [t], by simp [st, hd], hdc, hsn, hall.snoc (hx t l3 (by simp [hd]))⟩
          · obtain rfl : i = m := by omega
            simp [hv, hgc, hgs, slotOf]
            exact stop (.inr ⟨l1, l2, as, rfl, hdc, hdm, hall⟩)
      · rcases hst with ⟨rfl, rfl, h⟩ | ⟨l1, rfl, hml, h⟩
        · exact .inl ⟨rfl, h⟩
        · exact .inr ⟨l1, l1, [], rfl, h, rfl, trivial⟩
    obtain ⟨r, h', e9, x, y, cs', rfl, hv, hr', hs, hx⟩ := OptP.ex key
    exact ⟨y, cs', pcall_tup (by simpa [pureL, pureV] using hp0) e9 hv hr', hr', hs, hx⟩
end Go.Proofs.FileA
/- The reference's reader: code. -/
set_option linter.unusedVariables false
set_option linter.unusedSimpArgs false
namespace Go.Proofs.FileA
open Go Go.Am
variable {gl : Nat → List V}

/-- one read behind the other -/
def sq {α β : Type} (f : L → Option (α × L)) (g : L → Option (β × L)) (l : L) : Option ((α × β) × L) := (f l).bind fun x => (g x.2).map fun y => ((x.1, y.1), y.2)
def mapD {α β : Type} (h : α → β) (f : L → Option (α × L)) (l : L) : Option (β × L) := (f l).map fun x => (h x.1, x.2)
theorem st_sq {α β : Type} (f : L → Option (α × L)) (g : L → Option (β × L)) (o : Option L) : st (sq f g) o = st g (st f o) := by
  cases o with
  | none => rfl
  | some l =>
    simp only [st, sq, Option.bind_some]
    cases f l with
    | none => rfl
    | some x =>
      simp only [Option.bind_some, Option.map_some]
      cases g x.2 <;> rfl
theorem st_mapD {α β : Type} (h : α → β) (f : L → Option (α × L)) (o : Option L) : st (mapD h f) o = st f o := by
  cases o with
  | none => rfl
  | some l =>
    simp only [st, mapD, Option.bind_some]
    cases f l <;> rfl
theorem bind_sq {α β : Type} {f : L → Option (α × L)} {g : L → Option (β × L)} {o : Option L} {p : α × β} {l' : L} (h : o.bind (sq f g) = some (p, l')) :
    ∃ l1, o.bind f = some (p.1, l1) ∧ (st f o).bind g = some (p.2, l') := by
  cases o with
  | none => cases h
  | some l =>
    simp only [sq, st, Option.bind_some, Option.bind_eq_some_iff, Option.map_eq_some_iff] at h ⊢
    obtain ⟨x, h1, y, h2, h3⟩ := h
    cases h3
    exact ⟨x.2, h1, x.2, ⟨x, h1, rfl⟩, h2⟩
theorem bind_mapD {α β : Type} {h : α → β} {f : L → Option (α × L)} {o : Option L} {b : β} {l' : L} (e : o.bind (mapD h f) = some (b, l')) : ∃ a, o.bind f = some (a, l') ∧ b = h a := by
  cases o with
  | none => cases e
  | some l =>
    simp only [mapD, Option.bind_some, Option.map_eq_some_iff] at e ⊢
    obtain ⟨x, h1, h3⟩ := e
    cases h3
    exact ⟨x.1, h1, rfl⟩
theorem decT22 (d : Nat) : decT 2 2 (d + 1) = mapD (fun p => T.mk [p.1, p.2.1] [p.2.2.1, p.2.2.2.1] p.2.2.2.2) (sq decNum (sq decNum (sq decList (sq decList (decCode d))))) := by
  funext l
  simp only [decT, decMany, mapD, sq, decCode]
  cases decNum l with
  | none => rfl
  | some a =>
    simp only [Option.bind_some, Option.map_some]
    cases decNum a.2 with
    | none => rfl
    | some b =>
      simp only [Option.bind_some, Option.map_some]
      cases decList b.2 with
      | none => rfl
      | some x =>
        simp only [Option.bind_some, Option.map_some]
        cases decList x.2 with
        | none => rfl
        | some y =>
          simp only [Option.bind_some, Option.map_some]
          cases decAll (decT 2 2 d) y.2 <;> rfl

theorem code_none {o : Option L} {d : Nat} (h : o.bind decCount = none) : o.bind (decCode d) = none := by
  cases o with
  | none => rfl
  | some l => simp only [Option.bind_some] at h ⊢; simp [decCode, decAll, h]
theorem code_some {o : Option L} {d m : Nat} {l1 : L} (h : o.bind decCount = some (m, l1)) : o.bind (decCode d) = decMany (decT 2 2 d) m l1 := by
  cases o with
  | none => cases h
  | some l => simp only [Option.bind_some] at h ⊢; simp [decCode, decAll, h]

/-- what getCode gives -/
def CodeQ (d : Nat) : Prop := ∀ (gl : Nat → List V) {o : Option L} {cs : List V}, IsRest o cs → ∃ x cs', pcall (lim gl Tryd.aprog) (.func (.func 87) [] []) [.agg cs, .int .i64 d] = some (.val (.tup [x, .agg cs'])) ∧
    IsRest (st (decCode d) o) cs' ∧ isCell x = true ∧ pureV x = true ∧ ∀ a l', o.bind (decCode d) = some (a, l') → ∃ es, SlV es x ∧ IsTs 2 2 a es ∧ small a.length

theorem cells_of {x : V} (h : isCell x = true) : cellsV x = [x] := by
  cases x <;> first | rfl | simp at h
/-- one instruction -/
theorem ins_q {d : Nat} (ih : CodeQ d) (gl : Nat → List V) {o : Option L} {cs : List V} (hr : IsRest o cs) :
    ∃ n0 c0 n1 c1 x2 c2 x3 c3 x4 c4, pcall (lim gl Tryd.aprog) (.func (.func 80) [] []) [.agg cs] = some (.val (.tup [.int .i64 n0, .agg c0])) ∧
      pcall (lim gl Tryd.aprog) (.func (.func 80) [] []) [.agg c0] = some (.val (.tup [.int .i64 n1, .agg c1])) ∧
      pcall (lim gl Tryd.aprog) (.func (.func 88) [] []) [.agg c1] = some (.val (.tup [.sv x2 false, .agg c2])) ∧
      pcall (lim gl Tryd.aprog) (.func (.func 88) [] []) [.agg c2] = some (.val (.tup [.sv x3 false, .agg c3])) ∧
      pcall (lim gl Tryd.aprog) (.func (.func 87) [] []) [.agg c3, .int .i64 d] = some (.val (.tup [x4, .agg c4])) ∧
      (∃ o0, IsRest o0 c0) ∧ (∃ o0, IsRest o0 c1) ∧ (∃ o0, IsRest o0 c2) ∧ (∃ o0, IsRest o0 c3) ∧
      IsRest (st (decT 2 2 (d + 1)) o) c4 ∧ isCell x4 = true ∧ Cells 5 [.int .i64 n0, .int .i64 n1, .sv x2 false, .sv x3 false, x4] ∧
      ∀ a l', o.bind (decT 2 2 (d + 1)) = some (a, l') → IsT 2 2 a [.int .i64 n0, .int .i64 n1, .sv x2 false, .sv x3 false, x4] := by
  obtain ⟨n0, c0, e0, hr0, h640, hn0⟩ := num_q gl hr
  obtain ⟨n1, c1, e1, hr1, h641, hn1⟩ := num_q gl hr0
  obtain ⟨_, c2, e2, hr2, ⟨x2, rfl⟩, hx2⟩ := list_q gl hr1
  obtain ⟨_, c3, e3, hr3, ⟨x3, rfl⟩, hx3⟩ := list_q gl hr2
  obtain ⟨x4, c4, e4, hr4, hc4, hp4, hx4⟩ := ih gl hr3
  refine ⟨n0, c0, n1, c1, x2, c2, x3, c3, x4, c4, e0, e1, e2, e3, e4, ⟨_, hr0⟩, ⟨_, hr1⟩, ⟨_, hr2⟩, ⟨_, hr3⟩, ?_, hc4, ⟨rfl, by simp [hc4], by simp [pureL, pureV, hp4]⟩, ?_⟩
  · rw [decT22, st_mapD, st_sq, st_sq, st_sq, st_sq]; exact hr4
  · intro a l' h
    rw [decT22] at h
    obtain ⟨p, b, rfl⟩ := bind_mapD h
    obtain ⟨l0, a0, b0⟩ := bind_sq b
    obtain ⟨l1, a1, b1⟩ := bind_sq b0
    obtain ⟨l2, a2, b2⟩ := bind_sq b1
    obtain ⟨l3, a3, b3⟩ := bind_sq b2
    have := hn0 _ _ a0
    have := hn1 _ _ a1
    subst n0; subst n1
    obtain ⟨es, s4, t4, m4⟩ := hx4 _ _ b3
    simp only [IsT]
    exact ⟨rfl, rfl, by simp [h640, h641], [.sv x2 false, .sv x3 false], x4, es, rfl, ⟨_, _, rfl, hx2 _ _ a2, _, _, rfl, hx3 _ _ a3, rfl⟩, s4, m4, t4⟩

theorem code_head {o : Option L} {m : Nat} (d : Nat) (hc : (o.bind decCount = none ∧ m = 0) ∨ ∃ l', o.bind decCount = some (m, l') ∧ m ≤ l'.length) : ∀ om, om = st decCount o →
    (om = none ∧ m = 0 ∧ o.bind (decCode d) = none) ∨ ∃ l1, om = some l1 ∧ o.bind (decCode d) = decMany (decT 2 2 d) m l1 := by
  rintro om rfl
  rcases hc with ⟨h1, h2⟩ | ⟨l1, h1, _⟩
  · exact .inl ⟨by simp [st, h1], h2, code_none h1⟩
  · exact .inr ⟨l1, by simp [st, h1], code_some h1⟩
/-- what the end of getCode is -/
def CodeEnd (d : Nat) (o : Option L) (r : R) (h' : Heap) : Prop := ∃ x y cs', r = .ret (.tup [x, .agg cs']) ∧ viewV 0 h' x = some y ∧ IsRest (st (decCode d) o) cs' ∧ isCell y = true ∧ pureV y = true ∧ ∀ a l', o.bind (decCode d) = some (a, l') → ∃ es, SlV es y ∧ IsTs 2 2 a es ∧ small a.length
theorem code_stop {d m : Nat} {o oi : Option L} {es : List (List V)} {v : V} (hri : IsRest oi [v, .bool oi.isSome]) (hm : m ≤ 200000)
    (hq : (oi = none ∧ o.bind (decCode d) = none) ∨ (∃ l1 l2 as, oi = some l2 ∧ o.bind (decCode d) = decMany (decT 2 2 d) m l1 ∧ decMany (decT 2 2 d) m l1 = some (as, l2) ∧ All2 (IsT 2 2) as es)) :
    CodeEnd d o (.ret (.tup [.sv es false, .agg [v, .bool oi.isSome]])) [.gone] := by
  refine ⟨_, .sv es false, _, rfl, by simp [viewV], ?_, rfl, rfl, ?_⟩
  · rcases hq with ⟨rfl, h2⟩ | ⟨l1, l2, as, rfl, h2, h3, h4⟩
    · simp only [st, h2]; exact hri
    · simp only [st, h2, h3]; exact hri
  · intro a l' ha
    rcases hq with ⟨rfl, h2⟩ | ⟨l1, l2, as, rfl, h2, h3, h4⟩
    · rw [h2] at ha; cases ha
    · rw [h2, h3] at ha
      cases ha
      have hlen := decMany_len _ _ _ h3
      simp only at hlen
      exact ⟨es, .sv false, isTs_of h4, by unfold small; omega⟩
theorem code_q : ∀ d : Nat, d < 1000 → CodeQ d := by
  intro d
  induction d with
  | zero =>
    intro _ gl o cs hr
    have hw := wrong_pc (gl := gl)
    obtain ⟨m, cm, em, hrm, hm, hc⟩ := count_q gl hr
    have hst := code_head 0 hc _ rfl
    clear hc
    generalize st decCount o = om at *
    obtain ⟨v0, rfl, hv0, _, _⟩ := hr.form
    have key : CallP gl Tryd.aprog 87 [.agg [v0, .bool o.isSome], .int .i64 (0 : Nat)] [] (CodeEnd 0 o) := by
      refine call_ofQ (af := Tryd.a87) rfl rfl fun Q hQ => ?_
      simp only [Tryd.a87]
      obtain ⟨vm, h1, hvm, _, _⟩ := hrm.form
      subst h1
      have hd0 : m = 0 ∨ 0 < m := by omega
      rcases hd0 with rfl | hm0
      · simp [fill, hv0, hvm, em, -pcall]
        refine loop_nQ 0 (fun i c => c = ⟨[.agg [v0, .bool o.isSome], .int .i64 0, .agg [vm, .bool om.isSome], .nils, .agg [.nils, .bool false], slE 0 5 [], .int .i64 0, .int .i64 0, .undef], [], none, none, [cellsE 5 []]⟩) ?_ rfl
        rintro I hI i c hi rfl
        have hfz := ownE_frz (h := [cellsE 5 []]) (o := 0) (sz := 5) (es := []) rfl (by simp) (by simp)
        simp only [List.set_cons_zero] at hfz
        have hq := hQ _ _ (code_stop (d := 0) (m := 0) (o := o) (es := []) (v := vm) hrm (by omega) (by
          rcases hst with ⟨h1, _, h2⟩ | ⟨l1, h1, h2⟩
          · exact .inl ⟨h1, h2⟩
          · exact .inr ⟨l1, l1, [], h1, h2, rfl, trivial⟩))
        cases om with
        | none => simp [hvm, hfz, slotOf]; exact hq
        | some l => simp [hvm, hfz, slotOf]; exact hq
      · have hno : o.bind (decCode 0) = none := by
          rcases hst with ⟨_, _, h1⟩ | ⟨l1, _, h1⟩
          · exact h1
          · rw [h1]
            obtain ⟨k, rfl⟩ : ∃ k, m = k + 1 := ⟨m - 1, by omega⟩
            rfl
        have hm0' : (0 : Int) < m := by omega
        simp [fill, hv0, hvm, em, hm0, hm0', hw, -pcall]
        exact hQ _ _ ⟨.nils, .nils, _, rfl, by simp [viewV], by simp only [st, hno]; rfl, rfl, rfl, fun a l' ha => by rw [hno] at ha; cases ha⟩
    obtain ⟨r, h', e2, x, y, cs', rfl, hv, hr', h1, h2, h3⟩ := OptP.ex key
    exact ⟨y, cs', pcall_tup (by simpa [pureL, pureV] using hr.pureL) e2 hv hr', hr', h1, h2, h3⟩
  | succ d ih =>
    intro hdl gl o cs hr
    replace ih := ih (by omega)
    have hw2 : IntKind.i64.wrap ((d : Int) + 1 - 1) = (d : Int) := by rw [wrap64 (by omega) (by omega)]; omega
    have hw1 : IntKind.i64.wrap (d : Int) = (d : Int) := by rw [wrap64 (by omega) (by omega)]
    have hdz : (((d : Int) + 1) == 0) = false := by simp; omega
    obtain ⟨m, cm, em, hrm, hm, hc⟩ := count_q gl hr
    have hst := code_head (d + 1) hc _ rfl
    clear hc
    generalize st decCount o = om at *
    have hp0 := hr.pureL
    obtain ⟨v0, rfl, hv0, _, _⟩ := hr.form
    obtain ⟨vm, rfl, hvm, _, _⟩ := hrm.form
    have key : CallP gl Tryd.aprog 87 [.agg [v0, .bool o.isSome], .int .i64 (d + 1 : Nat)] [] (CodeEnd (d + 1) o) := by
      refine call_ofQ (af := Tryd.a87) rfl rfl fun Q hQ => ?_
      simp only [Tryd.a87]
      simp [fill, hv0, hvm, em, hdz, slotOf, -pcall]
      refine loop_nQ m (fun i c => ∃ (es : List (List V)) (oi : Option L) (v a8 : V), c = ⟨[.agg [v0, .bool o.isSome], .int .i64 ((d : Int) + 1), .agg [v, .bool oi.isSome], .nils, .agg [.nils, .bool false], slE 0 5 es, .int .i64 m, .int .i64 i, a8], [], none, none, [cellsE 5 es]⟩ ∧
        es.length ≤ i ∧ isCell v = true ∧ IsRest oi [v, .bool oi.isSome] ∧ (∀ e ∈ es, Cells 5 e) ∧ ((oi = none ∧ o.bind (decCode (d + 1)) = none) ∨ ∃ l1 l2 as, oi = some l2 ∧ o.bind (decCode (d + 1)) = decMany (decT 2 2 (d + 1)) m l1 ∧ decMany (decT 2 2 (d + 1)) i l1 = some (as, l2) ∧ All2 (IsT 2 2) as es)) ?_
        ⟨[], om, vm, _, rfl, by simp, hvm, hrm, by simp, ?_⟩
      · rintro I hI i c hi ⟨es, oi, v, a8, rfl, hel, hv, hri, hce, hcs⟩
        have hfz := ownE_frz (h := [cellsE 5 es]) (o := 0) (sz := 5) (es := es) rfl (fun e he => (hce e he).len) (fun e he => (hce e he).pure)
        simp only [List.set_cons_zero] at hfz
        have stop := fun hq => hQ _ _ (code_stop (d := d + 1) (m := m) (o := o) (es := es) hri hm hq)
        cases oi with
        | none =>
          simp [hv, hfz, slotOf]
          have hq := hcs.resolve_right (by rintro ⟨_, _, _, h, _⟩; cases h)
          exact stop (.inl hq)
        | some l2 =>
          obtain ⟨l1, l2', as, h2, hdc, hdm, hall⟩ := hcs.resolve_left (by rintro ⟨h, _⟩; cases h)
          cases h2
          by_cases hlt : i < m
          · have hlt' : (i : Int) < m := by omega
            have hw3 : IntKind.i64.wrap ((i : Int) + 1) = ((i + 1 : Nat) : Int) := by rw [wrap64 (by omega) (by omega)]; rfl
            obtain ⟨n0, c0, n1, c1, x2, c2, x3, c3, x4, c4, e0, e1, e2, e3, e4, ⟨o0, h0⟩, ⟨o1, h1⟩, ⟨o2, h2⟩, ⟨o3, h3⟩, hr5, hc4, hcx, hx⟩ := ins_q ih gl hri
            obtain ⟨a0, rfl, f0, _, _⟩ := h0.form
            obtain ⟨a1, rfl, f1, _, _⟩ := h1.form
            obtain ⟨a2, rfl, f2, _, _⟩ := h2.form
            obtain ⟨a3, rfl, f3, _, _⟩ := h3.form
            obtain ⟨v2, h5, hv2, _, _⟩ := hr5.form
            subst h5
            have happ := ownE_app (h := [cellsE 5 es]) (o := 0) (sz := 5) (bytes := 88) (es := es) (e := [.int .i64 n0, .int .i64 n1, .sv x2 false, .sv x3 false, x4]) (ex := true) rfl rfl (by unfold room; omega)
            simp only [List.set_cons_zero] at happ
            simp only [Option.isSome_some] at e0
            have hp5 := hcx.pure
            have hs4 := cells_of hc4
            simp only [pureL, pureV, Bool.true_and, Bool.and_true] at hp5
            simp [hv, hv2, hlt', e0, e1, e2, e3, e4, f0, f1, f2, f3, hc4, hs4, hp5, hw1, hw2, fill, chunks, happ, hw3, -pcall, -List.all_eq_true]
            refine ⟨hlt, hI _ _ ⟨es ++ [_], st (decT 2 2 (d + 1)) (some l2), v2, _, rfl, by simp; omega, hv2, hr5, ?_, ?_⟩⟩
            · intro e' he'
              rcases List.mem_append.1 he' with he' | he'
              · exact hce e' he'
              · rw [List.mem_singleton.1 he']; exact hcx
            · have hsn := decMany_snoc (f := decT 2 2 (d + 1)) i l1
              rw [hdm, Option.bind_some] at hsn
              cases hd : decT 2 2 (d + 1) l2 with
              | none =>
                left
                rw [hd] at hsn
                exact ⟨by simp [st, hd], by rw [hdc, decMany_none hsn m (by omega)]⟩
              | some x =>
                obtain ⟨t, l3⟩ := x
                rw [hd] at hsn
                exact .inr ⟨l1, l3, as ++ [t], by simp [st, hd], hdc, hsn, hall.snoc (hx t l3 (by simp [hd]))⟩
          · obtain rfl : i = m := by omega
            simp [hv, hfz, slotOf]
            exact stop (.inr ⟨l1, l2, as, rfl, hdc, hdm, hall⟩)
      · rcases hst with ⟨rfl, rfl, h⟩ | ⟨l1, rfl, h⟩
        · exact .inl ⟨rfl, h⟩
        · exact .inr ⟨l1, l1, [], rfl, h, rfl, trivial⟩
    obtain ⟨r, h', e9, x, y, cs', rfl, hv, hr', h1, h2, h3⟩ := OptP.ex key
    exact ⟨y, cs', pcall_tup (by simpa [pureL, pureV] using hp0) e9 hv hr', hr', h1, h2, h3⟩
end Go.Proofs.FileA
/- The reference's reader: vector programs and logs. -/
set_option linter.unusedVariables false
set_option linter.unusedSimpArgs false
namespace Go.Proofs.FileA
open Go Go.Am
variable {gl : Nat → List V}

/-- where the reading of a list is, after so many of its elements -/
def AllI {α : Type} (dec : L → Option (α × L)) (R : α → List V → Prop) (o : Option L) (m i : Nat) (oi : Option L) (es : List (List V)) : Prop :=
  (oi = none ∧ o.bind (decAll dec) = none) ∨ ∃ l1 l2 as, oi = some l2 ∧ o.bind (decAll dec) = decMany dec m l1 ∧ decMany dec i l1 = some (as, l2) ∧ All2 R as es
theorem AllI.head {α : Type} {dec : L → Option (α × L)} {R : α → List V → Prop} {o : Option L} {m : Nat} (hc : (o.bind decCount = none ∧ m = 0) ∨ ∃ l', o.bind decCount = some (m, l') ∧ m ≤ l'.length) : AllI dec R o m 0 (st decCount o) [] := by
  cases o with
  | none => exact .inl ⟨rfl, rfl⟩
  | some l =>
    simp only [Option.bind_some] at hc
    rcases hc with ⟨h1, h2⟩ | ⟨l1, h1, _⟩
    · exact .inl ⟨by simp [st, h1], by simp [decAll, h1]⟩
    · exact .inr ⟨l1, l1, [], by simp [st, h1], by simp [decAll, h1], rfl, trivial⟩
theorem AllI.step {α : Type} {dec : L → Option (α × L)} {R : α → List V → Prop} {o : Option L} {m i : Nat} {l2 : L} {es : List (List V)} {e : List V} (h : AllI dec R o m i (some l2) es) (hlt : i < m)
    (hx : ∀ t l3, (some l2).bind dec = some (t, l3) → R t e) : AllI dec R o m (i + 1) (st dec (some l2)) (es ++ [e]) := by
  obtain ⟨l1, l2', as, h2, hdc, hdm, hall⟩ := h.resolve_left (by rintro ⟨h, _⟩; cases h)
  cases h2
  have hsn := decMany_snoc (f := dec) i l1
  rw [hdm, Option.bind_some] at hsn
  cases hd : dec l2 with
  | none =>
    rw [hd] at hsn
    exact .inl ⟨by simp [st, hd], by rw [hdc, decMany_none hsn m (by omega)]⟩
  | some x =>
    obtain ⟨t, l3⟩ := x
    rw [hd] at hsn
    exact .inr ⟨l1, l3, as ++ [t], by simp [st, hd], hdc, hsn, hall.snoc (hx t l3 (by simp [hd]))⟩
theorem AllI.none {α : Type} {dec : L → Option (α × L)} {R : α → List V → Prop} {o : Option L} {m i : Nat} {es : List (List V)} (h : AllI dec R o m i none es) : AllI dec R o m m none es :=
  .inl (h.resolve_right (by rintro ⟨_, _, _, h, _⟩; cases h))
theorem AllI.stop {α : Type} {dec : L → Option (α × L)} {R : α → List V → Prop} {o : Option L} {m : Nat} {oi : Option L} {es : List (List V)} (h : AllI dec R o m m oi es) (hm : m ≤ 200000) :
    oi = st (decAll dec) o ∧ ∀ a l', o.bind (decAll dec) = some (a, l') → All2 R a es ∧ small a.length := by
  rcases h with ⟨rfl, h2⟩ | ⟨l1, l2, as, rfl, h2, h3, h4⟩
  · exact ⟨by simp [st, h2], fun a l' ha => by rw [h2] at ha; cases ha⟩
  · refine ⟨by simp only [st]; rw [h2, h3]; rfl, fun a l' ha => ?_⟩
    rw [h2, h3] at ha
    cases ha
    have hlen := decMany_len _ _ _ h3
    simp only at hlen
    exact ⟨h4, by unfold small; omega⟩

theorem decVecFun_eq : decVecFun = mapD (fun p => (⟨p.1, p.2.1, p.2.2.1, p.2.2.2⟩ : VecFunT)) (sq decNum (sq (decCode 60) (sq decList decList))) := by
  funext l
  simp only [decVecFun, mapD, sq]
  cases decNum l with
  | none => rfl
  | some a =>
    simp only [Option.bind_some, Option.map_some]
    cases decCode 60 a.2 with
    | none => rfl
    | some b =>
      simp only [Option.bind_some, Option.map_some]
      cases decList b.2 with
      | none => rfl
      | some x =>
        simp only [Option.bind_some, Option.map_some]
        cases decList x.2 <;> rfl
theorem decVec_eq : decVec = mapD (fun p => (⟨p.1, p.2⟩ : VecT)) (sq (decAll decVecFun) decNum) := by
  funext l
  simp only [decVec, mapD, sq]
  cases decAll decVecFun l with
  | none => rfl
  | some a =>
    simp only [Option.bind_some, Option.map_some]
    cases decNum a.2 <;> rfl
theorem decProg_eq : decProg = mapD (fun p => (⟨p.1, p.2⟩ : ProgT)) (sq (decAll decFun) decNum) := by
  funext l
  simp only [decProg, mapD, sq]
  cases decAll decFun l with
  | none => rfl
  | some a =>
    simp only [Option.bind_some, Option.map_some]
    cases decNum a.2 <;> rfl
theorem decLog_eq : decLog = mapD (fun p => (⟨p.1, p.2.1, p.2.2⟩ : LogT)) (sq decNum (sq decList decList)) := by
  funext l
  simp only [decLog, mapD, sq]
  cases decNum l with
  | none => rfl
  | some a =>
    simp only [Option.bind_some, Option.map_some]
    cases decList a.2 with
    | none => rfl
    | some x =>
      simp only [Option.bind_some, Option.map_some]
      cases decList x.2 <;> rfl

/-- one function -/
theorem vf_q (gl : Nat → List V) {o : Option L} {cs : List V} (hr : IsRest o cs) :
    ∃ n0 c0 x1 c1 x2 c2 x3 c3, pcall (lim gl Tryd.aprog) (.func (.func 80) [] []) [.agg cs] = some (.val (.tup [.int .i64 n0, .agg c0])) ∧
      pcall (lim gl Tryd.aprog) (.func (.func 87) [] []) [.agg c0, .int .i64 60] = some (.val (.tup [x1, .agg c1])) ∧
      pcall (lim gl Tryd.aprog) (.func (.func 88) [] []) [.agg c1] = some (.val (.tup [.sv x2 false, .agg c2])) ∧
      pcall (lim gl Tryd.aprog) (.func (.func 88) [] []) [.agg c2] = some (.val (.tup [.sv x3 false, .agg c3])) ∧
      (∃ o0, IsRest o0 c0) ∧ (∃ o0, IsRest o0 c1) ∧ (∃ o0, IsRest o0 c2) ∧
      IsRest (st decVecFun o) c3 ∧ isCell x1 = true ∧ Cells 4 [.int .i64 n0, x1, .sv x2 false, .sv x3 false] ∧
      ∀ a l', o.bind decVecFun = some (a, l') → IsVecFun a [.int .i64 n0, x1, .sv x2 false, .sv x3 false] := by
  obtain ⟨n0, c0, e0, hr0, h640, hn0⟩ := num_q gl hr
  obtain ⟨x1, c1, e1, hr1, hc1, hp1, hx1⟩ := code_q 60 (by omega) gl hr0
  obtain ⟨_, c2, e2, hr2, ⟨x2, rfl⟩, hx2⟩ := list_q gl hr1
  obtain ⟨_, c3, e3, hr3, ⟨x3, rfl⟩, hx3⟩ := list_q gl hr2
  refine ⟨n0, c0, x1, c1, x2, c2, x3, c3, e0, e1, e2, e3, ⟨_, hr0⟩, ⟨_, hr1⟩, ⟨_, hr2⟩, ?_, hc1, ⟨rfl, by simp [hc1], by simp [pureL, pureV, hp1]⟩, ?_⟩
  · rw [decVecFun_eq, st_mapD, st_sq, st_sq, st_sq]; exact hr3
  · intro a l' h
    rw [decVecFun_eq] at h
    obtain ⟨p, b, rfl⟩ := bind_mapD h
    obtain ⟨l0, a0, b0⟩ := bind_sq b
    obtain ⟨l1, a1, b1⟩ := bind_sq b0
    obtain ⟨l2, a2, b2⟩ := bind_sq b1
    have := hn0 _ _ a0
    subst n0
    obtain ⟨es, s1, t1, m1⟩ := hx1 _ _ a1
    exact ⟨⟨_, _, _, es, rfl, s1, t1, hx2 _ _ a2, hx3 _ _ b2⟩, h640, m1⟩

theorem log_q (gl : Nat → List V) {o : Option L} {cs : List V} (hr : IsRest o cs) : ∃ ex cs', pcall (lim gl Tryd.aprog) (.func (.func 66) [] []) [.agg cs] = some (.val (.tup [.agg ex, .agg cs'])) ∧
    IsRest (st decLog o) cs' ∧ Cells 3 ex ∧ ∀ a l', o.bind decLog = some (a, l') → IsLog a ex := by
  obtain ⟨n0, c0, e0, hr0, h640, hn0⟩ := num_q gl hr
  obtain ⟨_, c2, e2, hr2, ⟨x2, rfl⟩, hx2⟩ := list_q gl hr0
  obtain ⟨_, c3, e3, hr3, ⟨x3, rfl⟩, hx3⟩ := list_q gl hr2
  have hp0 := hr.pureL
  obtain ⟨v0, rfl, hv0, _, _⟩ := hr.form
  obtain ⟨a0, rfl, f0, _, _⟩ := hr0.form
  obtain ⟨a2, rfl, f2, _, _⟩ := hr2.form
  have hr4 : IsRest (st decLog o) c3 := by rw [decLog_eq, st_mapD, st_sq, st_sq]; exact hr3
  obtain ⟨a3, rfl, f3, _, _⟩ := hr3.form
  have key : CallP gl Tryd.aprog 66 [.agg [v0, .bool o.isSome]] [] (fun r h' => r = .ret (.tup [.agg [.int .i64 n0, .sv x2 false, .sv x3 false], .agg [a3, .bool (st decList (st decList (st decNum o))).isSome]])) := by
    refine call_ofQ (af := Tryd.a66) rfl rfl fun Q hQ => ?_
    simp only [Tryd.a66]
    simp [hv0, f0, f2, f3, e0, e2, e3, fill, -pcall]
    exact hQ _ _ rfl
  obtain ⟨r, h', e9, rfl⟩ := OptP.ex key
  refine ⟨_, _, pcall_tup (by simpa [pureL, pureV] using hp0) e9 (by simp [viewV, viewL]; rfl) hr4, hr4, ⟨rfl, rfl, rfl⟩, ?_⟩
  intro a l' h
  rw [decLog_eq] at h
  obtain ⟨p, b, rfl⟩ := bind_mapD h
  obtain ⟨l0, b0, b1⟩ := bind_sq b
  obtain ⟨l1, b2, b3⟩ := bind_sq b1
  have := hn0 _ _ b0
  subst n0
  exact ⟨⟨_, _, rfl, hx2 _ _ b2, hx3 _ _ b3⟩, h640⟩

theorem vec_q (gl : Nat → List V) {o : Option L} {cs : List V} (hr : IsRest o cs) : ∃ ex cs', pcall (lim gl Tryd.aprog) (.func (.func 63) [] []) [.agg cs] = some (.val (.tup [.agg ex, .agg cs'])) ∧
    IsRest (st decVec o) cs' ∧ Cells 2 ex ∧ ∀ a l', o.bind decVec = some (a, l') → IsVec a ex := by
  obtain ⟨m, cm, em, hrm, hm, hc⟩ := count_q gl hr
  have hst := AllI.head (dec := decVecFun) (R := IsVecFun) hc
  clear hc
  generalize st decCount o = om at *
  have hp0 := hr.pureL
  obtain ⟨v0, rfl, hv0, _, _⟩ := hr.form
  obtain ⟨vm, rfl, hvm, _, _⟩ := hrm.form
  have key : CallP gl Tryd.aprog 63 [.agg [v0, .bool o.isSome]] [] (fun r h' => ∃ x y cs', r = .ret (.tup [x, .agg cs']) ∧ viewV 0 h' x = some (.agg y) ∧ IsRest (st decVec o) cs' ∧ Cells 2 y ∧ ∀ a l', o.bind decVec = some (a, l') → IsVec a y) := by
    refine call_ofQ (af := Tryd.a63) rfl rfl fun Q hQ => ?_
    simp only [Tryd.a63]
    simp [hv0, hvm, em, fill, -pcall]
    refine loop_nQ m (fun i c => ∃ (es : List (List V)) (oi : Option L) (v vL a8 : V) (hh : Heap), c = ⟨[.agg [v0, .bool o.isSome], .agg [v, .bool oi.isSome], .agg [.nils, .int .i64 0], .agg [.nils, .bool false], .agg [vL, .int .i64 0], .int .i64 m, .int .i64 i, a8], [], none, none, hh⟩ ∧
      es.length ≤ i ∧ isCell v = true ∧ IsRest oi [v, .bool oi.isSome] ∧ Grown 4 es vL hh ∧ (∀ e ∈ es, Cells 4 e) ∧ AllI decVecFun IsVecFun o m i oi es) ?_
      ⟨[], om, vm, .nils, _, _, rfl, by simp, hvm, hrm, .inl ⟨rfl, rfl, rfl⟩, by simp, hst⟩
    rintro I hI i c hi ⟨es, oi, v, vL, a8, hh, rfl, hel, hv, hri, hg, hce, hcs⟩
    have hgc := hg.cell
    have hgs := hg.cells
    obtain ⟨n0, c0, e0, hr0, h640, hn0⟩ := num_q gl hri
    obtain ⟨w0, h0, f0, _, _⟩ := hr0.form
    have stop : AllI decVecFun IsVecFun o m m oi es → Q (.ret (.tup [.agg [vL, .int .i64 n0], .agg [w0, .bool (st decNum oi).isSome]])) hh := by
      intro hq
      obtain ⟨hoi, hq⟩ := hq.stop hm
      obtain ⟨y, hy, sy⟩ := hg.view hce
      refine hQ _ _ ⟨_, [y, .int .i64 n0], _, rfl, by simp [viewV, viewL, hy], ?_, ⟨rfl, by simp [sy.cell], by simp [pureL, pureV, sy.pure]⟩, ?_⟩
      · rw [decVec_eq, st_mapD, st_sq, ← hoi, ← h0]; exact hr0
      · intro a l' h
        rw [decVec_eq] at h
        obtain ⟨p, b, rfl⟩ := bind_mapD h
        obtain ⟨l1, b0, b1⟩ := bind_sq b
        rw [← hoi] at b1
        have := hn0 _ _ b1
        subst n0
        obtain ⟨q1, q2⟩ := hq _ _ b0
        exact ⟨⟨y, es, rfl, sy, q1⟩, h640, q2⟩
    subst h0
    cases oi with
    | none =>
      simp only [Option.isSome_none] at e0
      simp [hv, hgc, hgs, slotOf, e0, f0, -pcall]
      exact stop hcs.none
    | some l2 =>
      by_cases hlt : i < m
      · have hlt' : (i : Int) < m := by omega
        have hw3 : IntKind.i64.wrap ((i : Int) + 1) = ((i + 1 : Nat) : Int) := by rw [wrap64 (by omega) (by omega)]; rfl
        clear stop e0 hr0 hn0 f0
        obtain ⟨n0, c0, x1, c1, x2, c2, x3, c3, e0, e1, e2, e3, ⟨o0, h0⟩, ⟨o1, h1⟩, ⟨o2, h2⟩, hr5, hc1, hcx, hx⟩ := vf_q gl hri
        obtain ⟨a0, rfl, f0, _, _⟩ := h0.form
        obtain ⟨a1, rfl, f1, _, _⟩ := h1.form
        obtain ⟨a2, rfl, f2, _, _⟩ := h2.form
        obtain ⟨v2, h5, hv2, _, _⟩ := hr5.form
        subst h5
        obtain ⟨vL', hh', happ, hg'⟩ := hg.app (e := [.int .i64 n0, x1, .sv x2 false, .sv x3 false]) (bytes := 80) rfl (by unfold room; omega)
        have hgc' := hg'.cell
        have hgs' := hg'.cells
        have hs1 := cells_of hc1
        have hp5 := hcx.pure
        simp only [pureL, pureV, Bool.true_and, Bool.and_true] at hp5
        simp only [Option.isSome_some] at e0
        simp [hv, hv2, hlt', e0, e1, e2, e3, f0, f1, f2, hc1, hs1, hp5, fill, chunks, happ, hw3, hgc, hgs, hgc', hgs', -pcall, -List.all_eq_true]
        refine ⟨hlt, hI _ _ ⟨es ++ [_], st decVecFun (some l2), v2, vL', _, hh', rfl, by simp; omega, hv2, hr5, hg', ?_, hcs.step hlt hx⟩⟩
        intro e' he'
        rcases List.mem_append.1 he' with he' | he'
        · exact hce e' he'
        · rw [List.mem_singleton.1 he']; exact hcx
      · obtain rfl : i = m := by omega
        simp only [Option.isSome_some] at e0
        simp [hv, hgc, hgs, slotOf, e0, f0, -pcall]
        exact stop hcs
  obtain ⟨r, h', e9, x, y, cs', rfl, hv, hr', hs, hx⟩ := OptP.ex key
  exact ⟨y, cs', pcall_tup (by simpa [pureL, pureV] using hp0) e9 hv hr', hr', hs, hx⟩
end Go.Proofs.FileA
/- The reference's reader: programs. -/
set_option linter.unusedVariables false
set_option linter.unusedSimpArgs false
namespace Go.Proofs.FileA
open Go Go.Am
variable {gl : Nat → List V}

theorem decFun_eq : decFun = mapD (fun p => (⟨p.1, p.2.1, p.2.2⟩ : FunT)) (sq decText (sq decNum (decT 3 0 60))) := by
  funext l
  simp only [decFun, mapD, sq]
  cases decText l with
  | none => rfl
  | some a =>
    simp only [Option.bind_some, Option.map_some]
    cases decNum a.2 with
    | none => rfl
    | some b =>
      simp only [Option.bind_some, Option.map_some]
      cases decT 3 0 60 b.2 <;> rfl

/-- a name, and what is left behind it -/
theorem text_q (gl : Nat → List V) {o : Option L} {cs : List V} (hr : IsRest o cs) : ∃ (m : Nat) (c1 : List V) (nm : ByteArray) (c2 : List V), pcall (lim gl Tryd.aprog) (.func (.func 81) [] []) [.agg cs] = some (.val (.tup [.int .i64 m, .agg c1])) ∧ IsRest (st decCount o) c1 ∧
    IsRest (st decText o) c2 ∧ (∀ a l', o.bind decText = some (a, l') → nm = ⟨a.toArray⟩ ∧ small a.length) ∧
    ((c1 = [.nils, .bool false] ∧ c2 = c1 ∧ nm = ⟨#[]⟩) ∨ ∃ v w1 w2, c1 = [v, .bool true] ∧ c2 = [w2, .bool true] ∧ isCell v = true ∧ isCell w2 = true ∧ cellsV w2 = [w2] ∧ slcV v none (some (.int .i64 m)) none false 1 = some w1 ∧ slcV v (some (.int .i64 m)) none none false 1 = some w2 ∧
      ∀ (h : Heap) (f : Opd → V) (x : Opd), f x = w1 → lopV (lim gl Tryd.aprog) h f (.b2s x) = some (.val (.str nm))) := by
  obtain ⟨m, c1, em, hr1, hm, hc⟩ := count_q gl hr
  rcases hc with ⟨hc, rfl⟩ | ⟨l1, hc, hml⟩
  · have hn : o.bind decText = none := by
      cases o with
      | none => rfl
      | some l => simp only [Option.bind_some] at hc ⊢; simp [decText, hc]
    have h1 : st decCount o = none := by simp [st, hc]
    have h2 : st decText o = none := by simp [st, hn]
    have h3 := hr1
    rw [h1] at h3
    simp only [IsRest] at h3
    exact ⟨0, c1, ⟨#[]⟩, c1, em, hr1, by rw [h2]; exact h3, fun a l' h => (by rw [hn] at h; cases h), .inl ⟨h3, rfl, rfl⟩⟩
  · have h1 : st decCount o = some l1 := by simp [st, hc]
    have hd : o.bind decText = some (l1.take m, l1.drop m) := by
      cases o with
      | none => cases hc
      | some l => simp only [Option.bind_some] at hc ⊢; simp [decText, hc]
    have h2 : st decText o = some (l1.drop m) := by simp [st, hd]
    have h3 := hr1
    rw [h1] at h3
    obtain ⟨v, rfl, sv, hl⟩ := h3
    obtain ⟨w1, e1, s1⟩ := slc_to sv hml .i64
    obtain ⟨w2, e2, s2⟩ := slc_from sv hml .i64
    refine ⟨m, _, ⟨(l1.take m).toArray⟩, [w2, .bool true], em, hr1, by rw [h2]; exact ⟨w2, rfl, s2, by simp; omega⟩, fun a l' h => ?_, .inr ⟨v, w1, w2, rfl, rfl, sv.cell, s2.cell, s2.cells, e1, e2, fun h f x hx => b2s_ok s1 h (lim gl Tryd.aprog) f x hx⟩⟩
    rw [hd] at h
    cases h
    exact ⟨rfl, by unfold small; simp; omega⟩

/-- one function -/
theorem f_q (gl : Nat → List V) {o : Option L} {cs : List V} (hr : IsRest o cs) : ∃ (m : Nat) (c1 : List V) (nm : ByteArray) (c2 : List V) (k : Int) (c3 ex c4 : List V), pcall (lim gl Tryd.aprog) (.func (.func 81) [] []) [.agg cs] = some (.val (.tup [.int .i64 m, .agg c1])) ∧
    pcall (lim gl Tryd.aprog) (.func (.func 80) [] []) [.agg c2] = some (.val (.tup [.int .i64 k, .agg c3])) ∧
    pcall (lim gl Tryd.aprog) (.func (.func 84) [] []) [.agg c3, .int .i64 60] = some (.val (.tup [.agg ex, .agg c4])) ∧
    (∃ o1, IsRest o1 c1) ∧ (∃ o2, IsRest o2 c2) ∧ (∃ o3, IsRest o3 c3) ∧ IsRest (st decFun o) c4 ∧
    ((c1 = [.nils, .bool false] ∧ c2 = c1 ∧ nm = ⟨#[]⟩) ∨ ∃ v w1 w2, c1 = [v, .bool true] ∧ c2 = [w2, .bool true] ∧ isCell v = true ∧ isCell w2 = true ∧ cellsV w2 = [w2] ∧ slcV v none (some (.int .i64 m)) none false 1 = some w1 ∧ slcV v (some (.int .i64 m)) none none false 1 = some w2 ∧
      ∀ (h : Heap) (f : Opd → V) (x : Opd), f x = w1 → lopV (lim gl Tryd.aprog) h f (.b2s x) = some (.val (.str nm))) ∧
    Cells 4 ex ∧ Cells 6 (.str nm :: .int .i64 k :: ex) ∧ ∀ a l', o.bind decFun = some (a, l') → IsFun a (.str nm :: .int .i64 k :: ex) := by
  obtain ⟨m, c1, nm, c2, e1, hr1, hr2, hnm, hfm⟩ := text_q gl hr
  obtain ⟨k, c3, e3, hr3, h64, hk⟩ := num_q gl hr2
  obtain ⟨ex, c4, e4, hr4, hcx, hx⟩ := exp_q 60 (by omega) gl hr3
  refine ⟨m, c1, nm, c2, k, c3, ex, c4, e1, e3, e4, ⟨_, hr1⟩, ⟨_, hr2⟩, ⟨_, hr3⟩, ?_, hfm, hcx, ?_, ?_⟩
  · rw [decFun_eq, st_mapD, st_sq, st_sq]; exact hr4
  · have h1 := hcx.len
    have h2 := hcx.cell
    have h3 := hcx.pure
    exact ⟨by simp [h1], by simp [h2, -List.all_eq_true], by simp [pureL, pureV, h3]⟩
  · intro a l' h
    rw [decFun_eq] at h
    obtain ⟨p, b, rfl⟩ := bind_mapD h
    obtain ⟨l0, a0, b0⟩ := bind_sq b
    obtain ⟨l1, a1, b1⟩ := bind_sq b0
    obtain ⟨rfl, hs⟩ := hnm _ _ a0
    have := hk _ _ a1
    subst k
    exact ⟨⟨ex, rfl, hx _ _ b1⟩, h64, hs⟩

theorem prog_q (gl : Nat → List V) {o : Option L} {cs : List V} (hr : IsRest o cs) : ∃ ex cs', pcall (lim gl Tryd.aprog) (.func (.func 60) [] []) [.agg cs] = some (.val (.tup [.agg ex, .agg cs'])) ∧
    IsRest (st decProg o) cs' ∧ Cells 2 ex ∧ ∀ a l', o.bind decProg = some (a, l') → IsProg a ex := by
  obtain ⟨m, cm, em, hrm, hm, hc⟩ := count_q gl hr
  have hst := AllI.head (dec := decFun) (R := IsFun) hc
  clear hc
  generalize st decCount o = om at *
  have hp0 := hr.pureL
  obtain ⟨v0, rfl, hv0, _, _⟩ := hr.form
  obtain ⟨vm, rfl, hvm, _, _⟩ := hrm.form
  have key : CallP gl Tryd.aprog 60 [.agg [v0, .bool o.isSome]] [] (fun r h' => ∃ x y cs', r = .ret (.tup [x, .agg cs']) ∧ viewV 0 h' x = some (.agg y) ∧ IsRest (st decProg o) cs' ∧ Cells 2 y ∧ ∀ a l', o.bind decProg = some (a, l') → IsProg a y) := by
    refine call_ofQ (af := Tryd.a60) rfl rfl fun Q hQ => ?_
    simp only [Tryd.a60]
    simp [hv0, hvm, em, fill, -pcall]
    refine loop_nQ m (fun i c => ∃ (es : List (List V)) (oi : Option L) (v vL a7 a8 : V) (hh : Heap), c = ⟨[.agg [v0, .bool o.isSome], .agg [v, .bool oi.isSome], .agg [.nils, .int .i64 0], .agg [.nils, .bool false], .agg [vL, .int .i64 0], .int .i64 m, .int .i64 i, a7, a8], [], none, none, hh⟩ ∧
      es.length ≤ i ∧ isCell v = true ∧ IsRest oi [v, .bool oi.isSome] ∧ Grown 6 es vL hh ∧ (∀ e ∈ es, Cells 6 e) ∧ AllI decFun IsFun o m i oi es) ?_
      ⟨[], om, vm, .nils, _, _, _, rfl, by simp, hvm, hrm, .inl ⟨rfl, rfl, rfl⟩, by simp, hst⟩
    rintro I hI i c hi ⟨es, oi, v, vL, a7, a8, hh, rfl, hel, hv, hri, hg, hce, hcs⟩
    have hgc := hg.cell
    have hgs := hg.cells
    obtain ⟨n0, c0, e0, hr0, h640, hn0⟩ := num_q gl hri
    obtain ⟨w0, h0, f0, _, _⟩ := hr0.form
    have stop : AllI decFun IsFun o m m oi es → Q (.ret (.tup [.agg [vL, .int .i64 n0], .agg [w0, .bool (st decNum oi).isSome]])) hh := by
      intro hq
      obtain ⟨hoi, hq⟩ := hq.stop hm
      obtain ⟨y, hy, sy⟩ := hg.view hce
      refine hQ _ _ ⟨_, [y, .int .i64 n0], _, rfl, by simp [viewV, viewL, hy], ?_, ⟨rfl, by simp [sy.cell], by simp [pureL, pureV, sy.pure]⟩, ?_⟩
      · rw [decProg_eq, st_mapD, st_sq, ← hoi, ← h0]; exact hr0
      · intro a l' h
        rw [decProg_eq] at h
        obtain ⟨p, b, rfl⟩ := bind_mapD h
        obtain ⟨l1, b0, b1⟩ := bind_sq b
        rw [← hoi] at b1
        have := hn0 _ _ b1
        subst n0
        obtain ⟨q1, q2⟩ := hq _ _ b0
        exact ⟨⟨y, es, rfl, sy, q1⟩, h640, q2⟩
    subst h0
    cases oi with
    | none =>
      simp only [Option.isSome_none] at e0
      simp [hv, hgc, hgs, slotOf, e0, f0, -pcall]
      exact stop hcs.none
    | some l2 =>
      by_cases hlt : i < m
      · have hlt' : (i : Int) < m := by omega
        have hw3 : IntKind.i64.wrap ((i : Int) + 1) = ((i + 1 : Nat) : Int) := by rw [wrap64 (by omega) (by omega)]; rfl
        clear stop e0 hr0 hn0 f0
        obtain ⟨m1, c1, nm, c2, k1, c3, ex, c4, e1, e3, e4, ⟨o1, hr1⟩, ⟨o2, hr2⟩, ⟨o3, hr3⟩, hr5, hfm, hex, hcx, hx⟩ := f_q gl hri
        obtain ⟨a3, rfl, f3, _, _⟩ := hr3.form
        obtain ⟨v2, h5, hv2, _, _⟩ := hr5.form
        subst h5
        have hlen4 : ex.length = 4 := hex.len
        obtain ⟨b0, b1, b2, b3, rfl⟩ : ∃ b0 b1 b2 b3, ex = [b0, b1, b2, b3] := by
          match ex, hlen4 with
          | [b0, b1, b2, b3], _ => exact ⟨b0, b1, b2, b3, rfl⟩
        obtain ⟨vL', hh', happ, hg'⟩ := hg.app (e := [.str nm, .int .i64 k1, b0, b1, b2, b3]) (bytes := 72) rfl (by unfold room; omega)
        have hgc' := hg'.cell
        have hgs' := hg'.cells
        have hp5 := hex.pure
        have hp6 := hex.cell
        simp only [pureL, pureV, Bool.true_and, Bool.and_true, Bool.and_eq_true] at hp5
        simp only [List.all_cons, List.all_nil, Bool.and_true, Bool.and_eq_true] at hp6
        simp only [Option.isSome_some] at e1
        obtain ⟨q0, q1, q2, q3⟩ := hp6
        have nxt : I (i + 1) ⟨[.agg [v0, .bool o.isSome], .agg [v2, .bool (st decFun (some l2)).isSome], .agg [.nils, .int .i64 0], .agg [.nils, .bool false], .agg [vL', .int .i64 0], .int .i64 m, .int .i64 (i + 1 : Nat), .agg [.str nm, .int .i64 k1, b0, b1, b2, b3], .int .i64 m1], [], none, none, hh'⟩ := by
          refine hI _ _ ⟨es ++ [_], st decFun (some l2), v2, vL', _, _, hh', rfl, by simp; omega, hv2, hr5, hg', ?_, hcs.step hlt hx⟩
          intro e' he'
          rcases List.mem_append.1 he' with he' | he'
          · exact hce e' he'
          · rw [List.mem_singleton.1 he']; exact hcx
        rcases hfm with ⟨rfl, rfl, rfl⟩ | ⟨w, w1, w2, rfl, rfl, g1, g2, g3, s1, s2, hb⟩
        · simp [hv, hv2, hlt', slotOf, e1, e3, e4, f3, q0, q1, q2, q3, hp5, fill, chunks, happ, hw3, hgc, hgs, hgc', hgs', -pcall, -List.all_eq_true]
          exact ⟨hlt, nxt⟩
        · simp [hv, hv2, hlt', slotOf, e1, e3, e4, f3, g1, g2, g3, s1, s2, hb, q0, q1, q2, q3, hp5, fill, chunks, happ, hw3, hgc, hgs, hgc', hgs', -pcall, -lopV, -List.all_eq_true]
          exact ⟨hlt, nxt⟩
      · obtain rfl : i = m := by omega
        simp only [Option.isSome_some] at e0
        simp [hv, hgc, hgs, slotOf, e0, f0, -pcall]
        exact stop hcs
  obtain ⟨r, h', e9, x, y, cs', rfl, hv, hr', hs, hx⟩ := OptP.ex key
  exact ⟨y, cs', pcall_tup (by simpa [pureL, pureV] using hp0) e9 hv hr', hr', hs, hx⟩
end Go.Proofs.FileA
/- The reference's reader: Kind, and Get of each kind. -/
set_option linter.unusedVariables false
set_option linter.unusedSimpArgs false
namespace Go.Proofs.FileA
open Go Go.Am
variable {gl : Nat → List V}

theorem shr_at (n i : Nat) (hi : i < 4) : shiftV .shr .i64 (n : Int) ((8 * i : Nat) : Int) = some (.int .i64 ((n / 256 ^ i : Nat) : Int)) := by
  have h1 : ¬ (((8 * i : Nat) : Int) < 0) := by omega
  have h2 : min ((8 * i : Nat) : Int).toNat IntKind.i64.bits = 8 * i := by rw [Int.toNat_natCast]; simp only [IntKind.bits]; omega
  simp only [shiftV, if_neg h1, h2, shr_eq]

theorem be_at (n i : Nat) (hi : i < 4) : (be 4 n)[3 - i]? = some (UInt8.ofNat (n / 256 ^ i)) := by
  unfold be
  rw [List.getElem?_map, List.getElem?_range (by omega)]
  have : 4 - 1 - (3 - i) = i := by omega
  simp only [Option.map_some, this]

theorem rkind_ok {l : L} {v : V} (hv : SlV (bytesV l) v) : PureV 24 [v] (kindV l) := by
  refine pureV_of (by simp [pureL, hv.pure]) (fun h => by simp [kindV, viewV, viewL]) fun gl => ?_
  have hlv := hv.len
  rw [bytesV_length] at hlv
  unfold kindV kindOf
  refine call_ofQ (af := Tryd.a24) rfl rfl fun Q hQ => ?_
  simp only [Tryd.a24]
  by_cases hlong : 200000 < l.length
  · have hlong' : (200000 : Int) < l.length := by omega
    rw [if_pos hlong] at hQ
    simp [hlv, hlong']
    exact hQ _ _ rfl
  · have hlong' : ¬ (200000 : Int) < l.length := by omega
    rw [if_neg hlong] at hQ
    by_cases h7 : l.length < 7
    · have h7' : (l.length : Int) < 7 := by omega
      rw [if_pos (Or.inl h7)] at hQ
      simp [hlv, hlong', h7', slotOf]
      exact hQ _ _ rfl
    · have h7' : ¬ (l.length : Int) < 7 := by omega
      have i0 := idx_bytes hv (i := 0) (by omega)
      have i1 := idx_bytes hv (i := 1) (by omega)
      have i2 := idx_bytes hv (i := 2) (by omega)
      have g0 : l[0]? = some (l[0]'(by omega)) := List.getElem?_eq_getElem (by omega)
      have g1 : l[1]? = some (l[1]'(by omega)) := List.getElem?_eq_getElem (by omega)
      have g2 : l[2]? = some (l[2]'(by omega)) := List.getElem?_eq_getElem (by omega)
      rw [g0, g1, g2] at hQ
      simp only [Int.natCast_zero, Int.natCast_one] at i0 i1
      have i2 : idxV v 2 1 = some (.pv [.int .u8 (l[2]'(by omega)).toNat]) := i2
      generalize hb0 : l[0]'(by omega) = b0 at *
      generalize hb1 : l[1]'(by omega) = b1 at *
      generalize hb2 : l[2]'(by omega) = b2 at *
      by_cases h83 : b0 = 83
      · have q0 : ((b0.toNat : Nat) : Int) = 83 := by rw [h83]; rfl
        by_cases h119 : b1 = 119
        · have q1 : ((b1.toNat : Nat) : Int) = 119 := by rw [h119]; rfl
          rw [if_neg (by simp [h7, h83, h119])] at hQ
          have hw4 : IntKind.i64.wrap ((l.length : Int) - 4) = ((l.length - 4 : Nat) : Int) := by rw [wrap64 (by omega) (by omega)]; omega
          have hw1 : IntKind.i64.wrap ((l.length : Int) - 1) = ((l.length - 1 : Nat) : Int) := by rw [wrap64 (by omega) (by omega)]; omega
          obtain ⟨v7, e7, s7⟩ := slc_to hv (n := l.length - 4) (by omega) .i64
          have hbs := fun h => bcall_rsum (gl := gl) s7 (by simp; omega) h
          have hn32 := (sumN_eq (l.take (l.length - 4))).2
          have hlb : ∀ j : Nat, j < 4 → (l.drop (l.length - 4))[3 - j]? = l[l.length - 1 - j]? := fun j hj => by
            rw [List.getElem?_drop]; congr 1; omega
          have hl6 : (l.drop (l.length - 4)).length = 4 := by simp; omega
          generalize hli : l.take (l.length - 4) = li at *
          generalize hlbb : l.drop (l.length - 4) = lb at *
          generalize hs : sumOf li = n at *
          simp only [Option.getD_some] at hQ
          simp [hlv, hlong', h7', slotOf, i0, i1, q0, q1, hw4, e7, hbs]
          refine loop_nQ 4 (fun i c => (∀ j : Nat, j < i → lb[3 - j]? = some (UInt8.ofNat (n / 256 ^ j))) ∧ c = ⟨[v, .int .i64 0, .int .i64 0, .int .i64 n, .int .i64 i], [], none, none, []⟩) ?_ ⟨fun j hj => by omega, rfl⟩
          rintro I hI i c hi ⟨hall, rfl⟩
          by_cases hlt : i < 4
          · have hlt' : (i : Int) < 4 := by omega
            have hw3 : IntKind.i64.wrap ((i : Int) + 1) = ((i + 1 : Nat) : Int) := by rw [wrap64 (by omega) (by omega)]; rfl
            have hw8 : IntKind.i64.wrap (8 * (i : Int)) = ((8 * i : Nat) : Int) := by rw [wrap64 (by omega) (by omega)]; omega
            have hwi : IntKind.i64.wrap (((l.length - 1 : Nat) : Int) - (i : Int)) = ((l.length - 1 - i : Nat) : Int) := by rw [wrap64 (by omega) (by omega)]; omega
            have hix := idx_bytes hv (i := l.length - 1 - i) (by omega)
            have hsh := shr_at n i hlt
            have hu : IntKind.u8.wrap ((n / 256 ^ i : Nat) : Int) = ((UInt8.ofNat (n / 256 ^ i)).toNat : Int) := by rw [u8_of (Int.natCast_nonneg _), Int.toNat_natCast]
            have hli2 := (hlb i hlt).trans (List.getElem?_eq_getElem (by omega))
            generalize l[l.length - 1 - i]'(by omega) = x at *
            generalize hq : n / 256 ^ i = q at *
            by_cases hxy : x = UInt8.ofNat q
            · have hne : (((x.toNat : Nat) : Int) != ((UInt8.ofNat q).toNat : Int)) = false := by rw [hxy]; simp
              generalize hy : (UInt8.ofNat q).toNat = y at *
              simp [hlt', hlv, hw1, hw3, hw8, hwi, hix, hsh, hu, hne, -shiftV, -Int.natCast_mul, -Int.natCast_ediv]
              refine ⟨hlt, hI _ _ ⟨fun j hj => ?_, rfl⟩⟩
              by_cases hji : j = i
              · subst hji; rw [hli2, hxy, hq]
              · exact hall j (by omega)
            · have hne : (((x.toNat : Nat) : Int) != ((UInt8.ofNat q).toNat : Int)) = true := by rw [bne_iff_ne]; exact fun h => hxy (UInt8.toNat_inj.1 (by omega))
              have hok : lb ≠ be 4 n := fun h => by
                have h1 := be_at n i hlt
                rw [← h, hli2, hq] at h1
                exact hxy (Option.some.inj h1)
              rw [if_pos hok] at hQ
              generalize hy : (UInt8.ofNat q).toNat = y at *
              simp [hlt', hlv, hw1, hw3, hw8, hwi, hix, hsh, hu, hne, -shiftV, -Int.natCast_mul, -Int.natCast_ediv]
              exact hQ _ _ rfl
          · obtain rfl : i = 4 := by omega
            have hok : lb = be 4 n := by
              apply List.ext_getElem?
              intro j
              by_cases hj : j < 4
              · have h1 := be_at n (3 - j) (by omega)
                have h2 := hall (3 - j) (by omega)
                have h3 : 3 - (3 - j) = j := by omega
                rw [h3] at h1 h2
                rw [h1, h2]
              · rw [List.getElem?_eq_none (by omega), List.getElem?_eq_none (by simp; omega)]
            rw [if_neg (by simpa using hok)] at hQ
            have hb2w : IntKind.i64.wrap (b2.toNat : Int) = (b2.toNat : Int) := by have := b2.toNat_lt; rw [wrap64 (by omega) (by omega)]
            simp [i2, hb2w]
            exact hQ _ _ rfl
        · rw [if_pos (by simp [h119])] at hQ
          have hne : ¬ ((b1.toNat : Int) = 119) := u8_ne h119
          simp [hlv, hlong', h7', slotOf, i0, i1, q0, hne]
          exact hQ _ _ rfl
      · rw [if_pos (by simp [h83])] at hQ
        have hne : ¬ ((b0.toNat : Int) = 83) := u8_ne h83
        have hbn : ((b0.toNat : Int) != 83) = true := by rw [bne_iff_ne]; exact hne
        simp [hlv, hlong', h7', slotOf, i0, hbn]
        exact hQ _ _ rfl
end Go.Proofs.FileA
/- The reference's Get of each kind. -/
set_option linter.unusedVariables false
set_option linter.unusedSimpArgs false
namespace Go.Proofs.FileA
open Go Go.Am
variable {gl : Nat → List V}

theorem whole_q (gl : Nat → List V) {o : Option L} {cs : List V} (hr : IsRest o cs) : pcall (lim gl Tryd.aprog) (.func (.func 57) [] []) [.agg cs] = some (.val (.bool (decide (o = some [])))) := by
  have key : CallP gl Tryd.aprog 57 [.agg cs] [] (fun r h' => r = .ret (.bool (decide (o = some [])))) := by
    refine call_ofQ (af := Tryd.a57) rfl rfl fun Q hQ => ?_
    simp only [Tryd.a57]
    cases o with
    | none =>
      simp only [IsRest] at hr
      subst hr
      simp [slotOf]
      exact hQ _ _ (by simp)
    | some l =>
      obtain ⟨v, rfl, sv, hl⟩ := hr
      have hlv := sv.len
      rw [bytesV_length] at hlv
      have hd : (((l.length : Nat) : Int) == 0) = decide (some l = some ([] : L)) := by
        cases l with
        | nil => rfl
        | cons b l => simp; omega
      generalize decide (some l = some ([] : L)) = t at *
      simp [slotOf, sv.cell, hlv, hd]
      exact hQ _ _ rfl
  obtain ⟨r, h', e, rfl⟩ := OptP.ex key
  exact pcall_of e (by simpa [pureL, pureV] using hr.pureL) (by simp [viewV])

theorem val60_q (gl : Nat → List V) {o : Option L} {cs : List V} (hr : IsRest o cs) : ∃ ex cs', pcall (lim gl Tryd.aprog) (.func (.func 56) [] []) [.agg cs, .int .i64 60] = some (.val (.tup [.agg ex, .agg cs'])) ∧
    IsRest (st (decT 2 0 60) o) cs' ∧ Cells 3 ex ∧ ∀ a l', o.bind (decT 2 0 60) = some (a, l') → IsT 2 0 a ex := val_q 60 (by omega) gl hr
/-- open -/
theorem open_q (gl : Nat → List V) {l : L} {v : V} (hv : SlV (bytesV l) v) (k : Nat) (kk : Int) (hkk : kk = (k : Int)) (hk : k < 4) : ∃ cs e, pcall (lim gl Tryd.aprog) (.func (.func 55) [] []) [v, .int .i64 kk] = some (.val (.tup [.agg cs, .int .i64 e])) ∧
    (∃ o, IsRest o cs) ∧
    ((e ≠ 0 ∧ ∀ {α : Type} (dec : L → Option (α × L)), readOf sumOf k dec l = (none, e)) ∨
    (e = 0 ∧ IsRest (some ((l.take (l.length - 4)).drop 3)) cs ∧ ∀ {α : Type} (dec : L → Option (α × L)), readOf sumOf k dec l = match dec ((l.take (l.length - 4)).drop 3) with
    | some (a, []) => (some a, 0)
    | _ => (none, 8))) := by
  subst hkk
  have hw := wrong_pc (gl := gl)
  have hkd := rkind_ok hv gl
  have hlv := hv.len
  rw [bytesV_length] at hlv
  have hlen := @kindOf_len l
  have hsm := kindOf_small l
  unfold kindV at hkd
  unfold readOf
  generalize (kindOf sumOf l).1 = kn at *
  generalize (kindOf sumOf l).2 = er at *
  by_cases her : er = 0
  · by_cases hkn : kn = k
    · subst hkn
      obtain ⟨h7, h2⟩ := hlen her
      have hw4 : IntKind.i64.wrap ((l.length : Int) - 4) = ((l.length - 4 : Nat) : Int) := by rw [wrap64 (by omega) (by omega)]; omega
      obtain ⟨v2, e2, s2⟩ := slc_mid hv (m := 3) (n := l.length - 4) (by omega) (by omega) .i64 .i64
      have e2' : slcV v (some (.int .i64 3)) (some (.int .i64 ((l.length - 4 : Nat) : Int))) none false 1 = some v2 := e2
      have key : CallP gl Tryd.aprog 55 [v, .int .i64 kn] [] (fun r h' => r = .ret (.tup [.agg [v2, .bool true], .int .i64 0])) := by
        refine call_ofQ (af := Tryd.a55) rfl rfl fun Q hQ => ?_
        simp only [Tryd.a55]
        subst her
        simp [hkd, hlv, hw4, e2', s2.cell, s2.cells, fill, slotOf, -pcall]
        exact hQ _ _ rfl
      obtain ⟨r, h', e, rfl⟩ := OptP.ex key
      have hres : IsRest (some ((l.take (l.length - 4)).drop 3)) [v2, .bool true] := ⟨v2, rfl, s2, by simp; omega⟩
      refine ⟨_, _, pcall_of e (by simp [pureL, pureV, hv.pure]) (by simp [viewV, viewL, s2.view]), ⟨_, hres⟩, .inr ⟨rfl, hres, fun dec => ?_⟩⟩
      rw [if_neg (by simpa using her), if_neg (by simp)]
      rfl
    · have key : CallP gl Tryd.aprog 55 [v, .int .i64 k] [] (fun r h' => r = .ret (.tup [.agg [.nils, .bool false], .int .i64 15])) := by
        refine call_ofQ (af := Tryd.a55) rfl rfl fun Q hQ => ?_
        simp only [Tryd.a55]
        subst her
        have hne : (((kn : Nat) : Int) != (k : Int)) = true := by rw [bne_iff_ne]; omega
        simp [hkd, hw, hne, slotOf, -pcall]
        exact hQ _ _ rfl
      obtain ⟨r, h', e, rfl⟩ := OptP.ex key
      refine ⟨_, 15, pcall_of e (by simp [pureL, pureV, hv.pure]) (by simp [viewV, viewL]), ⟨none, rfl⟩, .inl ⟨by omega, fun dec => ?_⟩⟩
      rw [if_neg (by simpa using her), if_pos hkn]
  · have key : CallP gl Tryd.aprog 55 [v, .int .i64 k] [] (fun r h' => r = .ret (.tup [.agg [.nils, .bool false], .int .i64 er])) := by
      refine call_ofQ (af := Tryd.a55) rfl rfl fun Q hQ => ?_
      simp only [Tryd.a55]
      simp [hkd, hw, her, slotOf, -pcall]
      exact hQ _ _ rfl
    obtain ⟨r, h', e, rfl⟩ := OptP.ex key
    refine ⟨_, _, pcall_of e (by simp [pureL, pureV, hv.pure]) (by simp [viewV, viewL]), ⟨none, rfl⟩, .inl ⟨her, fun dec => ?_⟩⟩
    rw [if_pos her]

theorem rget26 {l : L} {v : V} (hv : SlV (bytesV l) v) (gl : Nat → List V) : ∃ x, pcall (lim gl Tryd.aprog) (.func (.func 26) [] []) [v] = some (.val x) ∧ GetEnd (IsT 2 0) 3 [.int .i64 0, .int .i64 0, .nils] (readOf sumOf 0 (decT 2 0 60) l) x := by
  obtain ⟨cs, er, e1, ⟨o0, hr0⟩, hcase⟩ := open_q gl hv 0 0 rfl (by omega)
  have hz : Cells 3 [.int .i64 0, .int .i64 0, .nils] := ⟨rfl, rfl, rfl⟩
  have key : CallP gl Tryd.aprog 26 [v] [] (fun r h' => ∃ x, r = .ret x ∧ GetEnd (IsT 2 0) 3 [.int .i64 0, .int .i64 0, .nils] (readOf sumOf 0 (decT 2 0 60) l) x) := by
    refine call_ofQ (af := Tryd.a26) rfl rfl fun Q hQ => ?_
    simp only [Tryd.a26]
    rcases hcase with ⟨hne, hro⟩ | ⟨rfl, hr, hro⟩
    · obtain ⟨v1, rfl, f1, _, _⟩ := hr0.form
      simp [e1, f1, hne, fill, slotOf, -pcall]
      exact hQ _ _ ⟨_, rfl, ⟨⟨_, by rw [hro], hz, fun _ => rfl, fun a h => by rw [hro] at h; cases h⟩⟩⟩
    · obtain ⟨ex, c2, e2, hr2, hcx, hx⟩ := val60_q gl hr
      have hwh := whole_q gl hr2
      obtain ⟨v1, hf1, f1, _, _⟩ := hr.form
      subst hf1
      have hcl := hcx.len
      have hcc := hcx.cell
      have htk : ex.take 3 = ex := List.take_of_length_le (by omega)
      have hdr : ex.drop 3 = [] := List.drop_of_length_le (by omega)
      simp only [Option.isSome_some] at e1 e2
      obtain ⟨v2, hf2, f2, _, _⟩ := hr2.form
      subst hf2
      by_cases hall : st (decT 2 0 60) (some ((l.take (l.length - 4)).drop 3)) = some []
      · have hdt : decide (st (decT 2 0 60) (some ((l.take (l.length - 4)).drop 3)) = some []) = true := by simpa using hall
        rw [hdt] at hwh
        simp only [st, Option.bind_some, Option.map_eq_some_iff] at hall
        obtain ⟨⟨a, l'⟩, hd, hl'⟩ := hall
        simp only at hl'
        subst hl'
        have hro := hro (decT 2 0 60)
        rw [hd] at hro
        have hxa := hx a [] (by simpa using hd)
        generalize (st (decT 2 0 60) (some ((l.take (l.length - 4)).drop 3))).isSome = ok at *
        simp [e1, e2, hwh, f1, f2, hcl, hcc, htk, hdr, fill, slotOf, -pcall, -List.all_eq_true]
        exact hQ _ _ ⟨_, rfl, ⟨⟨_, by rw [hro], hcx, fun h => by rw [hro] at h; (cases h), fun a' h => by rw [hro] at h; cases h; exact hxa⟩⟩⟩
      · have hdt : decide (st (decT 2 0 60) (some ((l.take (l.length - 4)).drop 3)) = some []) = false := by simpa using hall
        rw [hdt] at hwh
        have hro : readOf sumOf 0 (decT 2 0 60) l = (none, 8) := by
          rw [hro]
          simp only [st, Option.bind_some] at hall
          cases hd : (decT 2 0 60) ((l.take (l.length - 4)).drop 3) with
          | none => rfl
          | some x =>
            obtain ⟨a, l'⟩ := x
            rw [hd] at hall
            cases l' with
            | nil => simp at hall
            | cons b l' => rfl
        generalize (st (decT 2 0 60) (some ((l.take (l.length - 4)).drop 3))).isSome = ok at *
        simp [e1, e2, hwh, f1, f2, hcl, hcc, htk, hdr, fill, slotOf, -pcall, -List.all_eq_true]
        exact hQ _ _ ⟨_, rfl, ⟨⟨_, by rw [hro], hz, fun _ => rfl, fun a h => by rw [hro] at h; cases h⟩⟩⟩
  obtain ⟨r, h', e, x, rfl, hx⟩ := OptP.ex key
  exact ⟨x, pcall_of e (by simp [pureL, pureV, hv.pure]) (hx.view h'), hx⟩

theorem rget29 {l : L} {v : V} (hv : SlV (bytesV l) v) (gl : Nat → List V) : ∃ x, pcall (lim gl Tryd.aprog) (.func (.func 29) [] []) [v] = some (.val x) ∧ GetEnd (IsProg) 2 [.nils, .int .i64 0] (readOf sumOf 1 (decProg) l) x := by
  obtain ⟨cs, er, e1, ⟨o0, hr0⟩, hcase⟩ := open_q gl hv 1 1 rfl (by omega)
  have hz : Cells 2 [.nils, .int .i64 0] := ⟨rfl, rfl, rfl⟩
  have key : CallP gl Tryd.aprog 29 [v] [] (fun r h' => ∃ x, r = .ret x ∧ GetEnd (IsProg) 2 [.nils, .int .i64 0] (readOf sumOf 1 (decProg) l) x) := by
    refine call_ofQ (af := Tryd.a29) rfl rfl fun Q hQ => ?_
    simp only [Tryd.a29]
    rcases hcase with ⟨hne, hro⟩ | ⟨rfl, hr, hro⟩
    · obtain ⟨v1, rfl, f1, _, _⟩ := hr0.form
      simp [e1, f1, hne, fill, slotOf, -pcall]
      exact hQ _ _ ⟨_, rfl, ⟨⟨_, by rw [hro], hz, fun _ => rfl, fun a h => by rw [hro] at h; cases h⟩⟩⟩
    · obtain ⟨ex, c2, e2, hr2, hcx, hx⟩ := prog_q gl hr
      have hwh := whole_q gl hr2
      obtain ⟨v1, hf1, f1, _, _⟩ := hr.form
      subst hf1
      have hcl := hcx.len
      have hcc := hcx.cell
      have htk : ex.take 2 = ex := List.take_of_length_le (by omega)
      have hdr : ex.drop 2 = [] := List.drop_of_length_le (by omega)
      simp only [Option.isSome_some] at e1 e2
      obtain ⟨v2, hf2, f2, _, _⟩ := hr2.form
      subst hf2
      by_cases hall : st (decProg) (some ((l.take (l.length - 4)).drop 3)) = some []
      · have hdt : decide (st (decProg) (some ((l.take (l.length - 4)).drop 3)) = some []) = true := by simpa using hall
        rw [hdt] at hwh
        simp only [st, Option.bind_some, Option.map_eq_some_iff] at hall
        obtain ⟨⟨a, l'⟩, hd, hl'⟩ := hall
        simp only at hl'
        subst hl'
        have hro := hro (decProg)
        rw [hd] at hro
        have hxa := hx a [] (by simpa using hd)
        generalize (st (decProg) (some ((l.take (l.length - 4)).drop 3))).isSome = ok at *
        simp [e1, e2, hwh, f1, f2, hcl, hcc, htk, hdr, fill, slotOf, -pcall, -List.all_eq_true]
        exact hQ _ _ ⟨_, rfl, ⟨⟨_, by rw [hro], hcx, fun h => by rw [hro] at h; (cases h), fun a' h => by rw [hro] at h; cases h; exact hxa⟩⟩⟩
      · have hdt : decide (st (decProg) (some ((l.take (l.length - 4)).drop 3)) = some []) = false := by simpa using hall
        rw [hdt] at hwh
        have hro : readOf sumOf 1 (decProg) l = (none, 8) := by
          rw [hro]
          simp only [st, Option.bind_some] at hall
          cases hd : (decProg) ((l.take (l.length - 4)).drop 3) with
          | none => rfl
          | some x =>
            obtain ⟨a, l'⟩ := x
            rw [hd] at hall
            cases l' with
            | nil => simp at hall
            | cons b l' => rfl
        generalize (st (decProg) (some ((l.take (l.length - 4)).drop 3))).isSome = ok at *
        simp [e1, e2, hwh, f1, f2, hcl, hcc, htk, hdr, fill, slotOf, -pcall, -List.all_eq_true]
        exact hQ _ _ ⟨_, rfl, ⟨⟨_, by rw [hro], hz, fun _ => rfl, fun a h => by rw [hro] at h; cases h⟩⟩⟩
  obtain ⟨r, h', e, x, rfl, hx⟩ := OptP.ex key
  exact ⟨x, pcall_of e (by simp [pureL, pureV, hv.pure]) (hx.view h'), hx⟩

theorem rget31 {l : L} {v : V} (hv : SlV (bytesV l) v) (gl : Nat → List V) : ∃ x, pcall (lim gl Tryd.aprog) (.func (.func 31) [] []) [v] = some (.val x) ∧ GetEnd (IsVec) 2 [.nils, .int .i64 0] (readOf sumOf 2 (decVec) l) x := by
  obtain ⟨cs, er, e1, ⟨o0, hr0⟩, hcase⟩ := open_q gl hv 2 2 rfl (by omega)
  have hz : Cells 2 [.nils, .int .i64 0] := ⟨rfl, rfl, rfl⟩
  have key : CallP gl Tryd.aprog 31 [v] [] (fun r h' => ∃ x, r = .ret x ∧ GetEnd (IsVec) 2 [.nils, .int .i64 0] (readOf sumOf 2 (decVec) l) x) := by
    refine call_ofQ (af := Tryd.a31) rfl rfl fun Q hQ => ?_
    simp only [Tryd.a31]
    rcases hcase with ⟨hne, hro⟩ | ⟨rfl, hr, hro⟩
    · obtain ⟨v1, rfl, f1, _, _⟩ := hr0.form
      simp [e1, f1, hne, fill, slotOf, -pcall]
      exact hQ _ _ ⟨_, rfl, ⟨⟨_, by rw [hro], hz, fun _ => rfl, fun a h => by rw [hro] at h; cases h⟩⟩⟩
    · obtain ⟨ex, c2, e2, hr2, hcx, hx⟩ := vec_q gl hr
      have hwh := whole_q gl hr2
      obtain ⟨v1, hf1, f1, _, _⟩ := hr.form
      subst hf1
      have hcl := hcx.len
      have hcc := hcx.cell
      have htk : ex.take 2 = ex := List.take_of_length_le (by omega)
      have hdr : ex.drop 2 = [] := List.drop_of_length_le (by omega)
      simp only [Option.isSome_some] at e1 e2
      obtain ⟨v2, hf2, f2, _, _⟩ := hr2.form
      subst hf2
      by_cases hall : st (decVec) (some ((l.take (l.length - 4)).drop 3)) = some []
      · have hdt : decide (st (decVec) (some ((l.take (l.length - 4)).drop 3)) = some []) = true := by simpa using hall
        rw [hdt] at hwh
        simp only [st, Option.bind_some, Option.map_eq_some_iff] at hall
        obtain ⟨⟨a, l'⟩, hd, hl'⟩ := hall
        simp only at hl'
        subst hl'
        have hro := hro (decVec)
        rw [hd] at hro
        have hxa := hx a [] (by simpa using hd)
        generalize (st (decVec) (some ((l.take (l.length - 4)).drop 3))).isSome = ok at *
        simp [e1, e2, hwh, f1, f2, hcl, hcc, htk, hdr, fill, slotOf, -pcall, -List.all_eq_true]
        exact hQ _ _ ⟨_, rfl, ⟨⟨_, by rw [hro], hcx, fun h => by rw [hro] at h; (cases h), fun a' h => by rw [hro] at h; cases h; exact hxa⟩⟩⟩
      · have hdt : decide (st (decVec) (some ((l.take (l.length - 4)).drop 3)) = some []) = false := by simpa using hall
        rw [hdt] at hwh
        have hro : readOf sumOf 2 (decVec) l = (none, 8) := by
          rw [hro]
          simp only [st, Option.bind_some] at hall
          cases hd : (decVec) ((l.take (l.length - 4)).drop 3) with
          | none => rfl
          | some x =>
            obtain ⟨a, l'⟩ := x
            rw [hd] at hall
            cases l' with
            | nil => simp at hall
            | cons b l' => rfl
        generalize (st (decVec) (some ((l.take (l.length - 4)).drop 3))).isSome = ok at *
        simp [e1, e2, hwh, f1, f2, hcl, hcc, htk, hdr, fill, slotOf, -pcall, -List.all_eq_true]
        exact hQ _ _ ⟨_, rfl, ⟨⟨_, by rw [hro], hz, fun _ => rfl, fun a h => by rw [hro] at h; cases h⟩⟩⟩
  obtain ⟨r, h', e, x, rfl, hx⟩ := OptP.ex key
  exact ⟨x, pcall_of e (by simp [pureL, pureV, hv.pure]) (hx.view h'), hx⟩

theorem rget33 {l : L} {v : V} (hv : SlV (bytesV l) v) (gl : Nat → List V) : ∃ x, pcall (lim gl Tryd.aprog) (.func (.func 33) [] []) [v] = some (.val x) ∧ GetEnd (IsLog) 3 [.int .i64 0, .nils, .nils] (readOf sumOf 3 (decLog) l) x := by
  obtain ⟨cs, er, e1, ⟨o0, hr0⟩, hcase⟩ := open_q gl hv 3 3 rfl (by omega)
  have hz : Cells 3 [.int .i64 0, .nils, .nils] := ⟨rfl, rfl, rfl⟩
  have key : CallP gl Tryd.aprog 33 [v] [] (fun r h' => ∃ x, r = .ret x ∧ GetEnd (IsLog) 3 [.int .i64 0, .nils, .nils] (readOf sumOf 3 (decLog) l) x) := by
    refine call_ofQ (af := Tryd.a33) rfl rfl fun Q hQ => ?_
    simp only [Tryd.a33]
    rcases hcase with ⟨hne, hro⟩ | ⟨rfl, hr, hro⟩
    · obtain ⟨v1, rfl, f1, _, _⟩ := hr0.form
      simp [e1, f1, hne, fill, slotOf, -pcall]
      exact hQ _ _ ⟨_, rfl, ⟨⟨_, by rw [hro], hz, fun _ => rfl, fun a h => by rw [hro] at h; cases h⟩⟩⟩
    · obtain ⟨ex, c2, e2, hr2, hcx, hx⟩ := log_q gl hr
      have hwh := whole_q gl hr2
      obtain ⟨v1, hf1, f1, _, _⟩ := hr.form
      subst hf1
      have hcl := hcx.len
      have hcc := hcx.cell
      have htk : ex.take 3 = ex := List.take_of_length_le (by omega)
      have hdr : ex.drop 3 = [] := List.drop_of_length_le (by omega)
      simp only [Option.isSome_some] at e1 e2
      obtain ⟨v2, hf2, f2, _, _⟩ := hr2.form
      subst hf2
      by_cases hall : st (decLog) (some ((l.take (l.length - 4)).drop 3)) = some []
      · have hdt : decide (st (decLog) (some ((l.take (l.length - 4)).drop 3)) = some []) = true := by simpa using hall
        rw [hdt] at hwh
        simp only [st, Option.bind_some, Option.map_eq_some_iff] at hall
        obtain ⟨⟨a, l'⟩, hd, hl'⟩ := hall
        simp only at hl'
        subst hl'
        have hro := hro (decLog)
        rw [hd] at hro
        have hxa := hx a [] (by simpa using hd)
        generalize (st (decLog) (some ((l.take (l.length - 4)).drop 3))).isSome = ok at *
        simp [e1, e2, hwh, f1, f2, hcl, hcc, htk, hdr, fill, slotOf, -pcall, -List.all_eq_true]
        exact hQ _ _ ⟨_, rfl, ⟨⟨_, by rw [hro], hcx, fun h => by rw [hro] at h; (cases h), fun a' h => by rw [hro] at h; cases h; exact hxa⟩⟩⟩
      · have hdt : decide (st (decLog) (some ((l.take (l.length - 4)).drop 3)) = some []) = false := by simpa using hall
        rw [hdt] at hwh
        have hro : readOf sumOf 3 (decLog) l = (none, 8) := by
          rw [hro]
          simp only [st, Option.bind_some] at hall
          cases hd : (decLog) ((l.take (l.length - 4)).drop 3) with
          | none => rfl
          | some x =>
            obtain ⟨a, l'⟩ := x
            rw [hd] at hall
            cases l' with
            | nil => simp at hall
            | cons b l' => rfl
        generalize (st (decLog) (some ((l.take (l.length - 4)).drop 3))).isSome = ok at *
        simp [e1, e2, hwh, f1, f2, hcl, hcc, htk, hdr, fill, slotOf, -pcall, -List.all_eq_true]
        exact hQ _ _ ⟨_, rfl, ⟨⟨_, by rw [hro], hz, fun _ => rfl, fun a h => by rw [hro] at h; cases h⟩⟩⟩
  obtain ⟨r, h', e, x, rfl, hx⟩ := OptP.ex key
  exact ⟨x, pcall_of e (by simp [pureL, pureV, hv.pure]) (hx.view h'), hx⟩
end Go.Proofs.FileA
