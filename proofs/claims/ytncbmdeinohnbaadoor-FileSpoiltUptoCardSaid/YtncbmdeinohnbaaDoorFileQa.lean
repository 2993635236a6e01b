/- When a number is written with the least bytes. -/
import Derived.Test.YtncbmdeinohnbaaDoorFileT
/- The reference's reader: numbers. -/
set_option linter.unusedVariables false
set_option linter.unusedSimpArgs false
namespace Go.Proofs.FileA
open Go Go.Am
variable {gl : Nat → List V}

/-- what is left, if all was right so far -/
def IsRest : Option L → List V → Prop
  | some l, cs => ∃ v, cs = [v, .bool true] ∧ SlV (bytesV l) v ∧ l.length ≤ 200000
  | none, cs => cs = [.nils, .bool false]
theorem IsRest.cells {o : Option L} {cs : List V} (h : IsRest o cs) : Cells 2 cs := by
  cases o with
  | none => simp only [IsRest] at h; subst h; exact ⟨rfl, rfl, rfl⟩
  | some l => obtain ⟨v, rfl, hv, _⟩ := h; exact ⟨rfl, by simp [hv.cell], by simp [pureL, pureV, hv.pure]⟩

theorem wrong_pc : pcall (lim gl Tryd.aprog) (.func (.func 79) [] []) [] = some (.val (.agg [.nils, .bool false])) := by
  have : CallP gl Tryd.aprog 79 [] [] (fun r h' => r = .ret (.agg [.nils, .bool false])) := by
    refine call_ofQ (af := Tryd.a79) rfl rfl fun Q hQ => ?_
    simp only [Tryd.a79]
    simp [fill]
    exact hQ _ _ rfl
  obtain ⟨r, h', e, rfl⟩ := OptP.ex this
  exact pcall_of e rfl (by simp [viewV, viewL])

/-- a number, and what is left -/
def numR (o : Option L) : Int × Option L := match o.bind decNum with
  | some x => (x.1, some x.2)
  | none => (0, none)

theorem beVal_cons (c : UInt8) (l : L) : beVal (c :: l) = c.toNat * 256 ^ l.length + beVal l := by
  have key : ∀ (n : Nat) (l : L), l.length = n → beVal (c :: l) = c.toNat * 256 ^ l.length + beVal l := by
    intro n
    induction n with
    | zero => intro l h; have : l = [] := List.length_eq_zero_iff.1 h; subst this; simp [beVal]
    | succ n ih =>
      intro l h
      have hne : l ≠ [] := by intro hh; simp [hh] at h
      obtain ⟨l', b, rfl⟩ : ∃ l' b, l = l' ++ [b] := ⟨l.dropLast, l.getLast hne, (List.dropLast_concat_getLast hne).symm⟩
      rw [← List.cons_append, beVal_snoc, beVal_snoc, ih l' (by simpa using h)]
      simp only [List.length_append, List.length_singleton, Nat.pow_succ]
      rw [Nat.add_mul, Nat.mul_assoc, Nat.add_assoc]
  exact key _ l rfl
theorem beVal_take (l : L) (j : Nat) (h : j ≤ l.length) : beVal (l.take j) * 256 ^ (l.length - j) ≤ beVal l := by
  have key : ∀ (k : Nat), ∀ l : L, l.length = j + k → beVal (l.take j) * 256 ^ k ≤ beVal l := by
    intro k
    induction k with
    | zero => intro l h; rw [List.take_of_length_le (by omega)]; simp
    | succ k ih =>
      intro l h
      have hne : l ≠ [] := by intro hh; simp [hh] at h
      obtain ⟨l', b, rfl⟩ : ∃ l' b, l = l' ++ [b] := ⟨l.dropLast, l.getLast hne, (List.dropLast_concat_getLast hne).symm⟩
      have hl' : l'.length = j + k := by simp at h; omega
      have := ih l' hl'
      rw [List.take_append_of_le_length (by omega), beVal_snoc, Nat.pow_succ, ← Nat.mul_assoc]
      omega
  exact key _ l (by omega)

/-- it is right just if it would be written so -/
theorem least_iff {first k : Nat} {bs : L} (h240 : ¬ first < 240) (hf : first < 256) (hk : decK first = k) (hl : bs.length = k) (h63 : beVal bs < 2 ^ 63) :
    decLeast first bs = true ↔ ((numB (if 247 < first then -1 - (beVal bs : Int) else (beVal bs : Int))).length = 1 + k ∧ (numB (if 247 < first then -1 - (beVal bs : Int) else (beVal bs : Int)))[0]? = some (UInt8.ofNat first)) := by
  have hk1 : 1 ≤ k := by unfold decK at hk; split at hk <;> omega
  have hlt := beVal_lt bs
  rw [hl] at hlt
  have hwle : wid (beVal bs) ≤ k := by
    obtain ⟨k', rfl⟩ : ∃ k', k = k' + 1 := ⟨k - 1, by omega⟩
    exact wid_le k' _ hlt
  have hwp := wid_pos (beVal bs)
  have hhead : 1 < k → (headPos bs = true ↔ wid (beVal bs) = k) := by
    intro hk2
    cases bs with
    | nil => simp at hl; omega
    | cons c cs =>
      have hcl : cs.length = k - 1 := by simp at hl; omega
      have hc1 := beVal_lt cs
      have hwl := wid_lt (k - 1) (beVal (c :: cs)) (by omega)
      rw [beVal_cons, hcl] at hwl
      rw [hcl] at hc1
      have hp : 0 < 256 ^ (k - 1) := Nat.pow_pos (by omega)
      simp only [headPos, decide_eq_true_eq]
      constructor
      · intro h
        have h1 : 256 ^ (k - 1) ≤ c.toNat * 256 ^ (k - 1) + beVal cs := Nat.le_trans (Nat.le_mul_of_pos_left _ h) (Nat.le_add_right _ _)
        have h2 := hwl.2 h1
        rw [beVal_cons, hcl] at hwle ⊢
        omega
      · intro h
        have h2 := hwl.1 (by rw [beVal_cons, hcl] at h; omega)
        cases hc : c.toNat with
        | zero => rw [hc] at h2; omega
        | succ n => omega
  have hw1 : beVal bs < 256 → wid (beVal bs) = 1 := fun h => by unfold wid; rw [dif_pos h]
  unfold decLeast
  rw [hk]
  by_cases h247 : 247 < first
  · rw [if_pos h247]
    have hfk : first = 247 + k := by unfold decK at hk; rw [if_pos h247] at hk; omega
    have hn : numB (-1 - (beVal bs : Int)) = UInt8.ofNat (247 + wid (beVal bs)) :: be (wid (beVal bs)) (beVal bs) := by
      unfold numB
      rw [if_neg (by omega), if_neg (by omega)]
      have : (-1 - (-1 - (beVal bs : Int))).toNat = beVal bs := by omega
      rw [this]
    rw [hn]
    simp only [List.length_cons, be_length, List.getElem?_cons_zero, Option.some.injEq]
    by_cases hk2 : 1 < k
    · rw [if_pos hk2, hhead hk2]
      constructor
      · intro h; rw [h, hfk]; exact ⟨by omega, rfl⟩
      · intro h; omega
    · rw [if_neg hk2]
      have hk3 : k = 1 := by omega
      have h1 := hw1 (by rw [hk3] at hlt; omega)
      simp [h247, h1, hk3, hfk]
  · rw [if_neg h247]
    have hfk : first = 239 + k := by unfold decK at hk; rw [if_neg h247] at hk; omega
    by_cases hm : beVal bs < 240
    · have hn : numB (beVal bs : Int) = [UInt8.ofNat (beVal bs)] := by unfold numB; rw [if_pos (by omega)]; simp
      rw [hn]
      have h1 := hw1 (by omega)
      simp only [List.length_singleton]
      by_cases hk2 : 1 < k
      · rw [if_pos hk2, hhead hk2]; constructor <;> intro h <;> omega
      · rw [if_neg hk2]
        simp only [decide_eq_true_eq]
        constructor <;> intro h <;> omega
    · have hn : numB (beVal bs : Int) = UInt8.ofNat (239 + wid (beVal bs)) :: be (wid (beVal bs)) (beVal bs) := by
        unfold numB
        rw [if_neg (by omega), if_pos (by omega)]
        simp
      rw [hn]
      simp only [List.length_cons, be_length, List.getElem?_cons_zero, Option.some.injEq]
      by_cases hk2 : 1 < k
      · rw [if_pos hk2, hhead hk2]
        constructor
        · intro h; rw [h, hfk]; exact ⟨by omega, rfl⟩
        · intro h; omega
      · rw [if_neg hk2]
        have hk3 : k = 1 := by omega
        have h1 := hw1 (by rw [hk3] at hlt; omega)
        have : 239 < beVal bs := by omega
        simp [this, h1, hk3, hfk]
end Go.Proofs.FileA
