/- A part of the law's proof: Law. -/
import Derived.Test.YtcpcmkacjdbpaaaDoorRFlat
/- Nest: the law NestFlattens over the machine. -/
set_option linter.unusedVariables false
set_option linter.unusedSimpArgs false
namespace Go.Proofs.Nst
open Go Go.Am

theorem flatS_own : ∀ (τ : Ty) (l : List (Option Tr)), ∀ x ∈ (flatS τ l).1, x.length = l.length
  | .unit, l, x, h => by simp [flatS] at h
  | .int, l, x, h => by simp [flatS] at h; subst h; simp
  | .seq a, l, x, h => by
    simp only [flatS, List.mem_cons, List.not_mem_nil, or_false] at h
    rcases h with rfl | rfl
    · exact startsS_len 0 l
    · simp
  | .pair a b, l, x, h => by
    simp only [flatS, List.mem_append] at h
    rcases h with h | h
    · simpa using flatS_own a _ x h
    · simpa using flatS_own b _ x h
  | .sum a b, l, x, h => by
    simp only [flatS, List.mem_cons, List.mem_append] at h
    rcases h with rfl | h | h
    · simp
    · simpa using flatS_own a _ x h
    · simpa using flatS_own b _ x h
theorem flatS_data : ∀ (τ : Ty) (l : List (Option Tr)), ∀ x ∈ (flatS τ l).2, x.length ≤ slotsN l
  | .unit, l, x, h => by simp [flatS] at h
  | .int, l, x, h => by simp [flatS] at h
  | .seq a, l, x, h => by
    have h1 := pool_le l
    have h2 := Tr.nodesL_length (poolS l)
    simp only [flatS, List.mem_append] at h
    rcases h with h | h
    · have := flatS_own a _ x h
      simp at this
      omega
    · have := flatS_data a _ x h
      rw [slotsN_some] at this
      omega
  | .pair a b, l, x, h => by
    simp only [flatS, List.mem_append] at h
    rcases h with h | h
    · have := flatS_data a _ x h
      have := partP_le 0 l
      omega
    · have := flatS_data b _ x h
      have := partP_le 1 l
      omega
  | .sum a b, l, x, h => by
    simp only [flatS, List.mem_append] at h
    rcases h with h | h
    · have := flatS_data a _ x h
      have := partU_le 0 l
      omega
    · have := flatS_data b _ x h
      have := partU_le 1 l
      omega
theorem canonS_bound (τ : Ty) (l : List Tr) : ∀ x ∈ canonS τ l, x.length ≤ Tr.nodesL l := by
  intro x hx
  have := Tr.nodesL_length l
  rcases List.mem_append.1 hx with hx | hx
  · have := flatS_own τ _ x hx
    simp at this
    omega
  · have := flatS_data τ _ x hx
    rw [slotsN_some] at this
    exact this
theorem flatR_bound (τ : Ty) (l : List Tr) : ∀ x ∈ flatR τ l, x.length ≤ Tr.nodesL l := by
  intro x hx
  unfold flatR at hx
  split at hx
  · exact canonS_bound τ l x hx
  · simp at hx
theorem flatR_len (τ : Ty) (l : List Tr) : (flatR τ l).length ≤ τ.own + τ.data := by
  unfold flatR
  split
  · rw [canonS_len]; omega
  · simp

theorem law_flattens (t : Tr) (ht : t.Ok) (l : List Tr) (v : V) (hl : ∀ x ∈ l, x.Ok) (hv : SlV (l.map Tr.cs) v) (hn : t.nodes < 2 ^ 50) (hm : Tr.nodesL l < 2 ^ 50) : ∃ h', (lim gl Trnx.aprog).call 4 [.agg t.cs, v] [] = some (.ret (.bool true), h') := by
  have key : CallP gl Trnx.aprog 4 [.agg t.cs, v] [] (fun r h' => r = .ret (.bool true)) := by
    have hh := held_q
    have g1 := great_q l v hv hl (by omega)
    have ct := cells_tr ht
    rw [PC] at hh g1
    refine call_ofQ (af := Trnx.a4) rfl rfl fun Q hQ => ?_
    simp only [Trnx.a4]
    by_cases hg : 400 < Tr.nodesL l
    · rw [decide_eq_true hg] at g1
      simp [ct, g1, hh, slotOf, -pcall, -List.all_eq_true]
      exact hQ _ _ rfl
    · rw [decide_eq_false hg] at g1
      obtain ⟨u1, u2, e, c1, c2, c3⟩ : ∃ u1 u2 : V, ∃ e : Int, PC 22 [.agg t.cs, v] (.tup [u1, .int .i64 e]) ∧ PC 23 [.agg t.cs, v] (.tup [u2, .int .i64 e]) ∧ PC 24 [u1, u2] (.bool true) := by
        rcases tyErr_cases t with ⟨e, he, hte⟩ | ⟨x, hx, hx1, hx2, hte⟩
        · obtain ⟨a1, a2⟩ := flatten_bad t ht hn he hte v hv.pure
          have a3 := equalLists_q [] [] .nils .nils ListsV.nil ListsV.nil (by simp) (by simp)
          exact ⟨_, _, _, a1, a2, a3⟩
        · have hb := x.both_size
          obtain ⟨u1, a1, b1⟩ := flatten_q hx ht hx1 hx2 l v hv hl (by omega)
          obtain ⟨u2, a2, b2⟩ := rflatten_q hx ht hx1 hx2 l v hv hl (by omega)
          have a3 := equalLists_q _ _ u1 u2 b1 b2 (by have := flatR_len x l; omega) (fun y hy => by have := flatR_bound x l y hy; omega)
          rw [decide_eq_true rfl] at a3
          exact ⟨_, _, _, a1, a2, a3⟩
      rw [PC] at c1 c2 c3
      simp [ct, g1, c1, c2, c3, hh, slotOf, -pcall, -List.all_eq_true]
      exact hQ _ _ rfl
  obtain ⟨r, h', e, rfl⟩ := OptP.ex key
  exact ⟨h', e⟩
end Go.Proofs.Nst
