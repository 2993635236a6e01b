/- A spoilt file is none: plain law. -/
import Derived.Test.YtncbmdeinohnbaaDoorFileGet
/- The check of a spoilt file. Plain numbers. -/
set_option linter.unusedVariables false
set_option linter.unusedSimpArgs false
namespace Go.Proofs.FileA
open Go Go.Am

def bsum : L → Int
  | [] => 0
  | b :: l => (b.toNat : Int) + bsum l
def wsum : L → Int
  | [] => 0
  | b :: l => ((l.length : Int) + 1) * (b.toNat : Int) + wsum l
theorem bsum_app (l m : L) : bsum (l ++ m) = bsum l + bsum m := by
  induction l with
  | nil => simp [bsum]
  | cons b l ih => simp [bsum, ih]; omega
theorem wsum_app (l m : L) : wsum (l ++ m) = wsum l + (m.length : Int) * bsum l + wsum m := by
  induction l with
  | nil => simp [wsum, bsum]
  | cons b l ih =>
    simp only [List.cons_append, wsum, bsum, ih, List.length_append, Int.natCast_add]
    generalize (b.toNat : Int) = x
    generalize (l.length : Int) = p
    generalize (m.length : Int) = q
    generalize bsum l = s
    rw [Int.mul_add, Int.add_mul, Int.add_mul, Int.add_mul]
    omega
theorem fstS_eq {f : Int} {b : UInt8} (h0 : 0 ≤ f) (h1 : f < 65521) : fstS f b = (f + (b.toNat : Int)) % 65521 := by
  have hb := b.toNat_lt
  unfold fstS
  rw [wrap64 (n := (b.toNat : Int)) (by omega) (by omega), wrap64 (by omega) (by omega), Int.tmod_eq_emod_of_nonneg (by omega)]
theorem sndS_eq {s f : Int} (h0 : 0 ≤ f) (h1 : f < 65521) (h2 : 0 ≤ s) (h3 : s < 65521) : sndS s f = (s + f) % 65521 := by
  unfold sndS
  rw [wrap64 (by omega) (by omega), Int.tmod_eq_emod_of_nonneg (by omega)]
theorem sumS_eq (l : L) : ∀ f s : Int, 0 ≤ f → f < 65521 → 0 ≤ s → s < 65521 → (sumS f s l).1 % 65521 = (f + bsum l) % 65521 ∧ (sumS f s l).2 % 65521 = (s + (l.length : Int) * f + wsum l) % 65521 := by
  induction l with
  | nil => intro f s _ _ _ _; simp [sumS, bsum, wsum]
  | cons b l ih =>
    intro f s f0 f1 s0 s1
    have hf := fstS_eq (b := b) f0 f1
    have hf0 : 0 ≤ fstS f b := by rw [hf]; omega
    have hf1 : fstS f b < 65521 := by rw [hf]; omega
    have hs := sndS_eq hf0 hf1 s0 s1
    obtain ⟨h1, h2⟩ := ih (fstS f b) (sndS s (fstS f b)) hf0 hf1 (by rw [hs]; omega) (by rw [hs]; omega)
    simp only [sumS, bsum, wsum, List.length_cons]
    generalize (sumS (fstS f b) (sndS s (fstS f b)) l).1 = r1 at *
    generalize (sumS (fstS f b) (sndS s (fstS f b)) l).2 = r2 at *
    rw [hs] at h2
    generalize fstS f b = t at *
    obtain ⟨k, hk⟩ : ∃ k : Int, t = f + (b.toNat : Int) - 65521 * k := ⟨(f + (b.toNat : Int)) / 65521, by omega⟩
    refine ⟨by omega, ?_⟩
    have hm : (l.length : Int) * t = (l.length : Int) * f + (l.length : Int) * (b.toNat : Int) - 65521 * ((l.length : Int) * k) := by
      rw [hk, Int.mul_sub, Int.mul_add, Int.mul_left_comm]
    have h3 : ((l.length + 1 : Nat) : Int) * f = (l.length : Int) * f + f := by rw [Int.natCast_add, Int.add_mul]; simp
    have h4 : ((l.length : Int) + 1) * (b.toNat : Int) = (l.length : Int) * (b.toNat : Int) + (b.toNat : Int) := by rw [Int.add_mul]; simp
    rw [hm] at h2
    rw [h3, h4]
    generalize (l.length : Int) * f = u1 at *
    generalize (l.length : Int) * (b.toNat : Int) = u2 at *
    generalize (l.length : Int) * k = u3 at *
    omega
theorem sum_parts {l m : L} (h : sumOf l = sumOf m) : (sumS 1 0 l).1 = (sumS 1 0 m).1 ∧ (sumS 1 0 l).2 = (sumS 1 0 m).2 := by
  have h1 := (sumN_eq l).1
  have h2 := (sumN_eq m).1
  have r1 := sumS_range l 1 0 (by omega) (by omega) (by omega) (by omega)
  have r2 := sumS_range m 1 0 (by omega) (by omega) (by omega) (by omega)
  unfold sumN at h1 h2
  rw [h, ← h2] at h1
  omega
theorem sum_same {l m : L} (hl : l.length = m.length) (h : sumOf l = sumOf m) : (bsum l - bsum m) % 65521 = 0 ∧ (wsum l - wsum m) % 65521 = 0 := by
  obtain ⟨p1, p2⟩ := sum_parts h
  obtain ⟨a1, a2⟩ := sumS_eq l 1 0 (by omega) (by omega) (by omega) (by omega)
  obtain ⟨b1, b2⟩ := sumS_eq m 1 0 (by omega) (by omega) (by omega) (by omega)
  rw [hl] at a2
  rw [p1] at a1
  rw [p2] at a2
  omega
/-- one byte changed -/
theorem sum_change {p q : L} {x y : UInt8} (h : x ≠ y) : sumOf (p ++ x :: q) ≠ sumOf (p ++ y :: q) := fun e => by
  obtain ⟨h1, _⟩ := sum_same (by simp) e
  have hx := x.toNat_lt
  have hy := y.toNat_lt
  have : x.toNat ≠ y.toNat := fun hh => h (UInt8.toNat_inj.1 hh)
  simp only [bsum_app, bsum] at h1
  omega
/-- two neighbours exchanged -/
theorem sum_swap {p q : L} {x y : UInt8} (h : x ≠ y) : sumOf (p ++ x :: y :: q) ≠ sumOf (p ++ y :: x :: q) := fun e => by
  obtain ⟨_, h1⟩ := sum_same (by simp) e
  have hx := x.toNat_lt
  have hy := y.toNat_lt
  have hne : x.toNat ≠ y.toNat := fun hh => h (UInt8.toNat_inj.1 hh)
  simp only [wsum_app, wsum, bsum, List.length_cons] at h1
  have e1 : ∀ z : Int, (((q.length + 1 : Nat) : Int) + 1) * z = (q.length : Int) * z + 2 * z := fun z => by rw [Int.natCast_add, Int.add_mul, Int.add_mul]; omega
  have e2 : ∀ z : Int, ((q.length : Int) + 1) * z = (q.length : Int) * z + z := fun z => by rw [Int.add_mul]; omega
  rw [e1, e1, e2, e2] at h1
  generalize (q.length : Int) * (x.toNat : Int) = u1 at *
  generalize (q.length : Int) * (y.toNat : Int) = u2 at *
  generalize (((q.length + 1 + 1 : Nat)) : Int) * bsum p = u3 at *
  omega
end Go.Proofs.FileA
/- A spoilt file is none. Plain lists. -/
set_option linter.unusedVariables false
set_option linter.unusedSimpArgs false
namespace Go.Proofs.FileA
open Go Go.Am

theorem be4_inj {n m : Nat} (hn : n < 2 ^ 32) (hm : m < 2 ^ 32) (h : be 4 n = be 4 m) : n = m := by
  have h1 := beVal_be 4 n (by omega)
  have h2 := beVal_be 4 m (by omega)
  rw [h, h2] at h1
  exact h1.symm
theorem file_split {b : L} (h : (kindOf sumOf b).2 = 0) : ∃ body : L, b = body ++ be 4 (sumOf body) := by
  obtain ⟨k, hb, _⟩ := kindOf_back h
  exact ⟨_, hb⟩

theorem spoilt_change {k : UInt8} {c P S : L} {x y : UInt8} (hf : fileOf k c = P ++ x :: S) (h : x ≠ y) : (kindOf sumOf (P ++ y :: S)).2 ≠ 0 := fun e => by
  obtain ⟨body', hb'⟩ := file_split e
  obtain ⟨body, hbody⟩ : ∃ body : L, body = [83, 119, k] ++ c := ⟨_, rfl⟩
  unfold fileOf at hf
  rw [← hbody] at hf
  have first : ∀ a : L, P = body ++ a → be 4 (sumOf body) = a ++ x :: S → False := fun a h1 h2 => by
    have hl := congrArg List.length h2
    rw [h1, List.append_assoc] at hb'
    obtain ⟨e1, e2⟩ := List.append_inj' hb' (by simp at hl ⊢; omega)
    rw [← e1, h2] at e2
    have := List.append_cancel_left e2
    simp only [List.cons.injEq, and_true] at this
    exact h this.symm
  rcases List.append_eq_append_iff.1 hf with ⟨a, h1, h2⟩ | ⟨a, h1, h2⟩
  · exact first a h1 h2
  · cases a with
    | nil => exact first [] (by simpa using h1.symm) (by simpa using h2.symm)
    | cons z a =>
      simp only [List.cons_append, List.cons.injEq] at h2
      obtain ⟨rfl, rfl⟩ := h2
      have hb2 : (P ++ y :: a) ++ be 4 (sumOf body) = body' ++ be 4 (sumOf body') := by rw [← hb']; simp
      obtain ⟨e1, e2⟩ := List.append_inj' hb2 (by simp)
      have := be4_inj (sumN_eq body).2 (sumN_eq body').2 e2
      rw [← e1, h1] at this
      exact sum_change h this

theorem spoilt_swap {k : UInt8} {c P S : L} {x y : UInt8} (hf : fileOf k c = P ++ x :: y :: S) (h : x ≠ y) : (kindOf sumOf (P ++ y :: x :: S)).2 ≠ 0 := fun e => by
  obtain ⟨body', hb'⟩ := file_split e
  obtain ⟨body, hbody⟩ : ∃ body : L, body = [83, 119, k] ++ c := ⟨_, rfl⟩
  unfold fileOf at hf
  rw [← hbody] at hf
  have first : ∀ a : L, P = body ++ a → be 4 (sumOf body) = a ++ x :: y :: S → False := fun a h1 h2 => by
    have hl := congrArg List.length h2
    rw [h1, List.append_assoc] at hb'
    obtain ⟨e1, e2⟩ := List.append_inj' hb' (by simp at hl ⊢; omega)
    rw [← e1, h2] at e2
    have := List.append_cancel_left e2
    simp only [List.cons.injEq, and_true] at this
    exact h this.1.symm
  rcases List.append_eq_append_iff.1 hf with ⟨a, h1, h2⟩ | ⟨a, h1, h2⟩
  · exact first a h1 h2
  · match a with
    | [] => exact first [] (by simpa using h1.symm) (by simpa using h2.symm)
    | [z] =>
      -- across the end of the body
      simp only [List.cons_append, List.nil_append, List.cons.injEq] at h2
      obtain ⟨rfl, h2⟩ := h2
      have hl := congrArg List.length h2
      have hb2 : (P ++ [y]) ++ (x :: S) = body' ++ be 4 (sumOf body') := by rw [← hb']; simp
      obtain ⟨e1, e2⟩ := List.append_inj' hb2 (by simp at hl ⊢; omega)
      rw [be4] at h2 e2
      obtain ⟨g1, hS⟩ := List.cons.inj h2
      obtain ⟨g2, hS'⟩ := List.cons.inj e2
      rw [hS] at hS'
      simp only [List.cons.injEq] at hS'
      obtain ⟨g3, g4, g5, _⟩ := hS'
      obtain ⟨n1, n2⟩ := sumN_eq body
      obtain ⟨m1, m2⟩ := sumN_eq body'
      have q1 := congrArg UInt8.toNat g4
      have q2 := congrArg UInt8.toNat g5
      simp at q1 q2
      have r1 := sumS_range body 1 0 (by omega) (by omega) (by omega) (by omega)
      have r2 := sumS_range body' 1 0 (by omega) (by omega) (by omega) (by omega)
      have s1 := (sumS_eq body 1 0 (by omega) (by omega) (by omega) (by omega)).1
      have s2 := (sumS_eq body' 1 0 (by omega) (by omega) (by omega) (by omega)).1
      unfold sumN at n1 m1
      have hlow : sumOf body % 65536 = sumOf body' % 65536 := by omega
      have hfst : (sumS 1 0 body).1 = (sumS 1 0 body').1 := by omega
      rw [hfst, s2] at s1
      rw [h1, ← e1] at s1
      simp only [bsum_app, bsum] at s1
      have hx := x.toNat_lt
      have hy := y.toNat_lt
      have hne : x.toNat ≠ y.toNat := fun hh => h (UInt8.toNat_inj.1 hh)
      omega
    | z :: w :: a =>
      simp only [List.cons_append, List.cons.injEq] at h2
      obtain ⟨rfl, rfl, rfl⟩ := h2
      have hb2 : (P ++ y :: x :: a) ++ be 4 (sumOf body) = body' ++ be 4 (sumOf body') := by rw [← hb']; simp
      obtain ⟨e1, e2⟩ := List.append_inj' hb2 (by simp)
      have := be4_inj (sumN_eq body).2 (sumN_eq body').2 e2
      rw [← e1, h1] at this
      exact sum_swap h this
/-- what the kind says of what is no file -/
theorem kind_none {b : L} (h7 : 7 ≤ b.length) (hl : b.length ≤ 200000) (h : (kindOf sumOf b).2 ≠ 0) : (kindOf sumOf b).1 = 0 ∧ ((kindOf sumOf b).2 = 10 ∨ ((kindOf sumOf b).2 = 8 ∧ (b[0]? ≠ some 83 ∨ b[1]? ≠ some 119))) := by
  unfold kindOf at h ⊢
  rw [if_neg (by omega)] at h ⊢
  by_cases hc : b.length < 7 ∨ b[0]? ≠ some 83 ∨ b[1]? ≠ some 119
  · rw [if_pos hc]
    exact ⟨rfl, .inr ⟨rfl, hc.resolve_left (by omega)⟩⟩
  · rw [if_neg hc] at h ⊢
    by_cases hs : b.drop (b.length - 4) ≠ be 4 (sumOf (b.take (b.length - 4)))
    · rw [if_pos hs]
      exact ⟨rfl, .inl rfl⟩
    · rw [if_neg hs] at h
      exact absurd rfl h
theorem read_none {b : L} (h : (kindOf sumOf b).2 ≠ 0) : readX b = zThings ∧ ∀ i, readE b i = (kindOf sumOf b).2 := by
  have hr : ∀ {α : Type} (k : Nat) (dec : L → Option (α × L)), readOf sumOf k dec b = (none, (kindOf sumOf b).2) := fun k dec => by unfold readOf; rw [if_pos h]
  refine ⟨by simp only [readX, hr]; rfl, fun i => ?_⟩
  match i with
  | 0 => simp only [readE, hr]
  | 1 => simp only [readE, hr]
  | 2 => simp only [readE, hr]
  | i + 3 => simp only [readE, hr]
end Go.Proofs.FileA
