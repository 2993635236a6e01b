/- A part of the law's proof: Val. -/
import Derived.Test.YtcpcmkacjdbpaaaDoorTy
import Derived.Test.YtcpcmkacjdbpaaaDoorLay
/- Nest: what the reference's functions of values return. -/
set_option linter.unusedVariables false
set_option linter.unusedSimpArgs false
namespace Go.Proofs.Nst
open Go Go.Am

namespace Tr
mutual
/-- has it, or one in it, too many parts for a sequence? -/
def long : Tr → Bool
  | .mk k _ _ l => (k == 4 && decide (4096 < l.length)) || longL l
def longL : List Tr → Bool
  | [] => false
  | t :: ts => long t || longL ts
end
/-- has a kind such a number, and so many parts? -/
def numOk (k n m : Int) : Bool :=
  if k = 0 then n == 0 && m == 0 else if k = 1 then decide (-2147483648 ≤ n ∧ n ≤ 2147483647) && m == 0 else if k = 2 then n == 0 && m == 2
  else if k = 3 then decide (0 ≤ n ∧ n ≤ 1) && m == 1 else if k = 4 then n == 0 else false
mutual
def allNum : Tr → Bool
  | .mk k n _ l => numOk k n l.length && allNumL l
def allNumL : List Tr → Bool
  | [] => true
  | t :: ts => allNum t && allNumL ts
end
theorem longL_iff {l : List Tr} : longL l = true ↔ ∃ t ∈ l, t.long = true := by
  induction l with
  | nil => simp [longL]
  | cons t ts ih => simp [longL, ih]
theorem allNumL_iff {l : List Tr} : allNumL l = true ↔ ∀ t ∈ l, t.allNum = true := by
  induction l with
  | nil => simp [allNumL]
  | cons t ts ih => simp [allNumL, ih]
end Tr

theorem sizeOf_q : ∀ t : Tr, t.Ok → t.nodes < 2 ^ 60 → PC 33 [.agg t.cs] (.int .i64 t.nodes) := by
  intro t
  induction t using Tr.ind with
  | h k n v l ih =>
  intro ho hn
  obtain ⟨_, _, hv, hl⟩ := ho.inv
  simp only [Tr.nodes] at hn
  have hlv := len_tr hv
  refine pc_of (by simp [pureL, pureV, pure_tr ho]) (fun h => rfl) ?_
  refine call_ofQ (af := Trnx.a33) rfl rfl fun Q hQ => ?_
  simp only [Trnx.a33]
  simp [Tr.cs, hv.cell]
  refine loop_nQ l.length (fun i c => c = ⟨[.agg [.int .i64 k, .int .i64 n, v], .agg [.int .i64 k, .int .i64 n, v], .int .i64 0, .int .i64 (1 + Tr.nodesL (l.take i) : Nat), .int .i64 i], [], none, none, []⟩) ?_ (by simp [Tr.nodesL])
  rintro I hI i c hi rfl
  have hlen := Tr.nodesL_length l
  by_cases hlt : i < l.length
  · have hlt' : (i : Int) < l.length := by omega
    have hc := ih l[i] (List.getElem_mem hlt) (hl _ (List.getElem_mem hlt)) (by have := Tr.nodesL_mem (List.getElem_mem hlt); omega)
    have hi1 := idx_tr hv hlt
    have ht := Tr.nodesL_take hlt
    have hle := Tr.nodesL_take_le (l := l) (i + 1)
    have hw2 : IntKind.i64.wrap ((i : Int) + 1) = (i : Int) + 1 := wrap64 (by omega) (by omega)
    rw [PC] at hc
    generalize l[i] = x at *
    have hw : IntKind.i64.wrap (1 + (Tr.nodesL (l.take i) : Int) + (x.nodes : Int)) = 1 + (Tr.nodesL (l.take (i + 1)) : Int) := by rw [wrap64 (by omega) (by omega)]; omega
    simp [hv.cell, hlv, hlt', hi1, hc, hw, hw2, slotOf, -pcall]
    exact ⟨hlt, hI _ _ rfl⟩
  · obtain rfl : i = l.length := by omega
    simp [hv.cell, hlv, slotOf]
    refine hQ _ _ ?_
    simp [Tr.nodes]

theorem deep_q : ∀ t : Tr, t.Ok → t.nodes < 2 ^ 60 → PC 65 [.agg t.cs] (.int .i64 t.levels) := by
  intro t
  induction t using Tr.ind with
  | h k n v l ih =>
  intro ho hn
  obtain ⟨_, _, hv, hl⟩ := ho.inv
  simp only [Tr.nodes] at hn
  have hlv := len_tr hv
  refine pc_of (by simp [pureL, pureV, pure_tr ho]) (fun h => rfl) ?_
  refine call_ofQ (af := Trnx.a65) rfl rfl fun Q hQ => ?_
  simp only [Trnx.a65]
  simp [Tr.cs, hv.cell]
  refine loop_nQ l.length (fun i c => c = ⟨[.agg [.int .i64 k, .int .i64 n, v], .agg [.int .i64 k, .int .i64 n, v], .int .i64 0, .int .i64 (Tr.levelsL (l.take i) : Nat), .int .i64 i], [], none, none, []⟩) ?_ (by simp [Tr.levelsL])
  rintro I hI i c hi rfl
  have hlen := Tr.nodesL_length l
  have hll := Tr.levelsL_le_nodesL l
  by_cases hlt : i < l.length
  · have hlt' : (i : Int) < l.length := by omega
    have hc := ih l[i] (List.getElem_mem hlt) (hl _ (List.getElem_mem hlt)) (by have := Tr.nodesL_mem (List.getElem_mem hlt); omega)
    have hi1 := idx_tr hv hlt
    have ht := Tr.levelsL_take hlt
    have hw2 : IntKind.i64.wrap ((i : Int) + 1) = (i : Int) + 1 := wrap64 (by omega) (by omega)
    rw [PC] at hc
    generalize l[i] = x at *
    have e : (if Tr.levelsL (l.take i) < x.levels then (x.levels : Int) else (Tr.levelsL (l.take i) : Int)) = ((Tr.levelsL (l.take (i + 1)) : Nat) : Int) := by
      rw [ht]; split <;> omega
    simp [hv.cell, hlv, hlt', hi1, hc, e, hw2, slotOf, -pcall]
    exact ⟨hlt, hI _ _ rfl⟩
  · obtain rfl : i = l.length := by omega
    have hw : IntKind.i64.wrap ((Tr.levelsL l : Int) + 1) = (Tr.levelsL l : Int) + 1 := wrap64 (by omega) (by omega)
    simp [hv.cell, hlv, hw, slotOf]
    refine hQ _ _ ?_
    simp [Tr.levels]

theorem long_q : ∀ t : Tr, t.Ok → t.nodes < 2 ^ 60 → PC 57 [.agg t.cs] (.bool t.long) := by
  intro t
  induction t using Tr.ind with
  | h k n v l ih =>
  intro ho hn
  obtain ⟨_, _, hv, hl⟩ := ho.inv
  simp only [Tr.nodes] at hn
  have hlv := len_tr hv
  have hlen := Tr.nodesL_length l
  refine pc_of (by simp [pureL, pureV, pure_tr ho]) (fun h => rfl) ?_
  refine call_ofQ (af := Trnx.a57) rfl rfl fun Q hQ => ?_
  simp only [Trnx.a57, WX_seq]
  refine WX_last _ _ (c' := ⟨[.agg [.int .i64 k, .int .i64 n, v], .agg [.int .i64 k, .int .i64 n, v], .bool false, .undef], [], none, none, []⟩) ?_ ?_
  · simp [Tr.cs, hv.cell, slotOf]
  simp only [seqQ_norm, WX_seq]
  refine WX_last _ _ (c' := ⟨[.agg [.int .i64 k, .int .i64 n, v], .agg [.int .i64 k, .int .i64 n, v], .bool false, .undef], [], some (12, .bool (k == 4 && decide ((4096 : Int) < l.length))), none, []⟩) ?_ ?_
  · cases hk : k == 4 <;> simp [hv.cell, hlv, hk, slotOf]
  simp only [seqQ_norm, WX_seq, WX_ite]
  have e : decide ((4096 : Int) < l.length) = decide (4096 < l.length) := decide_eq_decide.2 (by omega)
  rw [e]
  split
  · rename_i h4
    simp [slotOf]
    refine hQ _ _ ?_
    simp only [Tr.long, h4, Bool.true_or]
  rename_i h4
  rw [Bool.not_eq_true] at h4
  simp [hv.cell, slotOf]
  refine loop_nQ l.length (fun i c => Tr.longL (l.take i) = false ∧ c = ⟨[.agg [.int .i64 k, .int .i64 n, v], .agg [.int .i64 k, .int .i64 n, v], .bool false, .int .i64 i], [], none, none, []⟩) ?_ (by simp [Tr.longL])
  rintro I hI i c hi ⟨hty, rfl⟩
  by_cases hlt : i < l.length
  · have hlt' : (i : Int) < l.length := by omega
    have hc := ih l[i] (List.getElem_mem hlt) (hl _ (List.getElem_mem hlt)) (by have := Tr.nodesL_mem (List.getElem_mem hlt); omega)
    have hi1 := idx_tr hv hlt
    have hw2 : IntKind.i64.wrap ((i : Int) + 1) = (i : Int) + 1 := wrap64 (by omega) (by omega)
    rw [PC] at hc
    cases hx : l[i].long
    · rw [hx] at hc
      simp [hv.cell, hlv, hlt', hi1, hc, hw2, slotOf, -pcall]
      refine ⟨hlt, hI _ _ ⟨?_, rfl⟩⟩
      rw [← List.take_append_getElem hlt, Bool.eq_false_iff]
      rw [Bool.eq_false_iff] at hty hx
      intro hq
      obtain ⟨t, hm, h1⟩ := Tr.longL_iff.1 hq
      rcases List.mem_append.1 hm with hm | hm
      · exact hty (Tr.longL_iff.2 ⟨t, hm, h1⟩)
      · rw [List.mem_singleton.1 hm] at h1; exact hx h1
    · rw [hx] at hc
      simp [hv.cell, hlv, hlt', hi1, hc, hw2, slotOf, -pcall]
      refine hQ _ _ ?_
      have : Tr.longL l = true := Tr.longL_iff.2 ⟨_, List.getElem_mem hlt, hx⟩
      simp [Tr.long, this]
  · obtain rfl : i = l.length := by omega
    simp [hv.cell, hlv, slotOf]
    refine hQ _ _ ?_
    rw [List.take_length] at hty
    simp only [Tr.long, hty, h4, Bool.or_false]

theorem isWord_q (n : Int) : PC 84 [.int .i64 n] (.bool (decide (-2147483648 ≤ n ∧ n ≤ 2147483647))) := by
  have hc := lies_q n (-2147483648) 2147483647
  rw [PC] at hc
  refine pc_of rfl (fun h => rfl) ?_
  refine call_ofQ (af := Trnx.a84) rfl rfl fun Q hQ => ?_
  simp only [Trnx.a84]
  simp [hc, slotOf, -pcall]
  refine hQ _ _ ?_
  simp

theorem number_q (t : Tr) (ho : t.Ok) : PC 62 [.agg t.cs] (.bool (Tr.numOk t.k t.n t.l.length)) := by
  cases ho with
  | mk k n v l hk hn hv hl =>
  have hlv := len_tr hv
  refine pc_of (by simp [pureL, pureV, Tr.cs, hv.pure]) (fun h => rfl) ?_
  refine call_ofQ (af := Trnx.a62) rfl rfl fun Q hQ => ?_
  have hq : ∀ b, b = Tr.numOk k n l.length → ∀ h', Q (.ret (.bool b)) h' := fun b hb h' => hQ _ _ (by rw [hb]; rfl)
  simp only [Trnx.a62]
  have h5 : k = 0 ∨ k = 1 ∨ k = 2 ∨ k = 3 ∨ k = 4 ∨ ¬ (k = 0 ∨ k = 1 ∨ k = 2 ∨ k = 3 ∨ k = 4) := by omega
  rcases h5 with rfl | rfl | rfl | rfl | rfl | h5
  · cases e : n == 0 <;> simp [Tr.cs, hv.cell, hlv, e, slotOf] <;> refine hq _ ?_ _ <;> simp [Tr.numOk, e]
  · by_cases e : -2147483648 ≤ n <;> by_cases e2 : n ≤ 2147483647 <;> simp [Tr.cs, hv.cell, hlv, e, e2, slotOf] <;> refine hq _ ?_ _ <;> simp [Tr.numOk, e, e2]
  · cases e : n == 0 <;> simp [Tr.cs, hv.cell, hlv, e, slotOf] <;> refine hq _ ?_ _ <;> simp [Tr.numOk, e]
  · have e3 : decide (0 ≤ n ∧ n ≤ 1) = (n == 0 || n == 1) := by rw [Bool.eq_iff_iff]; simp; omega
    cases e : n == 0 <;> cases e2 : n == 1 <;> rw [e, e2] at e3 <;> simp [Tr.cs, hv.cell, hlv, e, e2, slotOf] <;> refine hq _ ?_ _ <;> simp only [Tr.numOk, e3] <;> simp
  · simp [Tr.cs, hv.cell, hlv, slotOf]
    refine hq _ ?_ _
    simp [Tr.numOk]
  · have e0 : (k == 0) = false := by simp; omega
    have e1 : (k == 1) = false := by simp; omega
    have e2 : (k == 2) = false := by simp; omega
    have e3 : (k == 3) = false := by simp; omega
    have e4 : (k == 4) = false := by simp; omega
    simp [Tr.cs, hv.cell, hlv, e0, e1, e2, e3, e4, slotOf]
    refine hq _ ?_ _
    simp at e0 e1 e2 e3 e4
    simp [Tr.numOk, e0, e1, e2, e3, e4]

theorem node_q : ∀ t : Tr, t.Ok → t.nodes < 2 ^ 60 → PC 66 [.agg t.cs] (.bool t.allNum) := by
  intro t
  induction t using Tr.ind with
  | h k n v l ih =>
  intro ho hnn
  obtain ⟨_, _, hv, hl⟩ := ho.inv
  simp only [Tr.nodes] at hnn
  have hlv := len_tr hv
  have hlen := Tr.nodesL_length l
  refine pc_of (by simp [pureL, pureV, pure_tr ho]) (fun h => rfl) ?_
  refine call_ofQ (af := Trnx.a66) rfl rfl fun Q hQ => ?_
  simp only [Trnx.a66, WX_seq]
  refine WX_last _ _ (c' := ⟨[.agg [.int .i64 k, .int .i64 n, v], .agg [.int .i64 k, .int .i64 n, v], .bool false, .undef, .undef, .undef], [], none, none, []⟩) ?_ ?_
  · simp [Tr.cs, hv.cell, slotOf]
  simp only [seqQ_norm, WX_seq]
  refine WX_last _ _ (c' := ⟨[.agg [.int .i64 k, .int .i64 n, v], .agg [.int .i64 k, .int .i64 n, v], .bool false, .bool false, .undef, .undef], [], none, none, []⟩) ?_ ?_
  · simp [slotOf]
  simp only [seqQ_norm, WX_seq]
  refine WX_last _ _ (c' := ⟨[.agg [.int .i64 k, .int .i64 n, v], .agg [.int .i64 k, .int .i64 n, v], .bool false, .bool false, .undef, .int .i64 k], [], none, none, []⟩) ?_ ?_
  · simp [slotOf]
  simp only [seqQ_norm]
  refine WX.mono (Q := fun o c => o = .norm ∧ c = ⟨[.agg [.int .i64 k, .int .i64 n, v], .agg [.int .i64 k, .int .i64 n, v], .bool false, .bool (Tr.numOk k n l.length), .undef, .int .i64 k], [], none, none, []⟩) ?_ ?_
  · have h5 : k = 0 ∨ k = 1 ∨ k = 2 ∨ k = 3 ∨ k = 4 ∨ ¬ (k = 0 ∨ k = 1 ∨ k = 2 ∨ k = 3 ∨ k = 4) := by omega
    rcases h5 with rfl | rfl | rfl | rfl | rfl | h5
    · cases e : n == 0 <;> simp [hv.cell, hlv, e, slotOf] <;> simp [Tr.numOk, e]
    · have hc := isWord_q n
      rw [PC] at hc
      cases e : decide (-2147483648 ≤ n ∧ n ≤ 2147483647) <;> rw [e] at hc <;> simp [hv.cell, hlv, hc, slotOf, -pcall] <;> simp only [Tr.numOk, e] <;> simp
    · cases e : n == 0 <;> simp [hv.cell, hlv, e, slotOf] <;> simp [Tr.numOk, e]
    · have hc := lies_q n 0 1
      rw [PC] at hc
      cases e : decide (0 ≤ n ∧ n ≤ 1) <;> rw [e] at hc <;> simp [hv.cell, hlv, hc, slotOf, -pcall] <;> simp only [Tr.numOk, e] <;> simp
    · simp [hv.cell, hlv, slotOf]
      simp [Tr.numOk]
    · have e0 : (k == 0) = false := by simp; omega
      have e1 : (k == 1) = false := by simp; omega
      have e2 : (k == 2) = false := by simp; omega
      have e3 : (k == 3) = false := by simp; omega
      have e4 : (k == 4) = false := by simp; omega
      simp [hv.cell, hlv, e0, e1, e2, e3, e4, slotOf]
      simp at e0 e1 e2 e3 e4
      simp [Tr.numOk, e0, e1, e2, e3, e4]
  rintro _ _ ⟨rfl, rfl⟩
  simp only [seqQ_norm, WX_seq]
  simp [hv.cell, slotOf]
  refine loop_nQ l.length (fun i c => ∃ b, b = (Tr.numOk k n l.length && Tr.allNumL (l.take i)) ∧ c = ⟨[.agg [.int .i64 k, .int .i64 n, v], .agg [.int .i64 k, .int .i64 n, v], .bool false, .bool b, .int .i64 i, .int .i64 k], [], none, none, []⟩) ?_ ⟨_, rfl, by simp [Tr.allNumL]⟩
  rintro I hI i c hi ⟨b, hb, rfl⟩
  cases b with
  | false =>
    simp [hv.cell, hlv, slotOf]
    refine hQ _ _ ?_
    have : (Tr.mk k n v l).allNum = false := by
      rw [Bool.eq_false_iff]
      intro hq
      simp only [Tr.allNum, Bool.and_eq_true] at hq
      rw [hq.1, Bool.true_and] at hb
      have := Tr.allNumL_iff.2 fun t ht => Tr.allNumL_iff.1 hq.2 t (List.mem_of_mem_take ht (i := i))
      rw [this] at hb
      cases hb
    rw [this]
  | true =>
    have hb := hb.symm
    rw [Bool.and_eq_true] at hb
    by_cases hlt : i < l.length
    · have hlt' : (i : Int) < l.length := by omega
      have hc := ih l[i] (List.getElem_mem hlt) (hl _ (List.getElem_mem hlt)) (by have := Tr.nodesL_mem (List.getElem_mem hlt); omega)
      have hi1 := idx_tr hv hlt
      have hw2 : IntKind.i64.wrap ((i : Int) + 1) = (i : Int) + 1 := wrap64 (by omega) (by omega)
      rw [PC] at hc
      simp [hv.cell, hlv, hlt', hi1, hc, hw2, slotOf, -pcall]
      refine ⟨hlt, hI _ _ ⟨l[i].allNum, ?_, rfl⟩⟩
      rw [hb.1, Bool.true_and, Bool.eq_iff_iff, Tr.allNumL_iff, ← List.take_append_getElem hlt]
      constructor
      · intro h1 t hm
        rcases List.mem_append.1 hm with hm | hm
        · exact Tr.allNumL_iff.1 hb.2 t hm
        · rw [List.mem_singleton.1 hm]; exact h1
      · intro h1
        exact h1 _ (List.mem_append.2 (.inr (List.mem_singleton.2 rfl)))
    · obtain rfl : i = l.length := by omega
      simp [hv.cell, hlv, slotOf]
      refine hQ _ _ ?_
      rw [List.take_length] at hb
      simp only [Tr.allNum, hb.1, hb.2, Bool.and_self]
end Go.Proofs.Nst
/- Nest: size and Valid by the program. -/
set_option linter.unusedVariables false
set_option linter.unusedSimpArgs false
namespace Go.Proofs.Nst
open Go Go.Am

theorem mem_take_succ {α : Type} {l : List α} {i : Nat} (h : i < l.length) {u : α} (hu : u ∈ l.take (i + 1)) : u ∈ l.take i ∨ u = l[i] := by
  rw [← List.take_append_getElem h] at hu
  rcases List.mem_append.1 hu with hu | hu
  · exact .inl hu
  · exact .inr (List.mem_singleton.1 hu)
theorem Tr.longL_take_false {l : List Tr} {i : Nat} (h : i < l.length) (h1 : longL (l.take i) = false) (h2 : l[i].long = false) : longL (l.take (i + 1)) = false := by
  rw [← List.take_append_getElem h, Bool.eq_false_iff]
  intro hq
  rw [Bool.eq_false_iff] at h1 h2
  obtain ⟨t, hm, h3⟩ := longL_iff.1 hq
  rcases List.mem_append.1 hm with hm | hm
  · exact h1 (longL_iff.2 ⟨t, hm, h3⟩)
  · rw [List.mem_singleton.1 hm] at h3; exact h2 h3
theorem Tr.allNumL_take {l : List Tr} {i : Nat} (h : i < l.length) (h1 : allNumL (l.take i) = true) (h2 : l[i].allNum = true) : allNumL (l.take (i + 1)) = true := by
  rw [← List.take_append_getElem h]
  refine allNumL_iff.2 fun t hm => ?_
  rcases List.mem_append.1 hm with hm | hm
  · exact allNumL_iff.1 h1 t hm
  · rw [List.mem_singleton.1 hm]; exact h2

abbrev clo83 (a b : Nat) : V := .func (.func 83) [] [.ref a 0 1, .ref b 0 1]

theorem size1_q : ∀ t : Tr, t.Ok → t.nodes < 2 ^ 60 → ∀ (M : Nat) (h : Heap) (a b : Nat), M ≤ 20000 → a ≠ b → h[a]? = some (.cells 1 1 [.int .i64 M]) → h[b]? = some (.cells 1 1 [clo83 a b]) →
    ∃ (ok : Bool) (M' : Int), CC 83 [.agg t.cs, .ref a 0 1, .ref b 0 1] h (.ret (.bool ok)) (h.set a (.cells 1 1 [.int .i64 M'])) ∧ (ok = true ↔ M + t.nodes ≤ 20000 ∧ t.long = false) ∧ (ok = true → M' = M + t.nodes) := by
  intro t
  induction t using Tr.ind with
  | h k n v l ih =>
  intro ho hnn M h a b hM hab ha hb
  obtain ⟨_, _, hv, hl⟩ := ho.inv
  have hlv := len_tr hv
  simp only [Tr.nodes] at hnn
  have hlen := Tr.nodesL_length l
  have key : CallP gl Trnx.aprog 83 [.agg (Tr.mk k n v l).cs, .ref a 0 1, .ref b 0 1] h (fun r h' => ∃ (ok : Bool) (M' : Int), r = .ret (.bool ok) ∧ h' = h.set a (.cells 1 1 [.int .i64 M']) ∧ (ok = true ↔ M + (Tr.mk k n v l).nodes ≤ 20000 ∧ (Tr.mk k n v l).long = false) ∧ (ok = true → M' = M + (Tr.mk k n v l).nodes)) := by
    refine call_ofQ (af := Trnx.a83) rfl rfl fun Q hQ => ?_
    have oa := objCells_of ha
    have ob : ∀ x, objCells (h.set a (.cells 1 1 [.int .i64 x])) b = some (1, 1, [clo83 a b]) := fun x => by rw [objCells_ne hab]; exact objCells_of hb
    have oa' : ∀ x, objCells (h.set a (.cells 1 1 [.int .i64 x])) a = some (1, 1, [.int .i64 x]) := fun x => objCells_set ha _ _ _
    have hw : IntKind.i64.wrap ((M : Int) + 1) = (M : Int) + 1 := wrap64 (by omega) (by omega)
    simp only [Trnx.a83, WX_seq]
    refine WX_last _ _ (c' := ⟨[.agg [.int .i64 k, .int .i64 n, v], .ref a 0 1, .ref b 0 1, .agg [.int .i64 k, .int .i64 n, v], .bool false, .undef, .undef, .undef, .undef], [], none, none, h⟩) ?_ ?_
    · simp [Tr.cs, hv.cell, slotOf]
    simp only [seqQ_norm, WX_seq]
    refine WX_last _ _ (c' := ⟨[.agg [.int .i64 k, .int .i64 n, v], .ref a 0 1, .ref b 0 1, .agg [.int .i64 k, .int .i64 n, v], .bool false, .undef, .undef, .undef, .undef], [], none, none, h.set a (.cells 1 1 [.int .i64 ((M : Int) + 1)])⟩) ?_ ?_
    · simp [oa, hw, storeV, slotOf]
    simp only [seqQ_norm, WX_seq]
    refine WX_last _ _ (c' := ⟨[.agg [.int .i64 k, .int .i64 n, v], .ref a 0 1, .ref b 0 1, .agg [.int .i64 k, .int .i64 n, v], .bool false, .undef, .undef, .undef, .undef], [], some (21, .bool (decide ((20000 : Int) < M + 1) || (k == 4 && decide ((4096 : Int) < l.length)))), none, h.set a (.cells 1 1 [.int .i64 ((M : Int) + 1)])⟩) ?_ ?_
    · by_cases e1 : (20000 : Int) < M + 1
      · simp [oa', e1, slotOf]
      · cases e2 : k == 4 <;> simp [oa', e1, e2, hv.cell, hlv, slotOf]
    simp only [seqQ_norm, WX_seq, WX_ite]
    have e : decide ((4096 : Int) < l.length) = decide (4096 < l.length) := decide_eq_decide.2 (by omega)
    rw [e]
    split
    · rename_i h4
      simp [slotOf]
      refine hQ _ _ ⟨false, _, rfl, rfl, ?_, by simp⟩
      simp only [Bool.false_eq_true, false_iff, Tr.nodes, Tr.long]
      rintro ⟨h5, h6⟩
      rw [Bool.or_eq_false_iff] at h6
      rw [h6.1] at h4
      simp at h4
      omega
    rename_i h4
    rw [Bool.not_eq_true, Bool.or_eq_false_iff] at h4
    have hM1 : M + 1 ≤ 20000 := by have := h4.1; simp at this; omega
    simp [hv.cell, hlv, slotOf]
    refine loop_nQ l.length (fun i c => M + 1 + Tr.nodesL (l.take i) ≤ 20000 ∧ Tr.longL (l.take i) = false ∧ ∃ x y, c = ⟨[.agg [.int .i64 k, .int .i64 n, v], .ref a 0 1, .ref b 0 1, .agg [.int .i64 k, .int .i64 n, v], .bool false, x, v, .int .i64 l.length, .int .i64 i], [], y, none, h.set a (.cells 1 1 [.int .i64 (M + 1 + Tr.nodesL (l.take i) : Nat)])⟩) ?_ ⟨by simp [Tr.nodesL]; omega, by simp [Tr.longL], .undef, none, by simp [Tr.nodesL]⟩
    rintro I hI i c hi ⟨hn1, hl1, x, y, rfl⟩
    by_cases hlt : i < l.length
    · have hlt' : (i : Int) < l.length := by omega
      have hi1 := idx_tr hv hlt
      have htn := Tr.nodesL_take hlt
      have htl := Tr.longL_take_false hlt hl1
      have hle := Tr.nodesL_take_le (l := l) (i + 1)
      have ha2 : (h.set a (.cells 1 1 [.int .i64 (M + 1 + Tr.nodesL (l.take i) : Nat)]))[a]? = some (.cells 1 1 [.int .i64 (M + 1 + Tr.nodesL (l.take i) : Nat)]) := by
        have := (List.getElem?_eq_some_iff.1 ha).1
        simp [this]
      have hb2 : (h.set a (.cells 1 1 [.int .i64 (M + 1 + Tr.nodesL (l.take i) : Nat)]))[b]? = some (.cells 1 1 [clo83 a b]) := by simp [hab, hb]
      have hcall := Tr.nodesL_mem (List.getElem_mem hlt)
      obtain ⟨ok, M', hc, h2, h3⟩ := ih l[i] (List.getElem_mem hlt) (hl _ (List.getElem_mem hlt)) (by omega) (M + 1 + Tr.nodesL (l.take i)) _ a b hn1 hab ha2 hb2
      have hok := hl _ (List.getElem_mem hlt)
      have hw2 : IntKind.i64.wrap ((i : Int) + 1) = (i : Int) + 1 := wrap64 (by omega) (by omega)
      have hcc := cells_tr hok
      have hlm : l[i].long = true → Tr.longL l = true := fun h => Tr.longL_iff.2 ⟨_, List.getElem_mem hlt, h⟩
      simp only [List.set_set] at hc
      generalize l[i] = u at *
      generalize hN : M + 1 + Tr.nodesL (l.take i) = N at *
      cases ok with
      | true =>
        have h3 := h3 rfl
        have h2 := h2.1 rfl
        simp [hv.cell, hlv, hlt', hi1, ob, oa', hc, hcc, hw2, slotOf, -List.all_eq_true]
        refine ⟨hlt, hI _ _ ⟨by omega, htl h2.2, .agg u.cs, none, ?_⟩⟩
        have e : M' = ((M + 1 + Tr.nodesL (l.take (i + 1)) : Nat) : Int) := by omega
        rw [e]
        rfl
      | false =>
        simp [hv.cell, hlv, hlt', hi1, ob, oa', hc, hcc, slotOf, -List.all_eq_true]
        refine hQ _ _ ⟨false, M', rfl, rfl, ?_, by simp⟩
        simp only [Bool.false_eq_true, false_iff] at h2 ⊢
        simp only [Tr.nodes, Tr.long, Bool.or_eq_false_iff]
        rintro ⟨h5, h6, h7⟩
        refine h2 ⟨by omega, ?_⟩
        rw [Bool.eq_false_iff]
        intro h8
        rw [hlm h8] at h7
        cases h7
    · obtain rfl : i = l.length := by omega
      rw [List.take_length] at hn1 hl1
      simp [hv.cell, hlv, slotOf]
      refine hQ _ _ ⟨true, _, rfl, rfl, ?_, fun _ => ?_⟩
      · simp only [Tr.nodes, Tr.long, true_iff, h4.2, hl1, Bool.or_self, and_true]; omega
      · simp only [Tr.nodes]; omega
  obtain ⟨r, h', e, ok, L', rfl, rfl, h1, h2⟩ := OptP.ex key
  exact ⟨ok, L', e, h1, h2⟩

/-- is a value of a size? -/
def Tr.sized (t : Tr) : Bool := decide (t.nodes ≤ 20000) && !t.long

theorem size_q (t : Tr) (ho : t.Ok) (hn : t.nodes < 2 ^ 60) : ∃ m : Int, PC 56 [.agg t.cs] (.tup [.int .i64 m, .bool t.sized]) ∧ (t.sized = true → m = t.nodes) := by
  obtain ⟨ok, M', hc, h1, h2⟩ := size1_q t ho hn 0 [.cells 1 1 [.int .i64 0], .cells 1 1 [clo83 0 1]] 0 1 (by omega) (by omega) rfl rfl
  have hok : ok = t.sized := by
    rw [Bool.eq_iff_iff, h1]
    simp [Tr.sized]
  subst hok
  refine ⟨M', ?_, fun h => by have := h2 h; omega⟩
  refine pc_of (by simp [pureL, pureV, pure_tr ho]) (fun h => rfl) ?_
  refine call_ofQ (af := Trnx.a56) rfl rfl fun Q hQ => ?_
  simp only [Trnx.a56]
  have hcc := cells_tr ho
  have hc' : (lim gl Trnx.aprog).call 83 [.agg t.cs, .ref 0 0 1, .ref 1 0 1] [.cells 1 1 [.int .i64 0], .cells 1 1 [clo83 0 1]] = some (.ret (.bool t.sized), _) := hc
  simp [hcc, hc', storeV, objCells, slotOf, -List.all_eq_true]
  exact hQ _ _ rfl

theorem psize_q (t : Tr) (ho : t.Ok) (hn : t.nodes < 2 ^ 60) : PC 16 [.agg t.cs] (if t.sized then .tup [.int .i64 t.nodes, .int .i64 0] else .tup [.int .i64 0, .int .i64 3]) := by
  obtain ⟨m, hc, hm⟩ := size_q t ho hn
  rw [PC] at hc
  have hcc := cells_tr ho
  refine pc_of (by simp [pureL, pureV, pure_tr ho]) (fun h => by split <;> rfl) ?_
  refine call_ofQ (af := Trnx.a16) rfl rfl fun Q hQ => ?_
  simp only [Trnx.a16]
  cases e : t.sized
  · rw [e] at hc hQ
    simp [hcc, hc, slotOf, -pcall, -List.all_eq_true]
    exact hQ _ _ rfl
  · rw [e] at hc hQ
    rw [hm e] at hc
    simp [hcc, hc, slotOf, -pcall, -List.all_eq_true]
    exact hQ _ _ rfl

theorem rsize_q (t : Tr) (ho : t.Ok) (hn : t.nodes < 2 ^ 60) : PC 17 [.agg t.cs] (if t.sized then .tup [.int .i64 t.nodes, .int .i64 0] else .tup [.int .i64 0, .int .i64 3]) := by
  have hc := sizeOf_q t ho hn
  have hc2 := long_q t ho hn
  rw [PC] at hc hc2
  have hcc := cells_tr ho
  refine pc_of (by simp [pureL, pureV, pure_tr ho]) (fun h => by split <;> rfl) ?_
  refine call_ofQ (af := Trnx.a17) rfl rfl fun Q hQ => ?_
  simp only [Trnx.a17]
  by_cases e : t.nodes ≤ 20000
  · have e' : ¬ (20000 : Int) < t.nodes := by omega
    cases e2 : t.long
    · have e3 : t.sized = true := by simp [Tr.sized, e, e2]
      rw [e3] at hQ
      rw [e2] at hc2
      simp [hcc, hc, hc2, e', slotOf, -pcall, -List.all_eq_true]
      exact hQ _ _ rfl
    · have e3 : t.sized = false := by simp [Tr.sized, e, e2]
      rw [e3] at hQ
      rw [e2] at hc2
      simp [hcc, hc, hc2, e', slotOf, -pcall, -List.all_eq_true]
      exact hQ _ _ rfl
  · have e' : (20000 : Int) < t.nodes := by omega
    have e3 : t.sized = false := by simp [Tr.sized, e]
    rw [e3] at hQ
    simp [hcc, hc, hc2, e', slotOf, -pcall, -List.all_eq_true]
    exact hQ _ _ rfl
end Go.Proofs.Nst
/- Nest: Valid by the program and by the reference. -/
set_option linter.unusedVariables false
set_option linter.unusedSimpArgs false
namespace Go.Proofs.Nst
open Go Go.Am

abbrev clo61 (a : Nat) : V := .func (.func 61) [] [.ref a 0 1]
/-- is a value valid, to a depth? -/
def Tr.fits (d : Nat) (t : Tr) : Bool := decide (t.levels ≤ d) && t.allNum

theorem Tr.levelsL_le {l : List Tr} {d : Nat} : levelsL l ≤ d ↔ ∀ u ∈ l, u.levels ≤ d := by
  induction l with
  | nil => simp [levelsL]
  | cons u us ih =>
    simp only [levelsL, List.mem_cons, forall_eq_or_imp, ← ih]
    omega
theorem Tr.fits_iff {k n : Int} {v : V} {l : List Tr} {d : Nat} : (Tr.mk k n v l).fits d = true ↔ 0 < d ∧ numOk k n l.length = true ∧ ∀ u ∈ l, u.fits (d - 1) = true := by
  simp only [fits, Bool.and_eq_true, decide_eq_true_eq]
  simp only [levels, allNum, Bool.and_eq_true, allNumL_iff]
  constructor
  · rintro ⟨h1, h2, h3⟩
    refine ⟨by omega, h2, fun u hu => ⟨?_, h3 u hu⟩⟩
    have := levelsL_mem hu
    omega
  · rintro ⟨h1, h2, h3⟩
    have := levelsL_le.2 fun u hu => (h3 u hu).1
    exact ⟨by omega, h2, fun u hu => (h3 u hu).2⟩

theorem v64_q (u : Tr) (ho : u.Ok) (d : Nat) (hd : d < 2 ^ 60) (hd0 : 0 < d) (H : Heap) (a e : Nat) (ha : H[a]? = some (.cells 1 1 [clo61 a])) (he : H[e]? = some (.cells 1 1 [.int .i64 d]))
    (ih : ∀ (h : Heap), h[a]? = some (.cells 1 1 [clo61 a]) → ∃ X, CC 61 [.agg u.cs, .int .i64 (d - 1 : Nat), .ref a 0 1] h (.ret (.bool (u.fits (d - 1)))) (h ++ X)) :
    ∃ X, CC 64 [.agg u.cs, .ref a 0 1, .ref e 0 1] H (.ret (.bool (!u.fits (d - 1)))) (H ++ X) := by
  obtain ⟨X, hc⟩ := ih H ha
  have hdi : ((d - 1 : Nat) : Int) = (d : Int) - 1 := by omega
  rw [hdi] at hc
  have oa := objCells_of ha
  have oe := objCells_of he
  have hcc := cells_tr ho
  have hw : IntKind.i64.wrap ((d : Int) - 1) = (d : Int) - 1 := wrap64 (by omega) (by omega)
  refine ⟨X, CallP.eq (call_ofQ (af := Trnx.a64) rfl rfl fun Q hQ => ?_)⟩
  simp only [Trnx.a64]
  simp [hcc, oa, oe, hw, hc, slotOf, -List.all_eq_true]
  exact hQ _ _ ⟨rfl, rfl⟩

theorem v86_q (l : List Tr) (v : V) (hv : SlV (l.map Tr.cs) v) (hl : ∀ x ∈ l, x.Ok) (hlen : l.length < 2 ^ 60) (d : Nat) (hd : d < 2 ^ 60) (hd0 : 0 < d) (H : Heap) (a e : Nat) (ha : H[a]? = some (.cells 1 1 [clo61 a])) (he : H[e]? = some (.cells 1 1 [.int .i64 d]))
    (ih : ∀ u ∈ l, ∀ (h : Heap), h[a]? = some (.cells 1 1 [clo61 a]) → ∃ X, CC 61 [.agg u.cs, .int .i64 (d - 1 : Nat), .ref a 0 1] h (.ret (.bool (u.fits (d - 1)))) (h ++ X)) :
    ∃ X, ∃ r : Int, CC 86 [v, .func (.func 64) [] [.ref a 0 1, .ref e 0 1]] H (.ret (.int .i64 r)) (H ++ X) ∧ (0 ≤ r ↔ ∃ u ∈ l, u.fits (d - 1) = false) := by
  have hlv := len_tr hv
  have key : CallP gl Trnx.aprog 86 [v, .func (.func 64) [] [.ref a 0 1, .ref e 0 1]] H (fun r h' => ∃ X, ∃ i : Int, r = .ret (.int .i64 i) ∧ h' = H ++ X ∧ (0 ≤ i ↔ ∃ u ∈ l, u.fits (d - 1) = false)) := by
    refine call_ofQ (af := Trnx.a86) rfl rfl fun Q hQ => ?_
    simp only [Trnx.a86]
    simp [hlv, slotOf]
    refine loop_nQ l.length (fun i c => (∀ u ∈ l.take i, u.fits (d - 1) = true) ∧ ∃ X x y, c = ⟨[v, .func (.func 64) [] [.ref a 0 1, .ref e 0 1], .int .i64 0, x, .int .i64 l.length, .int .i64 i], [], y, none, H ++ X⟩) ?_ ⟨by simp, [], .undef, none, by simp⟩
    rintro I hI i c hi ⟨hu, X, x, y, rfl⟩
    by_cases hlt : i < l.length
    · have hlt' : (i : Int) < l.length := by omega
      have hi1 := idx_tr hv hlt
      have hm := List.getElem_mem hlt
      have hw2 : IntKind.i64.wrap ((i : Int) + 1) = (i : Int) + 1 := wrap64 (by omega) (by omega)
      have halt : a < H.length := (List.getElem?_eq_some_iff.1 ha).1
      have helt : e < H.length := (List.getElem?_eq_some_iff.1 he).1
      obtain ⟨Y, hc⟩ := v64_q l[i] (hl _ hm) d hd hd0 (H ++ X) a e (by rw [List.getElem?_append_left halt]; exact ha) (by rw [List.getElem?_append_left helt]; exact he) (ih _ hm)
      have htk : ∀ u ∈ l.take (i + 1), u ∈ l.take i ∨ u = l[i] := fun u hu => mem_take_succ hlt hu
      generalize l[i] = u at *
      cases hf : u.fits (d - 1)
      · rw [hf] at hc
        simp [hlv, hlt', hi1, hc, slotOf]
        exact hQ _ _ ⟨X ++ Y, i, rfl, by simp, by simp only [Int.natCast_nonneg, true_iff]; exact ⟨u, hm, hf⟩⟩
      · rw [hf] at hc
        simp [hlv, hlt', hi1, hc, hw2, slotOf]
        refine ⟨hlt, hI _ _ ⟨?_, X ++ Y, .int .i64 i, none, by simp⟩⟩
        intro w hw
        rcases htk w hw with hw | rfl
        · exact hu w hw
        · exact hf
    · obtain rfl : i = l.length := by omega
      simp [hlv, slotOf]
      refine hQ _ _ ⟨X, -1, rfl, rfl, ?_⟩
      rw [List.take_length] at hu
      constructor
      · intro h; omega
      · rintro ⟨u, hm, hf⟩
        rw [hu u hm] at hf
        cases hf
  obtain ⟨r, h', e, X, i, rfl, rfl, h1⟩ := OptP.ex key
  exact ⟨X, i, e, h1⟩

theorem v61_q : ∀ t : Tr, t.Ok → t.nodes < 2 ^ 60 → ∀ (d : Nat) (h : Heap) (a : Nat), d < 2 ^ 60 → h[a]? = some (.cells 1 1 [clo61 a]) →
    ∃ X, CC 61 [.agg t.cs, .int .i64 d, .ref a 0 1] h (.ret (.bool (t.fits d))) (h ++ X) := by
  intro t
  induction t using Tr.ind with
  | h k n v l ih =>
  intro ho hnn d h a hd ha
  obtain ⟨_, _, hv, hl⟩ := ho.inv
  have hlv := len_tr hv
  simp only [Tr.nodes] at hnn
  have hlen := Tr.nodesL_length l
  have hnum := number_q _ ho
  rw [PC] at hnum
  simp only [Tr.k, Tr.n, Tr.l] at hnum
  have he : ∀ x : V, objCells (h ++ [.cells 1 1 [x]]) h.length = some (1, 1, [x]) := fun x => by simp [objCells]
  have hcs : (Tr.mk k n v l).cs = [.int .i64 k, .int .i64 n, v] := rfl
  rw [hcs] at hnum ⊢
  by_cases hd0 : d = 0
  · subst hd0
    refine ⟨[.cells 1 1 [.int .i64 0]], CallP.eq (call_ofQ (af := Trnx.a61) rfl rfl fun Q hQ => ?_)⟩
    simp only [Trnx.a61]
    simp [hv.cell, he, slotOf]
    refine hQ _ _ ⟨?_, rfl⟩
    simp [Tr.fits, Tr.levels]
  have hdp : 0 < d := by omega
  cases hnb : Tr.numOk k n l.length
  · rw [hnb] at hnum
    refine ⟨[.cells 1 1 [.int .i64 d]], CallP.eq (call_ofQ (af := Trnx.a61) rfl rfl fun Q hQ => ?_)⟩
    simp only [Trnx.a61]
    simp [hv.cell, he, hdp, hnum, slotOf, -pcall]
    refine hQ _ _ ⟨?_, rfl⟩
    simp [Tr.fits, Tr.allNum, hnb]
  rw [hnb] at hnum
  have halt : a < h.length := (List.getElem?_eq_some_iff.1 ha).1
  obtain ⟨X, r, hc, hr⟩ := v86_q l v hv hl (by omega) d hd (by omega) (h ++ [.cells 1 1 [.int .i64 d]]) a h.length (by rw [List.getElem?_append_left halt]; exact ha) (by simp)
    (fun u hu h' ha' => ih u hu (hl u hu) (by have := Tr.nodesL_mem hu; omega) (d - 1) h' a (by omega) ha')
  have hc63 : CC 63 [v, .func (.func 64) [] [.ref a 0 1, .ref h.length 0 1]] (h ++ [.cells 1 1 [.int .i64 d]]) (.ret (.bool (decide (0 ≤ r)))) (h ++ [.cells 1 1 [.int .i64 d]] ++ X) := by
    refine CallP.eq (call_ofQ (af := Trnx.a63) rfl rfl fun Q hQ => ?_)
    simp only [Trnx.a63]
    simp only [List.append_assoc] at hc
    simp [hc, slotOf]
    exact hQ _ _ ⟨rfl, by simp⟩
  refine ⟨[.cells 1 1 [.int .i64 d]] ++ X, CallP.eq (call_ofQ (af := Trnx.a61) rfl rfl fun Q hQ => ?_)⟩
  have hfit : (Tr.mk k n v l).fits d = !decide (0 ≤ r) := by
    rw [Bool.eq_iff_iff, Tr.fits_iff]
    simp only [Bool.not_eq_true', decide_eq_false_iff_not, hr]
    constructor
    · rintro ⟨_, _, h1⟩ ⟨u, hu, h2⟩
      rw [h1 u hu] at h2
      cases h2
    · intro h1
      refine ⟨by omega, hnb, fun u hu => ?_⟩
      cases h2 : u.fits (d - 1)
      · exact absurd ⟨u, hu, h2⟩ h1
      · rfl
  simp only [Trnx.a61]
  simp only [List.append_assoc] at hc63
  simp [hv.cell, he, hdp, hnum, hc63, slotOf, -pcall]
  refine hQ _ _ ⟨?_, rfl⟩
  first
    | (rw [hfit]; done)
    | (rw [hfit]; simp)

theorem valid_q (t : Tr) (ho : t.Ok) (hn : t.nodes < 2 ^ 60) : PC 20 [.agg t.cs] (.bool (t.sized && t.fits 12)) := by
  obtain ⟨m, hs, hm⟩ := size_q t ho hn
  rw [PC] at hs
  have hcc := cells_tr ho
  refine pc_of (by simp [pureL, pureV, pure_tr ho]) (fun h => rfl) ?_
  refine call_ofQ (af := Trnx.a20) rfl rfl fun Q hQ => ?_
  simp only [Trnx.a20]
  cases e : t.sized
  · rw [e] at hs hQ
    simp [hcc, hs, slotOf, -pcall, -List.all_eq_true]
    exact hQ _ _ rfl
  · rw [e] at hs hQ
    obtain ⟨X, hc⟩ := v61_q t ho hn 12 [.cells 1 1 [clo61 0]] 0 (by omega) rfl
    have hc' : (lim gl Trnx.aprog).call 61 [.agg t.cs, .int .i64 12, .ref 0 0 1] [.cells 1 1 [clo61 0]] = some (.ret (.bool (t.fits 12)), _) := hc
    simp [hcc, hs, hc', storeV, objCells, slotOf, -pcall, -List.all_eq_true]
    refine hQ _ _ ?_
    simp
theorem rvalid_q (t : Tr) (ho : t.Ok) (hn : t.nodes < 2 ^ 60) : PC 21 [.agg t.cs] (.bool (t.sized && t.fits 12)) := by
  have h1 := sizeOf_q t ho hn
  have h2 := long_q t ho hn
  have h3 := deep_q t ho hn
  have h4 := node_q t ho hn
  rw [PC] at h1 h2 h3 h4
  have hcc := cells_tr ho
  refine pc_of (by simp [pureL, pureV, pure_tr ho]) (fun h => rfl) ?_
  refine call_ofQ (af := Trnx.a21) rfl rfl fun Q hQ => ?_
  have hq : ∀ b, b = (decide (t.nodes ≤ 20000) && !t.long && (decide (t.levels ≤ 12) && t.allNum)) → ∀ h', Q (.ret (.bool b)) h' := fun b hb h' => hQ _ _ (by rw [hb]; rfl)
  simp only [Trnx.a21]
  by_cases e1 : t.nodes ≤ 20000
  · have e1' : (t.nodes : Int) ≤ 20000 := by omega
    cases e2 : t.long
    · by_cases e3 : t.levels ≤ 12
      · have e3' : (t.levels : Int) ≤ 12 := by omega
        rw [e2] at h2
        simp [hcc, h1, h2, h3, h4, e1', e3', slotOf, -pcall, -List.all_eq_true]
        refine hq _ ?_ _
        simp [e1, e2, e3]
      · have e3' : ¬ (t.levels : Int) ≤ 12 := by omega
        rw [e2] at h2
        simp [hcc, h1, h2, h3, h4, e1', e3', slotOf, -pcall, -List.all_eq_true]
        refine hq _ ?_ _
        simp [e1, e2, e3]
    · rw [e2] at h2
      simp [hcc, h1, h2, h3, h4, e1', slotOf, -pcall, -List.all_eq_true]
      refine hq _ ?_ _
      simp [e1, e2]
  · have e1' : ¬ (t.nodes : Int) ≤ 20000 := by omega
    simp [hcc, h1, h2, h3, h4, e1', slotOf, -pcall, -List.all_eq_true]
    refine hq _ ?_ _
    simp [e1]
end Go.Proofs.Nst
/- Nest: is a value one of a type? -/
set_option linter.unusedVariables false
set_option linter.unusedSimpArgs false
namespace Go.Proofs.Nst
open Go Go.Am

def isWord (n : Int) : Bool := decide (-2147483648 ≤ n ∧ n ≤ 2147483647)
/-- is a tree a value of a type? -/
def isV : Ty → Tr → Bool
  | .unit, .mk k n _ l => k == 0 && n == 0 && l.isEmpty
  | .int, .mk k n _ l => k == 1 && isWord n && l.isEmpty
  | .pair a b, .mk k n _ l => k == 2 && n == 0 && (match l with | [x, y] => isV a x && isV b y | _ => false)
  | .sum a b, .mk k n _ l => k == 3 && (match l with | [x] => (n == 0 && isV a x) || (n == 1 && isV b x) | _ => false)
  | .seq a, .mk k n _ l => k == 4 && n == 0 && l.all (isV a)

theorem len_false {α : Type} {l : List α} {m : Nat} (h : l.length ≠ m) : ((l.length : Int) == (m : Int)) = false := by simp; omega
theorem ne_false {a b : Int} (h : a ≠ b) : (a == b) = false := by simpa using h
theorem ne_true {a b : Int} (h : a ≠ b) : (a != b) = true := by simpa using h

theorem is_q {t : Tr} {τ : Ty} (h : IsTy t τ) : t.Ok → ∀ w : Tr, w.Ok → w.nodes < 2 ^ 60 → PC 60 [.agg w.cs, .agg t.cs] (.bool (isV τ w)) := by
  induction h with
  | unit v =>
    rintro ho ⟨k, n, u, l⟩ hw hn
    obtain ⟨_, _, hv, hl⟩ := ho.inv
    obtain ⟨_, _, hu, hul⟩ := hw.inv
    have hlv := len_tr hu
    refine pc_of (by simp [pureL, pureV, pure_tr ho, pure_tr hw]) (fun h => rfl) ?_
    refine call_ofQ (af := Trnx.a60) rfl rfl fun Q hQ => ?_
    simp only [Trnx.a60]
    by_cases hk : k = 0
    · subst hk
      by_cases h0 : n = 0
      · subst h0
        simp [Tr.cs, hv.cell, hu.cell, hlv, slotOf]
        refine hQ _ _ ?_
        simp [isV]
        cases l <;> simp
        omega
      · simp [Tr.cs, hv.cell, hu.cell, hlv, ne_true h0, slotOf]
        refine hQ _ _ ?_
        simp [isV, h0]
    · simp [Tr.cs, hv.cell, hu.cell, hlv, ne_true hk, slotOf]
      refine hQ _ _ ?_
      simp [isV, hk]
  | int v =>
    rintro ho ⟨k, n, u, l⟩ hw hn
    obtain ⟨_, _, hv, hl⟩ := ho.inv
    obtain ⟨_, _, hu, hul⟩ := hw.inv
    have hlv := len_tr hu
    have hc := isWord_q n
    rw [PC] at hc
    refine pc_of (by simp [pureL, pureV, pure_tr ho, pure_tr hw]) (fun h => rfl) ?_
    refine call_ofQ (af := Trnx.a60) rfl rfl fun Q hQ => ?_
    simp only [Trnx.a60]
    by_cases hk : k = 1
    · subst hk
      cases l with
      | nil =>
        simp [Tr.cs, hv.cell, hu.cell, hlv, hc, slotOf, -pcall, -Bool.decide_and]
        refine hQ _ _ ?_
        simp [isV, isWord]
      | cons x l =>
        have e : ((l.length : Int) + 1 == 0) = false := ne_false (by omega)
        rw [List.length_cons] at hlv
        simp [Tr.cs, hv.cell, hu.cell, hlv, e, slotOf]
        refine hQ _ _ ?_
        simp [isV]
    · simp [Tr.cs, hv.cell, hu.cell, hlv, ne_true hk, slotOf]
      refine hQ _ _ ?_
      simp [isV, hk]
  | pair v a b x y ha hb iha ihb =>
    rintro ho ⟨k, n, u, l⟩ hw hn
    obtain ⟨_, _, hv, hl⟩ := ho.inv
    obtain ⟨_, _, hu, hul⟩ := hw.inv
    have hlv := len_tr hu
    have i0 := idx_tr hv (i := 0) (by simp)
    have i1 := idx_tr hv (i := 1) (by simp)
    simp only [List.getElem_cons_zero, List.getElem_cons_succ, Int.natCast_zero, Int.natCast_one] at i0 i1
    simp only [Tr.nodes] at hn
    refine pc_of (by simp [pureL, pureV, pure_tr ho, pure_tr hw]) (fun h => rfl) ?_
    refine call_ofQ (af := Trnx.a60) rfl rfl fun Q hQ => ?_
    have ecs : ∀ k n u l, (Tr.mk k n u l).cs = [.int .i64 k, .int .i64 n, u] := fun _ _ _ _ => rfl
    have hnot : (∀ p q, l ≠ [p, q]) → isV (.pair x y) (.mk k n u l) = false := by
      intro h
      simp [isV]
    simp only [Trnx.a60]
    by_cases hk : k = 2
    · subst hk
      by_cases h0 : n = 0
      · subst h0
        by_cases h2 : l.length = 2
        · obtain ⟨p, q, rfl⟩ : ∃ p q, l = [p, q] := by
            match l, h2 with
            | [p, q], _ => exact ⟨p, q, rfl⟩
          have j0 := idx_tr hu (i := 0) (by simp)
          have j1 := idx_tr hu (i := 1) (by simp)
          simp only [List.getElem_cons_zero, List.getElem_cons_succ, Int.natCast_zero, Int.natCast_one] at j0 j1
          simp only [Tr.nodesL] at hn
          have c1 := iha (hl a (by simp)) p (hul p (by simp)) (by omega)
          have c2 := ihb (hl b (by simp)) q (hul q (by simp)) (by omega)
          rw [PC] at c1 c2
          simp only [List.length_cons, List.length_nil] at hlv
          cases e : isV x p
          · rw [e] at c1
            simp [ecs, hv.cell, hu.cell, hlv, i0, i1, j0, j1, c1, slotOf, -pcall]
            refine hQ _ _ ?_
            simp [isV, e]
          · rw [e] at c1
            simp [ecs, hv.cell, hu.cell, hlv, i0, i1, j0, j1, c1, c2, slotOf, -pcall]
            refine hQ _ _ ?_
            simp [isV, e]
        · have e := len_false h2
          simp only [Int.cast_ofNat_Int] at e
          simp [ecs, hv.cell, hu.cell, hlv, e, slotOf]
          refine hQ _ _ ?_
          rw [hnot]
          rintro p q rfl
          exact h2 rfl
      · simp [ecs, hv.cell, hu.cell, hlv, ne_true h0, slotOf]
        refine hQ _ _ ?_
        simp [isV, h0]
    · simp [ecs, hv.cell, hu.cell, hlv, ne_true hk, slotOf]
      refine hQ _ _ ?_
      simp [isV, hk]
  | sum v a b x y ha hb iha ihb =>
    rintro ho ⟨k, n, u, l⟩ hw hn
    obtain ⟨_, _, hv, hl⟩ := ho.inv
    obtain ⟨_, _, hu, hul⟩ := hw.inv
    have hlv := len_tr hu
    have i0 := idx_tr hv (i := 0) (by simp)
    have i1 := idx_tr hv (i := 1) (by simp)
    simp only [List.getElem_cons_zero, List.getElem_cons_succ, Int.natCast_zero, Int.natCast_one] at i0 i1
    have hli := lies_q n 0 1
    rw [PC] at hli
    simp only [Tr.nodes] at hn
    refine pc_of (by simp [pureL, pureV, pure_tr ho, pure_tr hw]) (fun h => rfl) ?_
    refine call_ofQ (af := Trnx.a60) rfl rfl fun Q hQ => ?_
    have ecs : ∀ k n u l, (Tr.mk k n u l).cs = [.int .i64 k, .int .i64 n, u] := fun _ _ _ _ => rfl
    have hnot : (∀ p, l ≠ [p]) → isV (.sum x y) (.mk k n u l) = false := by
      intro h
      simp [isV]
    simp only [Trnx.a60]
    by_cases hk : k = 3
    · subst hk
      by_cases h2 : l.length = 1
      · obtain ⟨p, rfl⟩ : ∃ p, l = [p] := by
          match l, h2 with
          | [p], _ => exact ⟨p, rfl⟩
        have j0 := idx_tr hu (i := 0) (by simp)
        simp only [List.getElem_cons_zero, Int.natCast_zero] at j0
        simp only [Tr.nodesL] at hn
        have c1 := iha (hl a (by simp)) p (hul p (by simp)) (by omega)
        have c2 := ihb (hl b (by simp)) p (hul p (by simp)) (by omega)
        rw [PC] at c1 c2
        simp only [List.length_cons, List.length_nil] at hlv
        by_cases h01 : n = 0 ∨ n = 1
        · rcases h01 with rfl | rfl
          · simp [ecs, hv.cell, hu.cell, hlv, hli, i0, i1, j0, c1, slotOf, -pcall]
            refine hQ _ _ ?_
            simp [isV]
          · simp [ecs, hv.cell, hu.cell, hlv, hli, i0, i1, j0, c2, slotOf, -pcall]
            refine hQ _ _ ?_
            simp [isV]
        · have e : decide (0 ≤ n ∧ n ≤ 1) = false := decide_eq_false (by omega)
          rw [e] at hli
          simp [ecs, hv.cell, hu.cell, hlv, hli, slotOf, -pcall]
          refine hQ _ _ ?_
          have e0 : (n == 0) = false := ne_false (by omega)
          have e1 : (n == 1) = false := ne_false (by omega)
          simp [isV, e0, e1]
      · have e := len_false h2
        simp only [Int.natCast_one] at e
        simp [ecs, hv.cell, hu.cell, hlv, e, slotOf]
        refine hQ _ _ ?_
        rw [hnot]
        rintro p rfl
        exact h2 rfl
    · by_cases hk1 : k = 1
      · subst hk1
        simp [ecs, hv.cell, hu.cell, hlv, slotOf]
        refine hQ _ _ ?_
        simp [isV]
      · simp [ecs, hv.cell, hu.cell, hlv, ne_true hk, slotOf]
        refine hQ _ _ ?_
        simp [isV, hk]
  | seq v a x ha iha =>
    rintro ho ⟨k, n, u, l⟩ hw hn
    obtain ⟨_, _, hv, hl⟩ := ho.inv
    obtain ⟨_, _, hu, hul⟩ := hw.inv
    have hlv := len_tr hu
    have i0 := idx_tr hv (i := 0) (by simp)
    simp only [List.getElem_cons_zero, Int.natCast_zero] at i0
    simp only [Tr.nodes] at hn
    have hlen := Tr.nodesL_length l
    refine pc_of (by simp [pureL, pureV, pure_tr ho, pure_tr hw]) (fun h => rfl) ?_
    refine call_ofQ (af := Trnx.a60) rfl rfl fun Q hQ => ?_
    have ecs : ∀ k n u l, (Tr.mk k n u l).cs = [.int .i64 k, .int .i64 n, u] := fun _ _ _ _ => rfl
    simp only [Trnx.a60]
    by_cases hk : k = 4
    · subst hk
      by_cases h0 : n = 0
      · subst h0
        simp [ecs, hv.cell, hu.cell, slotOf]
        refine loop_nQ l.length (fun i c => (∀ z ∈ l.take i, isV x z = true) ∧ c = ⟨[.agg [.int .i64 4, .int .i64 0, u], .agg [.int .i64 4, .int .i64 0, v], .agg [.int .i64 4, .int .i64 0, u], .agg [.int .i64 4, .int .i64 0, v], .bool false, .int .i64 i, .int .i64 4], [], none, none, []⟩) ?_ ⟨by simp, by simp⟩
        rintro I hI i c hi ⟨hz, rfl⟩
        by_cases hlt : i < l.length
        · have hlt' : (i : Int) < l.length := by omega
          have hm := List.getElem_mem hlt
          have hi1 := idx_tr hu hlt
          have hc := iha (hl a (by simp)) l[i] (hul _ hm) (by have := Tr.nodesL_mem hm; omega)
          have hw2 : IntKind.i64.wrap ((i : Int) + 1) = (i : Int) + 1 := wrap64 (by omega) (by omega)
          have htk : ∀ z ∈ l.take (i + 1), z ∈ l.take i ∨ z = l[i] := fun z hz => mem_take_succ hlt hz
          rw [PC] at hc
          generalize l[i] = z at *
          cases e : isV x z
          · rw [e] at hc
            simp [hv.cell, hu.cell, hlv, hlt', hi1, i0, hc, slotOf, -pcall]
            refine hQ _ _ ?_
            have : l.all (isV x) = false := by
              rw [Bool.eq_false_iff]
              intro h
              have := List.all_eq_true.1 h z hm
              rw [e] at this
              cases this
            simp [isV, this]
          · rw [e] at hc
            simp [hv.cell, hu.cell, hlv, hlt', hi1, i0, hc, hw2, slotOf, -pcall]
            refine ⟨hlt, hI _ _ ⟨?_, rfl⟩⟩
            intro y hy
            rcases htk y hy with hy | rfl
            · exact hz y hy
            · exact e
        · obtain rfl : i = l.length := by omega
          simp [hv.cell, hu.cell, hlv, slotOf]
          refine hQ _ _ ?_
          rw [List.take_length] at hz
          simp [isV]
          exact hz
      · simp [ecs, hv.cell, hu.cell, hlv, ne_true h0, slotOf]
        refine hQ _ _ ?_
        simp [isV, h0]
    · simp [ecs, hv.cell, hu.cell, hlv, ne_true hk, slotOf]
      refine hQ _ _ ?_
      simp [isV, hk]
end Go.Proofs.Nst
/- Nest: a layout in a heap; is a value one of it? -/
set_option linter.unusedVariables false
set_option linter.unusedSimpArgs false
namespace Go.Proofs.Nst
open Go Go.Am

/-- the layout of a type lies at a place -/
inductive Lay (H : Heap) : Nat → Ty → Prop
  | unit (b : Nat) (w : V) (h : H[b]? = some (lobj 0 0 0 w)) : Lay H b .unit
  | int (b : Nat) (w : V) (h : H[b]? = some (lobj 1 0 1 w)) : Lay H b .int
  | pair (b p a1 a2 : Nat) (x y : Ty) (h : H[b]? = some (lobj (x.own + y.own) (x.data + y.data) 2 (.sl p 0 2 2 1 false))) (hp : H[p]? = some (.cells 2 1 [.ref a1 0 1, .ref a2 0 1])) (h1 : Lay H a1 x) (h2 : Lay H a2 y) (l1 : b < a1) (l2 : a1 + objs x < a2) (l3 : b + objs (.pair x y) = a2 + objs y) : Lay H b (.pair x y)
  | sum (b p a1 a2 : Nat) (x y : Ty) (h : H[b]? = some (lobj (1 + x.own + y.own) (x.data + y.data) 3 (.sl p 0 2 2 1 false))) (hp : H[p]? = some (.cells 2 1 [.ref a1 0 1, .ref a2 0 1])) (h1 : Lay H a1 x) (h2 : Lay H a2 y) (l1 : b < a1) (l2 : a1 + objs x < a2) (l3 : b + objs (.sum x y) = a2 + objs y) : Lay H b (.sum x y)
  | seq (b p a1 : Nat) (x : Ty) (h : H[b]? = some (lobj 2 (x.own + x.data) 4 (.sl p 0 1 1 1 false))) (hp : H[p]? = some (.cells 1 1 [.ref a1 0 1])) (h1 : Lay H a1 x) (l1 : b < a1) (l3 : a1 + objs x < b + objs (.seq x)) : Lay H b (.seq x)

theorem Lay.ext {H : Heap} {b : Nat} {τ : Ty} (h : Lay H b τ) {H' : Heap} (he : ∀ (i : Nat) o, H[i]? = some o → H'[i]? = some o) : Lay H' b τ := by
  induction h with
  | unit b w h => exact .unit b w (he _ _ h)
  | int b w h => exact .int b w (he _ _ h)
  | pair b p a1 a2 x y h hp _ _ l1 l2 l3 ih1 ih2 => exact .pair b p a1 a2 x y (he _ _ h) (he _ _ hp) ih1 ih2 l1 l2 l3
  | sum b p a1 a2 x y h hp _ _ l1 l2 l3 ih1 ih2 => exact .sum b p a1 a2 x y (he _ _ h) (he _ _ hp) ih1 ih2 l1 l2 l3
  | seq b p a1 x h hp _ l1 l3 ih1 => exact .seq b p a1 x (he _ _ h) (he _ _ hp) ih1 l1 l3
theorem get_app {H X : Heap} {i : Nat} {o : Am.Obj} (h : H[i]? = some o) : (H ++ X)[i]? = some o := by
  rw [List.getElem?_append_left (List.getElem?_eq_some_iff.1 h).1]; exact h
theorem Lay.app {H : Heap} {b : Nat} {τ : Ty} (h : Lay H b τ) (X : Heap) : Lay (H ++ X) b τ := h.ext fun i o => get_app
theorem get_pre {P : Heap} {X : Heap} {i : Nat} {o : Am.Obj} (h : X[i]? = some o) : (P ++ X)[P.length + i]? = some o := by
  rw [List.getElem?_append_right (by omega)]
  simpa using h
theorem lay_of : ∀ (τ : Ty) (P S : Heap), Lay (P ++ layL P.length τ ++ S) P.length τ
  | .unit, P, S => .unit _ .nils (by simp [layL])
  | .int, P, S => .int _ .nils (by simp [layL])
  | .pair x y, P, S => by
    have h1 := lay_of x (P ++ [lobj (x.own + y.own) (x.data + y.data) 2 (.sl (P.length + 1 + objs x) 0 2 2 1 false)]) (.cells 2 1 [.ref (P.length + 1) 0 1, .ref (P.length + 2 + objs x) 0 1] :: layL (P.length + 2 + objs x) y ++ S)
    have hl := layL_length (P.length + 1) x
    have h2 := lay_of y (P ++ [lobj (x.own + y.own) (x.data + y.data) 2 (.sl (P.length + 1 + objs x) 0 2 2 1 false)] ++ layL (P.length + 1) x ++ [Am.Obj.cells 2 1 [.ref (P.length + 1) 0 1, .ref (P.length + 2 + objs x) 0 1]]) S
    have e1 : (P ++ [lobj (x.own + y.own) (x.data + y.data) 2 (.sl (P.length + 1 + objs x) 0 2 2 1 false)]).length = P.length + 1 := by simp
    have e2 : (P ++ [lobj (x.own + y.own) (x.data + y.data) 2 (.sl (P.length + 1 + objs x) 0 2 2 1 false)] ++ layL (P.length + 1) x ++ [Am.Obj.cells 2 1 [.ref (P.length + 1) 0 1, .ref (P.length + 2 + objs x) 0 1]]).length = P.length + 2 + objs x := by simp [hl]; omega
    rw [e1] at h1
    rw [e2] at h2
    refine .pair _ (P.length + 1 + objs x) (P.length + 1) (P.length + 2 + objs x) x y (by simp [layL]) ?_ (by simpa [layL] using h1) (by simpa [layL] using h2) (by omega) (by omega) (by simp only [objs]; omega)
    simp only [layL]
    rw [List.append_assoc, List.getElem?_append_right (by omega), show P.length + 1 + objs x - P.length = objs x + 1 by omega, List.cons_append, List.getElem?_cons_succ, List.append_assoc, List.getElem?_append_right (by omega), hl]
    simp
  | .sum x y, P, S => by
    have h1 := lay_of x (P ++ [lobj (1 + x.own + y.own) (x.data + y.data) 3 (.sl (P.length + 1 + objs x) 0 2 2 1 false)]) (.cells 2 1 [.ref (P.length + 1) 0 1, .ref (P.length + 2 + objs x) 0 1] :: layL (P.length + 2 + objs x) y ++ S)
    have hl := layL_length (P.length + 1) x
    have h2 := lay_of y (P ++ [lobj (1 + x.own + y.own) (x.data + y.data) 3 (.sl (P.length + 1 + objs x) 0 2 2 1 false)] ++ layL (P.length + 1) x ++ [Am.Obj.cells 2 1 [.ref (P.length + 1) 0 1, .ref (P.length + 2 + objs x) 0 1]]) S
    have e1 : (P ++ [lobj (1 + x.own + y.own) (x.data + y.data) 3 (.sl (P.length + 1 + objs x) 0 2 2 1 false)]).length = P.length + 1 := by simp
    have e2 : (P ++ [lobj (1 + x.own + y.own) (x.data + y.data) 3 (.sl (P.length + 1 + objs x) 0 2 2 1 false)] ++ layL (P.length + 1) x ++ [Am.Obj.cells 2 1 [.ref (P.length + 1) 0 1, .ref (P.length + 2 + objs x) 0 1]]).length = P.length + 2 + objs x := by simp [hl]; omega
    rw [e1] at h1
    rw [e2] at h2
    refine .sum _ (P.length + 1 + objs x) (P.length + 1) (P.length + 2 + objs x) x y (by simp [layL]) ?_ (by simpa [layL] using h1) (by simpa [layL] using h2) (by omega) (by omega) (by simp only [objs]; omega)
    simp only [layL]
    rw [List.append_assoc, List.getElem?_append_right (by omega), show P.length + 1 + objs x - P.length = objs x + 1 by omega, List.cons_append, List.getElem?_cons_succ, List.append_assoc, List.getElem?_append_right (by omega), hl]
    simp
  | .seq x, P, S => by
    have h1 := lay_of x (P ++ [lobj 2 (x.own + x.data) 4 (.sl (P.length + 1 + objs x) 0 1 1 1 false)]) (.cells 1 1 [.ref (P.length + 1) 0 1] :: S)
    have hl := layL_length (P.length + 1) x
    have e1 : (P ++ [lobj 2 (x.own + x.data) 4 (.sl (P.length + 1 + objs x) 0 1 1 1 false)]).length = P.length + 1 := by simp
    rw [e1] at h1
    refine .seq _ (P.length + 1 + objs x) (P.length + 1) x (by simp [layL]) ?_ (by simpa [layL] using h1) (by omega) (by simp only [objs]; omega)
    simp only [layL]
    rw [List.append_assoc, List.getElem?_append_right (by omega), show P.length + 1 + objs x - P.length = objs x + 1 by omega, List.cons_append, List.getElem?_cons_succ, List.append_assoc, List.getElem?_append_right (by omega), hl]
    simp

theorem has_q {H : Heap} {b : Nat} {τ : Ty} (h : Lay H b τ) : ∀ w : Tr, w.Ok → w.nodes < 2 ^ 60 → CC 59 [.ref b 0 1, .agg w.cs] H (.ret (.bool (isV τ w))) H := by
  have ecs : ∀ k n u l, (Tr.mk k n u l).cs = [.int .i64 k, .int .i64 n, u] := fun _ _ _ _ => rfl
  induction h with
  | unit b w h =>
    rintro ⟨k, n, u, l⟩ hw hn
    have hnum := number_q _ hw
    rw [PC] at hnum
    obtain ⟨_, _, hu, hul⟩ := hw.inv
    have hlv := len_tr hu
    have ob := objCells_of h
    simp only [ecs, Tr.k, Tr.n, Tr.l] at hnum ⊢
    refine CallP.eq (call_ofQ (af := Trnx.a59) rfl rfl fun Q hQ => ?_)
    simp only [Trnx.a59]
    by_cases hk : k = 0
    · subst hk
      cases e : Tr.numOk 0 n l.length
      · rw [e] at hnum
        simp [hu.cell, ob, gl0, hnum, slotOf, -pcall]
        refine hQ _ _ ⟨?_, rfl⟩
        cases e2 : n == 0
        · simp [isV, e2]
        · cases l with
          | nil => simp [Tr.numOk, e2] at e
          | cons p l => simp [isV]
      · rw [e] at hnum
        have e3 : n = 0 ∧ l = [] := by
          simp only [Tr.numOk, if_true, Bool.and_eq_true, beq_iff_eq] at e
          exact ⟨e.1, List.length_eq_zero_iff.1 (by omega)⟩
        obtain ⟨rfl, rfl⟩ := e3
        simp [hu.cell, hlv, ob, gl0, hnum, slotOf, -pcall]
        refine loop_nQ 0 (fun i c => c = ⟨[.ref b 0 1, .agg [.int .i64 0, .int .i64 0, u], .agg [.int .i64 0, .int .i64 0, u], .bool false, .undef, .undef, .undef, u, .int .i64 0, .int .i64 0], [], none, none, H⟩) ?_ rfl
        rintro I hI i c hi rfl
        simp [slotOf]
        refine hQ _ _ ⟨?_, rfl⟩
        simp [isV]
    · simp [hu.cell, ob, gl0, ne_true hk, slotOf, -pcall]
      refine hQ _ _ ⟨?_, rfl⟩
      simp [isV, hk]
  | int b w h =>
    rintro ⟨k, n, u, l⟩ hw hn
    have hnum := number_q _ hw
    rw [PC] at hnum
    obtain ⟨_, _, hu, hul⟩ := hw.inv
    have hlv := len_tr hu
    have ob := objCells_of h
    simp only [ecs, Tr.k, Tr.n, Tr.l] at hnum ⊢
    refine CallP.eq (call_ofQ (af := Trnx.a59) rfl rfl fun Q hQ => ?_)
    simp only [Trnx.a59]
    by_cases hk : k = 1
    · subst hk
      cases e : Tr.numOk 1 n l.length
      · rw [e] at hnum
        simp [hu.cell, ob, gl0, hnum, slotOf, -pcall]
        refine hQ _ _ ⟨?_, rfl⟩
        cases e2 : isWord n
        · simp [isV, e2]
        · cases l with
          | nil => simp only [isWord] at e2; simp only [Tr.numOk, e2] at e; simp at e
          | cons p l => simp [isV]
      · rw [e] at hnum
        have e3 : isWord n = true ∧ l = [] := by
          simp only [Tr.numOk] at e
          simp only [Int.reduceEq, if_false, if_true, Bool.and_eq_true] at e
          exact ⟨e.1, by cases l with
            | nil => rfl
            | cons p l => have := e.2; simp at this; omega⟩
        obtain ⟨e4, rfl⟩ := e3
        simp [hu.cell, hlv, ob, gl0, hnum, slotOf, -pcall]
        refine loop_nQ 0 (fun i c => c = ⟨[.ref b 0 1, .agg [.int .i64 1, .int .i64 n, u], .agg [.int .i64 1, .int .i64 n, u], .bool false, .undef, .undef, .undef, u, .int .i64 0, .int .i64 0], [], none, none, H⟩) ?_ rfl
        rintro I hI i c hi rfl
        simp [slotOf]
        refine hQ _ _ ⟨?_, rfl⟩
        simp [isV, e4]
    · simp [hu.cell, ob, gl0, ne_true hk, slotOf, -pcall]
      refine hQ _ _ ⟨?_, rfl⟩
      simp [isV, hk]
  | pair b p a1 a2 x y h hp h1 h2 l1 l2 l3 ih1 ih2 =>
    rintro ⟨k, n, u, l⟩ hw hn
    have hnum := number_q _ hw
    rw [PC] at hnum
    obtain ⟨_, _, hu, hul⟩ := hw.inv
    have hlv := len_tr hu
    have ob := objCells_of h
    have op := objCells_of hp
    simp only [ecs, Tr.k, Tr.n, Tr.l] at hnum ⊢
    refine CallP.eq (call_ofQ (af := Trnx.a59) rfl rfl fun Q hQ => ?_)
    simp only [Trnx.a59]
    by_cases hk : k = 2
    · subst hk
      cases e : Tr.numOk 2 n l.length
      · rw [e] at hnum
        simp [hu.cell, ob, gl0, hnum, slotOf, -pcall]
        refine hQ _ _ ⟨?_, rfl⟩
        cases e2 : n == 0
        · simp [isV, e2]
        · match l with
          | [] => simp [isV]
          | [q] => simp [isV]
          | [q, r] => simp [Tr.numOk, e2] at e
          | _ :: _ :: _ :: _ => simp [isV]
      · rw [e] at hnum
        have e3 : n = 0 ∧ ∃ q r, l = [q, r] := by
          simp [Tr.numOk] at e
          have e2 := e.2
          refine ⟨e.1, ?_⟩
          match l, e2 with
          | [q, r], _ => exact ⟨q, r, rfl⟩
          | [], e2 => simp at e2
          | [q], e2 => simp at e2
          | _ :: _ :: _ :: _, e2 => simp at e2; omega
        obtain ⟨rfl, q, r, rfl⟩ := e3
        have j0 := idx_tr hu (i := 0) (by simp)
        have j1 := idx_tr hu (i := 1) (by simp)
        simp only [List.getElem_cons_zero, List.getElem_cons_succ, Int.natCast_zero, Int.natCast_one] at j0 j1
        simp only [Tr.nodes, Tr.nodesL] at hn
        have c1 := ih1 q (hul q (by simp)) (by omega)
        have c2 := ih2 r (hul r (by simp)) (by omega)
        have cq := cells_tr (hul q (by simp))
        have cr := cells_tr (hul r (by simp))
        simp [hu.cell, hlv, ob, gl0, hnum, slotOf, -pcall]
        refine loop_nQ 2 (fun i c => (1 ≤ i → isV x q = true) ∧ (2 ≤ i → isV y r = true) ∧ ∃ s4 s5 s6 fl, c = ⟨[.ref b 0 1, .agg [.int .i64 2, .int .i64 0, u], .agg [.int .i64 2, .int .i64 0, u], .bool false, s4, s5, s6, u, .int .i64 2, .int .i64 i], [], fl, none, H⟩) ?_ ⟨by simp, by simp, _, _, _, _, rfl⟩
        rintro I hI i c hi ⟨hq1, hr1, s4, s5, s6, fl, rfl⟩
        have hi3 : i = 0 ∨ i = 1 ∨ i = 2 := by omega
        rcases hi3 with rfl | rfl | rfl
        · have hwr : IntKind.i64.wrap 1 = 1 := rfl
          cases e : isV x q
          · rw [e] at c1
            simp [hu.cell, hlv, ob, op, j0, cq, c1, slotOf, -pcall, -List.all_eq_true]
            refine hQ _ _ ⟨?_, rfl⟩
            simp [isV, e]
          · rw [e] at c1
            simp [hu.cell, hlv, ob, op, j0, cq, c1, hwr, slotOf, -pcall, -List.all_eq_true]
            exact hI _ _ ⟨fun _ => e, by simp, _, _, _, _, rfl⟩
        · have hwr : IntKind.i64.wrap (1 + 1) = 2 := rfl
          cases e : isV y r
          · rw [e] at c2
            simp [hu.cell, hlv, ob, op, j1, cr, c2, slotOf, -pcall, -List.all_eq_true]
            refine hQ _ _ ⟨?_, rfl⟩
            simp [isV, e]
          · rw [e] at c2
            simp [hu.cell, hlv, ob, op, j1, cr, c2, hwr, slotOf, -pcall, -List.all_eq_true]
            exact hI _ _ ⟨fun _ => hq1 (by omega), fun _ => e, _, _, _, _, rfl⟩
        · simp [slotOf]
          refine hQ _ _ ⟨?_, rfl⟩
          simp [isV, hq1, hr1]
    · simp [hu.cell, ob, gl0, ne_true hk, slotOf, -pcall]
      refine hQ _ _ ⟨?_, rfl⟩
      simp [isV, hk]
  | sum b p a1 a2 x y h hp h1 h2 l1 l2 l3 ih1 ih2 =>
    rintro ⟨k, n, u, l⟩ hw hn
    have hnum := number_q _ hw
    rw [PC] at hnum
    obtain ⟨_, _, hu, hul⟩ := hw.inv
    have hlv := len_tr hu
    have ob := objCells_of h
    have op := objCells_of hp
    simp only [ecs, Tr.k, Tr.n, Tr.l] at hnum ⊢
    refine CallP.eq (call_ofQ (af := Trnx.a59) rfl rfl fun Q hQ => ?_)
    simp only [Trnx.a59]
    by_cases hk : k = 3
    · subst hk
      cases e : Tr.numOk 3 n l.length
      · rw [e] at hnum
        simp [hu.cell, ob, gl0, hnum, slotOf, -pcall]
        refine hQ _ _ ⟨?_, rfl⟩
        match l with
        | [] => simp [isV]
        | [q] =>
          have e1 : (n == 0) = false := by
            refine ne_false ?_
            rintro rfl
            simp [Tr.numOk] at e
          have e2 : (n == 1) = false := by
            refine ne_false ?_
            rintro rfl
            simp [Tr.numOk] at e
          simp [isV, e1, e2]
        | _ :: _ :: _ => simp [isV]
      · rw [e] at hnum
        have e3 : (n = 0 ∨ n = 1) ∧ ∃ q, l = [q] := by
          simp [Tr.numOk] at e
          have e2 := e.2
          refine ⟨by omega, ?_⟩
          match l, e2 with
          | [q], _ => exact ⟨q, rfl⟩
          | [], e2 => simp at e2
          | _ :: _ :: _, e2 => simp at e2; omega
        obtain ⟨hn1, q, rfl⟩ := e3
        have j0 := idx_tr hu (i := 0) (by simp)
        simp only [List.getElem_cons_zero, Int.natCast_zero] at j0
        simp only [Tr.nodes, Tr.nodesL] at hn
        have c1 := ih1 q (hul q (by simp)) (by omega)
        have c2 := ih2 q (hul q (by simp)) (by omega)
        have cq := cells_tr (hul q (by simp))
        have hwr : IntKind.i64.wrap 1 = 1 := rfl
        simp [hu.cell, hlv, ob, gl0, hnum, slotOf, -pcall]
        refine loop_nQ 1 (fun i c => (1 ≤ i → isV (.sum x y) (.mk 3 n u [q]) = true) ∧ ∃ s4 s5 s6 fl, c = ⟨[.ref b 0 1, .agg [.int .i64 3, .int .i64 n, u], .agg [.int .i64 3, .int .i64 n, u], .bool false, s4, s5, s6, u, .int .i64 1, .int .i64 i], [], fl, none, H⟩) ?_ ⟨by simp, _, _, _, _, rfl⟩
        rintro I hI i c hi ⟨hq1, s4, s5, s6, fl, rfl⟩
        have hi3 : i = 0 ∨ i = 1 := by omega
        rcases hi3 with rfl | rfl
        · rcases hn1 with rfl | rfl
          · cases e : isV x q
            · rw [e] at c1
              simp [hu.cell, hlv, ob, op, j0, cq, c1, slotOf, -pcall, -List.all_eq_true]
              refine hQ _ _ ⟨?_, rfl⟩
              simp [isV, e]
            · rw [e] at c1
              simp [hu.cell, hlv, ob, op, j0, cq, c1, hwr, slotOf, -pcall, -List.all_eq_true]
              exact hI _ _ ⟨fun _ => by simp [isV, e], _, _, _, _, rfl⟩
          · cases e : isV y q
            · rw [e] at c2
              simp [hu.cell, hlv, ob, op, j0, cq, c2, slotOf, -pcall, -List.all_eq_true]
              refine hQ _ _ ⟨?_, rfl⟩
              simp [isV, e]
            · rw [e] at c2
              simp [hu.cell, hlv, ob, op, j0, cq, c2, hwr, slotOf, -pcall, -List.all_eq_true]
              exact hI _ _ ⟨fun _ => by simp [isV, e], _, _, _, _, rfl⟩
        · simp [slotOf]
          refine hQ _ _ ⟨?_, rfl⟩
          rw [hq1 (by omega)]
    · simp [hu.cell, ob, gl0, ne_true hk, slotOf, -pcall]
      refine hQ _ _ ⟨?_, rfl⟩
      simp [isV, hk]
  | seq b p a1 x h hp h1 l1 l3 ih1 =>
    rintro ⟨k, n, u, l⟩ hw hn
    have hnum := number_q _ hw
    rw [PC] at hnum
    obtain ⟨_, _, hu, hul⟩ := hw.inv
    have hlv := len_tr hu
    have ob := objCells_of h
    have op := objCells_of hp
    simp only [ecs, Tr.k, Tr.n, Tr.l] at hnum ⊢
    have hlen := Tr.nodesL_length l
    simp only [Tr.nodes] at hn
    refine CallP.eq (call_ofQ (af := Trnx.a59) rfl rfl fun Q hQ => ?_)
    simp only [Trnx.a59]
    by_cases hk : k = 4
    · subst hk
      by_cases h0 : n = 0
      · subst h0
        have e : Tr.numOk 4 0 l.length = true := by simp [Tr.numOk]
        rw [e] at hnum
        simp [hu.cell, hlv, ob, gl0, hnum, slotOf, -pcall]
        refine loop_nQ l.length (fun i c => (∀ z ∈ l.take i, isV x z = true) ∧ ∃ s4 s5 s6 fl, c = ⟨[.ref b 0 1, .agg [.int .i64 4, .int .i64 0, u], .agg [.int .i64 4, .int .i64 0, u], .bool false, s4, s5, s6, u, .int .i64 l.length, .int .i64 i], [], fl, none, H⟩) ?_ ⟨by simp, _, _, _, _, rfl⟩
        rintro I hI i c hi ⟨hz, s4, s5, s6, fl, rfl⟩
        by_cases hlt : i < l.length
        · have hlt' : (i : Int) < l.length := by omega
          have hm := List.getElem_mem hlt
          have hi1 := idx_tr hu hlt
          have hc := ih1 l[i] (hul _ hm) (by have := Tr.nodesL_mem hm; omega)
          have cq := cells_tr (hul _ hm)
          have hw2 : IntKind.i64.wrap ((i : Int) + 1) = (i : Int) + 1 := wrap64 (by omega) (by omega)
          have htk : ∀ z ∈ l.take (i + 1), z ∈ l.take i ∨ z = l[i] := fun z hz => mem_take_succ hlt hz
          generalize l[i] = z at *
          cases e : isV x z
          · rw [e] at hc
            simp [hu.cell, hlv, hlt', ob, op, hi1, cq, hc, slotOf, -pcall, -List.all_eq_true]
            refine hQ _ _ ⟨?_, rfl⟩
            have : l.all (isV x) = false := by
              rw [Bool.eq_false_iff]
              intro h
              have := List.all_eq_true.1 h z hm
              rw [e] at this
              cases this
            simp [isV, this]
          · rw [e] at hc
            simp [hu.cell, hlv, hlt', ob, op, hi1, cq, hc, hw2, slotOf, -pcall, -List.all_eq_true]
            refine ⟨hlt, hI _ _ ⟨?_, _, _, _, _, rfl⟩⟩
            intro y hy
            rcases htk y hy with hy | rfl
            · exact hz y hy
            · exact e
        · obtain rfl : i = l.length := by omega
          simp [slotOf]
          refine hQ _ _ ⟨?_, rfl⟩
          rw [List.take_length] at hz
          have : l.all (isV x) = true := List.all_eq_true.2 hz
          simp only [isV, this]
          rfl
      · have e : Tr.numOk 4 n l.length = false := by simp [Tr.numOk, h0]
        rw [e] at hnum
        simp [hu.cell, ob, gl0, hnum, slotOf, -pcall]
        refine hQ _ _ ⟨?_, rfl⟩
        simp [isV, h0]
    · simp [hu.cell, ob, gl0, ne_true hk, slotOf, -pcall]
      refine hQ _ _ ⟨?_, rfl⟩
      simp [isV, hk]
end Go.Proofs.Nst
