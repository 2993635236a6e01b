/- A part of the law's proof: Val. -/
import Derived.Test.YtcpcmkacjdbpaaaDoorTy
import Derived.Test.YtcpcmkacjdbpaaaDoorLay
import Derived.Test.YtcpcmkacjdbpaaaDoorHeld
set_option linter.unusedVariables false
set_option linter.unusedSimpArgs false
namespace Go.Proofs.Nst
open Go Go.Am
namespace Tr
mutual
def long : Tr → Bool
 | .mk k _ _ l => (k == 4 && decide (4096 < l.length)) || longL l
def longL : List Tr → Bool
 | [] => false
 | t :: ts => long t || longL ts
end
def numOk (k n m : Int) : Bool :=
 if k = 0 then n == 0 && m == 0 else if k = 1 then decide (-2147483648 ≤ n ∧ n ≤ 2147483647) && m == 0 else if k = 2 then n == 0 && m == 2
 else if k = 3 then decide (0 ≤ n ∧ n ≤ 1) && m == 1 else if k = 4 then n == 0 else false
theorem longL_iff {l : List Tr} : longL l = true ↔ ∃ t ∈ l, t.long = true := by
 induction l with
 | nil => simp [longL]
 | cons t ts ih => simp [longL, ih]
end Tr
theorem sizeOf_q : ∀ t : Tr, t.Ok → t.nodes < 2 ^ 60 → PC 33 [.agg t.cs] (.int .i64 t.nodes) := by
 intro t
 induction t using Tr.ind with
 | h k n v l ih =>
 intro ho hn
 obtain ⟨_, _, hv, hl⟩ := ho.inv
 simp only [Tr.nodes] at hn
 have hlv := len_tr hv
 refine pc_of (by simp [pureL, pureV, pure_tr ho]) (fun h => rfl) ?_
 refine call_ofQ (af := Trnx.a33) rfl rfl fun Q hQ => ?_
 simp only [Trnx.a33]
 simp [Tr.cs, hv.cell]
 refine loop_nQ l.length (fun i c => c = ⟨[.agg [.int .i64 k, .int .i64 n, v], .agg [.int .i64 k, .int .i64 n, v], .int .i64 0, .int .i64 (1 + Tr.nodesL (l.take i) : Nat), .int .i64 i], [], none, none, []⟩) ?_ (by simp [Tr.nodesL])
 rintro I hI i c hi rfl
 have hlen := Tr.nodesL_length l
 by_cases hlt : i < l.length
 ·have hlt' : (i : Int) < l.length := by omega
  have hc := ih l[i] (List.getElem_mem hlt) (hl _ (List.getElem_mem hlt)) (by have := Tr.nodesL_mem (List.getElem_mem hlt); omega)
  have hi1 := idx_tr hv hlt
  have ht := Tr.nodesL_take hlt
  have hle := Tr.nodesL_take_le (l := l) (i + 1)
  have hw2 : IntKind.i64.wrap ((i : Int) + 1) = (i : Int) + 1 := wrap64 (by omega) (by omega)
  rw [PC] at hc
  generalize l[i] = x at *
  have hw : IntKind.i64.wrap (1 + (Tr.nodesL (l.take i) : Int) + (x.nodes : Int)) = 1 + (Tr.nodesL (l.take (i + 1)) : Int) := by rw [wrap64 (by omega) (by omega)]; omega
  simp [hv.cell, hlv, hlt', hi1, hc, hw, hw2, slotOf, -pcall]
  exact ⟨hlt, hI _ _ rfl⟩
 ·obtain rfl : i = l.length := by omega
  simp [hv.cell, hlv, slotOf]
  refine hQ _ _ ?_
  simp [Tr.nodes]
theorem long_q : ∀ t : Tr, t.Ok → t.nodes < 2 ^ 60 → PC 57 [.agg t.cs] (.bool t.long) := by
 intro t
 induction t using Tr.ind with
 | h k n v l ih =>
 intro ho hn
 obtain ⟨_, _, hv, hl⟩ := ho.inv
 simp only [Tr.nodes] at hn
 have hlv := len_tr hv
 have hlen := Tr.nodesL_length l
 refine pc_of (by simp [pureL, pureV, pure_tr ho]) (fun h => rfl) ?_
 refine call_ofQ (af := Trnx.a57) rfl rfl fun Q hQ => ?_
 simp only [Trnx.a57, WX_seq]
 refine WX_last _ _ (c' := ⟨[.agg [.int .i64 k, .int .i64 n, v], .agg [.int .i64 k, .int .i64 n, v], .bool false, .undef], [], none, none, []⟩) ?_ ?_
 ·simp [Tr.cs, hv.cell, slotOf]
 simp only [seqQ_norm, WX_seq]
 refine WX_last _ _ (c' := ⟨[.agg [.int .i64 k, .int .i64 n, v], .agg [.int .i64 k, .int .i64 n, v], .bool false, .undef], [], some (12, .bool (k == 4 && decide ((4096 : Int) < l.length))), none, []⟩) ?_ ?_
 ·cases hk : k == 4 <;> simp [hv.cell, hlv, hk, slotOf]
 simp only [seqQ_norm, WX_seq, WX_ite]
 have e : decide ((4096 : Int) < l.length) = decide (4096 < l.length) := decide_eq_decide.2 (by omega)
 rw [e]
 split
 ·rename_i h4
  simp [slotOf]
  refine hQ _ _ ?_
  simp only [Tr.long, h4, Bool.true_or]
 rename_i h4
 rw [Bool.not_eq_true] at h4
 simp [hv.cell, slotOf]
 refine loop_nQ l.length (fun i c => Tr.longL (l.take i) = false ∧ c = ⟨[.agg [.int .i64 k, .int .i64 n, v], .agg [.int .i64 k, .int .i64 n, v], .bool false, .int .i64 i], [], none, none, []⟩) ?_ (by simp [Tr.longL])
 rintro I hI i c hi ⟨hty, rfl⟩
 by_cases hlt : i < l.length
 ·have hlt' : (i : Int) < l.length := by omega
  have hc := ih l[i] (List.getElem_mem hlt) (hl _ (List.getElem_mem hlt)) (by have := Tr.nodesL_mem (List.getElem_mem hlt); omega)
  have hi1 := idx_tr hv hlt
  have hw2 : IntKind.i64.wrap ((i : Int) + 1) = (i : Int) + 1 := wrap64 (by omega) (by omega)
  rw [PC] at hc
  cases hx : l[i].long
  ·rw [hx] at hc
   simp [hv.cell, hlv, hlt', hi1, hc, hw2, slotOf, -pcall]
   refine ⟨hlt, hI _ _ ⟨?_, rfl⟩⟩
   rw [← List.take_append_getElem hlt, Bool.eq_false_iff]
   rw [Bool.eq_false_iff] at hty hx
   intro hq
   obtain ⟨t, hm, h1⟩ := Tr.longL_iff.1 hq
   rcases List.mem_append.1 hm with hm | hm
   ·exact hty (Tr.longL_iff.2 ⟨t, hm, h1⟩)
   ·rw [List.mem_singleton.1 hm] at h1; exact hx h1
  ·rw [hx] at hc
   simp [hv.cell, hlv, hlt', hi1, hc, hw2, slotOf, -pcall]
   refine hQ _ _ ?_
   have : Tr.longL l = true := Tr.longL_iff.2 ⟨_, List.getElem_mem hlt, hx⟩
   simp [Tr.long, this]
 ·obtain rfl : i = l.length := by omega
  simp [hv.cell, hlv, slotOf]
  refine hQ _ _ ?_
  rw [List.take_length] at hty
  simp only [Tr.long, hty, h4, Bool.or_false]
theorem isWord_q (n : Int) : PC 84 [.int .i64 n] (.bool (decide (-2147483648 ≤ n ∧ n ≤ 2147483647))) := by
 have hc := lies_q n (-2147483648) 2147483647
 rw [PC] at hc
 refine pc_of rfl (fun h => rfl) ?_
 refine call_ofQ (af := Trnx.a84) rfl rfl fun Q hQ => ?_
 simp only [Trnx.a84]
 simp [hc, slotOf, -pcall]
 refine hQ _ _ ?_
 simp
theorem number_q (t : Tr) (ho : t.Ok) : PC 62 [.agg t.cs] (.bool (Tr.numOk t.k t.n t.l.length)) := by
 cases ho with
 | mk k n v l hk hn hv hl =>
 have hlv := len_tr hv
 refine pc_of (by simp [pureL, pureV, Tr.cs, hv.pure]) (fun h => rfl) ?_
 refine call_ofQ (af := Trnx.a62) rfl rfl fun Q hQ => ?_
 have hq : ∀ b, b = Tr.numOk k n l.length → ∀ h', Q (.ret (.bool b)) h' := fun b hb h' => hQ _ _ (by rw [hb]; rfl)
 simp only [Trnx.a62]
 have h5 : k = 0 ∨ k = 1 ∨ k = 2 ∨ k = 3 ∨ k = 4 ∨ ¬ (k = 0 ∨ k = 1 ∨ k = 2 ∨ k = 3 ∨ k = 4) := by omega
 rcases h5 with rfl | rfl | rfl | rfl | rfl | h5
 ·cases e : n == 0 <;> simp [Tr.cs, hv.cell, hlv, e, slotOf] <;> refine hq _ ?_ _ <;> simp [Tr.numOk, e]
 ·by_cases e : -2147483648 ≤ n <;> by_cases e2 : n ≤ 2147483647 <;> simp [Tr.cs, hv.cell, hlv, e, e2, slotOf] <;> refine hq _ ?_ _ <;> simp [Tr.numOk, e, e2]
 ·cases e : n == 0 <;> simp [Tr.cs, hv.cell, hlv, e, slotOf] <;> refine hq _ ?_ _ <;> simp [Tr.numOk, e]
 ·have e3 : decide (0 ≤ n ∧ n ≤ 1) = (n == 0 || n == 1) := by rw [Bool.eq_iff_iff]; simp; omega
  cases e : n == 0 <;> cases e2 : n == 1 <;> rw [e, e2] at e3 <;> simp [Tr.cs, hv.cell, hlv, e, e2, slotOf] <;> refine hq _ ?_ _ <;> simp only [Tr.numOk, e3] <;> simp
 ·simp [Tr.cs, hv.cell, hlv, slotOf]
  refine hq _ ?_ _
  simp [Tr.numOk]
 ·have e0 : (k == 0) = false := by simp; omega
  have e1 : (k == 1) = false := by simp; omega
  have e2 : (k == 2) = false := by simp; omega
  have e3 : (k == 3) = false := by simp; omega
  have e4 : (k == 4) = false := by simp; omega
  simp [Tr.cs, hv.cell, hlv, e0, e1, e2, e3, e4, slotOf]
  refine hq _ ?_ _
  simp at e0 e1 e2 e3 e4
  simp [Tr.numOk, e0, e1, e2, e3, e4]
end Go.Proofs.Nst
set_option linter.unusedVariables false
set_option linter.unusedSimpArgs false
namespace Go.Proofs.Nst
open Go Go.Am
theorem mem_take_succ {α : Type} {l : List α} {i : Nat} (h : i < l.length) {u : α} (hu : u ∈ l.take (i + 1)) : u ∈ l.take i ∨ u = l[i] := by
 rw [← List.take_append_getElem h] at hu
 rcases List.mem_append.1 hu with hu | hu
 ·exact .inl hu
 ·exact .inr (List.mem_singleton.1 hu)
theorem Tr.longL_take_false {l : List Tr} {i : Nat} (h : i < l.length) (h1 : longL (l.take i) = false) (h2 : l[i].long = false) : longL (l.take (i + 1)) = false := by
 rw [← List.take_append_getElem h, Bool.eq_false_iff]
 intro hq
 rw [Bool.eq_false_iff] at h1 h2
 obtain ⟨t, hm, h3⟩ := longL_iff.1 hq
 rcases List.mem_append.1 hm with hm | hm
 ·exact h1 (longL_iff.2 ⟨t, hm, h3⟩)
 ·rw [List.mem_singleton.1 hm] at h3; exact h2 h3
abbrev clo83 (a b : Nat) : V := .func (.func 83) [] [.ref a 0 1, .ref b 0 1]
theorem size1_q : ∀ t : Tr, t.Ok → t.nodes < 2 ^ 60 → ∀ (M : Nat) (h : Heap) (a b : Nat), M ≤ 20000 → a ≠ b → h[a]? = some (.cells 1 1 [.int .i64 M]) → h[b]? = some (.cells 1 1 [clo83 a b]) →
  ∃ (ok : Bool) (M' : Int), CC 83 [.agg t.cs, .ref a 0 1, .ref b 0 1] h (.ret (.bool ok)) (h.set a (.cells 1 1 [.int .i64 M'])) ∧ (ok = true ↔ M + t.nodes ≤ 20000 ∧ t.long = false) ∧ (ok = true → M' = M + t.nodes) := by
 intro t
 induction t using Tr.ind with
 | h k n v l ih =>
 intro ho hnn M h a b hM hab ha hb
 obtain ⟨_, _, hv, hl⟩ := ho.inv
 have hlv := len_tr hv
 simp only [Tr.nodes] at hnn
 have hlen := Tr.nodesL_length l
 have key : CallP gl Trnx.aprog 83 [.agg (Tr.mk k n v l).cs, .ref a 0 1, .ref b 0 1] h (fun r h' => ∃ (ok : Bool) (M' : Int), r = .ret (.bool ok) ∧ h' = h.set a (.cells 1 1 [.int .i64 M']) ∧ (ok = true ↔ M + (Tr.mk k n v l).nodes ≤ 20000 ∧ (Tr.mk k n v l).long = false) ∧ (ok = true → M' = M + (Tr.mk k n v l).nodes)) := by
  refine call_ofQ (af := Trnx.a83) rfl rfl fun Q hQ => ?_
  have oa := objCells_of ha
  have ob : ∀ x, objCells (h.set a (.cells 1 1 [.int .i64 x])) b = some (1, 1, [clo83 a b]) := fun x => by rw [objCells_ne hab]; exact objCells_of hb
  have oa' : ∀ x, objCells (h.set a (.cells 1 1 [.int .i64 x])) a = some (1, 1, [.int .i64 x]) := fun x => objCells_set ha _ _ _
  have hw : IntKind.i64.wrap ((M : Int) + 1) = (M : Int) + 1 := wrap64 (by omega) (by omega)
  simp only [Trnx.a83, WX_seq]
  refine WX_last _ _ (c' := ⟨[.agg [.int .i64 k, .int .i64 n, v], .ref a 0 1, .ref b 0 1, .agg [.int .i64 k, .int .i64 n, v], .bool false, .undef, .undef, .undef, .undef], [], none, none, h⟩) ?_ ?_
  ·simp [Tr.cs, hv.cell, slotOf]
  simp only [seqQ_norm, WX_seq]
  refine WX_last _ _ (c' := ⟨[.agg [.int .i64 k, .int .i64 n, v], .ref a 0 1, .ref b 0 1, .agg [.int .i64 k, .int .i64 n, v], .bool false, .undef, .undef, .undef, .undef], [], none, none, h.set a (.cells 1 1 [.int .i64 ((M : Int) + 1)])⟩) ?_ ?_
  ·simp [oa, hw, storeV, slotOf]
  simp only [seqQ_norm, WX_seq]
  refine WX_last _ _ (c' := ⟨[.agg [.int .i64 k, .int .i64 n, v], .ref a 0 1, .ref b 0 1, .agg [.int .i64 k, .int .i64 n, v], .bool false, .undef, .undef, .undef, .undef], [], some (21, .bool (decide ((20000 : Int) < M + 1) || (k == 4 && decide ((4096 : Int) < l.length)))), none, h.set a (.cells 1 1 [.int .i64 ((M : Int) + 1)])⟩) ?_ ?_
  ·by_cases e1 : (20000 : Int) < M + 1
   ·simp [oa', e1, slotOf]
   ·cases e2 : k == 4 <;> simp [oa', e1, e2, hv.cell, hlv, slotOf]
  simp only [seqQ_norm, WX_seq, WX_ite]
  have e : decide ((4096 : Int) < l.length) = decide (4096 < l.length) := decide_eq_decide.2 (by omega)
  rw [e]
  split
  ·rename_i h4
   simp [slotOf]
   refine hQ _ _ ⟨false, _, rfl, rfl, ?_, by simp⟩
   simp only [Bool.false_eq_true, false_iff, Tr.nodes, Tr.long]
   rintro ⟨h5, h6⟩
   rw [Bool.or_eq_false_iff] at h6
   rw [h6.1] at h4
   simp at h4
   omega
  rename_i h4
  rw [Bool.not_eq_true, Bool.or_eq_false_iff] at h4
  have hM1 : M + 1 ≤ 20000 := by have := h4.1; simp at this; omega
  simp [hv.cell, hlv, slotOf]
  refine loop_nQ l.length (fun i c => M + 1 + Tr.nodesL (l.take i) ≤ 20000 ∧ Tr.longL (l.take i) = false ∧ ∃ x y, c = ⟨[.agg [.int .i64 k, .int .i64 n, v], .ref a 0 1, .ref b 0 1, .agg [.int .i64 k, .int .i64 n, v], .bool false, x, v, .int .i64 l.length, .int .i64 i], [], y, none, h.set a (.cells 1 1 [.int .i64 (M + 1 + Tr.nodesL (l.take i) : Nat)])⟩) ?_ ⟨by simp [Tr.nodesL]; omega, by simp [Tr.longL], .undef, none, by simp [Tr.nodesL]⟩
  rintro I hI i c hi ⟨hn1, hl1, x, y, rfl⟩
  by_cases hlt : i < l.length
  ·have hlt' : (i : Int) < l.length := by omega
   have hi1 := idx_tr hv hlt
   have htn := Tr.nodesL_take hlt
   have htl := Tr.longL_take_false hlt hl1
   have hle := Tr.nodesL_take_le (l := l) (i + 1)
   have ha2 : (h.set a (.cells 1 1 [.int .i64 (M + 1 + Tr.nodesL (l.take i) : Nat)]))[a]? = some (.cells 1 1 [.int .i64 (M + 1 + Tr.nodesL (l.take i) : Nat)]) := by
    have := (List.getElem?_eq_some_iff.1 ha).1
    simp [this]
   have hb2 : (h.set a (.cells 1 1 [.int .i64 (M + 1 + Tr.nodesL (l.take i) : Nat)]))[b]? = some (.cells 1 1 [clo83 a b]) := by simp [hab, hb]
   have hcall := Tr.nodesL_mem (List.getElem_mem hlt)
   obtain ⟨ok, M', hc, h2, h3⟩ := ih l[i] (List.getElem_mem hlt) (hl _ (List.getElem_mem hlt)) (by omega) (M + 1 + Tr.nodesL (l.take i)) _ a b hn1 hab ha2 hb2
   have hok := hl _ (List.getElem_mem hlt)
   have hw2 : IntKind.i64.wrap ((i : Int) + 1) = (i : Int) + 1 := wrap64 (by omega) (by omega)
   have hcc := cells_tr hok
   have hlm : l[i].long = true → Tr.longL l = true := fun h => Tr.longL_iff.2 ⟨_, List.getElem_mem hlt, h⟩
   simp only [List.set_set] at hc
   generalize l[i] = u at *
   generalize hN : M + 1 + Tr.nodesL (l.take i) = N at *
   cases ok with
   | true =>
    have h3 := h3 rfl
    have h2 := h2.1 rfl
    simp [hv.cell, hlv, hlt', hi1, ob, oa', hc, hcc, hw2, slotOf, -List.all_eq_true]
    refine ⟨hlt, hI _ _ ⟨by omega, htl h2.2, .agg u.cs, none, ?_⟩⟩
    have e : M' = ((M + 1 + Tr.nodesL (l.take (i + 1)) : Nat) : Int) := by omega
    rw [e]
    rfl
   | false =>
    simp [hv.cell, hlv, hlt', hi1, ob, oa', hc, hcc, slotOf, -List.all_eq_true]
    refine hQ _ _ ⟨false, M', rfl, rfl, ?_, by simp⟩
    simp only [Bool.false_eq_true, false_iff] at h2 ⊢
    simp only [Tr.nodes, Tr.long, Bool.or_eq_false_iff]
    rintro ⟨h5, h6, h7⟩
    refine h2 ⟨by omega, ?_⟩
    rw [Bool.eq_false_iff]
    intro h8
    rw [hlm h8] at h7
    cases h7
  ·obtain rfl : i = l.length := by omega
   rw [List.take_length] at hn1 hl1
   simp [hv.cell, hlv, slotOf]
   refine hQ _ _ ⟨true, _, rfl, rfl, ?_, fun _ => ?_⟩
   ·simp only [Tr.nodes, Tr.long, true_iff, h4.2, hl1, Bool.or_self, and_true]; omega
   ·simp only [Tr.nodes]; omega
 obtain ⟨r, h', e, ok, L', rfl, rfl, h1, h2⟩ := OptP.ex key
 exact ⟨ok, L', e, h1, h2⟩
def Tr.sized (t : Tr) : Bool := decide (t.nodes ≤ 20000) && !t.long
theorem size_q (t : Tr) (ho : t.Ok) (hn : t.nodes < 2 ^ 60) : ∃ m : Int, PC 56 [.agg t.cs] (.tup [.int .i64 m, .bool t.sized]) ∧ (t.sized = true → m = t.nodes) := by
 obtain ⟨ok, M', hc, h1, h2⟩ := size1_q t ho hn 0 [.cells 1 1 [.int .i64 0], .cells 1 1 [clo83 0 1]] 0 1 (by omega) (by omega) rfl rfl
 have hok : ok = t.sized := by
  rw [Bool.eq_iff_iff, h1]
  simp [Tr.sized]
 subst hok
 refine ⟨M', ?_, fun h => by have := h2 h; omega⟩
 refine pc_of (by simp [pureL, pureV, pure_tr ho]) (fun h => rfl) ?_
 refine call_ofQ (af := Trnx.a56) rfl rfl fun Q hQ => ?_
 simp only [Trnx.a56]
 have hcc := cells_tr ho
 have hc' : (lim gl Trnx.aprog).call 83 [.agg t.cs, .ref 0 0 1, .ref 1 0 1] [.cells 1 1 [.int .i64 0], .cells 1 1 [clo83 0 1]] = some (.ret (.bool t.sized), _) := hc
 simp [hcc, hc', storeV, objCells, slotOf, -List.all_eq_true]
 exact hQ _ _ rfl
end Go.Proofs.Nst
set_option linter.unusedVariables false
set_option linter.unusedSimpArgs false
namespace Go.Proofs.Nst
open Go Go.Am
end Go.Proofs.Nst
set_option linter.unusedVariables false
set_option linter.unusedSimpArgs false
namespace Go.Proofs.Nst
open Go Go.Am
def isWord (n : Int) : Bool := decide (-2147483648 ≤ n ∧ n ≤ 2147483647)
def isV : Ty → Tr → Bool
 | .unit, .mk k n _ l => k == 0 && n == 0 && l.isEmpty
 | .int, .mk k n _ l => k == 1 && isWord n && l.isEmpty
 | .pair a b, .mk k n _ l => k == 2 && n == 0 && (match l with | [x, y] => isV a x && isV b y | _ => false)
 | .sum a b, .mk k n _ l => k == 3 && (match l with | [x] => (n == 0 && isV a x) || (n == 1 && isV b x) | _ => false)
 | .seq a, .mk k n _ l => k == 4 && n == 0 && l.all (isV a)
theorem len_false {α : Type} {l : List α} {m : Nat} (h : l.length ≠ m) : ((l.length : Int) == (m : Int)) = false := by simp; omega
theorem ne_false {a b : Int} (h : a ≠ b) : (a == b) = false := by simpa using h
theorem ne_true {a b : Int} (h : a ≠ b) : (a != b) = true := by simpa using h
theorem is_q {t : Tr} {τ : Ty} (h : IsTy t τ) : t.Ok → ∀ w : Tr, w.Ok → w.nodes < 2 ^ 60 → PC 60 [.agg w.cs, .agg t.cs] (.bool (isV τ w)) := by
 induction h with
 | unit v =>
  rintro ho ⟨k, n, u, l⟩ hw hn
  obtain ⟨_, _, hv, hl⟩ := ho.inv
  obtain ⟨_, _, hu, hul⟩ := hw.inv
  have hlv := len_tr hu
  refine pc_of (by simp [pureL, pureV, pure_tr ho, pure_tr hw]) (fun h => rfl) ?_
  refine call_ofQ (af := Trnx.a60) rfl rfl fun Q hQ => ?_
  simp only [Trnx.a60]
  by_cases hk : k = 0
  ·subst hk
   by_cases h0 : n = 0
   ·subst h0
    simp [Tr.cs, hv.cell, hu.cell, hlv, slotOf]
    refine hQ _ _ ?_
    simp [isV]
    cases l <;> simp
    omega
   ·simp [Tr.cs, hv.cell, hu.cell, hlv, ne_true h0, slotOf]
    refine hQ _ _ ?_
    simp [isV, h0]
  ·simp [Tr.cs, hv.cell, hu.cell, hlv, ne_true hk, slotOf]
   refine hQ _ _ ?_
   simp [isV, hk]
 | int v =>
  rintro ho ⟨k, n, u, l⟩ hw hn
  obtain ⟨_, _, hv, hl⟩ := ho.inv
  obtain ⟨_, _, hu, hul⟩ := hw.inv
  have hlv := len_tr hu
  have hc := isWord_q n
  rw [PC] at hc
  refine pc_of (by simp [pureL, pureV, pure_tr ho, pure_tr hw]) (fun h => rfl) ?_
  refine call_ofQ (af := Trnx.a60) rfl rfl fun Q hQ => ?_
  simp only [Trnx.a60]
  by_cases hk : k = 1
  ·subst hk
   cases l with
   | nil =>
    simp [Tr.cs, hv.cell, hu.cell, hlv, hc, slotOf, -pcall, -Bool.decide_and]
    refine hQ _ _ ?_
    simp [isV, isWord]
   | cons x l =>
    have e : ((l.length : Int) + 1 == 0) = false := ne_false (by omega)
    rw [List.length_cons] at hlv
    simp [Tr.cs, hv.cell, hu.cell, hlv, e, slotOf]
    refine hQ _ _ ?_
    simp [isV]
  ·simp [Tr.cs, hv.cell, hu.cell, hlv, ne_true hk, slotOf]
   refine hQ _ _ ?_
   simp [isV, hk]
 | pair v a b x y ha hb iha ihb =>
  rintro ho ⟨k, n, u, l⟩ hw hn
  obtain ⟨_, _, hv, hl⟩ := ho.inv
  obtain ⟨_, _, hu, hul⟩ := hw.inv
  have hlv := len_tr hu
  have i0 := idx_tr hv (i := 0) (by simp)
  have i1 := idx_tr hv (i := 1) (by simp)
  simp only [List.getElem_cons_zero, List.getElem_cons_succ, Int.natCast_zero, Int.natCast_one] at i0 i1
  simp only [Tr.nodes] at hn
  refine pc_of (by simp [pureL, pureV, pure_tr ho, pure_tr hw]) (fun h => rfl) ?_
  refine call_ofQ (af := Trnx.a60) rfl rfl fun Q hQ => ?_
  have ecs : ∀ k n u l, (Tr.mk k n u l).cs = [.int .i64 k, .int .i64 n, u] := fun _ _ _ _ => rfl
  have hnot : (∀ p q, l ≠ [p, q]) → isV (.pair x y) (.mk k n u l) = false := by
   intro h
   simp [isV]
  simp only [Trnx.a60]
  by_cases hk : k = 2
  ·subst hk
   by_cases h0 : n = 0
   ·subst h0
    by_cases h2 : l.length = 2
    ·obtain ⟨p, q, rfl⟩ : ∃ p q, l = [p, q] := by
      match l, h2 with
      | [p, q], _ => exact ⟨p, q, rfl⟩
     have j0 := idx_tr hu (i := 0) (by simp)
     have j1 := idx_tr hu (i := 1) (by simp)
     simp only [List.getElem_cons_zero, List.getElem_cons_succ, Int.natCast_zero, Int.natCast_one] at j0 j1
     simp only [Tr.nodesL] at hn
     have c1 := iha (hl a (by simp)) p (hul p (by simp)) (by omega)
     have c2 := ihb (hl b (by simp)) q (hul q (by simp)) (by omega)
     rw [PC] at c1 c2
     simp only [List.length_cons, List.length_nil] at hlv
     cases e : isV x p
     ·rw [e] at c1
      simp [ecs, hv.cell, hu.cell, hlv, i0, i1, j0, j1, c1, slotOf, -pcall]
      refine hQ _ _ ?_
      simp [isV, e]
     ·rw [e] at c1
      simp [ecs, hv.cell, hu.cell, hlv, i0, i1, j0, j1, c1, c2, slotOf, -pcall]
      refine hQ _ _ ?_
      simp [isV, e]
    ·have e := len_false h2
     simp only [Int.cast_ofNat_Int] at e
     simp [ecs, hv.cell, hu.cell, hlv, e, slotOf]
     refine hQ _ _ ?_
     rw [hnot]
     rintro p q rfl
     exact h2 rfl
   ·simp [ecs, hv.cell, hu.cell, hlv, ne_true h0, slotOf]
    refine hQ _ _ ?_
    simp [isV, h0]
  ·simp [ecs, hv.cell, hu.cell, hlv, ne_true hk, slotOf]
   refine hQ _ _ ?_
   simp [isV, hk]
 | sum v a b x y ha hb iha ihb =>
  rintro ho ⟨k, n, u, l⟩ hw hn
  obtain ⟨_, _, hv, hl⟩ := ho.inv
  obtain ⟨_, _, hu, hul⟩ := hw.inv
  have hlv := len_tr hu
  have i0 := idx_tr hv (i := 0) (by simp)
  have i1 := idx_tr hv (i := 1) (by simp)
  simp only [List.getElem_cons_zero, List.getElem_cons_succ, Int.natCast_zero, Int.natCast_one] at i0 i1
  have hli := lies_q n 0 1
  rw [PC] at hli
  simp only [Tr.nodes] at hn
  refine pc_of (by simp [pureL, pureV, pure_tr ho, pure_tr hw]) (fun h => rfl) ?_
  refine call_ofQ (af := Trnx.a60) rfl rfl fun Q hQ => ?_
  have ecs : ∀ k n u l, (Tr.mk k n u l).cs = [.int .i64 k, .int .i64 n, u] := fun _ _ _ _ => rfl
  have hnot : (∀ p, l ≠ [p]) → isV (.sum x y) (.mk k n u l) = false := by
   intro h
   simp [isV]
  simp only [Trnx.a60]
  by_cases hk : k = 3
  ·subst hk
   by_cases h2 : l.length = 1
   ·obtain ⟨p, rfl⟩ : ∃ p, l = [p] := by
     match l, h2 with
     | [p], _ => exact ⟨p, rfl⟩
    have j0 := idx_tr hu (i := 0) (by simp)
    simp only [List.getElem_cons_zero, Int.natCast_zero] at j0
    simp only [Tr.nodesL] at hn
    have c1 := iha (hl a (by simp)) p (hul p (by simp)) (by omega)
    have c2 := ihb (hl b (by simp)) p (hul p (by simp)) (by omega)
    rw [PC] at c1 c2
    simp only [List.length_cons, List.length_nil] at hlv
    by_cases h01 : n = 0 ∨ n = 1
    ·rcases h01 with rfl | rfl
     ·simp [ecs, hv.cell, hu.cell, hlv, hli, i0, i1, j0, c1, slotOf, -pcall]
      refine hQ _ _ ?_
      simp [isV]
     ·simp [ecs, hv.cell, hu.cell, hlv, hli, i0, i1, j0, c2, slotOf, -pcall]
      refine hQ _ _ ?_
      simp [isV]
    ·have e : decide (0 ≤ n ∧ n ≤ 1) = false := decide_eq_false (by omega)
     rw [e] at hli
     simp [ecs, hv.cell, hu.cell, hlv, hli, slotOf, -pcall]
     refine hQ _ _ ?_
     have e0 : (n == 0) = false := ne_false (by omega)
     have e1 : (n == 1) = false := ne_false (by omega)
     simp [isV, e0, e1]
   ·have e := len_false h2
    simp only [Int.natCast_one] at e
    simp [ecs, hv.cell, hu.cell, hlv, e, slotOf]
    refine hQ _ _ ?_
    rw [hnot]
    rintro p rfl
    exact h2 rfl
  ·by_cases hk1 : k = 1
   ·subst hk1
    simp [ecs, hv.cell, hu.cell, hlv, slotOf]
    refine hQ _ _ ?_
    simp [isV]
   ·simp [ecs, hv.cell, hu.cell, hlv, ne_true hk, slotOf]
    refine hQ _ _ ?_
    simp [isV, hk]
 | seq v a x ha iha =>
  rintro ho ⟨k, n, u, l⟩ hw hn
  obtain ⟨_, _, hv, hl⟩ := ho.inv
  obtain ⟨_, _, hu, hul⟩ := hw.inv
  have hlv := len_tr hu
  have i0 := idx_tr hv (i := 0) (by simp)
  simp only [List.getElem_cons_zero, Int.natCast_zero] at i0
  simp only [Tr.nodes] at hn
  have hlen := Tr.nodesL_length l
  refine pc_of (by simp [pureL, pureV, pure_tr ho, pure_tr hw]) (fun h => rfl) ?_
  refine call_ofQ (af := Trnx.a60) rfl rfl fun Q hQ => ?_
  have ecs : ∀ k n u l, (Tr.mk k n u l).cs = [.int .i64 k, .int .i64 n, u] := fun _ _ _ _ => rfl
  simp only [Trnx.a60]
  by_cases hk : k = 4
  ·subst hk
   by_cases h0 : n = 0
   ·subst h0
    simp [ecs, hv.cell, hu.cell, slotOf]
    refine loop_nQ l.length (fun i c => (∀ z ∈ l.take i, isV x z = true) ∧ c = ⟨[.agg [.int .i64 4, .int .i64 0, u], .agg [.int .i64 4, .int .i64 0, v], .agg [.int .i64 4, .int .i64 0, u], .agg [.int .i64 4, .int .i64 0, v], .bool false, .int .i64 i, .int .i64 4], [], none, none, []⟩) ?_ ⟨by simp, by simp⟩
    rintro I hI i c hi ⟨hz, rfl⟩
    by_cases hlt : i < l.length
    ·have hlt' : (i : Int) < l.length := by omega
     have hm := List.getElem_mem hlt
     have hi1 := idx_tr hu hlt
     have hc := iha (hl a (by simp)) l[i] (hul _ hm) (by have := Tr.nodesL_mem hm; omega)
     have hw2 : IntKind.i64.wrap ((i : Int) + 1) = (i : Int) + 1 := wrap64 (by omega) (by omega)
     have htk : ∀ z ∈ l.take (i + 1), z ∈ l.take i ∨ z = l[i] := fun z hz => mem_take_succ hlt hz
     rw [PC] at hc
     generalize l[i] = z at *
     cases e : isV x z
     ·rw [e] at hc
      simp [hv.cell, hu.cell, hlv, hlt', hi1, i0, hc, slotOf, -pcall]
      refine hQ _ _ ?_
      have : l.all (isV x) = false := by
       rw [Bool.eq_false_iff]
       intro h
       have := List.all_eq_true.1 h z hm
       rw [e] at this
       cases this
      simp [isV, this]
     ·rw [e] at hc
      simp [hv.cell, hu.cell, hlv, hlt', hi1, i0, hc, hw2, slotOf, -pcall]
      refine ⟨hlt, hI _ _ ⟨?_, rfl⟩⟩
      intro y hy
      rcases htk y hy with hy | rfl
      ·exact hz y hy
      ·exact e
    ·obtain rfl : i = l.length := by omega
     simp [hv.cell, hu.cell, hlv, slotOf]
     refine hQ _ _ ?_
     rw [List.take_length] at hz
     simp [isV]
     exact hz
   ·simp [ecs, hv.cell, hu.cell, hlv, ne_true h0, slotOf]
    refine hQ _ _ ?_
    simp [isV, h0]
  ·simp [ecs, hv.cell, hu.cell, hlv, ne_true hk, slotOf]
   refine hQ _ _ ?_
   simp [isV, hk]
end Go.Proofs.Nst
set_option linter.unusedVariables false
set_option linter.unusedSimpArgs false
namespace Go.Proofs.Nst
open Go Go.Am
inductive Lay (H : Heap) : Nat → Ty → Prop
 | unit (b : Nat) (w : V) (h : H[b]? = some (lobj 0 0 0 w)) : Lay H b .unit
 | int (b : Nat) (w : V) (h : H[b]? = some (lobj 1 0 1 w)) : Lay H b .int
 | pair (b p a1 a2 : Nat) (x y : Ty) (h : H[b]? = some (lobj (x.own + y.own) (x.data + y.data) 2 (.sl p 0 2 2 1 false))) (hp : H[p]? = some (.cells 2 1 [.ref a1 0 1, .ref a2 0 1])) (h1 : Lay H a1 x) (h2 : Lay H a2 y) (l1 : b < a1) (l2 : a1 + objs x < a2) (l3 : b + objs (.pair x y) = a2 + objs y) : Lay H b (.pair x y)
 | sum (b p a1 a2 : Nat) (x y : Ty) (h : H[b]? = some (lobj (1 + x.own + y.own) (x.data + y.data) 3 (.sl p 0 2 2 1 false))) (hp : H[p]? = some (.cells 2 1 [.ref a1 0 1, .ref a2 0 1])) (h1 : Lay H a1 x) (h2 : Lay H a2 y) (l1 : b < a1) (l2 : a1 + objs x < a2) (l3 : b + objs (.sum x y) = a2 + objs y) : Lay H b (.sum x y)
 | seq (b p a1 : Nat) (x : Ty) (h : H[b]? = some (lobj 2 (x.own + x.data) 4 (.sl p 0 1 1 1 false))) (hp : H[p]? = some (.cells 1 1 [.ref a1 0 1])) (h1 : Lay H a1 x) (l1 : b < a1) (l3 : a1 + objs x < b + objs (.seq x)) : Lay H b (.seq x)
theorem Lay.ext {H : Heap} {b : Nat} {τ : Ty} (h : Lay H b τ) {H' : Heap} (he : ∀ (i : Nat) o, H[i]? = some o → H'[i]? = some o) : Lay H' b τ := by
 induction h with
 | unit b w h => exact .unit b w (he _ _ h)
 | int b w h => exact .int b w (he _ _ h)
 | pair b p a1 a2 x y h hp _ _ l1 l2 l3 ih1 ih2 => exact .pair b p a1 a2 x y (he _ _ h) (he _ _ hp) ih1 ih2 l1 l2 l3
 | sum b p a1 a2 x y h hp _ _ l1 l2 l3 ih1 ih2 => exact .sum b p a1 a2 x y (he _ _ h) (he _ _ hp) ih1 ih2 l1 l2 l3
 | seq b p a1 x h hp _ l1 l3 ih1 => exact .seq b p a1 x (he _ _ h) (he _ _ hp) ih1 l1 l3
theorem get_app {H X : Heap} {i : Nat} {o : Am.Obj} (h : H[i]? = some o) : (H ++ X)[i]? = some o := by
 rw [List.getElem?_append_left (List.getElem?_eq_some_iff.1 h).1]; exact h
theorem Lay.app {H : Heap} {b : Nat} {τ : Ty} (h : Lay H b τ) (X : Heap) : Lay (H ++ X) b τ := h.ext fun i o => get_app
theorem lay_of : ∀ (τ : Ty) (P S : Heap), Lay (P ++ layL P.length τ ++ S) P.length τ
 | .unit, P, S => .unit _ .nils (by simp [layL])
 | .int, P, S => .int _ .nils (by simp [layL])
 | .pair x y, P, S => by
  have h1 := lay_of x (P ++ [lobj (x.own + y.own) (x.data + y.data) 2 (.sl (P.length + 1 + objs x) 0 2 2 1 false)]) (.cells 2 1 [.ref (P.length + 1) 0 1, .ref (P.length + 2 + objs x) 0 1] :: layL (P.length + 2 + objs x) y ++ S)
  have hl := layL_length (P.length + 1) x
  have h2 := lay_of y (P ++ [lobj (x.own + y.own) (x.data + y.data) 2 (.sl (P.length + 1 + objs x) 0 2 2 1 false)] ++ layL (P.length + 1) x ++ [Am.Obj.cells 2 1 [.ref (P.length + 1) 0 1, .ref (P.length + 2 + objs x) 0 1]]) S
  have e1 : (P ++ [lobj (x.own + y.own) (x.data + y.data) 2 (.sl (P.length + 1 + objs x) 0 2 2 1 false)]).length = P.length + 1 := by simp
  have e2 : (P ++ [lobj (x.own + y.own) (x.data + y.data) 2 (.sl (P.length + 1 + objs x) 0 2 2 1 false)] ++ layL (P.length + 1) x ++ [Am.Obj.cells 2 1 [.ref (P.length + 1) 0 1, .ref (P.length + 2 + objs x) 0 1]]).length = P.length + 2 + objs x := by simp [hl]; omega
  rw [e1] at h1
  rw [e2] at h2
  refine .pair _ (P.length + 1 + objs x) (P.length + 1) (P.length + 2 + objs x) x y (by simp [layL]) ?_ (by simpa [layL] using h1) (by simpa [layL] using h2) (by omega) (by omega) (by simp only [objs]; omega)
  simp only [layL]
  rw [List.append_assoc, List.getElem?_append_right (by omega), show P.length + 1 + objs x - P.length = objs x + 1 by omega, List.cons_append, List.getElem?_cons_succ, List.append_assoc, List.getElem?_append_right (by omega), hl]
  simp
 | .sum x y, P, S => by
  have h1 := lay_of x (P ++ [lobj (1 + x.own + y.own) (x.data + y.data) 3 (.sl (P.length + 1 + objs x) 0 2 2 1 false)]) (.cells 2 1 [.ref (P.length + 1) 0 1, .ref (P.length + 2 + objs x) 0 1] :: layL (P.length + 2 + objs x) y ++ S)
  have hl := layL_length (P.length + 1) x
  have h2 := lay_of y (P ++ [lobj (1 + x.own + y.own) (x.data + y.data) 3 (.sl (P.length + 1 + objs x) 0 2 2 1 false)] ++ layL (P.length + 1) x ++ [Am.Obj.cells 2 1 [.ref (P.length + 1) 0 1, .ref (P.length + 2 + objs x) 0 1]]) S
  have e1 : (P ++ [lobj (1 + x.own + y.own) (x.data + y.data) 3 (.sl (P.length + 1 + objs x) 0 2 2 1 false)]).length = P.length + 1 := by simp
  have e2 : (P ++ [lobj (1 + x.own + y.own) (x.data + y.data) 3 (.sl (P.length + 1 + objs x) 0 2 2 1 false)] ++ layL (P.length + 1) x ++ [Am.Obj.cells 2 1 [.ref (P.length + 1) 0 1, .ref (P.length + 2 + objs x) 0 1]]).length = P.length + 2 + objs x := by simp [hl]; omega
  rw [e1] at h1
  rw [e2] at h2
  refine .sum _ (P.length + 1 + objs x) (P.length + 1) (P.length + 2 + objs x) x y (by simp [layL]) ?_ (by simpa [layL] using h1) (by simpa [layL] using h2) (by omega) (by omega) (by simp only [objs]; omega)
  simp only [layL]
  rw [List.append_assoc, List.getElem?_append_right (by omega), show P.length + 1 + objs x - P.length = objs x + 1 by omega, List.cons_append, List.getElem?_cons_succ, List.append_assoc, List.getElem?_append_right (by omega), hl]
  simp
 | .seq x, P, S => by
  have h1 := lay_of x (P ++ [lobj 2 (x.own + x.data) 4 (.sl (P.length + 1 + objs x) 0 1 1 1 false)]) (.cells 1 1 [.ref (P.length + 1) 0 1] :: S)
  have hl := layL_length (P.length + 1) x
  have e1 : (P ++ [lobj 2 (x.own + x.data) 4 (.sl (P.length + 1 + objs x) 0 1 1 1 false)]).length = P.length + 1 := by simp
  rw [e1] at h1
  refine .seq _ (P.length + 1 + objs x) (P.length + 1) x (by simp [layL]) ?_ (by simpa [layL] using h1) (by omega) (by simp only [objs]; omega)
  simp only [layL]
  rw [List.append_assoc, List.getElem?_append_right (by omega), show P.length + 1 + objs x - P.length = objs x + 1 by omega, List.cons_append, List.getElem?_cons_succ, List.append_assoc, List.getElem?_append_right (by omega), hl]
  simp
theorem has_q {H : Heap} {b : Nat} {τ : Ty} (h : Lay H b τ) : ∀ w : Tr, w.Ok → w.nodes < 2 ^ 60 → CC 59 [.ref b 0 1, .agg w.cs] H (.ret (.bool (isV τ w))) H := by
 have ecs : ∀ k n u l, (Tr.mk k n u l).cs = [.int .i64 k, .int .i64 n, u] := fun _ _ _ _ => rfl
 induction h with
 | unit b w h =>
  rintro ⟨k, n, u, l⟩ hw hn
  have hnum := number_q _ hw
  rw [PC] at hnum
  obtain ⟨_, _, hu, hul⟩ := hw.inv
  have hlv := len_tr hu
  have ob := objCells_of h
  simp only [ecs, Tr.k, Tr.n, Tr.l] at hnum ⊢
  refine CallP.eq (call_ofQ (af := Trnx.a59) rfl rfl fun Q hQ => ?_)
  simp only [Trnx.a59]
  by_cases hk : k = 0
  ·subst hk
   cases e : Tr.numOk 0 n l.length
   ·rw [e] at hnum
    simp [hu.cell, ob, gl0, hnum, slotOf, -pcall]
    refine hQ _ _ ⟨?_, rfl⟩
    cases e2 : n == 0
    ·simp [isV, e2]
    ·cases l with
     | nil => simp [Tr.numOk, e2] at e
     | cons p l => simp [isV]
   ·rw [e] at hnum
    have e3 : n = 0 ∧ l = [] := by
     simp only [Tr.numOk, if_true, Bool.and_eq_true, beq_iff_eq] at e
     exact ⟨e.1, List.length_eq_zero_iff.1 (by omega)⟩
    obtain ⟨rfl, rfl⟩ := e3
    simp [hu.cell, hlv, ob, gl0, hnum, slotOf, -pcall]
    refine loop_nQ 0 (fun i c => c = ⟨[.ref b 0 1, .agg [.int .i64 0, .int .i64 0, u], .agg [.int .i64 0, .int .i64 0, u], .bool false, .undef, .undef, .undef, u, .int .i64 0, .int .i64 0], [], none, none, H⟩) ?_ rfl
    rintro I hI i c hi rfl
    simp [slotOf]
    refine hQ _ _ ⟨?_, rfl⟩
    simp [isV]
  ·simp [hu.cell, ob, gl0, ne_true hk, slotOf, -pcall]
   refine hQ _ _ ⟨?_, rfl⟩
   simp [isV, hk]
 | int b w h =>
  rintro ⟨k, n, u, l⟩ hw hn
  have hnum := number_q _ hw
  rw [PC] at hnum
  obtain ⟨_, _, hu, hul⟩ := hw.inv
  have hlv := len_tr hu
  have ob := objCells_of h
  simp only [ecs, Tr.k, Tr.n, Tr.l] at hnum ⊢
  refine CallP.eq (call_ofQ (af := Trnx.a59) rfl rfl fun Q hQ => ?_)
  simp only [Trnx.a59]
  by_cases hk : k = 1
  ·subst hk
   cases e : Tr.numOk 1 n l.length
   ·rw [e] at hnum
    simp [hu.cell, ob, gl0, hnum, slotOf, -pcall]
    refine hQ _ _ ⟨?_, rfl⟩
    cases e2 : isWord n
    ·simp [isV, e2]
    ·cases l with
     | nil => simp only [isWord] at e2; simp only [Tr.numOk, e2] at e; simp at e
     | cons p l => simp [isV]
   ·rw [e] at hnum
    have e3 : isWord n = true ∧ l = [] := by
     simp only [Tr.numOk] at e
     simp only [Int.reduceEq, if_false, if_true, Bool.and_eq_true] at e
     exact ⟨e.1, by cases l with
      | nil => rfl
      | cons p l => have := e.2; simp at this; omega⟩
    obtain ⟨e4, rfl⟩ := e3
    simp [hu.cell, hlv, ob, gl0, hnum, slotOf, -pcall]
    refine loop_nQ 0 (fun i c => c = ⟨[.ref b 0 1, .agg [.int .i64 1, .int .i64 n, u], .agg [.int .i64 1, .int .i64 n, u], .bool false, .undef, .undef, .undef, u, .int .i64 0, .int .i64 0], [], none, none, H⟩) ?_ rfl
    rintro I hI i c hi rfl
    simp [slotOf]
    refine hQ _ _ ⟨?_, rfl⟩
    simp [isV, e4]
  ·simp [hu.cell, ob, gl0, ne_true hk, slotOf, -pcall]
   refine hQ _ _ ⟨?_, rfl⟩
   simp [isV, hk]
 | pair b p a1 a2 x y h hp h1 h2 l1 l2 l3 ih1 ih2 =>
  rintro ⟨k, n, u, l⟩ hw hn
  have hnum := number_q _ hw
  rw [PC] at hnum
  obtain ⟨_, _, hu, hul⟩ := hw.inv
  have hlv := len_tr hu
  have ob := objCells_of h
  have op := objCells_of hp
  simp only [ecs, Tr.k, Tr.n, Tr.l] at hnum ⊢
  refine CallP.eq (call_ofQ (af := Trnx.a59) rfl rfl fun Q hQ => ?_)
  simp only [Trnx.a59]
  by_cases hk : k = 2
  ·subst hk
   cases e : Tr.numOk 2 n l.length
   ·rw [e] at hnum
    simp [hu.cell, ob, gl0, hnum, slotOf, -pcall]
    refine hQ _ _ ⟨?_, rfl⟩
    cases e2 : n == 0
    ·simp [isV, e2]
    ·match l with
     | [] => simp [isV]
     | [q] => simp [isV]
     | [q, r] => simp [Tr.numOk, e2] at e
     | _ :: _ :: _ :: _ => simp [isV]
   ·rw [e] at hnum
    have e3 : n = 0 ∧ ∃ q r, l = [q, r] := by
     simp [Tr.numOk] at e
     have e2 := e.2
     refine ⟨e.1, ?_⟩
     match l, e2 with
     | [q, r], _ => exact ⟨q, r, rfl⟩
     | [], e2 => simp at e2
     | [q], e2 => simp at e2
     | _ :: _ :: _ :: _, e2 => simp at e2; omega
    obtain ⟨rfl, q, r, rfl⟩ := e3
    have j0 := idx_tr hu (i := 0) (by simp)
    have j1 := idx_tr hu (i := 1) (by simp)
    simp only [List.getElem_cons_zero, List.getElem_cons_succ, Int.natCast_zero, Int.natCast_one] at j0 j1
    simp only [Tr.nodes, Tr.nodesL] at hn
    have c1 := ih1 q (hul q (by simp)) (by omega)
    have c2 := ih2 r (hul r (by simp)) (by omega)
    have cq := cells_tr (hul q (by simp))
    have cr := cells_tr (hul r (by simp))
    simp [hu.cell, hlv, ob, gl0, hnum, slotOf, -pcall]
    refine loop_nQ 2 (fun i c => (1 ≤ i → isV x q = true) ∧ (2 ≤ i → isV y r = true) ∧ ∃ s4 s5 s6 fl, c = ⟨[.ref b 0 1, .agg [.int .i64 2, .int .i64 0, u], .agg [.int .i64 2, .int .i64 0, u], .bool false, s4, s5, s6, u, .int .i64 2, .int .i64 i], [], fl, none, H⟩) ?_ ⟨by simp, by simp, _, _, _, _, rfl⟩
    rintro I hI i c hi ⟨hq1, hr1, s4, s5, s6, fl, rfl⟩
    have hi3 : i = 0 ∨ i = 1 ∨ i = 2 := by omega
    rcases hi3 with rfl | rfl | rfl
    ·have hwr : IntKind.i64.wrap 1 = 1 := rfl
     cases e : isV x q
     ·rw [e] at c1
      simp [hu.cell, hlv, ob, op, j0, cq, c1, slotOf, -pcall, -List.all_eq_true]
      refine hQ _ _ ⟨?_, rfl⟩
      simp [isV, e]
     ·rw [e] at c1
      simp [hu.cell, hlv, ob, op, j0, cq, c1, hwr, slotOf, -pcall, -List.all_eq_true]
      exact hI _ _ ⟨fun _ => e, by simp, _, _, _, _, rfl⟩
    ·have hwr : IntKind.i64.wrap (1 + 1) = 2 := rfl
     cases e : isV y r
     ·rw [e] at c2
      simp [hu.cell, hlv, ob, op, j1, cr, c2, slotOf, -pcall, -List.all_eq_true]
      refine hQ _ _ ⟨?_, rfl⟩
      simp [isV, e]
     ·rw [e] at c2
      simp [hu.cell, hlv, ob, op, j1, cr, c2, hwr, slotOf, -pcall, -List.all_eq_true]
      exact hI _ _ ⟨fun _ => hq1 (by omega), fun _ => e, _, _, _, _, rfl⟩
    ·simp [slotOf]
     refine hQ _ _ ⟨?_, rfl⟩
     simp [isV, hq1, hr1]
  ·simp [hu.cell, ob, gl0, ne_true hk, slotOf, -pcall]
   refine hQ _ _ ⟨?_, rfl⟩
   simp [isV, hk]
 | sum b p a1 a2 x y h hp h1 h2 l1 l2 l3 ih1 ih2 =>
  rintro ⟨k, n, u, l⟩ hw hn
  have hnum := number_q _ hw
  rw [PC] at hnum
  obtain ⟨_, _, hu, hul⟩ := hw.inv
  have hlv := len_tr hu
  have ob := objCells_of h
  have op := objCells_of hp
  simp only [ecs, Tr.k, Tr.n, Tr.l] at hnum ⊢
  refine CallP.eq (call_ofQ (af := Trnx.a59) rfl rfl fun Q hQ => ?_)
  simp only [Trnx.a59]
  by_cases hk : k = 3
  ·subst hk
   cases e : Tr.numOk 3 n l.length
   ·rw [e] at hnum
    simp [hu.cell, ob, gl0, hnum, slotOf, -pcall]
    refine hQ _ _ ⟨?_, rfl⟩
    match l with
    | [] => simp [isV]
    | [q] =>
     have e1 : (n == 0) = false := by
      refine ne_false ?_
      rintro rfl
      simp [Tr.numOk] at e
     have e2 : (n == 1) = false := by
      refine ne_false ?_
      rintro rfl
      simp [Tr.numOk] at e
     simp [isV, e1, e2]
    | _ :: _ :: _ => simp [isV]
   ·rw [e] at hnum
    have e3 : (n = 0 ∨ n = 1) ∧ ∃ q, l = [q] := by
     simp [Tr.numOk] at e
     have e2 := e.2
     refine ⟨by omega, ?_⟩
     match l, e2 with
     | [q], _ => exact ⟨q, rfl⟩
     | [], e2 => simp at e2
     | _ :: _ :: _, e2 => simp at e2; omega
    obtain ⟨hn1, q, rfl⟩ := e3
    have j0 := idx_tr hu (i := 0) (by simp)
    simp only [List.getElem_cons_zero, Int.natCast_zero] at j0
    simp only [Tr.nodes, Tr.nodesL] at hn
    have c1 := ih1 q (hul q (by simp)) (by omega)
    have c2 := ih2 q (hul q (by simp)) (by omega)
    have cq := cells_tr (hul q (by simp))
    have hwr : IntKind.i64.wrap 1 = 1 := rfl
    simp [hu.cell, hlv, ob, gl0, hnum, slotOf, -pcall]
    refine loop_nQ 1 (fun i c => (1 ≤ i → isV (.sum x y) (.mk 3 n u [q]) = true) ∧ ∃ s4 s5 s6 fl, c = ⟨[.ref b 0 1, .agg [.int .i64 3, .int .i64 n, u], .agg [.int .i64 3, .int .i64 n, u], .bool false, s4, s5, s6, u, .int .i64 1, .int .i64 i], [], fl, none, H⟩) ?_ ⟨by simp, _, _, _, _, rfl⟩
    rintro I hI i c hi ⟨hq1, s4, s5, s6, fl, rfl⟩
    have hi3 : i = 0 ∨ i = 1 := by omega
    rcases hi3 with rfl | rfl
    ·rcases hn1 with rfl | rfl
     ·cases e : isV x q
      ·rw [e] at c1
       simp [hu.cell, hlv, ob, op, j0, cq, c1, slotOf, -pcall, -List.all_eq_true]
       refine hQ _ _ ⟨?_, rfl⟩
       simp [isV, e]
      ·rw [e] at c1
       simp [hu.cell, hlv, ob, op, j0, cq, c1, hwr, slotOf, -pcall, -List.all_eq_true]
       exact hI _ _ ⟨fun _ => by simp [isV, e], _, _, _, _, rfl⟩
     ·cases e : isV y q
      ·rw [e] at c2
       simp [hu.cell, hlv, ob, op, j0, cq, c2, slotOf, -pcall, -List.all_eq_true]
       refine hQ _ _ ⟨?_, rfl⟩
       simp [isV, e]
      ·rw [e] at c2
       simp [hu.cell, hlv, ob, op, j0, cq, c2, hwr, slotOf, -pcall, -List.all_eq_true]
       exact hI _ _ ⟨fun _ => by simp [isV, e], _, _, _, _, rfl⟩
    ·simp [slotOf]
     refine hQ _ _ ⟨?_, rfl⟩
     rw [hq1 (by omega)]
  ·simp [hu.cell, ob, gl0, ne_true hk, slotOf, -pcall]
   refine hQ _ _ ⟨?_, rfl⟩
   simp [isV, hk]
 | seq b p a1 x h hp h1 l1 l3 ih1 =>
  rintro ⟨k, n, u, l⟩ hw hn
  have hnum := number_q _ hw
  rw [PC] at hnum
  obtain ⟨_, _, hu, hul⟩ := hw.inv
  have hlv := len_tr hu
  have ob := objCells_of h
  have op := objCells_of hp
  simp only [ecs, Tr.k, Tr.n, Tr.l] at hnum ⊢
  have hlen := Tr.nodesL_length l
  simp only [Tr.nodes] at hn
  refine CallP.eq (call_ofQ (af := Trnx.a59) rfl rfl fun Q hQ => ?_)
  simp only [Trnx.a59]
  by_cases hk : k = 4
  ·subst hk
   by_cases h0 : n = 0
   ·subst h0
    have e : Tr.numOk 4 0 l.length = true := by simp [Tr.numOk]
    rw [e] at hnum
    simp [hu.cell, hlv, ob, gl0, hnum, slotOf, -pcall]
    refine loop_nQ l.length (fun i c => (∀ z ∈ l.take i, isV x z = true) ∧ ∃ s4 s5 s6 fl, c = ⟨[.ref b 0 1, .agg [.int .i64 4, .int .i64 0, u], .agg [.int .i64 4, .int .i64 0, u], .bool false, s4, s5, s6, u, .int .i64 l.length, .int .i64 i], [], fl, none, H⟩) ?_ ⟨by simp, _, _, _, _, rfl⟩
    rintro I hI i c hi ⟨hz, s4, s5, s6, fl, rfl⟩
    by_cases hlt : i < l.length
    ·have hlt' : (i : Int) < l.length := by omega
     have hm := List.getElem_mem hlt
     have hi1 := idx_tr hu hlt
     have hc := ih1 l[i] (hul _ hm) (by have := Tr.nodesL_mem hm; omega)
     have cq := cells_tr (hul _ hm)
     have hw2 : IntKind.i64.wrap ((i : Int) + 1) = (i : Int) + 1 := wrap64 (by omega) (by omega)
     have htk : ∀ z ∈ l.take (i + 1), z ∈ l.take i ∨ z = l[i] := fun z hz => mem_take_succ hlt hz
     generalize l[i] = z at *
     cases e : isV x z
     ·rw [e] at hc
      simp [hu.cell, hlv, hlt', ob, op, hi1, cq, hc, slotOf, -pcall, -List.all_eq_true]
      refine hQ _ _ ⟨?_, rfl⟩
      have : l.all (isV x) = false := by
       rw [Bool.eq_false_iff]
       intro h
       have := List.all_eq_true.1 h z hm
       rw [e] at this
       cases this
      simp [isV, this]
     ·rw [e] at hc
      simp [hu.cell, hlv, hlt', ob, op, hi1, cq, hc, hw2, slotOf, -pcall, -List.all_eq_true]
      refine ⟨hlt, hI _ _ ⟨?_, _, _, _, _, rfl⟩⟩
      intro y hy
      rcases htk y hy with hy | rfl
      ·exact hz y hy
      ·exact e
    ·obtain rfl : i = l.length := by omega
     simp [slotOf]
     refine hQ _ _ ⟨?_, rfl⟩
     rw [List.take_length] at hz
     have : l.all (isV x) = true := List.all_eq_true.2 hz
     simp only [isV, this]
     rfl
   ·have e : Tr.numOk 4 n l.length = false := by simp [Tr.numOk, h0]
    rw [e] at hnum
    simp [hu.cell, ob, gl0, hnum, slotOf, -pcall]
    refine hQ _ _ ⟨?_, rfl⟩
    simp [isV, h0]
  ·simp [hu.cell, ob, gl0, ne_true hk, slotOf, -pcall]
   refine hQ _ _ ⟨?_, rfl⟩
   simp [isV, hk]
end Go.Proofs.Nst
set_option linter.unusedVariables false
set_option linter.unusedSimpArgs false
namespace Go.Proofs.Nst
open Go Go.Am
def chkE (τ : Ty) (w : Tr) : Int := if w.sized then (if isV τ w then 0 else 1) else 3
theorem rcheck_q {t : Tr} {τ : Ty} (hτ : IsTy t τ) (ho : t.Ok) (h1 : τ.size ≤ 60) (h2 : τ.deep ≤ 12) (w : Tr) (hw : w.Ok) (hn : w.nodes < 2 ^ 60) : PC 19 [.agg w.cs, .agg t.cs] (.int .i64 (chkE τ w)) := by
 have hcc := cells_tr ho
 have hcw := cells_tr hw
 have ht := isType_q t ho (by rw [hτ.nodes]; omega)
 rw [tyErr_ok hτ h1 h2] at ht
 have hs := sizeOf_q w hw hn
 have hl := long_q w hw hn
 have hi := is_q hτ ho w hw hn
 rw [PC] at ht hs hl hi
 refine pc_of (by simp [pureL, pureV, pure_tr ho, pure_tr hw]) (fun h => rfl) ?_
 refine call_ofQ (af := Trnx.a19) rfl rfl fun Q hQ => ?_
 simp only [Trnx.a19]
 by_cases a : w.nodes ≤ 20000
 ·have a' : ¬ (20000 : Int) < w.nodes := by omega
  cases b : w.long
  ·rw [b] at hl
   cases e2 : isV τ w
   ·rw [e2] at hi
    simp [hcc, hcw, ht, hs, hl, hi, a', slotOf, -pcall, -List.all_eq_true]
    refine hQ _ _ ?_
    simp [chkE, Tr.sized, a, b, e2]
   ·rw [e2] at hi
    simp [hcc, hcw, ht, hs, hl, hi, a', slotOf, -pcall, -List.all_eq_true]
    refine hQ _ _ ?_
    simp [chkE, Tr.sized, a, b, e2]
  ·rw [b] at hl
   simp [hcc, hcw, ht, hs, hl, a', slotOf, -pcall, -List.all_eq_true]
   refine hQ _ _ ?_
   simp [chkE, Tr.sized, a, b]
 ·have a' : (20000 : Int) < w.nodes := by omega
  simp [hcc, hcw, ht, hs, a', slotOf, -pcall, -List.all_eq_true]
  refine hQ _ _ ?_
  simp [chkE, Tr.sized, a]
theorem great_q (l : List Tr) (v : V) (hv : SlV (l.map Tr.cs) v) (hl : ∀ x ∈ l, x.Ok) (hn : Tr.nodesL l < 2 ^ 60) : PC 10 [v] (.bool (decide (400 < Tr.nodesL l))) := by
 have hlv := len_tr hv
 have hlen := Tr.nodesL_length l
 refine pc_of (by simp [pureL, hv.pure]) (fun h => rfl) ?_
 refine call_ofQ (af := Trnx.a10) rfl rfl fun Q hQ => ?_
 simp only [Trnx.a10]
 simp [slotOf]
 refine loop_nQ l.length (fun i c => c = ⟨[v, .bool false, .int .i64 (Tr.nodesL (l.take i)), .int .i64 i], [], none, none, []⟩) ?_ (by simp [Tr.nodesL])
 rintro I hI i c hi rfl
 have hle := Tr.nodesL_take_le (l := l) i
 by_cases hlt : i < l.length
 ·have hlt' : (i : Int) < l.length := by omega
  by_cases h4 : Tr.nodesL (l.take i) ≤ 400
  ·have h4' : (Tr.nodesL (l.take i) : Int) ≤ 400 := by omega
   have hm := List.getElem_mem hlt
   have hi1 := idx_tr hv hlt
   have hc := sizeOf_q l[i] (hl _ hm) (by have := Tr.nodesL_mem hm; omega)
   have cq := cells_tr (hl _ hm)
   have htn := Tr.nodesL_take hlt
   have hmm := Tr.nodesL_mem hm
   have hw2 : IntKind.i64.wrap ((i : Int) + 1) = (i : Int) + 1 := wrap64 (by omega) (by omega)
   rw [PC] at hc
   generalize l[i] = z at *
   have hw3 : IntKind.i64.wrap ((Tr.nodesL (l.take i) : Int) + z.nodes) = Tr.nodesL (l.take (i + 1)) := by rw [wrap64 (by omega) (by omega)]; omega
   simp [hlv, hlt', h4', hi1, hc, hw2, hw3, cq, slotOf, -pcall, -List.all_eq_true]
   exact ⟨hlt, hI _ _ rfl⟩
  ·have h4' : ¬ (Tr.nodesL (l.take i) : Int) ≤ 400 := by omega
   simp [hlv, hlt', h4', slotOf]
   refine hQ _ _ ?_
   have a : (400 : Int) < Tr.nodesL (l.take i) := by omega
   have b : 400 < Tr.nodesL l := by omega
   rw [decide_eq_true a, decide_eq_true b]
 ·obtain rfl : i = l.length := by omega
  simp [hlv, slotOf]
  refine hQ _ _ ?_
  have e : decide ((400 : Int) < Tr.nodesL l) = decide (400 < Tr.nodesL l) := decide_eq_decide.2 (by omega)
  rw [e]
end Go.Proofs.Nst
