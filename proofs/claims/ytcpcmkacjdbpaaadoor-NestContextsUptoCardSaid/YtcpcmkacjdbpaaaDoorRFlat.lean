/- A part of the law's proof: RFlat. -/
import Derived.Test.YtcpcmkacjdbpaaaDoorFlat
set_option linter.unusedVariables false
set_option linter.unusedSimpArgs false
namespace Go.Proofs.Nst
open Go Go.Am
def slotCs : Option Tr → List V
 | none => [.bool false, .int .i64 0, .int .i64 0, .nils]
 | some t => .bool true :: t.cs
theorem slotCs_len (o : Option Tr) : (slotCs o).length = 4 := by cases o <;> simp [slotCs]
abbrev SlotsV (l : List (Option Tr)) (v : V) : Prop := SlV (l.map slotCs) v
theorem SlotsV.len' {l : List (Option Tr)} {v : V} (h : SlotsV l v) : lenV v = some (.int .i64 l.length) := by
 have := SlV.len h
 simpa using this
theorem SlotsV.idx' {l : List (Option Tr)} {v : V} (h : SlotsV l v) {i : Nat} (hi : i < l.length) : idxV v i 4 = some (.pv (slotCs l[i])) := by
 rw [SlV.idx h]
 simp [hi, slotCs_len]
theorem chunks_map {α : Type} (f : α → List V) (n : Nat) : ∀ l : List α, (∀ x ∈ l, (f x).length = n) → chunks n l.length (l.map f).flatten = l.map f
 | [], _ => rfl
 | x :: l, h => by
  have hx := h x (by simp)
  simp only [List.length_cons, List.map_cons, List.flatten_cons, chunks]
  rw [List.take_append_of_le_length (by omega), List.take_of_length_le (by omega), List.drop_append_of_le_length (by omega), List.drop_of_length_le (by omega), List.nil_append, chunks_map f n l fun y hy => h y (by simp [hy])]
end Go.Proofs.Nst
set_option linter.unusedVariables false
set_option linter.unusedSimpArgs false
namespace Go.Proofs.Nst
open Go Go.Am
inductive OwnL (n : Nat) (H : Heap) : List V → V → Prop
 | nil : OwnL n H [] .nils
 | sl (vs : List V) (b : Nat) (hb : n ≤ b) (h : H[b]? = some (.cells vs.length 1 vs)) : OwnL n H vs (.sl b 0 vs.length vs.length 1 false)
def blk : V → Option Nat
 | .sl b _ _ _ _ _ => some b
 | _ => none
namespace OwnL
variable {n : Nat} {H : Heap} {vs : List V} {v : V}
theorem slen (h : OwnL n H vs v) : sliceLen v = some vs.length := by cases h <;> rfl
theorem scells (h : OwnL n H vs v) : sliceCells H v = some vs := by
 cases h with
 | nil => rfl
 | sl vs b hb h => simp [sliceCells, objCells_of h]
theorem cell (h : OwnL n H vs v) : isCell v = true := by cases h <;> rfl
theorem cells (h : OwnL n H vs v) : cellsV v = [v] := by cases h <;> rfl
theorem view (h : OwnL n H vs v) (hp : pureL vs = true) : ∃ u, viewV 0 H v = some u ∧ CellsV vs u := by
 cases h with
 | nil => exact ⟨.nils, rfl, .nil rfl⟩
 | sl vs b hb h => exact ⟨.sv (vs.map fun x => [x]) false, by simp [viewV, objCells_of h, hp, chunks_single], .sv false⟩
theorem frz (h : OwnL n H vs v) (hp : pureL vs = true) : ∃ u G, frzV H v = some (u, G) ∧ CellsV vs u := by
 cases h with
 | nil => exact ⟨.nils, H, rfl, .nil rfl⟩
 | sl vs b hb h => exact ⟨_, _, view_own h rfl hp, .sv false⟩
end OwnL
end Go.Proofs.Nst
set_option linter.unusedVariables false
set_option linter.unusedSimpArgs false
namespace Go.Proofs.Nst
open Go Go.Am
mutual
theorem eqV_tr : ∀ t : Tr, t.Ok → eqV t.v t.v = true ∧ eqL t.cs t.cs = true
 | .mk k n v l, ho => by
  obtain ⟨_, _, hv, hl⟩ := ho.inv
  have h := eqLL_tr l hl
  have hvv : eqV v v = true := by
   cases hv with
   | nil _ => rfl
   | sv ex => simp [eqV, h]
  exact ⟨hvv, by simp [Tr.cs, eqL, eqV, hvv]⟩
theorem eqLL_tr : ∀ l : List Tr, (∀ x ∈ l, x.Ok) → eqLL (l.map Tr.cs) (l.map Tr.cs) = true
 | [], _ => rfl
 | t :: l, h => by
  have h1 := eqV_tr t (h t (by simp))
  have h2 := eqLL_tr l (fun x hx => h x (by simp [hx]))
  simp [eqLL, h1.2, h2]
end
end Go.Proofs.Nst
set_option linter.unusedVariables false
set_option linter.unusedSimpArgs false
namespace Go.Proofs.Nst
open Go Go.Am
theorem take_succ_iff {α : Type} {l m : List α} {i : Nat} (h1 : i < l.length) (h2 : i < m.length) : l.take (i + 1) = m.take (i + 1) ↔ l.take i = m.take i ∧ l[i] = m[i] := by
 rw [← List.take_append_getElem h1, ← List.take_append_getElem h2]
 constructor
 ·intro h
  obtain ⟨a, b⟩ := List.append_inj' h rfl
  exact ⟨a, by simpa using b⟩
 ·rintro ⟨a, b⟩
  rw [a, b]
theorem equal_q (l m : List Int) (v w : V) (hv : IntsV l v) (hw : IntsV m w) (hl : l.length < 2 ^ 60) : PC 35 [v, w] (.bool (decide (l = m))) := by
 have lv := hv.len'
 have lw := hw.len'
 refine pc_of (by simp [pureL, SlV.pure hv, SlV.pure hw]) (fun h => rfl) ?_
 refine call_ofQ (af := Trnx.a35) rfl rfl fun Q hQ => ?_
 simp only [Trnx.a35]
 simp [lv, lw, slotOf]
 refine loop_nQ l.length (fun i c => ∃ b fl, c = ⟨[v, w, .bool false, .bool b, .int .i64 i], [], fl, none, []⟩ ∧ (b = true ↔ l.length = m.length ∧ l.take i = m.take i)) ?_ ⟨_, _, rfl, by simp; omega⟩
 rintro I hI i c hi ⟨b, fl, rfl, hb⟩
 cases b with
 | false =>
  simp [lv, lw, slotOf]
  refine hQ _ _ ?_
  have : decide (l = m) = false := decide_eq_false (by
   rintro rfl
   have := hb.2 ⟨rfl, rfl⟩
   cases this)
  rw [this]
 | true =>
  obtain ⟨h1, h2⟩ := hb.1 rfl
  by_cases hlt : i < l.length
  ·have hlt' : (i : Int) < l.length := by omega
   have hlm : i < m.length := by omega
   have hw2 : IntKind.i64.wrap ((i : Int) + 1) = (i : Int) + 1 := wrap64 (by omega) (by omega)
   have a1 := hv.idx' hlt
   have a2 := hw.idx' hlm
   simp [lv, lw, hlt', a1, a2, hw2, slotOf]
   refine ⟨hlt, hI _ _ ⟨_, _, rfl, ?_⟩⟩
   rw [take_succ_iff hlt hlm]
   simp [h1, h2]
  ·obtain rfl : i = l.length := by omega
   simp [lv, lw, slotOf]
   refine hQ _ _ ?_
   have : decide (l = m) = true := decide_eq_true (by
    rw [List.take_length, h1, List.take_length] at h2
    exact h2)
   rw [this]
end Go.Proofs.Nst
set_option linter.unusedVariables false
set_option linter.unusedSimpArgs false
namespace Go.Proofs.Nst
open Go Go.Am
theorem flatS_own : ∀ (τ : Ty) (l : List (Option Tr)), ∀ x ∈ (flatS τ l).1, x.length = l.length
 | .unit, l, x, h => by simp [flatS] at h
 | .int, l, x, h => by simp [flatS] at h; subst h; simp
 | .seq a, l, x, h => by
  simp only [flatS, List.mem_cons, List.not_mem_nil, or_false] at h
  rcases h with rfl | rfl
  ·exact startsS_len 0 l
  ·simp
 | .pair a b, l, x, h => by
  simp only [flatS, List.mem_append] at h
  rcases h with h | h
  ·simpa using flatS_own a _ x h
  ·simpa using flatS_own b _ x h
 | .sum a b, l, x, h => by
  simp only [flatS, List.mem_cons, List.mem_append] at h
  rcases h with rfl | h | h
  ·simp
  ·simpa using flatS_own a _ x h
  ·simpa using flatS_own b _ x h
theorem flatS_data : ∀ (τ : Ty) (l : List (Option Tr)), ∀ x ∈ (flatS τ l).2, x.length ≤ slotsN l
 | .unit, l, x, h => by simp [flatS] at h
 | .int, l, x, h => by simp [flatS] at h
 | .seq a, l, x, h => by
  have h1 := pool_le l
  have h2 := Tr.nodesL_length (poolS l)
  simp only [flatS, List.mem_append] at h
  rcases h with h | h
  ·have := flatS_own a _ x h
   simp at this
   omega
  ·have := flatS_data a _ x h
   rw [slotsN_some] at this
   omega
 | .pair a b, l, x, h => by
  simp only [flatS, List.mem_append] at h
  rcases h with h | h
  ·have := flatS_data a _ x h
   have := partP_le 0 l
   omega
  ·have := flatS_data b _ x h
   have := partP_le 1 l
   omega
 | .sum a b, l, x, h => by
  simp only [flatS, List.mem_append] at h
  rcases h with h | h
  ·have := flatS_data a _ x h
   have := partU_le 0 l
   omega
  ·have := flatS_data b _ x h
   have := partU_le 1 l
   omega
theorem canonS_bound (τ : Ty) (l : List Tr) : ∀ x ∈ canonS τ l, x.length ≤ Tr.nodesL l := by
 intro x hx
 have := Tr.nodesL_length l
 rcases List.mem_append.1 hx with hx | hx
 ·have := flatS_own τ _ x hx
  simp at this
  omega
 ·have := flatS_data τ _ x hx
  rw [slotsN_some] at this
  exact this
end Go.Proofs.Nst
