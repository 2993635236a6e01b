/- A part of the law's proof: Law. -/
import Derived.Test.YtcpcmkacjdbpaaaDoorBld
set_option linter.unusedVariables false
set_option linter.unusedSimpArgs false
namespace Go.Proofs.Nst
open Go Go.Am
theorem allC_nil : AllC [] := fun o h => by cases h
theorem closed_nil : Closed [] := fun o h => by cases h
theorem build_p {v : V} {R : List (List Int)} (hR : ListsV R v) (lR : R.length < 2 ^ 39) (ll : ∀ r ∈ R, r.length < 2 ^ 39) {t : Tr} {τ : Ty} (hτ : IsTy t τ) (ho : t.Ok) (h1 : τ.size ≤ 60) (h2 : τ.deep ≤ 12) {n : Int} (hn : is64 n) :
  ∃ (u : V) (ts : List Tr), PC 26 [.agg t.cs, .int .i64 n, v] (.tup [u, .int .i64 (bldE τ n R)]) ∧ SlV (ts.map Tr.cs) u ∧ (∀ t ∈ ts, t.Ok) ∧ (bldE τ n R = 0 → ts.map Tr.vl = bldL τ n R) := by
 obtain ⟨u, X, ts, e, q1, q2, q3⟩ := build_q allC_nil closed_nil (below_pure 0 v hR.pure) (hR.regs []) lR ll hτ ho h1 h2 hn
 refine ⟨u, ts, ?_, q1, q2, q3⟩
 simp only [PC, pcall, callee_func, List.append_nil, List.nil_append]
 rw [if_pos (by simp [pureL, pureV, pure_tr ho, hR.pure]), e]
 simp only [(view_sl q1 q1.pure 0 _).2, Option.map_some]
theorem flat_fine {τ : Ty} {l : List Tr} (h1 : ∀ x ∈ l, isV τ x = true) (h2 : sizedL l = true) : flatE τ l = 0 ∧ flatR τ l = canonS τ l := by
 have : flatE τ l = 0 := by simp [flatE, h2, List.all_eq_true.2 h1]
 exact ⟨this, by simp [flatR, this]⟩
end Go.Proofs.Nst
set_option linter.unusedVariables false
set_option linter.unusedSimpArgs false
namespace Go.Proofs.Nst
open Go Go.Am
theorem bld_all {τ : Ty} {n : Int} {R : List (List Int)} (h : bldE τ n R = 0) : (0 ≤ n ∧ n ≤ 20000) ∧ R.length = τ.own + τ.data ∧ (R.take τ.own).all (fun r => (r.length : Int) == n) = true ∧ shp τ (R.drop τ.own) = true ∧
  rdAll τ (R.take τ.own) (R.drop τ.own) n.toNat = some (bldL τ n R) ∧ Vl.nodesL (bldL τ n R) ≤ 20000 := by
 simp only [bldE] at h
 split at h
 ·cases h
 split at h
 ·cases h
 rename_i h1 h2
 have h1 := Decidable.not_not.1 h1
 have h2 := Decidable.not_not.1 h2
 cases e : rdAll τ (R.take τ.own) (R.drop τ.own) n.toNat with
 | none => rw [e] at h; cases h
 | some l =>
  have hL : bldL τ n R = l := by simp only [bldL, e]; rfl
  rw [e] at h
  simp only [sumE] at h
  split at h
  ·rename_i hle
   rw [hL]
   exact ⟨h1, h2.1, h2.2.1, h2.2.2, rfl, hle⟩
  ·cases h
theorem bld_of {τ : Ty} {n : Int} {R : List (List Int)} {L : List Vl} (h1 : 0 ≤ n ∧ n ≤ 20000) (h2 : R.length = τ.own + τ.data) (h3 : (R.take τ.own).all (fun r => (r.length : Int) == n) = true) (h4 : shp τ (R.drop τ.own) = true)
  (h5 : rdAll τ (R.take τ.own) (R.drop τ.own) n.toNat = some L) (h6 : Vl.nodesL L ≤ 20000) : bldE τ n R = 0 ∧ bldL τ n R = L := by
 constructor
 ·simp only [bldE]
  rw [if_neg (fun h => h h1), if_neg (fun h => h ⟨h2, h3, h4⟩), h5]
  simp only [sumE]
  rw [if_pos h6]
 ·simp only [bldL, h5]
  rfl
abbrev Ext (e : Nat) (D D' : List (List Int)) : Prop := Fr (fun r r' => ∃ X : List Int, X.length = e ∧ r' = r ++ X) D D'
theorem Ext.head {e : Nat} {D D' : List (List Int)} (h : Ext e D D') : (D.headD []).length ≤ (D'.headD []).length := by
 cases h with
 | nil => simp
 | cons h _ => obtain ⟨X, _, rfl⟩ := h; simp
theorem Fr.drop' {α β : Type} {p : α → β → Prop} : ∀ {l : List α} {m : List β}, Fr p l m → ∀ n, Fr p (l.drop n) (m.drop n)
 | _, _, .nil, n => by simp; exact .nil
 | _, _, .cons h t, 0 => .cons h t
 | _, _, .cons h t, n + 1 => by simpa using Fr.drop' t n
theorem Ext.all {e : Nat} : ∀ {D D' : List (List Int)}, Ext e D D' → ∀ k, D.all (fun r => r.length == k) = true → D'.all (fun r => r.length == k + e) = true
 | _, _, .nil, k, _ => rfl
 | _, _, .cons h t, k, ha => by
  obtain ⟨X, hX, rfl⟩ := h
  simp only [List.all_cons, Bool.and_eq_true, beq_iff_eq] at ha ⊢
  exact ⟨by rw [List.length_append, hX, ha.1], Ext.all t k ha.2⟩
theorem Ext.shp {e : Nat} : ∀ (τ : Ty) {D D' : List (List Int)}, Ext e D D' → shp τ D = true → Nst.shp τ D' = true
 | .unit, _, _, _, _ => rfl
 | .int, _, _, _, _ => rfl
 | .pair a b, D, D', h, hs => by
  simp only [Nst.shp, Bool.and_eq_true] at hs ⊢
  exact ⟨Ext.shp a (h.take _) hs.1, Ext.shp b (h.drop' _) hs.2⟩
 | .sum a b, D, D', h, hs => by
  simp only [Nst.shp, Bool.and_eq_true] at hs ⊢
  exact ⟨Ext.shp a (h.take _) hs.1, Ext.shp b (h.drop' _) hs.2⟩
 | .seq a, D, D', h, hs => by
  simp only [Nst.shp, Bool.and_eq_true] at hs ⊢
  refine ⟨?_, Ext.shp a (h.drop' _) hs.2⟩
  cases h with
  | nil => simp
  | cons hx t =>
   have := Ext.all ((Fr.cons hx t).take a.own) _ hs.1
   obtain ⟨X, hX, rfl⟩ := hx
   simpa [hX] using this
theorem rg_take (D : List (List Int)) (n j i : Nat) (h : j < n) : rg (D.take n) j i = rg D j i := by
 simp [rg, List.getD_eq_getElem?_getD, List.getElem?_take, h]
theorem rg_drop (D : List (List Int)) (n j i : Nat) : rg (D.drop n) j i = rg D (n + j) i := by
 simp [rg, List.getD_eq_getElem?_getD, List.getElem?_drop]
theorem Ext.rg {e : Nat} : ∀ {D D' : List (List Int)}, Ext e D D' → ∀ {j i : Nat}, i < (D.getD j []).length → rg D' j i = Nst.rg D j i
 | _, _, .nil, j, i, h => by simp at h
 | _, _, .cons h t, 0, i, hi => by
  obtain ⟨X, _, rfl⟩ := h
  simp at hi
  simp [Nst.rg, List.getD_eq_getElem?_getD, List.getElem?_append_left hi]
 | _, _, .cons h t, j + 1, i, hi => by
  have := Ext.rg t (j := j) (i := i) (by simpa using hi)
  simpa [Nst.rg] using this
end Go.Proofs.Nst
set_option linter.unusedVariables false
set_option linter.unusedSimpArgs false
namespace Go.Proofs.Nst
open Go Go.Am
structure Seen (τ : Ty) (n : Nat) (R R3 : List (List Int)) : Prop where
 sum : ∀ a b, τ = .sum a b → ∀ i, i < n → rg R3 0 i = rg R 0 i ∧ (rg R 0 i ≠ 1 → ∀ j, 1 ≤ j → j < 1 + a.own → rg R3 j i = rg R j i) ∧ (rg R 0 i = 1 → ∀ j, 1 + a.own ≤ j → j < 1 + a.own + b.own → rg R3 j i = rg R j i)
 rest : (∀ a b, τ ≠ .sum a b) → ∀ i, i < n → ∀ j, j < τ.own → rg R3 j i = rg R j i
theorem turn30_q (n k : Int) (hn : is64 n) (hk : 1 ≤ k) (hk2 : k < 2 ^ 60) : PC 30 [.int .i64 n, .int .i64 k] (.int .i64 (n % k)) := by
 unfold is64 at hn
 refine pc_of rfl (fun h => rfl) ?_
 refine call_ofQ (af := Trnx.a30) rfl rfl fun Q hQ => ?_
 simp only [Trnx.a30]
 have h1 : ¬ k < 1 := by omega
 have h0 : ¬ k = 0 := by omega
 have htm : n % k = if n.tmod k < 0 then n.tmod k + k else n.tmod k := by
  have hlt := Int.tmod_lt_of_pos n (show 0 < k by omega)
  have hlt2 := Int.tmod_lt_of_pos (-n) (show 0 < k by omega)
  rw [Int.neg_tmod] at hlt2
  have hmod : n % k = n.tmod k % k := by rw [Int.tmod_def, Int.sub_mul_emod_self_left]
  rw [hmod]
  split
  ·rw [← Int.add_emod_right, Int.emod_eq_of_lt (by omega) (by omega)]
  ·rw [Int.emod_eq_of_lt (by omega) (by omega)]
 by_cases hneg : n.tmod k < 0
 ·rw [if_pos hneg] at htm
  have hw : IntKind.i64.wrap (n.tmod k + k) = n % k := by
   have := Int.emod_lt_of_pos n (show 0 < k by omega)
   have := Int.emod_nonneg n h0
   rw [← htm, wrap64 (by omega) (by omega)]
  simp [h1, h0, hneg, hw, slotOf]
  exact hQ _ _ rfl
 ·rw [if_neg hneg] at htm
  simp [h1, h0, hneg, slotOf]
  rw [← htm]
  exact hQ _ _ rfl
abbrev hdr (j : Nat) (r : List Int) : V := .sl (1 + 2 * j) 0 r.length r.length 1 false
def hdrs : Nat → List (List Int) → List V
 | _, [] => []
 | j, r :: R => hdr j r :: hdrs (j + 1) R
theorem hdrs_len : ∀ (j : Nat) (R : List (List Int)), (hdrs j R).length = R.length
 | _, [] => rfl
 | j, r :: R => by simp [hdrs, hdrs_len (j + 1) R]
theorem hdrs_app : ∀ (j : Nat) (R : List (List Int)) (r : List Int), hdrs j (R ++ [r]) = hdrs j R ++ [hdr (j + R.length) r]
 | _, [], r => rfl
 | j, x :: R, r => by simp [hdrs, hdrs_app (j + 1) R r]; omega
theorem hdrs_get : ∀ (j : Nat) (R : List (List Int)) (i : Nat) (h : i < R.length), (hdrs j R)[i]? = some (hdr (j + i) R[i])
 | j, x :: R, 0, h => rfl
 | j, x :: R, i + 1, h => by
  have := hdrs_get (j + 1) R i (by simpa using h)
  simp only [hdrs, List.getElem?_cons_succ, this, List.getElem_cons_succ]
  congr 2
  omega
theorem hdrs_set : ∀ (j : Nat) (R : List (List Int)) (i : Nat) (r : List Int), hdrs j (R.set i r) = (hdrs j R).set i (hdr (j + i) r)
 | j, [], i, r => rfl
 | j, x :: R, 0, r => rfl
 | j, x :: R, i + 1, r => by
  simp only [List.set_cons_succ, hdrs, hdrs_set (j + 1) R i r]
  congr 3
  omega
theorem hdrs_pure (m : Nat) : ∀ (j : Nat) (R : List (List Int)), 1 + 2 * (j + R.length) ≤ m + 1 → ∀ v ∈ hdrs j R, belowV m v = true
 | j, [], _, v, h => by cases h
 | j, x :: R, hm, v, h => by
  simp only [List.length_cons] at hm
  rcases List.mem_cons.1 h with rfl | h
  ·simp [belowV]; omega
  ·exact hdrs_pure m (j + 1) R (by omega) v h
structure Rows (H : Heap) (R : List (List Int)) : Prop where
 len : H.length = 1 + 2 * R.length
 out : H[0]? = some (.cells R.length 1 (hdrs 0 R))
 row : ∀ j (hj : j < R.length), H[1 + 2 * j]? = some (.cells R[j].length 1 (icells R[j]))
 all : AllC H
 cl : Closed H
theorem AllC.set {H : Heap} (h : AllC H) (j n sz : Nat) (cs : List V) : AllC (H.set j (.cells n sz cs)) := fun o ho => by
 rcases List.mem_or_eq_of_mem_set ho with ho | rfl
 ·exact h o ho
 ·exact ⟨_, _, _, rfl⟩
abbrev rowsV (R : List (List Int)) : V := .sl 0 0 R.length R.length 1 false
theorem Rows.regs {H : Heap} {R : List (List Int)} (h : Rows H R) : RegsH H (rowsV R) R := by
 have hl := hdrs_len 0 R
 refine ⟨hdrs 0 R, .sl 0 0 _ _ _ _ _ h.out (by omega) (by omega) (by rw [List.drop_zero, List.take_of_length_le (by omega)]), ?_⟩
 have gen : ∀ (T : List (List Int)) (j : Nat), (∀ i (hi : i < T.length), H[1 + 2 * (j + i)]? = some (.cells T[i].length 1 (icells T[i]))) → Fr (fun r w => Sh H w (icells r)) T (hdrs j T) := by
  intro T
  induction T with
  | nil => intro j _; exact .nil
  | cons r T ih =>
   intro j hj
   refine .cons ?_ (ih (j + 1) fun i hi => ?_)
   ·have := hj 0 (by simp)
    simp only [Nat.add_zero, List.getElem_cons_zero] at this
    exact .sl _ 0 _ _ _ _ _ this (by omega) (by simp) (by rw [List.drop_zero, List.take_of_length_le (by simp)])
   ·have := hj (i + 1) (by simpa using hi)
    simpa [show j + 1 + i = j + (i + 1) by omega] using this
 exact gen R 0 fun i hi => by rw [Nat.zero_add]; exact h.row i hi
theorem Rows.below {H : Heap} {R : List (List Int)} (h : Rows H R) : belowV H.length (rowsV R) = true := by
 have := h.len
 simp [belowV]
 omega
theorem Rows.nil : Rows [.cells 0 1 []] [] := ⟨rfl, rfl, fun j hj => by simp at hj, fun o ho => ⟨_, _, _, List.mem_singleton.1 ho⟩, fun o ho => by rw [List.mem_singleton.1 ho]; rfl⟩
theorem Rows.add {H : Heap} {R : List (List Int)} (h : Rows H R) (r : List Int) : Rows ((H ++ [Am.Obj.cells r.length 1 (icells r), Am.Obj.cells 1 1 [hdr R.length r]]).set 0 (.cells (R.length + 1) 1 (hdrs 0 R ++ [hdr R.length r]))) (R ++ [r]) := by
 have hl := h.len
 have ha := hdrs_app 0 R r
 rw [Nat.zero_add] at ha
 refine ⟨by simp [hl]; omega, by simp [ha, hl], ?_, ?_, ?_⟩
 ·intro j hj
  rw [List.getElem?_set_ne (by omega)]
  simp at hj
  by_cases e : j < R.length
  ·rw [List.getElem?_append_left (by omega), h.row j e]
   simp [e]
  ·obtain rfl : j = R.length := by omega
   rw [List.getElem?_append_right (by omega), hl]
   simp
 ·refine AllC.set (h.all.app fun o ho => ?_) _ _ _ _
  simp only [List.mem_cons, List.not_mem_nil, or_false] at ho
  rcases ho with rfl | rfl <;> exact ⟨_, _, _, rfl⟩
 ·refine (h.cl.app fun o ho => ?_).set _ ?_
  ·simp only [List.mem_cons, List.not_mem_nil, or_false] at ho
   rcases ho with rfl | rfl
   ·exact okO_ints _ _ _ _
   ·simp [okO, belowV, hl]
  ·rw [← ha]
   simp only [okO, List.all_eq_true]
   exact hdrs_pure _ 0 _ (by simp [hl]; omega)
theorem Rows.put {H : Heap} {R : List (List Int)} (h : Rows H R) {i : Nat} (hi : i < R.length) (r : List Int) : Rows ((H.set (1 + 2 * i) (.cells r.length 1 (icells r))).set 0 (.cells R.length 1 ((hdrs 0 R).set i (hdr i r)))) (R.set i r) := by
 have hl := h.len
 have hs := hdrs_set 0 R i r
 rw [Nat.zero_add] at hs
 refine ⟨by simp [hl], by rw [List.getElem?_set_self (by simp; omega), hs, List.length_set], ?_, ?_, ?_⟩
 ·intro j hj
  simp at hj
  rw [List.getElem?_set_ne (by omega)]
  by_cases e : i = j
  ·subst e
   simp [show 1 + 2 * i < H.length by omega]
  ·rw [List.getElem?_set_ne (by omega), h.row j hj]
   simp [e]
 ·exact AllC.set (AllC.set h.all _ _ _ _) _ _ _ _
 ·refine (h.cl.set _ (okO_ints _ _ _ _)).set _ ?_
  rw [← hs]
  simp only [okO, List.all_eq_true]
  exact hdrs_pure _ 0 _ (by simp [hl])
theorem Rows.at {H : Heap} {R : List (List Int)} (h : Rows H R) {i : Nat} (hi : i < R.length) (r : List Int) (hr : r.length = R[i].length) : Rows (H.set (1 + 2 * i) (.cells r.length 1 (icells r))) (R.set i r) := by
 have := h.put hi r
 have h2 : (H.set (1 + 2 * i) (.cells r.length 1 (icells r))).set 0 (.cells R.length 1 ((hdrs 0 R).set i (hdr i r))) = H.set (1 + 2 * i) (.cells r.length 1 (icells r)) := by
  have hg := hdrs_get 0 R i hi
  simp only [hdr, Nat.zero_add, ← hr] at hg
  have h3 : (hdrs 0 R).set i (hdr i r) = hdrs 0 R := by
   refine List.ext_getElem? fun j => ?_
   by_cases e : i = j
   ·subst e
    rw [List.getElem?_set_self (by rw [hdrs_len]; exact hi), hg]
   ·rw [List.getElem?_set_ne e]
  rw [h3]
  refine List.ext_getElem? fun j => ?_
  by_cases e : 0 = j
  ·subst e
   have := h.len
   rw [List.getElem?_set_self (by simp; omega), List.getElem?_set_ne (by omega), h.out]
  ·rw [List.getElem?_set_ne e]
 rwa [h2] at this
end Go.Proofs.Nst
