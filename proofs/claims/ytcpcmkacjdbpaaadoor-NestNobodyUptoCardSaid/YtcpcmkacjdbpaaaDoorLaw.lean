/- A part of the law's proof: Law. -/
import Derived.Test.YtcpcmkacjdbpaaaDoorBld
/- Nest: the law NestThere over the machine. -/
set_option linter.unusedVariables false
set_option linter.unusedSimpArgs false
namespace Go.Proofs.Nst
open Go Go.Am

theorem flat_fine {τ : Ty} {l : List Tr} (h1 : ∀ x ∈ l, isV τ x = true) (h2 : sizedL l = true) : flatE τ l = 0 ∧ flatR τ l = canonS τ l := by
 have : flatE τ l = 0 := by simp [flatE, h2, List.all_eq_true.2 h1]
 exact ⟨this, by simp [flatR, this]⟩

end Go.Proofs.Nst
/- Nest: what nobody looks at changes nothing. -/
set_option linter.unusedVariables false
set_option linter.unusedSimpArgs false
namespace Go.Proofs.Nst
open Go Go.Am

theorem bld_all {τ : Ty} {n : Int} {R : List (List Int)} (h : bldE τ n R = 0) : (0 ≤ n ∧ n ≤ 20000) ∧ R.length = τ.own + τ.data ∧ (R.take τ.own).all (fun r => (r.length : Int) == n) = true ∧ shp τ (R.drop τ.own) = true ∧
  rdAll τ (R.take τ.own) (R.drop τ.own) n.toNat = some (bldL τ n R) ∧ Vl.nodesL (bldL τ n R) ≤ 20000 := by
 simp only [bldE] at h
 split at h
 ·cases h
 split at h
 ·cases h
 rename_i h1 h2
 have h1 := Decidable.not_not.1 h1
 have h2 := Decidable.not_not.1 h2
 cases e : rdAll τ (R.take τ.own) (R.drop τ.own) n.toNat with
 | none => rw [e] at h; cases h
 | some l =>
  have hL : bldL τ n R = l := by simp only [bldL, e]; rfl
  rw [e] at h
  simp only [sumE] at h
  split at h
  ·rename_i hle
   rw [hL]
   exact ⟨h1, h2.1, h2.2.1, h2.2.2, rfl, hle⟩
  ·cases h
theorem bld_of {τ : Ty} {n : Int} {R : List (List Int)} {L : List Vl} (h1 : 0 ≤ n ∧ n ≤ 20000) (h2 : R.length = τ.own + τ.data) (h3 : (R.take τ.own).all (fun r => (r.length : Int) == n) = true) (h4 : shp τ (R.drop τ.own) = true)
  (h5 : rdAll τ (R.take τ.own) (R.drop τ.own) n.toNat = some L) (h6 : Vl.nodesL L ≤ 20000) : bldE τ n R = 0 ∧ bldL τ n R = L := by
 constructor
 ·simp only [bldE]
  rw [if_neg (fun h => h h1), if_neg (fun h => h ⟨h2, h3, h4⟩), h5]
  simp only [sumE]
  rw [if_pos h6]
 ·simp only [bldL, h5]
  rfl

/-- registers that have grown by as many places -/
abbrev Ext (e : Nat) (D D' : List (List Int)) : Prop := Fr (fun r r' => ∃ X : List Int, X.length = e ∧ r' = r ++ X) D D'
theorem Ext.head {e : Nat} {D D' : List (List Int)} (h : Ext e D D') : (D.headD []).length ≤ (D'.headD []).length := by
 cases h with
 | nil => simp
 | cons h _ => obtain ⟨X, _, rfl⟩ := h; simp
theorem Fr.drop' {α β : Type} {p : α → β → Prop} : ∀ {l : List α} {m : List β}, Fr p l m → ∀ n, Fr p (l.drop n) (m.drop n)
 | _, _, .nil, n => by simp; exact .nil
 | _, _, .cons h t, 0 => .cons h t
 | _, _, .cons h t, n + 1 => by simpa using Fr.drop' t n
theorem Ext.all {e : Nat} : ∀ {D D' : List (List Int)}, Ext e D D' → ∀ k, D.all (fun r => r.length == k) = true → D'.all (fun r => r.length == k + e) = true
 | _, _, .nil, k, _ => rfl
 | _, _, .cons h t, k, ha => by
  obtain ⟨X, hX, rfl⟩ := h
  simp only [List.all_cons, Bool.and_eq_true, beq_iff_eq] at ha ⊢
  exact ⟨by rw [List.length_append, hX, ha.1], Ext.all t k ha.2⟩
theorem Ext.shp {e : Nat} : ∀ (τ : Ty) {D D' : List (List Int)}, Ext e D D' → shp τ D = true → Nst.shp τ D' = true
 | .unit, _, _, _, _ => rfl
 | .int, _, _, _, _ => rfl
 | .pair a b, D, D', h, hs => by
  simp only [Nst.shp, Bool.and_eq_true] at hs ⊢
  exact ⟨Ext.shp a (h.take _) hs.1, Ext.shp b (h.drop' _) hs.2⟩
 | .sum a b, D, D', h, hs => by
  simp only [Nst.shp, Bool.and_eq_true] at hs ⊢
  exact ⟨Ext.shp a (h.take _) hs.1, Ext.shp b (h.drop' _) hs.2⟩
 | .seq a, D, D', h, hs => by
  simp only [Nst.shp, Bool.and_eq_true] at hs ⊢
  refine ⟨?_, Ext.shp a (h.drop' _) hs.2⟩
  cases h with
  | nil => simp
  | cons hx t =>
   have := Ext.all ((Fr.cons hx t).take a.own) _ hs.1
   obtain ⟨X, hX, rfl⟩ := hx
   simpa [hX] using this
theorem rg_take (D : List (List Int)) (n j i : Nat) (h : j < n) : rg (D.take n) j i = rg D j i := by
 simp [rg, List.getD_eq_getElem?_getD, List.getElem?_take, h]
theorem rg_drop (D : List (List Int)) (n j i : Nat) : rg (D.drop n) j i = rg D (n + j) i := by
 simp [rg, List.getD_eq_getElem?_getD, List.getElem?_drop]
theorem Ext.rg {e : Nat} : ∀ {D D' : List (List Int)}, Ext e D D' → ∀ {j i : Nat}, i < (D.getD j []).length → rg D' j i = Nst.rg D j i
 | _, _, .nil, j, i, h => by simp at h
 | _, _, .cons h t, 0, i, hi => by
  obtain ⟨X, _, rfl⟩ := h
  simp at hi
  simp [Nst.rg, List.getD_eq_getElem?_getD, List.getElem?_append_left hi]
 | _, _, .cons h t, j + 1, i, hi => by
  have := Ext.rg t (j := j) (i := i) (by simpa using hi)
  simpa [Nst.rg] using this

theorem rd_agree {e : Nat} : ∀ (τ : Ty) (own own' data data' : List (List Int)) (i : Nat) (x : Vl), (∀ j, j < τ.own → rg own' j i = rg own j i) → data.length = τ.data → Ext e data data' → shp τ data = true → rd τ own data i = some x → rd τ own' data' i = some x
 | .unit, _, _, _, _, i, x, _, _, _, _, h => h
 | .int, own, own', _, _, i, x, ho, _, _, _, h => by
  simp only [rd] at h ⊢
  rw [ho 0 (by simp [Ty.own])]
  exact h
 | .pair a b, own, own', data, data', i, x, ho, hd, hx, hs, h => by
  simp only [Ty.own] at ho
  simp only [Ty.data] at hd
  simp only [shp, Bool.and_eq_true] at hs
  simp only [rd] at h ⊢
  cases e1 : rd a (own.take a.own) (data.take a.data) i with
  | none => rw [e1] at h; cases h
  | some y =>
   cases e2 : rd b (own.drop a.own) (data.drop a.data) i with
   | none => rw [e1, e2] at h; cases h
   | some z =>
    rw [e1, e2] at h
    rw [rd_agree a _ (own'.take a.own) _ (data'.take a.data) i y (fun j hj => by rw [rg_take _ _ _ _ hj, rg_take _ _ _ _ hj]; exact ho j (by omega)) (by simp; omega) (hx.take _) hs.1 e1,
     rd_agree b _ (own'.drop a.own) _ (data'.drop a.data) i z (fun j hj => by rw [rg_drop, rg_drop]; exact ho _ (by omega)) (by simp; omega) (hx.drop' _) hs.2 e2]
    exact h
 | .sum a b, own, own', data, data', i, x, ho, hd, hx, hs, h => by
  simp only [Ty.own] at ho
  simp only [Ty.data] at hd
  simp only [shp, Bool.and_eq_true] at hs
  simp only [rd] at h ⊢
  rw [ho 0 (by omega)]
  split at h
  ·rename_i h0
   rw [if_pos h0]
   cases e1 : rd a ((own.drop 1).take a.own) (data.take a.data) i with
   | none => rw [e1] at h; cases h
   | some y =>
    rw [e1] at h
    rw [rd_agree a _ ((own'.drop 1).take a.own) _ (data'.take a.data) i y (fun j hj => by rw [rg_take _ _ _ _ hj, rg_take _ _ _ _ hj, rg_drop, rg_drop]; exact ho _ (by omega)) (by simp; omega) (hx.take _) hs.1 e1]
    exact h
  ·rename_i h0
   rw [if_neg h0]
   split at h
   ·rename_i h1
    rw [if_pos h1]
    cases e1 : rd b ((own.drop 1).drop a.own) (data.drop a.data) i with
    | none => rw [e1] at h; cases h
    | some y =>
     rw [e1] at h
     rw [rd_agree b _ ((own'.drop 1).drop a.own) _ (data'.drop a.data) i y (fun j hj => by rw [rg_drop, rg_drop, rg_drop, rg_drop]; exact ho _ (by omega)) (by simp; omega) (hx.drop' _) hs.2 e1]
     exact h
   ·cases h
 | .seq a, own, own', data, data', i, x, ho, hd, hx, hs, h => by
  simp only [Ty.own] at ho
  simp only [Ty.data] at hd
  simp only [shp, Bool.and_eq_true] at hs
  simp only [rd] at h ⊢
  rw [ho 0 (by omega), ho 1 (by omega)]
  have hh := hx.head
  split at h
  ·cases h
  rename_i h1
  rw [if_neg h1]
  split at h
  ·rename_i h2; rw [if_pos h2]; exact h
  rename_i h2
  rw [if_neg h2]
  split at h
  ·cases h
  rename_i h3
  rw [if_neg (fun hc => h3 (by
   rcases hc with hc | hc
   ·exact .inl hc
   ·exact .inr ⟨hc.1, by omega⟩))]
  cases e1 : allO ((List.range (rg own 1 i).toNat).map fun k => rd a (data.take a.own) (data.drop a.own) (if a.own = 0 then 0 else (rg own 0 i).toNat + k)) with
  | none => rw [e1] at h; cases h
  | some l =>
   rw [e1] at h
   have h4 := allO_some.1 e1
   have e2 : allO ((List.range (rg own 1 i).toNat).map fun k => rd a (data'.take a.own) (data'.drop a.own) (if a.own = 0 then 0 else (rg own 0 i).toNat + k)) = some l := by
    rw [allO_some, ← h4]
    refine List.map_congr_left fun k hk => ?_
    have hk := List.mem_range.1 hk
    have h5 := congrArg (·[k]?) h4
    have hlen := congrArg List.length h4
    simp at hlen
    simp [hk, show k < l.length by omega] at h5
    rw [h5]
    refine rd_agree a _ _ _ _ _ _ (fun j hj => ?_) (by simp; omega) (hx.drop' _) hs.2 h5
    rw [rg_take _ _ _ _ hj, rg_take _ _ _ _ hj, if_neg (by omega)]
    refine hx.rg ?_
    have hjd : j < data.length := by omega
    have := List.all_eq_true.1 hs.1 data[j] (by rw [List.mem_iff_getElem?]; exact ⟨j, by rw [List.getElem?_take, if_pos hj]; simp [hjd]⟩)
    simp only [beq_iff_eq] at this
    rw [show data.getD j [] = data[j] by simp [hjd], this]
    omega
   rw [e2]
   exact h
end Go.Proofs.Nst
/- Nest: what nobody looks at, at the top; Copy and Nth. -/
set_option linter.unusedVariables false
set_option linter.unusedSimpArgs false
namespace Go.Proofs.Nst
open Go Go.Am

/-- what is looked at is as it was -/
structure Seen (τ : Ty) (n : Nat) (R R3 : List (List Int)) : Prop where
 sum : ∀ a b, τ = .sum a b → ∀ i, i < n → rg R3 0 i = rg R 0 i ∧ (rg R 0 i ≠ 1 → ∀ j, 1 ≤ j → j < 1 + a.own → rg R3 j i = rg R j i) ∧ (rg R 0 i = 1 → ∀ j, 1 + a.own ≤ j → j < 1 + a.own + b.own → rg R3 j i = rg R j i)
 rest : (∀ a b, τ ≠ .sum a b) → ∀ i, i < n → ∀ j, j < τ.own → rg R3 j i = rg R j i

theorem bld_seen {τ : Ty} {n : Nat} {R R3 : List (List Int)} (h0 : bldE τ n R = 0) (hl : R3.length = R.length) (hown : ∀ r ∈ R3.take τ.own, r.length = n) {e : Nat} (hext : Ext e (R.drop τ.own) (R3.drop τ.own)) (hs : Seen τ n R R3) : bldE τ n R3 = 0 ∧ bldL τ n R3 = bldL τ n R := by
 obtain ⟨h1, h2, h3, h4, h5, h6⟩ := bld_all h0
 have hd : (R.drop τ.own).length = τ.data := by simp; omega
 have hat : ∀ i x, i < n → rd τ (R.take τ.own) (R.drop τ.own) i = some x → rd τ (R3.take τ.own) (R3.drop τ.own) i = some x := by
  intro i x hi hx
  by_cases hsum : ∃ a b, τ = .sum a b
  ·obtain ⟨a, b, rfl⟩ := hsum
   obtain ⟨s0, sa, sb⟩ := hs.sum a b rfl i hi
   simp only [Ty.own, Ty.data] at hd hext h4 hx ⊢
   simp only [shp, Bool.and_eq_true] at h4
   simp only [rd] at hx ⊢
   rw [rg_take _ _ _ _ (by omega)] at hx
   rw [rg_take _ _ _ _ (by omega), s0]
   split at hx
   ·rename_i z
    rw [if_pos z]
    cases e1 : rd a (((R.take (1 + a.own + b.own)).drop 1).take a.own) ((R.drop (1 + a.own + b.own)).take a.data) i with
    | none => rw [e1] at hx; cases hx
    | some y =>
     rw [e1] at hx
     rw [rd_agree a _ (((R3.take (1 + a.own + b.own)).drop 1).take a.own) _ ((R3.drop (1 + a.own + b.own)).take a.data) i y (fun j hj => by
      rw [rg_take _ _ _ _ hj, rg_take _ _ _ _ hj, rg_drop, rg_drop, rg_take _ _ _ _ (by omega), rg_take _ _ _ _ (by omega)]
      exact sa (by omega) _ (by omega) (by omega)) (by rw [List.length_take, hd]; omega) (hext.take _) h4.1 e1]
     exact hx
   ·rename_i z
    rw [if_neg z]
    split at hx
    ·rename_i z1
     rw [if_pos z1]
     cases e1 : rd b (((R.take (1 + a.own + b.own)).drop 1).drop a.own) ((R.drop (1 + a.own + b.own)).drop a.data) i with
     | none => rw [e1] at hx; cases hx
     | some y =>
      rw [e1] at hx
      rw [rd_agree b _ (((R3.take (1 + a.own + b.own)).drop 1).drop a.own) _ ((R3.drop (1 + a.own + b.own)).drop a.data) i y (fun j hj => by
       rw [rg_drop, rg_drop, rg_drop, rg_drop, rg_take _ _ _ _ (by omega), rg_take _ _ _ _ (by omega)]
       exact sb z1 _ (by omega) (by omega)) (by rw [List.length_drop, hd]; omega) (hext.drop' _) h4.2 e1]
      exact hx
    ·cases hx
  ·refine rd_agree τ _ _ _ _ i x (fun j hj => ?_) hd hext h4 hx
   rw [rg_take _ _ _ _ hj, rg_take _ _ _ _ hj]
   exact hs.rest (fun a b h => hsum ⟨a, b, h⟩) i hi j hj
 refine bld_of h1 (by omega) ?_ (Ext.shp τ hext h4) ?_ h6
 ·rw [List.all_eq_true]
  intro r hr
  simp [hown r hr]
 ·rw [Int.toNat_natCast] at h5 ⊢
  rw [rdAll, allO_some]
  have h7 := allO_some.1 h5
  rw [← h7]
  refine List.map_congr_left fun i hi => ?_
  have hi := List.mem_range.1 hi
  have h8 := congrArg (·[i]?) h7
  have hlen := congrArg List.length h7
  simp at hlen
  simp [hi, show i < (bldL τ n R).length by omega] at h8
  rw [h8]
  exact hat i _ hi h8

/-! ### Copy, Turn, Nth -/
theorem copy36_q {r : List Int} {w : V} (hw : IntsV r w) (H : Heap) (hl : r.length < 2 ^ 40) : CC 36 [w] H (.ret (.sl H.length 0 r.length r.length 1 false)) (H ++ [.cells r.length 1 (icells r)]) := by
 have hroom : room = 140737488355328 := by simp [room]
 have hap := appV_own (h := H ++ [.cells 0 1 []]) (o := H.length) (n := 0) (sz := 1) (bytes := 8) (cs := []) (y := w) (k := r.length) (ys := icells r) (by simp) (by rw [CellsV.slen' hw]; simp) (CellsV.scells' hw _) (by simp) (by omega)
 have hc := SlV.cell hw
 have hcs := SlV.cells hw
 refine CallP.eq (call_ofQ (af := Trnx.a36) rfl rfl fun Q hQ => ?_)
 simp only [Trnx.a36]
 simp [hap, hc, hcs, fill, slotOf]
 exact hQ _ _ ⟨rfl, rfl⟩
theorem turn30_q (n k : Int) (hn : is64 n) (hk : 1 ≤ k) (hk2 : k < 2 ^ 60) : PC 30 [.int .i64 n, .int .i64 k] (.int .i64 (n % k)) := by
 unfold is64 at hn
 refine pc_of rfl (fun h => rfl) ?_
 refine call_ofQ (af := Trnx.a30) rfl rfl fun Q hQ => ?_
 simp only [Trnx.a30]
 have h1 : ¬ k < 1 := by omega
 have h0 : ¬ k = 0 := by omega
 have htm : n % k = if n.tmod k < 0 then n.tmod k + k else n.tmod k := by
  have hlt := Int.tmod_lt_of_pos n (show 0 < k by omega)
  have hlt2 := Int.tmod_lt_of_pos (-n) (show 0 < k by omega)
  rw [Int.neg_tmod] at hlt2
  have hmod : n % k = n.tmod k % k := by rw [Int.tmod_def, Int.sub_mul_emod_self_left]
  rw [hmod]
  split
  ·rw [← Int.add_emod_right, Int.emod_eq_of_lt (by omega) (by omega)]
  ·rw [Int.emod_eq_of_lt (by omega) (by omega)]
 by_cases hneg : n.tmod k < 0
 ·rw [if_pos hneg] at htm
  have hw : IntKind.i64.wrap (n.tmod k + k) = n % k := by
   have := Int.emod_lt_of_pos n (show 0 < k by omega)
   have := Int.emod_nonneg n h0
   rw [← htm, wrap64 (by omega) (by omega)]
  simp [h1, h0, hneg, hw, slotOf]
  exact hQ _ _ rfl
 ·rw [if_neg hneg] at htm
  simp [h1, h0, hneg, slotOf]
  rw [← htm]
  exact hQ _ _ rfl
theorem nth37_q {p : List Int} {u : V} (hu : IntsV p u) (hp : ∀ x ∈ p, is64 x) (hl : p.length < 2 ^ 40) (i : Int) (hi : is64 i) : ∃ x : Int, PC 37 [u, .int .i64 i] (.int .i64 x) ∧ is64 x := by
 have lu := hu.len'
 by_cases h0 : p.length = 0
 ·refine ⟨0, pc_of (by simp [pureL, pureV, SlV.pure hu]) (fun h => rfl) ?_, by unfold is64; omega⟩
  refine call_ofQ (af := Trnx.a37) rfl rfl fun Q hQ => ?_
  simp only [Trnx.a37]
  simp [lu, h0, slotOf]
  exact hQ _ _ rfl
 ·have ht := turn30_q i p.length hi (by omega) (by omega)
  have h1 := Int.emod_lt_of_pos i (show (0 : Int) < p.length by omega)
  have h2 := Int.emod_nonneg i (show (p.length : Int) ≠ 0 by omega)
  obtain ⟨k, hk⟩ : ∃ k : Nat, i % (p.length : Int) = k := ⟨(i % (p.length : Int)).toNat, by omega⟩
  have hkl : k < p.length := by omega
  have hx := hu.idx' hkl
  rw [hk, PC] at ht
  have hne := ne_false (show (p.length : Int) ≠ 0 by omega)
  refine ⟨p[k], pc_of (by simp [pureL, pureV, SlV.pure hu]) (fun h => rfl) ?_, hp _ (List.getElem_mem hkl)⟩
  refine call_ofQ (af := Trnx.a37) rfl rfl fun Q hQ => ?_
  simp only [Trnx.a37]
  simp [lu, hne, ht, hx, slotOf, -pcall]
  exact hQ _ _ rfl

/-! ### rows that are written -/
abbrev hdr (j : Nat) (r : List Int) : V := .sl (1 + 2 * j) 0 r.length r.length 1 false
def hdrs : Nat → List (List Int) → List V
 | _, [] => []
 | j, r :: R => hdr j r :: hdrs (j + 1) R
theorem hdrs_len : ∀ (j : Nat) (R : List (List Int)), (hdrs j R).length = R.length
 | _, [] => rfl
 | j, r :: R => by simp [hdrs, hdrs_len (j + 1) R]
theorem hdrs_app : ∀ (j : Nat) (R : List (List Int)) (r : List Int), hdrs j (R ++ [r]) = hdrs j R ++ [hdr (j + R.length) r]
 | _, [], r => rfl
 | j, x :: R, r => by simp [hdrs, hdrs_app (j + 1) R r]; omega
theorem hdrs_get : ∀ (j : Nat) (R : List (List Int)) (i : Nat) (h : i < R.length), (hdrs j R)[i]? = some (hdr (j + i) R[i])
 | j, x :: R, 0, h => rfl
 | j, x :: R, i + 1, h => by
  have := hdrs_get (j + 1) R i (by simpa using h)
  simp only [hdrs, List.getElem?_cons_succ, this, List.getElem_cons_succ]
  congr 2
  omega
theorem hdrs_set : ∀ (j : Nat) (R : List (List Int)) (i : Nat) (r : List Int), hdrs j (R.set i r) = (hdrs j R).set i (hdr (j + i) r)
 | j, [], i, r => rfl
 | j, x :: R, 0, r => rfl
 | j, x :: R, i + 1, r => by
  simp only [List.set_cons_succ, hdrs, hdrs_set (j + 1) R i r]
  congr 3
  omega
theorem hdrs_pure (m : Nat) : ∀ (j : Nat) (R : List (List Int)), 1 + 2 * (j + R.length) ≤ m + 1 → ∀ v ∈ hdrs j R, belowV m v = true
 | j, [], _, v, h => by cases h
 | j, x :: R, hm, v, h => by
  simp only [List.length_cons] at hm
  rcases List.mem_cons.1 h with rfl | h
  ·simp [belowV]; omega
  ·exact hdrs_pure m (j + 1) R (by omega) v h

structure Rows (H : Heap) (R : List (List Int)) : Prop where
 len : H.length = 1 + 2 * R.length
 out : H[0]? = some (.cells R.length 1 (hdrs 0 R))
 row : ∀ j (hj : j < R.length), H[1 + 2 * j]? = some (.cells R[j].length 1 (icells R[j]))
 all : AllC H
 cl : Closed H
theorem AllC.set {H : Heap} (h : AllC H) (j n sz : Nat) (cs : List V) : AllC (H.set j (.cells n sz cs)) := fun o ho => by
 rcases List.mem_or_eq_of_mem_set ho with ho | rfl
 ·exact h o ho
 ·exact ⟨_, _, _, rfl⟩
abbrev rowsV (R : List (List Int)) : V := .sl 0 0 R.length R.length 1 false
theorem Rows.regs {H : Heap} {R : List (List Int)} (h : Rows H R) : RegsH H (rowsV R) R := by
 have hl := hdrs_len 0 R
 refine ⟨hdrs 0 R, .sl 0 0 _ _ _ _ _ h.out (by omega) (by omega) (by rw [List.drop_zero, List.take_of_length_le (by omega)]), ?_⟩
 have gen : ∀ (T : List (List Int)) (j : Nat), (∀ i (hi : i < T.length), H[1 + 2 * (j + i)]? = some (.cells T[i].length 1 (icells T[i]))) → Fr (fun r w => Sh H w (icells r)) T (hdrs j T) := by
  intro T
  induction T with
  | nil => intro j _; exact .nil
  | cons r T ih =>
   intro j hj
   refine .cons ?_ (ih (j + 1) fun i hi => ?_)
   ·have := hj 0 (by simp)
    simp only [Nat.add_zero, List.getElem_cons_zero] at this
    exact .sl _ 0 _ _ _ _ _ this (by omega) (by simp) (by rw [List.drop_zero, List.take_of_length_le (by simp)])
   ·have := hj (i + 1) (by simpa using hi)
    simpa [show j + 1 + i = j + (i + 1) by omega] using this
 exact gen R 0 fun i hi => by rw [Nat.zero_add]; exact h.row i hi
theorem Rows.below {H : Heap} {R : List (List Int)} (h : Rows H R) : belowV H.length (rowsV R) = true := by
 have := h.len
 simp [belowV]
 omega
theorem Rows.nil : Rows [.cells 0 1 []] [] := ⟨rfl, rfl, fun j hj => by simp at hj, fun o ho => ⟨_, _, _, List.mem_singleton.1 ho⟩, fun o ho => by rw [List.mem_singleton.1 ho]; rfl⟩
/-- one row more -/
theorem Rows.add {H : Heap} {R : List (List Int)} (h : Rows H R) (r : List Int) : Rows ((H ++ [Am.Obj.cells r.length 1 (icells r), Am.Obj.cells 1 1 [hdr R.length r]]).set 0 (.cells (R.length + 1) 1 (hdrs 0 R ++ [hdr R.length r]))) (R ++ [r]) := by
 have hl := h.len
 have ha := hdrs_app 0 R r
 rw [Nat.zero_add] at ha
 refine ⟨by simp [hl]; omega, by simp [ha, hl], ?_, ?_, ?_⟩
 ·intro j hj
  rw [List.getElem?_set_ne (by omega)]
  simp at hj
  by_cases e : j < R.length
  ·rw [List.getElem?_append_left (by omega), h.row j e]
   simp [e]
  ·obtain rfl : j = R.length := by omega
   rw [List.getElem?_append_right (by omega), hl]
   simp
 ·refine AllC.set (h.all.app fun o ho => ?_) _ _ _ _
  simp only [List.mem_cons, List.not_mem_nil, or_false] at ho
  rcases ho with rfl | rfl <;> exact ⟨_, _, _, rfl⟩
 ·refine (h.cl.app fun o ho => ?_).set _ ?_
  ·simp only [List.mem_cons, List.not_mem_nil, or_false] at ho
   rcases ho with rfl | rfl
   ·exact okO_ints _ _ _ _
   ·simp [okO, belowV, hl]
  ·rw [← ha]
   simp only [okO, List.all_eq_true]
   exact hdrs_pure _ 0 _ (by simp [hl]; omega)
/-- one row changed -/
theorem Rows.put {H : Heap} {R : List (List Int)} (h : Rows H R) {i : Nat} (hi : i < R.length) (r : List Int) : Rows ((H.set (1 + 2 * i) (.cells r.length 1 (icells r))).set 0 (.cells R.length 1 ((hdrs 0 R).set i (hdr i r)))) (R.set i r) := by
 have hl := h.len
 have hs := hdrs_set 0 R i r
 rw [Nat.zero_add] at hs
 refine ⟨by simp [hl], by rw [List.getElem?_set_self (by simp; omega), hs, List.length_set], ?_, ?_, ?_⟩
 ·intro j hj
  simp at hj
  rw [List.getElem?_set_ne (by omega)]
  by_cases e : i = j
  ·subst e
   simp [show 1 + 2 * i < H.length by omega]
  ·rw [List.getElem?_set_ne (by omega), h.row j hj]
   simp [e]
 ·exact AllC.set (AllC.set h.all _ _ _ _) _ _ _ _
 ·refine (h.cl.set _ (okO_ints _ _ _ _)).set _ ?_
  rw [← hs]
  simp only [okO, List.all_eq_true]
  exact hdrs_pure _ 0 _ (by simp [hl])
/-- one place changed -/
theorem Rows.at {H : Heap} {R : List (List Int)} (h : Rows H R) {i : Nat} (hi : i < R.length) (r : List Int) (hr : r.length = R[i].length) : Rows (H.set (1 + 2 * i) (.cells r.length 1 (icells r))) (R.set i r) := by
 have := h.put hi r
 have h2 : (H.set (1 + 2 * i) (.cells r.length 1 (icells r))).set 0 (.cells R.length 1 ((hdrs 0 R).set i (hdr i r))) = H.set (1 + 2 * i) (.cells r.length 1 (icells r)) := by
  have hg := hdrs_get 0 R i hi
  simp only [hdr, Nat.zero_add, ← hr] at hg
  have h3 : (hdrs 0 R).set i (hdr i r) = hdrs 0 R := by
   refine List.ext_getElem? fun j => ?_
   by_cases e : i = j
   ·subst e
    rw [List.getElem?_set_self (by rw [hdrs_len]; exact hi), hg]
   ·rw [List.getElem?_set_ne e]
  rw [h3]
  refine List.ext_getElem? fun j => ?_
  by_cases e : 0 = j
  ·subst e
   have := h.len
   rw [List.getElem?_set_self (by simp; omega), List.getElem?_set_ne (by omega), h.out]
  ·rw [List.getElem?_set_ne e]
 rwa [h2] at this
end Go.Proofs.Nst
/- Nest: unlooked, by the program. -/
set_option linter.unusedVariables false
set_option linter.unusedSimpArgs false
namespace Go.Proofs.Nst
open Go Go.Am

theorem splice_one (cs : List V) (i : Nat) (x : V) (h : i < cs.length) : splice cs i [x] = cs.set i x := by
 simp only [splice, List.length_singleton]
 rw [List.set_eq_take_append_cons_drop, if_pos h]
 simp
theorem rows_idx {R : List (List Int)} {j : Nat} (h : j < R.length) : idxV (rowsV R) j 1 = some (.ref 0 j R.length) := by
 simp only [idxV, Int.toNat_natCast]
 rw [if_pos ⟨by omega, by omega, trivial⟩]
 simp
theorem Rows.load {H : Heap} {R : List (List Int)} (h : Rows H R) {j : Nat} (hj : j < R.length) : loadV H (.ref 0 j R.length) 1 false = some (hdr j R[j]) :=
 load_ref h.out (by rw [hdrs_get 0 R j hj, Nat.zero_add])
theorem row_idx {j k : Nat} {r : List Int} (h : k < r.length) : idxV (hdr j r) k 1 = some (.ref (1 + 2 * j) k r.length) := by
 simp only [idxV, Int.toNat_natCast]
 rw [if_pos ⟨by omega, by omega, trivial⟩]
 simp
theorem Rows.cell {H : Heap} {R : List (List Int)} (h : Rows H R) {j k : Nat} (hj : j < R.length) (hk : k < R[j].length) : loadV H (.ref (1 + 2 * j) k R[j].length) 1 false = some (.int .i64 (rg R j k)) := by
 refine load_ref (h.row j hj) ?_
 simp [rg, hj, hk]
theorem Rows.store {H : Heap} {R : List (List Int)} (h : Rows H R) {j k : Nat} (hj : j < R.length) (hk : k < R[j].length) (x : Int) : storeV H (.ref (1 + 2 * j) k R[j].length) (.int .i64 x) 1 = some (H.set (1 + 2 * j) (.cells (R[j].set k x).length 1 (icells (R[j].set k x)))) := by
 have ho := objCells_of (h.row j hj)
 have hsp : splice (icells R[j]) k [.int .i64 x] = icells (R[j].set k x) := by
  rw [splice_one _ _ _ (by simpa using hk)]
  simp [icells, List.map_set]
 simp only [storeV, ho]
 simp [hsp, -splice, show k + 1 ≤ R[j].length by omega]
theorem Rows.storeh {H : Heap} {R : List (List Int)} (n : Nat) (hn : n = R.length) (G : Heap) (hg : G[0]? = some (.cells n 1 (hdrs 0 R))) {j : Nat} (hj : j < R.length) (r : List Int) : storeV G (.ref 0 j n) (hdr j r) 1 = some (G.set 0 (.cells n 1 ((hdrs 0 R).set j (hdr j r)))) := by
 have ho := objCells_of hg
 have hl := hdrs_len 0 R
 have hsp : splice (hdrs 0 R) j [hdr j r] = (hdrs 0 R).set j (hdr j r) := splice_one _ _ _ (by omega)
 simp only [hdr] at hsp
 simp only [storeV, ho]
 simp [hsp, hl, hdr, -splice, show j + 1 ≤ R.length by omega]

/-- how far registers may differ after unlooked -/
structure Unl (τ : Ty) (n : Nat) (R R' : List (List Int)) : Prop where
 len : R'.length = R.length
 row : ∀ j, (R'.getD j []).length = (R.getD j []).length
 data : R'.drop τ.own = R.drop τ.own
 seen : Seen τ n R R'
theorem Unl.refl (τ : Ty) (n : Nat) (R : List (List Int)) : Unl τ n R R := ⟨rfl, fun _ => rfl, rfl, fun a b _ i _ => ⟨rfl, fun _ _ _ _ => rfl, fun _ _ _ _ => rfl⟩, fun _ _ _ _ _ => rfl⟩
theorem rg_set (R : List (List Int)) (j k : Nat) (x : Int) (j' k' : Nat) (h : j' ≠ j ∨ k' ≠ k) : rg (R.set j ((R.getD j []).set k x)) j' k' = rg R j' k' := by
 simp only [rg, List.getD_eq_getElem?_getD, List.getElem?_set]
 by_cases e : j = j'
 ·subst e
  rw [if_pos rfl]
  split
  ·rename_i hj
   have : k ≠ k' := fun e => by rcases h with h | h <;> omega
   simp [hj, List.getElem?_set_ne this]
  ·rename_i hj
   simp [hj]
 ·rw [if_neg e]
theorem Unl.put {x y : Ty} {n : Nat} {R R' : List (List Int)} (h : Unl (.sum x y) n R R') {j k : Nat} (hk : k < n) (z : Int) (hj : (rg R 0 k = 1 ∧ 1 ≤ j ∧ j < 1 + x.own) ∨ (rg R 0 k ≠ 1 ∧ 1 + x.own ≤ j ∧ j < 1 + x.own + y.own)) : Unl (.sum x y) n R (R'.set j ((R'.getD j []).set k z)) := by
 refine ⟨by simp [h.len], fun j' => ?_, ?_, fun a b e i hi => ?_, fun hne => absurd rfl (hne x y)⟩
 ·rw [← h.row j']
  simp only [List.getD_eq_getElem?_getD, List.getElem?_set]
  split
  ·rename_i e
   subst e
   split
   ·simp
   ·rename_i hj; simp [hj]
  ·rfl
 ·rw [← h.data, List.drop_set, if_pos (by simp only [Ty.own]; rcases hj with hj | hj <;> omega)]
 ·cases e
  obtain ⟨s0, s1, s2⟩ := h.seen.sum x y rfl i hi
  refine ⟨?_, fun h1 j' a1 a2 => ?_, fun h1 j' a1 a2 => ?_⟩
  ·rw [rg_set _ _ _ _ _ _ (.inl (by rcases hj with hj | hj <;> omega))]
   exact s0
  ·rw [rg_set _ _ _ _ _ _ (by
    by_cases e : i = k
    ·subst e
     rcases hj with hj | hj
     ·exact absurd hj.1 h1
     ·exact .inl (by omega)
    ·exact .inr e)]
   exact s1 h1 j' a1 a2
  ·rw [rg_set _ _ _ _ _ _ (by
    by_cases e : i = k
    ·subst e
     rcases hj with hj | hj
     ·exact .inl (by omega)
     ·exact absurd h1 hj.1
    ·exact .inr e)]
   exact s2 h1 j' a1 a2

theorem unl_q {t : Tr} {τ : Ty} (hτ : IsTy t τ) (ho : t.Ok) (h1 : τ.size ≤ 60) (h2 : τ.deep ≤ 12) {p : List Int} {u : V} (hu : IntsV p u) (hp : ∀ x ∈ p, is64 x) (hpl : p.length < 2 ^ 40) {H : Heap} {R : List (List Int)} (hR : Rows H R) (hl : R.length = τ.own + τ.data) {n : Nat} (hn : ∀ j, j < τ.own → (R.getD j []).length = n) (hn2 : n ≤ 20000) :
  ∃ H' R', CC 38 [.agg t.cs, rowsV R, u] H (.ret (rowsV R)) H' ∧ Rows H' R' ∧ Unl τ n R R' := by
 have hcc := cells_tr ho
 have hbs := τ.both_size
 have key : CallP gl Trnx.aprog 38 [.agg t.cs, rowsV R, u] H (fun r H' => ∃ R', r = .ret (rowsV R) ∧ Rows H' R' ∧ Unl τ n R R') := by
  refine call_ofQ (af := Trnx.a38) rfl rfl fun Q hQ => ?_
  simp only [Trnx.a38]
  have hrest : t.k ≠ 3 → Q (.ret (rowsV R)) H := fun _ => hQ _ _ ⟨R, rfl, hR, Unl.refl τ n R⟩
  cases hτ with
  | unit v => simp [Tr.cs] at hcc ⊢; simp [hcc, slotOf]; exact hrest (by simp [Tr.k])
  | int v => simp [Tr.cs] at hcc ⊢; simp [hcc, slotOf]; exact hrest (by simp [Tr.k])
  | pair v a b x y ha hb => simp [Tr.cs] at hcc ⊢; simp [hcc, slotOf]; exact hrest (by simp [Tr.k])
  | seq v a x ha => simp [Tr.cs] at hcc ⊢; simp [hcc, slotOf]; exact hrest (by simp [Tr.k])
  | sum v a b x y ha hb =>
   clear hrest
   simp only [Ty.own, Ty.data, Ty.size, Ty.deep] at hl hn h1 h2 hbs
   have hk := ho.kids
   have oa : a.Ok := hk a (by simp [Tr.l])
   have ob : b.Ok := hk b (by simp [Tr.l])
   have sv : SlV ([a, b].map Tr.cs) v := ho.sl
   have i0 : idxV v 0 3 = some (.pv a.cs) := idx_tr sv (i := 0) (by simp)
   have i1 : idxV v 1 3 = some (.pv b.cs) := idx_tr sv (i := 1) (by simp)
   have ca := cells_tr oa
   have cb := cells_tr ob
   obtain ⟨q1, _⟩ := own_ok ha oa (by omega) (by omega)
   obtain ⟨q2, _⟩ := own_ok hb ob (by omega) (by omega)
   rw [PC] at q1 q2
   have uc := SlV.cell hu
   have ucs := SlV.cells hu
   have w1 : IntKind.i64.wrap (1 + (x.own : Int)) = 1 + (x.own : Int) := wrap64 (by omega) (by omega)
   have w2 : IntKind.i64.wrap (1 + (x.own : Int) + y.own) = 1 + (x.own : Int) + y.own := wrap64 (by omega) (by omega)
   have nlt : ¬ (R.length : Int) < 1 + (x.own : Int) + y.own := by omega
   have hlr : lenV (rowsV R) = some (.int .i64 R.length) := rfl
   simp [Tr.cs] at hcc ⊢
   simp [hcc, i0, i1, ca, cb, q1, q2, uc, ucs, w1, w2, nlt, hlr, slotOf, -pcall, -List.all_eq_true]
   refine loop_nQ n (fun k c => ∃ s10 s11 s12 fl H' R', c = ⟨[.agg [.int .i64 3, .int .i64 0, v], rowsV R, u, .agg [.int .i64 3, .int .i64 0, v], .nils, .int .i64 x.own, .int .i64 0, .int .i64 y.own, .int .i64 0, .int .i64 k, s10, s11, s12], [], fl, none, H'⟩ ∧ Rows H' R' ∧ Unl (.sum x y) n R R') ?_ ⟨.undef, .undef, .undef, _, H, R, rfl, hR, Unl.refl _ _ _⟩
   rintro I hI k c hkn ⟨s10, s11, s12, fl, H', R', rfl, hR', hU⟩
   have hl' := hU.len
   have l0 : 0 < R'.length := by omega
   have hx0 := rows_idx (R := R') l0
   have hd0 := hR'.load l0
   have hrl : ∀ j, j < 1 + x.own + y.own → ∀ hj : j < R'.length, R'[j].length = n := fun j hj hj' => by
    have := hU.row j
    rw [hn j hj] at this
    simpa [hj'] using this
   have hr0 := hrl 0 (by omega) l0
   rw [hl'] at hx0 hd0
   have hx0 : idxV (rowsV R) 0 1 = some (.ref 0 0 R.length) := by
    have : rowsV R' = rowsV R := by simp only [rowsV, hl']
    rw [← this]
    exact hx0
   by_cases hlt : k < n
   ·have hlk : lenV (hdr 0 R'[0]) = some (.int .i64 n) := by simp [lenV, hr0]
    have hik := row_idx (j := 0) (k := k) (r := R'[0]) (by omega)
    have hck := hR'.cell (j := 0) (k := k) l0 (by omega)
    have wk1 : IntKind.i64.wrap ((k : Int) + 1) = (k : Int) + 1 := wrap64 (by omega) (by omega)
    have hs0 := (hU.seen.sum x y rfl k hlt).1
    rw [hs0, hr0] at hck
    rw [hr0] at hik
    by_cases e1 : rg R 0 k = 1
    ·simp [hx0, hd0, hlk, hlt, hik, hck, e1, w1, w2, slotOf, -pcall, -loadV]
     refine loop_nQ ((1 + x.own) - 1) (fun i c => ∃ (j : Nat) (fl : Option (Nat × V)) (H2 : Heap) (R2 : List (List Int)), j = 1 + i ∧ c = ⟨[.agg [.int .i64 3, .int .i64 0, v], rowsV R, u, .agg [.int .i64 3, .int .i64 0, v], .nils, .int .i64 x.own, .int .i64 0, .int .i64 y.own, .int .i64 0, .int .i64 k, .int .i64 1, .int .i64 (1 + (x.own : Int)), .int .i64 j], [], fl, none, H2⟩ ∧ Rows H2 R2 ∧ Unl (.sum x y) n R R2) ?_ ⟨1, none, H', R', rfl, by simp, hR', hU⟩
     rintro J hJ i c hi ⟨j, fl, H2, R2, hj, rfl, hR2, hU2⟩
     have hl2 := hU2.len
     by_cases hlt2 : j < (1 + x.own)
     ·have lj : j < R2.length := by omega
      have hlt3 : (j : Int) < (1 + (x.own : Int)) := by omega
      have hxj := rows_idx (R := R) (j := j) (by omega)
      have hdj := hR2.load lj
      rw [hl2] at hdj
      have hrj : R2[j].length = n := by
       have := hU2.row j
       rw [hn j (by omega)] at this
       simpa [lj] using this
      have hlj : lenV (hdr j R2[j]) = some (.int .i64 n) := by simp [lenV, hrj]
      obtain ⟨z, hz, _⟩ := nth37_q hu hp hpl ((k : Int) + j) (by unfold is64; omega)
      have hij := row_idx (j := j) (k := k) (r := R2[j]) (by omega)
      have hst := hR2.store lj (k := k) (by omega) z
      have hR3 := hR2.at lj (R2[j].set k z) (by simp)
      have hU3 := hU2.put hlt z (j := j) (.inl ⟨e1, by omega, by omega⟩)
      rw [show R2.getD j [] = R2[j] by simp [lj]] at hU3
      rw [hrj] at hij hst
      rw [PC] at hz
      have wk2 : IntKind.i64.wrap ((k : Int) + j) = (k : Int) + j := wrap64 (by omega) (by omega)
      have wj1 : IntKind.i64.wrap ((j : Int) + 1) = (j : Int) + 1 := wrap64 (by omega) (by omega)
      have hJ := hJ (i + 1) ⟨[.agg [.int .i64 3, .int .i64 0, v], rowsV R, u, .agg [.int .i64 3, .int .i64 0, v], .nils, .int .i64 x.own, .int .i64 0, .int .i64 y.own, .int .i64 0, .int .i64 k, .int .i64 1, .int .i64 (1 + (x.own : Int)), .int .i64 ((j : Int) + 1)], [], none, none, H2.set (1 + 2 * j) (.cells (R2[j].set k z).length 1 (icells (R2[j].set k z)))⟩ ⟨j + 1, none, _, _, by omega, by rw [show ((j + 1 : Nat) : Int) = (j : Int) + 1 by omega], hR3, hU3⟩
      generalize H2.set (1 + 2 * j) (.cells (R2[j].set k z).length 1 (icells (R2[j].set k z))) = H3 at *
      generalize hdr j R2[j] = hd at *
      simp [hlt3, hxj, hdj, hlj, hlt, hij, hz, hst, wk2, wj1, slotOf, -pcall, -loadV]
      exact ⟨by omega, hJ⟩
     ·have hlt3 : ¬ (j : Int) < (1 + (x.own : Int)) := by omega
      simp [hlt3, wk1, slotOf]
      exact hI _ _ ⟨_, _, _, _, _, _, rfl, hR2, hU2⟩
    ·have hne := ne_false e1
     generalize hzz : rg R 0 k = zz at hck hne
     simp [hx0, hd0, hlk, hlt, hik, hck, hne, w1, w2, slotOf, -pcall, -loadV]
     refine loop_nQ ((1 + x.own + y.own) - (1 + x.own)) (fun i c => ∃ (j : Nat) (fl : Option (Nat × V)) (H2 : Heap) (R2 : List (List Int)), j = (1 + x.own) + i ∧ c = ⟨[.agg [.int .i64 3, .int .i64 0, v], rowsV R, u, .agg [.int .i64 3, .int .i64 0, v], .nils, .int .i64 x.own, .int .i64 0, .int .i64 y.own, .int .i64 0, .int .i64 k, .int .i64 (1 + (x.own : Int)), .int .i64 (1 + (x.own : Int) + y.own), .int .i64 j], [], fl, none, H2⟩ ∧ Rows H2 R2 ∧ Unl (.sum x y) n R R2) ?_ ⟨(1 + x.own), none, H', R', rfl, by simp, hR', hU⟩
     rintro J hJ i c hi ⟨j, fl, H2, R2, hj, rfl, hR2, hU2⟩
     have hl2 := hU2.len
     by_cases hlt2 : j < (1 + x.own + y.own)
     ·have lj : j < R2.length := by omega
      have hlt3 : (j : Int) < (1 + (x.own : Int) + y.own) := by omega
      have hxj := rows_idx (R := R) (j := j) (by omega)
      have hdj := hR2.load lj
      rw [hl2] at hdj
      have hrj : R2[j].length = n := by
       have := hU2.row j
       rw [hn j (by omega)] at this
       simpa [lj] using this
      have hlj : lenV (hdr j R2[j]) = some (.int .i64 n) := by simp [lenV, hrj]
      obtain ⟨z, hz, _⟩ := nth37_q hu hp hpl ((k : Int) + j) (by unfold is64; omega)
      have hij := row_idx (j := j) (k := k) (r := R2[j]) (by omega)
      have hst := hR2.store lj (k := k) (by omega) z
      have hR3 := hR2.at lj (R2[j].set k z) (by simp)
      have hU3 := hU2.put hlt z (j := j) (.inr ⟨e1, by omega, by omega⟩)
      rw [show R2.getD j [] = R2[j] by simp [lj]] at hU3
      rw [hrj] at hij hst
      rw [PC] at hz
      have wk2 : IntKind.i64.wrap ((k : Int) + j) = (k : Int) + j := wrap64 (by omega) (by omega)
      have wj1 : IntKind.i64.wrap ((j : Int) + 1) = (j : Int) + 1 := wrap64 (by omega) (by omega)
      have hJ := hJ (i + 1) ⟨[.agg [.int .i64 3, .int .i64 0, v], rowsV R, u, .agg [.int .i64 3, .int .i64 0, v], .nils, .int .i64 x.own, .int .i64 0, .int .i64 y.own, .int .i64 0, .int .i64 k, .int .i64 (1 + (x.own : Int)), .int .i64 (1 + (x.own : Int) + y.own), .int .i64 ((j : Int) + 1)], [], none, none, H2.set (1 + 2 * j) (.cells (R2[j].set k z).length 1 (icells (R2[j].set k z)))⟩ ⟨j + 1, none, _, _, by omega, by rw [show ((j + 1 : Nat) : Int) = (j : Int) + 1 by omega], hR3, hU3⟩
      generalize H2.set (1 + 2 * j) (.cells (R2[j].set k z).length 1 (icells (R2[j].set k z))) = H3 at *
      generalize hdr j R2[j] = hd at *
      simp [hlt3, hxj, hdj, hlj, hlt, hij, hz, hst, wk2, wj1, slotOf, -pcall, -loadV]
      exact ⟨by omega, hJ⟩
     ·have hlt3 : ¬ (j : Int) < (1 + (x.own : Int) + y.own) := by omega
      simp [hlt3, wk1, slotOf]
      exact hI _ _ ⟨_, _, _, _, _, _, rfl, hR2, hU2⟩
   ·obtain rfl : k = n := by omega
    have hlk : lenV (hdr 0 R'[0]) = some (.int .i64 k) := by simp [lenV, hr0]
    simp [hx0, hd0, hlk, slotOf, -pcall, -loadV]
    exact hQ _ _ ⟨R', rfl, hR', hU⟩
 obtain ⟨r, H', e, R', rfl, a, b⟩ := OptP.ex key
 exact ⟨H', R', e, a, b⟩
end Go.Proofs.Nst
/- Nest: rows that grow; what is seen of them. -/
set_option linter.unusedVariables false
set_option linter.unusedSimpArgs false
namespace Go.Proofs.Nst
open Go Go.Am

theorem Fr.of_get {α β : Type} {p : α → β → Prop} : ∀ {l : List α} {m : List β}, l.length = m.length → (∀ i (h1 : i < l.length) (h2 : i < m.length), p l[i] m[i]) → Fr p l m
 | [], [], _, _ => .nil
 | a :: l, b :: m, h, hp => .cons (hp 0 (by simp) (by simp)) (Fr.of_get (by simpa using h) fun i h1 h2 => hp (i + 1) (by simpa using h1) (by simpa using h2))
theorem Seen.pre {τ : Ty} {n : Nat} {F R R3 : List (List Int)} (h : Seen τ n R R3) (he : ∀ j, j < τ.own → ∀ i, rg R j i = rg F j i) : Seen τ n F R3 := by
 refine ⟨fun a b e i hi => ?_, fun hne i hi j hj => ?_⟩
 ·obtain ⟨s0, s1, s2⟩ := h.sum a b e i hi
  subst e
  simp only [Ty.own] at he
  rw [he 0 (by omega)] at s0 s1 s2
  exact ⟨s0, fun h1 j a1 a2 => (s1 h1 j a1 a2).trans (he j (by omega) i), fun h1 j a1 a2 => (s2 h1 j a1 a2).trans (he j (by omega) i)⟩
 ·exact (h.rest hne i hi j hj).trans (he j hj i)
theorem Rows.push {H : Heap} {R : List (List Int)} (h : Rows H R) {i : Nat} (hi : i < R.length) (z : Int) (hl : R[i].length < 2 ^ 40) :
  appV H (hdr i R[i]) (.sv [[.int .i64 z]] true) 1 8 = some (hdr i (R[i] ++ [z]), H.set (1 + 2 * i) (.cells (R[i] ++ [z]).length 1 (icells (R[i] ++ [z])))) := by
 have hroom : room = 140737488355328 := by simp [room]
 have := appV_own (h := H) (bytes := 8) (k := 1) (y := .sv [[.int .i64 z]] true) (ys := [.int .i64 z]) (h.row i hi) rfl rfl rfl (by omega)
 simpa [icells, hdr] using this

/-- rows that have grown by three -/
def Gr (own : Nat) (F : List (List Int)) (j : Nat) (r : List Int) : Prop := (j < own → r = F.getD j []) ∧ (own ≤ j → ∃ X : List Int, X.length = 3 ∧ r = F.getD j [] ++ X)
theorem Gr.own {own : Nat} {F R : List (List Int)} (h : ∀ j, j < R.length → Gr own F j (R.getD j [])) (hl : own ≤ R.length) {j : Nat} (hj : j < own) : R.getD j [] = F.getD j [] := (h j (by omega)).1 hj
theorem Gr.ext {own : Nat} {F R : List (List Int)} (h : ∀ j, j < R.length → Gr own F j (R.getD j [])) (hl : R.length = F.length) : Ext 3 (F.drop own) (R.drop own) := by
 refine Fr.of_get (by simp [hl]) fun i h1 h2 => ?_
 simp only [List.length_drop] at h1 h2
 obtain ⟨X, hX, he⟩ := (h (own + i) (by omega)).2 (by omega)
 rw [List.getD_eq_getElem?_getD, List.getD_eq_getElem?_getD, List.getElem?_eq_getElem (by omega), List.getElem?_eq_getElem (by omega)] at he
 refine ⟨X, hX, ?_⟩
 rw [List.getElem_drop, List.getElem_drop]
 exact he
theorem copy_ecf {r : List Int} {w : V} (hw : IntsV r w) {H : Heap} {R : List (List Int)} (hR : Rows H R) (hl : r.length < 2 ^ 40) : ecallF (lim gl Trnx.aprog) H false (.func (.func 36) [] []) [w] = some (.val (hdr R.length r) (H ++ [.cells r.length 1 (icells r)])) := by
 have := ecf_ret (copy36_q hw H hl)
 rw [this]
 simp [hdr, hR.len]
theorem app_row {H : Heap} {R : List (List Int)} (hR : Rows H R) (r : List Int) (hl : R.length < 2 ^ 40) : appV (H ++ [.cells r.length 1 (icells r), .cells 1 1 [hdr R.length r]]) (rowsV R) (.sl (H.length + 1) 0 1 1 1 false) 1 24 =
  some (rowsV (R ++ [r]), (H ++ [Am.Obj.cells r.length 1 (icells r), .cells 1 1 [hdr R.length r]]).set 0 (.cells (R.length + 1) 1 (hdrs 0 R ++ [hdr R.length r]))) := by
 have hroom : room = 140737488355328 := by simp [room]
 have h0 : (H ++ [Am.Obj.cells r.length 1 (icells r), .cells 1 1 [hdr R.length r]])[0]? = some (.cells R.length 1 (hdrs 0 R)) := by
  rw [List.getElem?_append_left (by have := hR.len; omega)]
  exact hR.out
 have h1 : objCells (H ++ [Am.Obj.cells r.length 1 (icells r), .cells 1 1 [hdr R.length r]]) (H.length + 1) = some (1, 1, [hdr R.length r]) := objCells_of (by
  rw [List.getElem?_append_right (by omega)]
  simp)
 have := appV_own (bytes := 24) (k := 1) (y := .sl (H.length + 1) 0 1 1 1 false) (ys := [hdr R.length r]) h0 rfl (by simp [sliceCells, h1]) rfl (by omega)
 rw [this]
 simp
end Go.Proofs.Nst
/- Nest: the law NestNobody over the machine. -/
set_option linter.unusedVariables false
set_option linter.unusedSimpArgs false
namespace Go.Proofs.Nst
open Go Go.Am

theorem law_nobody (t : Tr) (ht : t.Ok) (l : List Tr) (v : V) (hl : ∀ x ∈ l, x.Ok) (hv : SlV (l.map Tr.cs) v) (p : List Int) (u : V) (hp : ∀ x ∈ p, is64 x) (hu' : SlV (p.map fun x => [.int .i64 x]) u) (hn : t.nodes < 2 ^ 50) (hnl : Tr.nodesL l < 2 ^ 50) (hpl : p.length < 2 ^ 40) : ∃ h', (lim gl Trnx.aprog).call 7 [.agg t.cs, v, u] [] = some (.ret (.bool true), h') := by
 have hu : IntsV p u := by
  have e : (p.map fun x => [V.int .i64 x]) = (icells p).map fun x => [x] := by simp
  rw [e] at hu'
  exact hu'
 have key : CallP gl Trnx.aprog 7 [.agg t.cs, v, u] [] (fun r h' => r = .ret (.bool true)) := by
  have hh := held_q
  have ct := cells_tr ht
  obtain ⟨b1, f1, k1⟩ := fine_q t ht l v hv hl hn hnl
  rw [PC] at hh f1
  refine call_ofQ (af := Trnx.a7) rfl rfl fun Q hQ => ?_
  simp only [Trnx.a7]
  cases b1 with
  | false =>
   simp [ct, f1, hh, slotOf, -pcall, -List.all_eq_true]
   exact hQ _ _ rfl
  | true =>
  obtain ⟨τ, hτ, s1, s2, vl, sl, n4⟩ := k1 rfl
  have hbs := τ.both_size
  have hlen := Tr.nodesL_length l
  have al : ∀ x ∈ l, x.Ok ∧ isV τ x = true := fun x hx => ⟨hl x hx, vl x hx⟩
  obtain ⟨o1, _⟩ := own_ok hτ ht s1 s2
  obtain ⟨u1, q1, z1⟩ := flatten_q hτ ht s1 s2 l v hv hl (by omega)
  rw [(flat_fine vl sl).1] at q1
  rw [(flat_fine vl sl).2] at z1
  have lc := canonS_len τ l
  have lb : ∀ r ∈ canonS τ l, r.length ≤ 400 := fun r hr => by have := canonS_bound τ l r hr; omega
  obtain ⟨e0, e1⟩ := bld_canon al sl
  have lown : ∀ j, j < τ.own → ((canonS τ l).getD j []).length = l.length := fun j hj => by
   have h1 := flatS_own τ (l.map some)
   have h2 := (flatS_len τ (l.map some)).1
   rw [canonS, List.getD_eq_getElem?_getD, List.getElem?_append_left (by omega), List.getElem?_eq_getElem (by omega)]
   simpa using h1 _ (List.getElem_mem (show j < (flatS τ (l.map some)).1.length by omega))
  have hl1 := z1.len
  rw [lc] at hl1
  rw [PC] at o1 q1
  have uc := SlV.cell hu
  have ucs := SlV.cells hu
  obtain ⟨F, hF⟩ : ∃ F, F = canonS τ l := ⟨_, rfl⟩
  rw [← hF] at z1 lc lb e0 e1 lown
  simp [ct, f1, o1, q1, fill, slotOf, -pcall, -List.all_eq_true, -Int.natCast_add]
  refine loop_nQ (τ.own + τ.data) (fun i c => ∃ s11 fl H R, c = ⟨[.agg t.cs, v, u, .agg t.cs, .bool false, u1, .int .i64 0, .int .i64 τ.own, .int .i64 0, rowsV R, .int .i64 i, s11, .undef, .undef], [], fl, none, H⟩ ∧ Rows H R ∧ R.length = i ∧ ∀ j, j < i → Gr τ.own F j (R.getD j [])) ?_ ⟨.undef, none, _, [], rfl, Rows.nil, rfl, fun j hj => by omega⟩
  rintro I hI i c hi ⟨s11, fl, H, R, rfl, hR, rfl, hG⟩
  by_cases hlt : R.length < τ.own + τ.data
  ·have hlt' : (R.length : Int) < ((τ.own + τ.data : Nat) : Int) := by omega
   have hw2 : IntKind.i64.wrap ((R.length : Int) + 1) = (R.length : Int) + 1 := wrap64 (by omega) (by omega)
   obtain ⟨w, a1, b1⟩ := z1.idx (i := R.length) (by omega)
   have hrl := lb _ (List.getElem_mem (show R.length < F.length by omega))
   have hgF : F.getD R.length [] = F[R.length] := by simp [show R.length < F.length by omega]
   have wc := SlV.cell b1
   have wcs := SlV.cells b1
   rw [← hgF] at b1 hrl
   obtain ⟨r, hr⟩ : ∃ r, r = F.getD R.length [] := ⟨_, rfl⟩
   rw [← hr] at b1 hrl
   have hc := copy_ecf b1 hR (by omega)
   have ha := app_row hR r (by omega)
   have hR1 := hR.add r
   generalize (H ++ [Am.Obj.cells r.length 1 (icells r), .cells 1 1 [hdr R.length r]]).set 0 (.cells (R.length + 1) 1 (hdrs 0 R ++ [hdr R.length r])) = H1 at *
   simp [hl1, hlt', a1, hc, ha, wc, wcs, fill, slotOf, -pcall, -ecallF, -Int.natCast_add]
   have hN : R.length = (R ++ [r]).length - 1 := by simp
   refine loop_nQ 3 (fun k c => ∃ (fl : Option (Nat × V)) (H2 : Heap) (R2 : List (List Int)) (X : List Int), c = ⟨[.agg t.cs, v, u, .agg t.cs, .bool false, u1, .int .i64 0, .int .i64 τ.own, .int .i64 0, rowsV R2, .int .i64 R.length, .int .i64 k, .undef, .undef], [], fl, none, H2⟩ ∧ Rows H2 R2 ∧ R2.length = R.length + 1 ∧ (∀ j, j < R.length → R2.getD j [] = R.getD j []) ∧ X.length = k ∧ R2.getD R.length [] = r ++ X ∧ (R.length < τ.own → k = 0)) ?_
    ⟨none, H1, R ++ [r], [], rfl, hR1, by simp, fun j hj => by rw [List.getD_eq_getElem?_getD, List.getElem?_append_left hj, List.getD_eq_getElem?_getD], rfl, by simp, fun _ => rfl⟩
   rintro J hJ k c hk ⟨fl, H2, R2, X, rfl, hR2, hl2, hold, hX, hnew, hz0⟩
   have hnext : (R.length < τ.own ∨ k = 3) → I (R.length + 1) ⟨[.agg t.cs, v, u, .agg t.cs, .bool false, u1, .int .i64 0, .int .i64 τ.own, .int .i64 0, rowsV R2, .int .i64 ((R.length : Int) + 1), .int .i64 k, .undef, .undef], [], none, none, H2⟩ := fun h => hI _ _ ⟨_, none, _, _, rfl, hR2, hl2, fun j hj => by
    by_cases e : j < R.length
    ·rw [hold j e]; exact hG j e
    ·obtain rfl : j = R.length := by omega
     rw [hnew, hr]
     refine ⟨fun h1 => ?_, fun h1 => ⟨X, ?_, rfl⟩⟩
     ·rw [hz0 h1] at hX
      rw [List.length_eq_zero_iff.1 hX, List.append_nil]
     ·rcases h with h | h <;> omega⟩
   by_cases hown : τ.own ≤ R.length
   ·have hown' : (τ.own : Int) ≤ R.length := by omega
    by_cases hk3 : k < 3
    ·have hk3' : (k : Int) < 3 := by omega
     have wk1 : IntKind.i64.wrap ((k : Int) + 1) = (k : Int) + 1 := wrap64 (by omega) (by omega)
     have w3 : IntKind.i64.wrap (3 * (R.length : Int)) = 3 * (R.length : Int) := wrap64 (by omega) (by omega)
     have w4 : IntKind.i64.wrap ((k : Int) + 3 * (R.length : Int)) = (k : Int) + 3 * (R.length : Int) := wrap64 (by omega) (by omega)
     have li : R.length < R2.length := by omega
     have hx := rows_idx (R := R2) li
     have hd := hR2.load li
     obtain ⟨z, hz, _⟩ := nth37_q hu hp hpl ((k : Int) + 3 * (R.length : Int)) (by unfold is64; omega)
     have hg2 : R2.getD R.length [] = R2[R.length] := by simp [li]
     rw [hg2] at hnew
     have hpu := hR2.push li z (by rw [hnew, List.length_append]; omega)
     have hst := Rows.storeh (H := H2) R2.length rfl (H2.set (1 + 2 * R.length) (.cells (R2[R.length] ++ [z]).length 1 (icells (R2[R.length] ++ [z])))) (by rw [List.getElem?_set_ne (by omega)]; exact hR2.out) li (R2[R.length] ++ [z])
     have hR3 := hR2.put li (R2[R.length] ++ [z])
     rw [PC] at hz
     have hJ := hJ (k + 1) ⟨[.agg t.cs, v, u, .agg t.cs, .bool false, u1, .int .i64 0, .int .i64 τ.own, .int .i64 0, rowsV R2, .int .i64 R.length, .int .i64 ((k : Int) + 1), .undef, .undef], [], none, none, _⟩ ⟨none, _, _, X ++ [z], by
       rw [show rowsV R2 = rowsV (R2.set R.length (R2[R.length] ++ [z])) by simp [rowsV]]; rfl, hR3, by simp [hl2], fun j hj => by
      rw [← hold j hj, List.getD_eq_getElem?_getD, List.getElem?_set_ne (by omega), ← List.getD_eq_getElem?_getD], by simp [hX], by
      rw [List.getD_eq_getElem?_getD, List.getElem?_set_self li]; simp [hnew], fun h => by omega⟩
     generalize H2.set (1 + 2 * R.length) (.cells (R2[R.length] ++ [z]).length 1 (icells (R2[R.length] ++ [z]))) = H3 at *
     generalize H3.set 0 (.cells R2.length 1 ((hdrs 0 R2).set R.length (hdr R.length (R2[R.length] ++ [z])))) = H4 at *
     generalize hdr R.length (R2[R.length] ++ [z]) = hd2 at *
     generalize hdr R.length R2[R.length] = hd1 at *
     simp [hown', hk3', hx, hd, w3, w4, wk1, hz, hpu, hst, uc, ucs, fill, chunks, slotOf, -pcall, -loadV]
     exact ⟨by omega, hJ⟩
    ·obtain rfl : k = 3 := by omega
     simp [hown', hw2, slotOf]
     exact ⟨by omega, hnext (.inr rfl)⟩
   ·have hown' : ¬ (τ.own : Int) ≤ R.length := by omega
    simp [hown', hw2, slotOf]
    exact ⟨by omega, hnext (.inl (by omega))⟩
  ·obtain hi : R.length = τ.own + τ.data := by omega
   have hlt' : ¬ (R.length : Int) < ((τ.own + τ.data : Nat) : Int) := by omega
   have hRF : R.length = F.length := by omega
   obtain ⟨H3, R3, c38, hR3, hU⟩ := unl_q hτ ht s1 s2 hu hp hpl hR hi (n := l.length) (fun j hj => by rw [Gr.own hG (by omega) hj]; exact lown j hj) (by omega)
   have c38 := ecf_ret c38
   have hsee : Seen τ l.length F R3 := hU.seen.pre fun j hj i => by simp only [rg]; rw [Gr.own hG (by omega) hj]
   have hext : Ext 3 (F.drop τ.own) (R3.drop τ.own) := by rw [hU.data]; exact Gr.ext hG hRF
   have hrow : ∀ j, (R3.getD j []).length ≤ 403 := fun j => by
    rw [hU.row j]
    by_cases hj : j < R.length
    ·have hFj : (F.getD j []).length ≤ 400 := by
      rw [show F.getD j [] = F[j] by simp [show j < F.length by omega]]
      exact lb _ (List.getElem_mem _)
     by_cases ho : j < τ.own
     ·rw [(hG j hj).1 ho]; omega
     ·obtain ⟨X, hX, he⟩ := (hG j hj).2 (by omega)
      rw [he, List.length_append]
      omega
    ·simp [show ¬ j < R.length from hj]
   have hb := bld_seen e0 (by rw [hU.len, hRF]) (fun r hr => by
    obtain ⟨j, hj⟩ := List.mem_iff_getElem?.1 hr
    rw [List.getElem?_take] at hj
    split at hj
    ·rename_i hjo
     have := hU.row j
     rw [Gr.own hG (by omega) hjo, lown j hjo] at this
     rw [List.getD_eq_getElem?_getD, hj] at this
     exact this
    ·cases hj) hext hsee
   have hv3 : rowsV R3 = rowsV R := by simp [rowsV, hU.len]
   have ll3 : ∀ r ∈ R3, r.length < 2 ^ 39 := fun r hr => by
    obtain ⟨j, hj, rfl⟩ := List.mem_iff_getElem.1 hr
    have := hrow j
    rw [show R3.getD j [] = R3[j] by simp [hj]] at this
    omega
   have n64 : is64 (l.length : Int) := by unfold is64; omega
   obtain ⟨u3, X3, ts, q3, x1, x2, x3⟩ := build_q hR3.all hR3.cl hR3.below hR3.regs (by have := hU.len; omega) ll3 hτ ht s1 s2 n64
   obtain ⟨u4, X4, ts', q4, y1, y2⟩ := canon_q hR3.all hR3.cl hR3.below hR3.regs (by have := hU.len; omega) ll3 hτ ht s1 s2 n64
   rw [hb.1] at q3 q4
   rw [if_pos hb.1] at y1
   have x3 := (x3 hb.1).trans (hb.2.trans e1)
   have y2 := (y2 hb.1).trans (hb.2.trans e1)
   rw [canonS_vl τ y2, ← hF] at y1
   have c26 := ecf_cut hR3.cl q3 ((view_sl x1 x1.pure _ _).2 0)
   have c27 := ecf_cut hR3.cl q4 (view_lists y1 0 _ _)
   obtain ⟨b3, q5, i3⟩ := sames_q ts l u3 v x1 hv x2 hl (by rw [← vlL_nodes, Tr.vlL_eq, x3, ← Tr.vlL_eq, vlL_nodes]; omega)
   obtain rfl : b3 = true := i3.2 x3
   have q6 := equalLists_q _ _ u4 u1 y1 z1 (by omega) (fun r hr => by have := lb r hr; omega)
   rw [decide_eq_true rfl] at q6
   rw [PC] at q5 q6
   rw [hv3] at c26 c27
   have hlv := len_tr hv
   have rc : isCell (rowsV R) = true := rfl
   have rcs : cellsV (rowsV R) = [rowsV R] := rfl
   generalize rowsV R = rv at *
   simp [ct, hl1, hlt', c38, c26, c27, q5, q6, hh, hlv, slotOf, -pcall, -ecallF, -List.all_eq_true, -Int.natCast_add]
   exact hQ _ _ rfl
 obtain ⟨r, h', e, rfl⟩ := OptP.ex key
 exact ⟨h', e⟩
end Go.Proofs.Nst
