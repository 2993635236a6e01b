/- A part of the law's proof: Join. -/
import Derived.Test.YtcpcmkacjdbpaaaDoorLaw
set_option linter.unusedVariables false
set_option linter.unusedSimpArgs false
namespace Go.Proofs.Nst
open Go Go.Am
def zipA (A B : List (List Int)) : List (List Int) := List.zipWith (· ++ ·) A B
def jn : Ty → List (List Int) → List (List Int) → List (List Int) → List (List Int) → List (List Int) × List (List Int)
 | .unit, _, _, _, _ => ([], [])
 | .int, A, _, B, _ => ([A.getD 0 [] ++ B.getD 0 []], [])
 | .pair a b, A, AD, B, BD => ((jn a (A.take a.own) (AD.take a.data) (B.take a.own) (BD.take a.data)).1 ++ (jn b (A.drop a.own) (AD.drop a.data) (B.drop a.own) (BD.drop a.data)).1,
   (jn a (A.take a.own) (AD.take a.data) (B.take a.own) (BD.take a.data)).2 ++ (jn b (A.drop a.own) (AD.drop a.data) (B.drop a.own) (BD.drop a.data)).2)
 | .sum a b, A, AD, B, BD => ((A.getD 0 [] ++ B.getD 0 []) :: ((jn a ((A.drop 1).take a.own) (AD.take a.data) ((B.drop 1).take a.own) (BD.take a.data)).1 ++ (jn b ((A.drop 1).drop a.own) (AD.drop a.data) ((B.drop 1).drop a.own) (BD.drop a.data)).1),
   (jn a ((A.drop 1).take a.own) (AD.take a.data) ((B.drop 1).take a.own) (BD.take a.data)).2 ++ (jn b ((A.drop 1).drop a.own) (AD.drop a.data) ((B.drop 1).drop a.own) (BD.drop a.data)).2)
 | .seq a, A, AD, B, BD => ([A.getD 0 [] ++ (if a.own = 0 then B.getD 0 [] else (B.getD 0 []).map (fun x => IntKind.i64.wrap (x + (AD.headD []).length))), A.getD 1 [] ++ B.getD 1 []],
   (jn a (AD.take a.own) (AD.drop a.own) (BD.take a.own) (BD.drop a.own)).1 ++ (jn a (AD.take a.own) (AD.drop a.own) (BD.take a.own) (BD.drop a.own)).2)
theorem jn_len : ∀ (τ : Ty) (A AD B BD : List (List Int)), (jn τ A AD B BD).1.length = τ.own ∧ (jn τ A AD B BD).2.length = τ.data
 | .unit, _, _, _, _ => ⟨rfl, rfl⟩
 | .int, _, _, _, _ => ⟨rfl, rfl⟩
 | .pair a b, A, AD, B, BD => by
  simp only [jn, List.length_append, (jn_len a _ _ _ _).1, (jn_len a _ _ _ _).2, (jn_len b _ _ _ _).1, (jn_len b _ _ _ _).2, Ty.own, Ty.data]
  exact ⟨trivial, trivial⟩
 | .sum a b, A, AD, B, BD => by
  simp only [jn, List.length_append, List.length_cons, (jn_len a _ _ _ _).1, (jn_len a _ _ _ _).2, (jn_len b _ _ _ _).1, (jn_len b _ _ _ _).2, Ty.own, Ty.data]
  exact ⟨by omega, trivial⟩
 | .seq a, A, AD, B, BD => by
  simp only [jn, List.length_append, List.length_cons, List.length_nil, (jn_len a _ _ _ _).1, (jn_len a _ _ _ _).2, Ty.own, Ty.data]
  exact ⟨trivial, trivial⟩
def Wide (n : Nat) (A : List (List Int)) : Prop := ∀ r ∈ A, r.length = n
theorem Wide.take {n : Nat} {A : List (List Int)} (h : Wide n A) (k : Nat) : Wide n (A.take k) := fun r hr => h r (List.mem_of_mem_take hr)
theorem Wide.drop {n : Nat} {A : List (List Int)} (h : Wide n A) (k : Nat) : Wide n (A.drop k) := fun r hr => h r (List.mem_of_mem_drop hr)
theorem Wide.getD {n : Nat} {A : List (List Int)} (h : Wide n A) {j : Nat} (hj : j < A.length) : (A.getD j []).length = n := by
 rw [List.getD_eq_getElem?_getD, List.getElem?_eq_getElem hj]
 exact h _ (List.getElem_mem hj)
theorem shp_wide {a : Ty} {D : List (List Int)} (h : ((D.take a.own).all fun r => r.length == (D.headD []).length) = true) : Wide (D.headD []).length (D.take a.own) := fun r hr => by
 simpa using List.all_eq_true.1 h r hr
theorem jn_own : ∀ (τ : Ty) (A AD B BD : List (List Int)) (n m : Nat), A.length = τ.own → B.length = τ.own → Wide n A → Wide m B → Wide (n + m) (jn τ A AD B BD).1
 | .unit, _, _, _, _, _, _, _, _, _, _ => fun r hr => by simp [jn] at hr
 | .int, A, _, B, _, n, m, hA, hB, wA, wB => fun r hr => by
  simp only [Ty.own] at hA hB
  simp only [jn, List.mem_singleton] at hr
  subst hr
  rw [List.length_append, wA.getD (by omega), wB.getD (by omega)]
 | .pair a b, A, AD, B, BD, n, m, hA, hB, wA, wB => fun r hr => by
  simp only [Ty.own] at hA hB
  simp only [jn, List.mem_append] at hr
  rcases hr with hr | hr
  ·exact jn_own a _ _ _ _ n m (by simp; omega) (by simp; omega) (wA.take _) (wB.take _) r hr
  ·exact jn_own b _ _ _ _ n m (by simp; omega) (by simp; omega) (wA.drop _) (wB.drop _) r hr
 | .sum a b, A, AD, B, BD, n, m, hA, hB, wA, wB => fun r hr => by
  simp only [Ty.own] at hA hB
  simp only [jn, List.mem_append, List.mem_cons] at hr
  rcases hr with rfl | hr | hr
  ·rw [List.length_append, wA.getD (by omega), wB.getD (by omega)]
  ·exact jn_own a _ _ _ _ n m (by simp; omega) (by simp; omega) ((wA.drop _).take _) ((wB.drop _).take _) r hr
  ·exact jn_own b _ _ _ _ n m (by simp; omega) (by simp; omega) ((wA.drop _).drop _) ((wB.drop _).drop _) r hr
 | .seq a, A, AD, B, BD, n, m, hA, hB, wA, wB => fun r hr => by
  simp only [Ty.own] at hA hB
  simp only [jn, List.mem_cons, List.not_mem_nil, or_false] at hr
  rcases hr with rfl | rfl
  ·rw [List.length_append, wA.getD (by omega)]
   split
   ·rw [wB.getD (by omega)]
   ·rw [List.length_map, wB.getD (by omega)]
  ·rw [List.length_append, wA.getD (by omega), wB.getD (by omega)]
theorem head_wide {n : Nat} {A B : List (List Int)} (h : Wide n A) (hl : A.length ≠ 0) : ((A ++ B).headD []).length = n := by
 cases A with
 | nil => simp at hl
 | cons r A => simpa using h r (by simp)
theorem jn_shp : ∀ (τ : Ty) (A AD B BD : List (List Int)), A.length = τ.own → B.length = τ.own → AD.length = τ.data → BD.length = τ.data → shp τ AD = true → shp τ BD = true → shp τ (jn τ A AD B BD).2 = true
 | .unit, _, _, _, _, _, _, _, _, _, _ => rfl
 | .int, _, _, _, _, _, _, _, _, _, _ => rfl
 | .pair a b, A, AD, B, BD, hA, hB, hAD, hBD, sA, sB => by
  simp only [Ty.own, Ty.data] at hA hB hAD hBD
  simp only [shp, Bool.and_eq_true] at sA sB
  have l1 := jn_len a (A.take a.own) (AD.take a.data) (B.take a.own) (BD.take a.data)
  simp only [shp, jn]
  rw [List.take_left' l1.2, List.drop_left' l1.2, jn_shp a _ _ _ _ (by simp; omega) (by simp; omega) (by simp; omega) (by simp; omega) sA.1 sB.1, jn_shp b _ _ _ _ (by simp; omega) (by simp; omega) (by simp; omega) (by simp; omega) sA.2 sB.2]
  rfl
 | .sum a b, A, AD, B, BD, hA, hB, hAD, hBD, sA, sB => by
  simp only [Ty.own, Ty.data] at hA hB hAD hBD
  simp only [shp, Bool.and_eq_true] at sA sB
  have l1 := jn_len a ((A.drop 1).take a.own) (AD.take a.data) ((B.drop 1).take a.own) (BD.take a.data)
  simp only [shp, jn]
  rw [List.take_left' l1.2, List.drop_left' l1.2, jn_shp a _ _ _ _ (by simp; omega) (by simp; omega) (by simp; omega) (by simp; omega) sA.1 sB.1, jn_shp b _ _ _ _ (by simp; omega) (by simp; omega) (by simp; omega) (by simp; omega) sA.2 sB.2]
  rfl
 | .seq a, A, AD, B, BD, hA, hB, hAD, hBD, sA, sB => by
  simp only [Ty.own, Ty.data] at hA hB hAD hBD
  simp only [shp, Bool.and_eq_true] at sA sB
  have l1 := jn_len a (AD.take a.own) (AD.drop a.own) (BD.take a.own) (BD.drop a.own)
  have wj := jn_own a (AD.take a.own) (AD.drop a.own) (BD.take a.own) (BD.drop a.own) _ _ (by simp; omega) (by simp; omega) (shp_wide sA.1) (shp_wide sB.1)
  simp only [shp, jn]
  rw [List.take_left' l1.1, List.drop_left' l1.1, jn_shp a _ _ _ _ (by simp; omega) (by simp; omega) (by simp; omega) (by simp; omega) sA.2 sB.2, Bool.and_true, List.all_eq_true]
  intro r hr
  have hne : (jn a (AD.take a.own) (AD.drop a.own) (BD.take a.own) (BD.drop a.own)).1.length ≠ 0 := by
   intro e
   rw [List.length_eq_zero_iff.1 e] at hr
   cases hr
  rw [head_wide wj hne, wj r hr]
  simp
end Go.Proofs.Nst
set_option linter.unusedVariables false
set_option linter.unusedSimpArgs false
namespace Go.Proofs.Nst
open Go Go.Am
theorem getD_l {a b : List Int} {i : Nat} (h : i < a.length) : (a ++ b).getD i 0 = a.getD i 0 := by
 rw [List.getD_eq_getElem?_getD, List.getElem?_append_left h, List.getD_eq_getElem?_getD]
theorem getD_r {a b : List Int} {n i : Nat} (h : a.length = n) : (a ++ b).getD (n + i) 0 = b.getD i 0 := by
 subst h
 rw [List.getD_eq_getElem?_getD, List.getElem?_append_right (by omega), Nat.add_sub_cancel_left, List.getD_eq_getElem?_getD]
theorem getD_add {b : List Int} {P : Int} {i : Nat} (h : i < b.length) : (b.map (fun x => IntKind.i64.wrap (x + P))).getD i 0 = IntKind.i64.wrap (b.getD i 0 + P) := by
 simp [List.getD_eq_getElem?_getD, h]
theorem rd_join : ∀ (τ : Ty) (A AD B BD : List (List Int)) (n m : Nat), A.length = τ.own → B.length = τ.own → AD.length = τ.data → BD.length = τ.data → Wide n A → Wide m B → shp τ AD = true → shp τ BD = true → (∀ r ∈ AD, r.length < 2 ^ 40) → (∀ r ∈ BD, r.length < 2 ^ 40) →
  (∀ i x, i < n → rd τ A AD i = some x → rd τ (jn τ A AD B BD).1 (jn τ A AD B BD).2 i = some x) ∧ (∀ i x, i < m → rd τ B BD i = some x → rd τ (jn τ A AD B BD).1 (jn τ A AD B BD).2 (n + i) = some x)
 | .unit, _, _, _, _, _, _, _, _, _, _, _, _, _, _, _, _ => ⟨fun _ _ _ h => h, fun _ _ _ h => h⟩
 | .int, A, _, B, _, n, m, hA, hB, _, _, wA, wB, _, _, _, _ => by
  simp only [Ty.own] at hA hB
  have la := wA.getD (j := 0) (by omega)
  have lb := wB.getD (j := 0) (by omega)
  constructor
  ·intro i x hi h
   have : rg [A.getD 0 [] ++ B.getD 0 []] 0 i = rg A 0 i := getD_l (by omega)
   simp only [rd, jn, this] at h ⊢
   exact h
  ·intro i x hi h
   have : rg [A.getD 0 [] ++ B.getD 0 []] 0 (n + i) = rg B 0 i := getD_r la
   simp only [rd, jn, this] at h ⊢
   exact h
 | .pair a b, A, AD, B, BD, n, m, hA, hB, hAD, hBD, wA, wB, sA, sB, bA, bB => by
  simp only [Ty.own, Ty.data] at hA hB hAD hBD
  simp only [shp, Bool.and_eq_true] at sA sB
  have l1 := jn_len a (A.take a.own) (AD.take a.data) (B.take a.own) (BD.take a.data)
  obtain ⟨p1, p2⟩ := rd_join a (A.take a.own) (AD.take a.data) (B.take a.own) (BD.take a.data) n m (by simp; omega) (by simp; omega) (by simp; omega) (by simp; omega) (wA.take _) (wB.take _) sA.1 sB.1 (fun r hr => bA r (List.mem_of_mem_take hr)) (fun r hr => bB r (List.mem_of_mem_take hr))
  obtain ⟨r1, r2⟩ := rd_join b (A.drop a.own) (AD.drop a.data) (B.drop a.own) (BD.drop a.data) n m (by simp; omega) (by simp; omega) (by simp; omega) (by simp; omega) (wA.drop _) (wB.drop _) sA.2 sB.2 (fun r hr => bA r (List.mem_of_mem_drop hr)) (fun r hr => bB r (List.mem_of_mem_drop hr))
  constructor
  ·intro i x hi h
   simp only [rd, jn] at h ⊢
   rw [List.take_left' l1.1, List.take_left' l1.2, List.drop_left' l1.1, List.drop_left' l1.2]
   cases e1 : rd a (A.take a.own) (AD.take a.data) i with
   | none => rw [e1] at h; cases h
   | some y =>
    cases e2 : rd b (A.drop a.own) (AD.drop a.data) i with
    | none => rw [e1, e2] at h; cases h
    | some z => rw [e1, e2] at h; rw [p1 i y hi e1, r1 i z hi e2]; exact h
  ·intro i x hi h
   simp only [rd, jn] at h ⊢
   rw [List.take_left' l1.1, List.take_left' l1.2, List.drop_left' l1.1, List.drop_left' l1.2]
   cases e1 : rd a (B.take a.own) (BD.take a.data) i with
   | none => rw [e1] at h; cases h
   | some y =>
    cases e2 : rd b (B.drop a.own) (BD.drop a.data) i with
    | none => rw [e1, e2] at h; cases h
    | some z => rw [e1, e2] at h; rw [p2 i y hi e1, r2 i z hi e2]; exact h
 | .sum a b, A, AD, B, BD, n, m, hA, hB, hAD, hBD, wA, wB, sA, sB, bA, bB => by
  simp only [Ty.own, Ty.data] at hA hB hAD hBD
  simp only [shp, Bool.and_eq_true] at sA sB
  have la := wA.getD (j := 0) (by omega)
  have lb := wB.getD (j := 0) (by omega)
  have l1 := jn_len a ((A.drop 1).take a.own) (AD.take a.data) ((B.drop 1).take a.own) (BD.take a.data)
  obtain ⟨p1, p2⟩ := rd_join a ((A.drop 1).take a.own) (AD.take a.data) ((B.drop 1).take a.own) (BD.take a.data) n m (by simp; omega) (by simp; omega) (by simp; omega) (by simp; omega) ((wA.drop _).take _) ((wB.drop _).take _) sA.1 sB.1 (fun r hr => bA r (List.mem_of_mem_take hr)) (fun r hr => bB r (List.mem_of_mem_take hr))
  obtain ⟨r1, r2⟩ := rd_join b ((A.drop 1).drop a.own) (AD.drop a.data) ((B.drop 1).drop a.own) (BD.drop a.data) n m (by simp; omega) (by simp; omega) (by simp; omega) (by simp; omega) ((wA.drop _).drop _) ((wB.drop _).drop _) sA.2 sB.2 (fun r hr => bA r (List.mem_of_mem_drop hr)) (fun r hr => bB r (List.mem_of_mem_drop hr))
  constructor
  ·intro i x hi h
   have hg : ∀ T, rg ((A.getD 0 [] ++ B.getD 0 []) :: T) 0 i = rg A 0 i := fun T => getD_l (by omega)
   simp only [rd, jn, hg, List.drop_succ_cons, List.drop_zero] at h ⊢
   rw [List.take_left' l1.1, List.take_left' l1.2, List.drop_left' l1.1, List.drop_left' l1.2]
   split at h
   ·rename_i z; rw [if_pos z]
    cases e1 : rd a ((A.drop 1).take a.own) (AD.take a.data) i with
    | none => rw [e1] at h; cases h
    | some y => rw [e1] at h; rw [p1 i y hi e1]; exact h
   ·rename_i z; rw [if_neg z]
    split at h
    ·rename_i z; rw [if_pos z]
     cases e1 : rd b ((A.drop 1).drop a.own) (AD.drop a.data) i with
     | none => rw [e1] at h; cases h
     | some y => rw [e1] at h; rw [r1 i y hi e1]; exact h
    ·cases h
  ·intro i x hi h
   have hg : ∀ T, rg ((A.getD 0 [] ++ B.getD 0 []) :: T) 0 (n + i) = rg B 0 i := fun T => getD_r la
   simp only [rd, jn, hg, List.drop_succ_cons, List.drop_zero] at h ⊢
   rw [List.take_left' l1.1, List.take_left' l1.2, List.drop_left' l1.1, List.drop_left' l1.2]
   split at h
   ·rename_i z; rw [if_pos z]
    cases e1 : rd a ((B.drop 1).take a.own) (BD.take a.data) i with
    | none => rw [e1] at h; cases h
    | some y => rw [e1] at h; rw [p2 i y hi e1]; exact h
   ·rename_i z; rw [if_neg z]
    split at h
    ·rename_i z; rw [if_pos z]
     cases e1 : rd b ((B.drop 1).drop a.own) (BD.drop a.data) i with
     | none => rw [e1] at h; cases h
     | some y => rw [e1] at h; rw [r2 i y hi e1]; exact h
    ·cases h
 | .seq a, A, AD, B, BD, n, m, hA, hB, hAD, hBD, wA, wB, sA, sB, bA, bB => by
  simp only [Ty.own, Ty.data] at hA hB hAD hBD
  simp only [shp, Bool.and_eq_true] at sA sB
  have la := wA.getD (j := 0) (by omega)
  have lb := wB.getD (j := 0) (by omega)
  have la1 := wA.getD (j := 1) (by omega)
  have wpA := shp_wide sA.1
  have wpB := shp_wide sB.1
  have l1 := jn_len a (AD.take a.own) (AD.drop a.own) (BD.take a.own) (BD.drop a.own)
  have wj := jn_own a (AD.take a.own) (AD.drop a.own) (BD.take a.own) (BD.drop a.own) _ _ (by simp; omega) (by simp; omega) wpA wpB
  obtain ⟨p1, p2⟩ := rd_join a (AD.take a.own) (AD.drop a.own) (BD.take a.own) (BD.drop a.own) _ _ (by simp; omega) (by simp; omega) (by simp; omega) (by simp; omega) wpA wpB sA.2 sB.2 (fun r hr => bA r (List.mem_of_mem_drop hr)) (fun r hr => bB r (List.mem_of_mem_drop hr))
  have hh : a.own ≠ 0 → (((jn a (AD.take a.own) (AD.drop a.own) (BD.take a.own) (BD.drop a.own)).1 ++ (jn a (AD.take a.own) (AD.drop a.own) (BD.take a.own) (BD.drop a.own)).2).headD []).length = (AD.headD []).length + (BD.headD []).length := fun h => head_wide wj (by omega)
  have hjn : jn (.seq a) A AD B BD = ([A.getD 0 [] ++ (if a.own = 0 then B.getD 0 [] else (B.getD 0 []).map (fun x => IntKind.i64.wrap (x + ((AD.headD []).length : Int)))), A.getD 1 [] ++ B.getD 1 []], (jn a (AD.take a.own) (AD.drop a.own) (BD.take a.own) (BD.drop a.own)).1 ++ (jn a (AD.take a.own) (AD.drop a.own) (BD.take a.own) (BD.drop a.own)).2) := by simp only [jn]
  rw [hjn]
  clear hjn
  generalize jn a (AD.take a.own) (AD.drop a.own) (BD.take a.own) (BD.drop a.own) = J at *
  have hg1 : ∀ T, ∀ i, i < n → rg [T, A.getD 1 [] ++ B.getD 1 []] 1 i = rg A 1 i := fun T i hi => getD_l (by omega)
  have hg1' : ∀ T, ∀ i, rg [T, A.getD 1 [] ++ B.getD 1 []] 1 (n + i) = rg B 1 i := fun T i => getD_r la1
  constructor
  ·intro i x hi h
   have hg0 : ∀ T U, rg ((A.getD 0 [] ++ U) :: T) 0 i = rg A 0 i := fun T U => getD_l (by omega)
   simp only [rd, hg0, hg1 _ i hi] at h ⊢
   split at h
   ·cases h
   rename_i c1
   rw [if_neg c1]
   split at h
   ·rename_i c2; rw [if_pos c2]; exact h
   rename_i c2
   rw [if_neg c2]
   split at h
   ·cases h
   rename_i c3
   rw [if_neg (fun hc => c3 (by
    rcases hc with hc | hc
    ·exact .inl hc
    ·refine .inr ⟨hc.1, ?_⟩
     rw [hh hc.1] at hc
     omega)), List.take_left' l1.1, List.drop_left' l1.1]
   cases e1 : allO ((List.range (rg A 1 i).toNat).map fun k => rd a (AD.take a.own) (AD.drop a.own) (if a.own = 0 then 0 else (rg A 0 i).toNat + k)) with
   | none => rw [e1] at h; cases h
   | some l =>
    rw [e1] at h
    have h4 := allO_some.1 e1
    have e2 : allO ((List.range (rg A 1 i).toNat).map fun k => rd a J.1 J.2 (if a.own = 0 then 0 else (rg A 0 i).toNat + k)) = some l := allO_some.2 (by
     rw [← h4]
     refine List.map_congr_left fun k hk => ?_
     have hk := List.mem_range.1 hk
     have h5 := congrArg (·[k]?) h4
     have hlen := congrArg List.length h4
     simp at hlen
     simp [hk, show k < l.length by omega] at h5
     rw [h5]
     by_cases e : a.own = 0
     ·rw [rd_unit a e] at h5 ⊢
      exact h5
     ·rw [if_neg e] at h5 ⊢
      exact p1 _ _ (by omega) h5)
    rw [e2]
    exact h
  ·intro i x hi h
   have hg0 : ∀ T, rg ((A.getD 0 [] ++ (if a.own = 0 then B.getD 0 [] else (B.getD 0 []).map (fun x => IntKind.i64.wrap (x + ((AD.headD []).length : Int))))) :: T) 0 (n + i) = if a.own = 0 then rg B 0 i else IntKind.i64.wrap (rg B 0 i + (AD.headD []).length) := fun T => by
    refine (getD_r la).trans ?_
    split
    ·rfl
    ·exact getD_add (by omega)
   simp only [rd, hg0, hg1'] at h ⊢
   split at h
   ·cases h
   rename_i c1
   rw [if_neg c1]
   split at h
   ·rename_i c2; rw [if_pos c2]; exact h
   rename_i c2
   rw [if_neg c2]
   split at h
   ·cases h
   rename_i c3
   have hPb : (AD.headD []).length < 2 ^ 40 := by cases AD with | nil => simp | cons r AD => exact bA r (by simp)
   have hQb : (BD.headD []).length < 2 ^ 40 := by cases BD with | nil => simp | cons r BD => exact bB r (by simp)
   have hwr : a.own ≠ 0 → IntKind.i64.wrap (rg B 0 i + (AD.headD []).length) = rg B 0 i + (AD.headD []).length := fun e => wrap64 (by omega) (by omega)
   rw [if_neg (fun hc => c3 (by
    rcases hc with hc | hc
    ·split at hc
     ·exact .inl hc
     ·rename_i e
      rw [hwr e] at hc
      exact .inl (by omega)
    ·refine .inr ⟨hc.1, ?_⟩
     rw [hh hc.1, if_neg hc.1, hwr hc.1] at hc
     omega)), List.take_left' l1.1, List.drop_left' l1.1]
   cases e1 : allO ((List.range (rg B 1 i).toNat).map fun k => rd a (BD.take a.own) (BD.drop a.own) (if a.own = 0 then 0 else (rg B 0 i).toNat + k)) with
   | none => rw [e1] at h; cases h
   | some l =>
    rw [e1] at h
    have h4 := allO_some.1 e1
    have e2 : allO ((List.range (rg B 1 i).toNat).map fun k => rd a J.1 J.2 (if a.own = 0 then 0 else (if a.own = 0 then rg B 0 i else IntKind.i64.wrap (rg B 0 i + ((AD.headD []).length : Int))).toNat + k)) = some l := allO_some.2 (by
     rw [← h4]
     refine List.map_congr_left fun k hk => ?_
     have hk := List.mem_range.1 hk
     have h5 := congrArg (·[k]?) h4
     have hlen := congrArg List.length h4
     simp at hlen
     simp [hk, show k < l.length by omega] at h5
     rw [h5]
     by_cases e : a.own = 0
     ·rw [rd_unit a e] at h5 ⊢
      exact h5
     ·rw [if_neg e] at h5
      rw [if_neg e, if_neg e, hwr e, show (rg B 0 i + ((AD.headD []).length : Int)).toNat + k = (AD.headD []).length + ((rg B 0 i).toNat + k) by omega]
      exact p2 _ _ (by omega) h5)
    rw [e2]
    exact h
theorem rd_at : ∀ (τ : Ty) (own own' data : List (List Int)) (i i' : Nat), (∀ j, j < τ.own → rg own' j i' = rg own j i) → rd τ own' data i' = rd τ own data i
 | .unit, _, _, _, _, _, _ => rfl
 | .int, own, own', _, i, i', h => by simp only [rd]; rw [h 0 (by simp [Ty.own])]
 | .pair a b, own, own', data, i, i', h => by
  simp only [Ty.own] at h
  simp only [rd]
  rw [rd_at a (own.take a.own) (own'.take a.own) _ i i' (fun j hj => by rw [rg_take _ _ _ _ hj, rg_take _ _ _ _ hj]; exact h j (by omega)),
   rd_at b (own.drop a.own) (own'.drop a.own) _ i i' (fun j hj => by rw [rg_drop, rg_drop]; exact h _ (by omega))]
 | .sum a b, own, own', data, i, i', h => by
  simp only [Ty.own] at h
  simp only [rd]
  rw [h 0 (by omega), rd_at a ((own.drop 1).take a.own) ((own'.drop 1).take a.own) _ i i' (fun j hj => by rw [rg_take _ _ _ _ hj, rg_take _ _ _ _ hj, rg_drop, rg_drop]; exact h _ (by omega)),
   rd_at b ((own.drop 1).drop a.own) ((own'.drop 1).drop a.own) _ i i' (fun j hj => by rw [rg_drop, rg_drop, rg_drop, rg_drop]; exact h _ (by omega))]
 | .seq a, own, own', data, i, i', h => by
  simp only [Ty.own] at h
  simp only [rd]
  rw [h 0 (by omega), h 1 (by omega)]
end Go.Proofs.Nst
set_option linter.unusedVariables false
set_option linter.unusedSimpArgs false
namespace Go.Proofs.Nst
open Go Go.Am
theorem splice_1 (cs : List V) (i : Nat) (x : V) (h : i < cs.length) : splice cs i [x] = cs.set i x := by
 simp only [splice, List.length_singleton]
 rw [List.set_eq_take_append_cons_drop, if_pos h]
 simp
theorem joined71_c (H : Heap) (vs : List V) (v : V) (hv : CellsV vs v) (css : List (List V)) (hf : Fr (fun cs w => CellsV cs w) css vs) (hlen : css.flatten.length < 2 ^ 40) (hl2 : vs.length < 2 ^ 40) :
  CC 71 [v] H (.ret (.sl H.length 0 css.flatten.length css.flatten.length 1 false)) (H ++ [.cells css.flatten.length 1 css.flatten]) := by
 have hlv := CellsV.len' hv
 refine CallP.eq (call_ofQ (af := Trnx.a71) rfl rfl fun Q hQ => ?_)
 simp only [Trnx.a71]
 have hvc := SlV.cell hv
 simp [hlv, hvc, slotOf]
 refine loop_nQ vs.length (fun i c => ∃ x y, c = ⟨[v, .nils, .sl H.length 0 (css.take i).flatten.length (css.take i).flatten.length 1 false, x, v, .int .i64 vs.length, .int .i64 i], [], y, none, H ++ [.cells (css.take i).flatten.length 1 (css.take i).flatten]⟩) ?_ ⟨.undef, none, by simp⟩
 rintro I hI i c hi ⟨x, y, rfl⟩
 by_cases hlt : i < vs.length
 ·have hlt' : (i : Int) < vs.length := by omega
  have hi1 := CellsV.idx' hv hlt
  have hw2 : IntKind.i64.wrap ((i : Int) + 1) = (i : Int) + 1 := wrap64 (by omega) (by omega)
  have hlc : i < css.length := by rw [hf.length]; exact hlt
  have h1 := hf.get hlc hlt
  have hs1 := CellsV.slen' h1
  have hs2 := CellsV.scells' h1
  have e : (css.take (i + 1)).flatten = (css.take i).flatten ++ css[i] := by rw [← List.take_append_getElem hlc, List.flatten_append]; simp
  have hbd : (css.take (i + 1)).flatten.length ≤ css.flatten.length := by
   have := congrArg List.length (congrArg List.flatten (List.take_append_drop (i + 1) css))
   rw [List.flatten_append, List.length_append] at this
   omega
  have hap := appV_own (h := H ++ [.cells (css.take i).flatten.length 1 (css.take i).flatten]) (o := H.length) (n := (css.take i).flatten.length) (sz := 1) (bytes := 8) (cs := (css.take i).flatten) (by simp) hs1 (hs2 _) (by simp) (by
   rw [e, List.length_append] at hbd
   have : room = 140737488355328 := by simp [room]
   omega)
  rw [set_last] at hap
  have hcl := SlV.cell h1
  have hcs := SlV.cells h1
  generalize vs[i] = w at *
  have hI := hI (i + 1)
  rw [e] at hI
  generalize (css.take i).flatten = F at *
  generalize css[i] = G at *
  simp [hlt', hi1, hap, hw2, hcl, hcs, slotOf]
  exact ⟨hlt, hI _ ⟨w, none, by simp⟩⟩
 ·obtain rfl : i = vs.length := by omega
  have e : css.take vs.length = css := by rw [← hf.length, List.take_length]
  rw [e]
  generalize css.flatten = F at *
  simp [slotOf]
  exact hQ _ _ ⟨rfl, rfl⟩
abbrev hdf (f0 j : Nat) (r : List Int) : V := .sl (f0 + j) 0 r.length r.length 1 false
def hds : Nat → List (List Int) → List V
 | _, [] => []
 | f0, r :: R => .sl f0 0 r.length r.length 1 false :: hds (f0 + 1) R
theorem hds_len : ∀ (f0 : Nat) (R : List (List Int)), (hds f0 R).length = R.length
 | _, [] => rfl
 | f0, r :: R => by simp [hds, hds_len (f0 + 1) R]
theorem hds_app : ∀ (f0 : Nat) (R : List (List Int)) (r : List Int), hds f0 (R ++ [r]) = hds f0 R ++ [hdf f0 R.length r]
 | _, [], r => rfl
 | f0, x :: R, r => by simp [hds, hds_app (f0 + 1) R r]; omega
theorem hds_get : ∀ (f0 : Nat) (R : List (List Int)) (i : Nat) (h : i < R.length), (hds f0 R)[i]? = some (hdf f0 i R[i])
 | f0, x :: R, 0, h => rfl
 | f0, x :: R, i + 1, h => by
  have := hds_get (f0 + 1) R i (by simpa using h)
  simp only [hds, List.getElem?_cons_succ, this, List.getElem_cons_succ, hdf]
  rw [show f0 + 1 + i = f0 + (i + 1) by omega]
theorem hds_set : ∀ (f0 : Nat) (R : List (List Int)) (i : Nat) (r : List Int), r.length = (R.getD i []).length → hds f0 (R.set i r) = hds f0 R
 | f0, [], i, r, _ => rfl
 | f0, x :: R, 0, r, h => by simp at h; simp [hds, h]
 | f0, x :: R, i + 1, r, h => by
  simp only [List.set_cons_succ, hds, hds_set (f0 + 1) R i r (by simpa using h)]
structure RowsF (H : Heap) (O f0 : Nat) (R : List (List Int)) : Prop where
 out : H[O]? = some (.cells R.length 1 (hds f0 R))
 row : ∀ j (hj : j < R.length), H[f0 + j]? = some (.cells R[j].length 1 (icells R[j]))
 off : O < f0 ∨ f0 + R.length ≤ O
def Off (H H' : Heap) (f0 n : Nat) : Prop := H'.length = H.length ∧ ∀ i, (i < f0 ∨ f0 + n ≤ i) → H'[i]? = H[i]?
theorem Off.refl (H : Heap) (f0 n : Nat) : Off H H f0 n := ⟨rfl, fun _ _ => rfl⟩
theorem Off.trans {H H' H'' : Heap} {f0 n : Nat} (h : Off H H' f0 n) (h' : Off H' H'' f0 n) : Off H H'' f0 n := ⟨h'.1.trans h.1, fun i hi => (h'.2 i hi).trans (h.2 i hi)⟩
theorem RowsF.at {H : Heap} {O f0 : Nat} {R : List (List Int)} (h : RowsF H O f0 R) {j : Nat} (hj : j < R.length) (r : List Int) (hr : r.length = R[j].length) :
  RowsF (H.set (f0 + j) (.cells r.length 1 (icells r))) O f0 (R.set j r) ∧ Off H (H.set (f0 + j) (.cells r.length 1 (icells r))) f0 R.length := by
 have ho := h.off
 have hlt := (List.getElem?_eq_some_iff.1 (h.row j hj)).1
 refine ⟨⟨?_, ?_, by simpa using ho⟩, by simp, fun i hi => List.getElem?_set_ne (by omega)⟩
 ·rw [List.getElem?_set_ne (by omega), h.out, hds_set _ _ _ _ (by simp [hr, hj]), List.length_set]
 ·intro i hi
  simp at hi
  by_cases e : j = i
  ·subst e
   simp [hlt]
  ·rw [List.getElem?_set_ne (by omega), h.row i hi]
   simp [e]
abbrev outV (O n : Nat) : V := .sl O 0 n n 1 false
theorem out_idx {O n j : Nat} (h : j < n) : idxV (outV O n) j 1 = some (.ref O j n) := by
 simp only [idxV, Int.toNat_natCast]
 rw [if_pos ⟨by omega, by omega, trivial⟩]
 simp
theorem RowsF.load {H : Heap} {O f0 : Nat} {R : List (List Int)} (h : RowsF H O f0 R) {j : Nat} (hj : j < R.length) : loadV H (.ref O j R.length) 1 false = some (hdf f0 j R[j]) :=
 load_ref h.out (by rw [hds_get f0 R j hj])
theorem hdf_idx {f0 j k : Nat} {r : List Int} (h : k < r.length) : idxV (hdf f0 j r) k 1 = some (.ref (f0 + j) k r.length) := by
 simp only [idxV, Int.toNat_natCast]
 rw [if_pos ⟨by omega, by omega, trivial⟩]
 simp
theorem RowsF.cell {H : Heap} {O f0 : Nat} {R : List (List Int)} (h : RowsF H O f0 R) {j k : Nat} (hj : j < R.length) (hk : k < R[j].length) : loadV H (.ref (f0 + j) k R[j].length) 1 false = some (.int .i64 R[j][k]) := by
 refine load_ref (h.row j hj) ?_
 simp [hk]
theorem RowsF.store {H : Heap} {O f0 : Nat} {R : List (List Int)} (h : RowsF H O f0 R) {j k : Nat} (hj : j < R.length) (hk : k < R[j].length) (x : Int) : storeV H (.ref (f0 + j) k R[j].length) (.int .i64 x) 1 = some (H.set (f0 + j) (.cells (R[j].set k x).length 1 (icells (R[j].set k x)))) := by
 have ho := objCells_of (h.row j hj)
 have hsp : splice (icells R[j]) k [.int .i64 x] = icells (R[j].set k x) := by
  rw [splice_1 _ _ _ (by simpa using hk)]
  simp [icells, List.map_set]
 simp only [storeV, ho]
 simp [hsp, -splice, show k + 1 ≤ R[j].length by omega]
end Go.Proofs.Nst
set_option linter.unusedVariables false
set_option linter.unusedSimpArgs false
namespace Go.Proofs.Nst
open Go Go.Am
def shk (r : List Int) (n : Nat) (P : Int) : Nat → List Int
 | 0 => r
 | k + 1 => (shk r n P k).set (n + k) (IntKind.i64.wrap ((shk r n P k).getD (n + k) 0 + P))
theorem shk_len (r : List Int) (n : Nat) (P : Int) : ∀ k, (shk r n P k).length = r.length
 | 0 => rfl
 | k + 1 => by simp [shk, shk_len r n P k]
section
variable (A B : List (List Int))
def shS : Ty → Nat → Nat → List (List Int) → List (List Int)
 | .unit, _, _, R => R
 | .int, _, _, R => R
 | .pair x y, o, d, R => shS y (o + x.own) (d + x.data) (shS x o d R)
 | .sum x y, o, d, R => shS y (o + 1 + x.own) (d + x.data) (shS x (o + 1) d R)
 | .seq x, o, d, R => shS x d (d + x.own) (if x.own = 0 then R else R.set o (shk (R.getD o []) (A.getD o []).length (A.getD d []).length (B.getD o []).length))
theorem set_row_len (R : List (List Int)) (o : Nat) (r : List Int) (h : r.length = (R.getD o []).length) (j : Nat) : ((R.set o r).getD j []).length = (R.getD j []).length := by
 simp only [List.getD_eq_getElem?_getD, List.getElem?_set]
 split
 ·rename_i e
  subst e
  split
  ·simpa [List.getD_eq_getElem?_getD] using h
  ·rename_i hj; simp [hj]
 ·rfl
theorem shS_len : ∀ (τ : Ty) (o d : Nat) (R : List (List Int)), (shS A B τ o d R).length = R.length ∧ ∀ j, ((shS A B τ o d R).getD j []).length = (R.getD j []).length
 | .unit, _, _, _ => ⟨rfl, fun _ => rfl⟩
 | .int, _, _, _ => ⟨rfl, fun _ => rfl⟩
 | .pair x y, o, d, R => by
  have h1 := shS_len x o d R
  have h2 := shS_len y (o + x.own) (d + x.data) (shS A B x o d R)
  exact ⟨h2.1.trans h1.1, fun j => (h2.2 j).trans (h1.2 j)⟩
 | .sum x y, o, d, R => by
  have h1 := shS_len x (o + 1) d R
  have h2 := shS_len y (o + 1 + x.own) (d + x.data) (shS A B x (o + 1) d R)
  exact ⟨h2.1.trans h1.1, fun j => (h2.2 j).trans (h1.2 j)⟩
 | .seq x, o, d, R => by
  have h1 := shS_len x d (d + x.own) (if x.own = 0 then R else R.set o (shk (R.getD o []) (A.getD o []).length (A.getD d []).length (B.getD o []).length))
  simp only [shS]
  refine ⟨h1.1.trans ?_, fun j => (h1.2 j).trans ?_⟩
  ·split <;> simp
  ·split
   ·rfl
   ·exact set_row_len _ _ _ (shk_len _ _ _ _) _
end
abbrev clo72 (c7 c11 c6 c13 : Nat) : V := .func (.func 72) [] [.ref c7 0 1, .ref c11 0 1, .ref c6 0 1, .ref c13 0 1]
structure JoH (H : Heap) (c7 c11 c6 c13 O f0 : Nat) (vA vB : V) (R : List (List Int)) : Prop where
 rows : RowsF H O f0 R
 h7 : H[c7]? = some (.cells 1 1 [vB])
 h11 : H[c11]? = some (.cells 1 1 [outV O R.length])
 h6 : H[c6]? = some (.cells 1 1 [vA])
 h13 : H[c13]? = some (.cells 1 1 [clo72 c7 c11 c6 c13])
 o7 : c7 < f0 ∨ f0 + R.length ≤ c7
 o11 : c11 < f0 ∨ f0 + R.length ≤ c11
 o6 : c6 < f0 ∨ f0 + R.length ≤ c6
 o13 : c13 < f0 ∨ f0 + R.length ≤ c13
theorem JoH.off {H H' : Heap} {c7 c11 c6 c13 O f0 : Nat} {vA vB : V} {R R' : List (List Int)} (h : JoH H c7 c11 c6 c13 O f0 vA vB R) (hO : Off H H' f0 R.length) (hr : RowsF H' O f0 R') (hl : R'.length = R.length) : JoH H' c7 c11 c6 c13 O f0 vA vB R' :=
 ⟨hr, (hO.2 _ h.o7).trans h.h7, by rw [hl]; exact (hO.2 _ h.o11).trans h.h11, (hO.2 _ h.o6).trans h.h6, (hO.2 _ h.o13).trans h.h13, by rw [hl]; exact h.o7, by rw [hl]; exact h.o11, by rw [hl]; exact h.o6, by rw [hl]; exact h.o13⟩
theorem LayD.off {H H' : Heap} {f0 n : Nat} {τ : Ty} {b : Nat} (h : LayD H b τ) (hO : Off H H' f0 n) (hb : b + objs τ ≤ f0) : LayD H' b τ := h.ext fun i h1 h2 => hO.2 i (.inl (by omega))
theorem load_pv (H : Heap) (w : V) : loadV H (.pv [w]) 1 false = some w := by simp [loadV]
abbrev JoP (A B : List (List Int)) (c7 c11 c6 c13 O f0 : Nat) (vA vB : V) (τ : Ty) (b o d : Nat) (H : Heap) (R : List (List Int)) : Prop :=
 ∃ (u : V) (H' : Heap), CC 72 [spotV b o d, .ref c7 0 1, .ref c11 0 1, .ref c6 0 1, .ref c13 0 1] H (.ret u) H' ∧ JoH H' c7 c11 c6 c13 O f0 vA vB (shS A B τ o d R) ∧ Off H H' f0 R.length
set_option maxHeartbeats 1000000 in
theorem join72_q {A B : List (List Int)} {vA vB : V} (hA : ListsV A vA) (hB : ListsV B vB) (lA : ∀ r ∈ A, r.length < 2 ^ 39) (lB : ∀ r ∈ B, r.length < 2 ^ 39) {c7 c11 c6 c13 O f0 : Nat} :
  ∀ (τ : Ty) (b o d : Nat) (H : Heap) (R : List (List Int)), JoH H c7 c11 c6 c13 O f0 vA vB R → LayD H b τ → b + objs τ ≤ f0 → o + τ.own ≤ d → d + τ.data ≤ R.length → R.length < 2 ^ 39 → τ.size < 2 ^ 20 →
   R.length = A.length → R.length = B.length → (∀ j, (R.getD j []).length = (A.getD j []).length + (B.getD j []).length) → JoP A B c7 c11 c6 c13 O f0 vA vB τ b o d H R := by
 intro τ
 induction τ with
 | unit =>
  intro b o d H R hJ hL hb ho hd hlR hs eA eB hrl
  have ob := objCells_of hL
  have key : CallP gl Trnx.aprog 72 [spotV b o d, .ref c7 0 1, .ref c11 0 1, .ref c6 0 1, .ref c13 0 1] H (fun r H' => ∃ u, r = .ret u ∧ H' = H) := by
   refine call_ofQ (af := Trnx.a72) rfl rfl fun Q hQ => ?_
   simp only [Trnx.a72]
   simp [ob, slotOf]
   refine loop_nQ 0 (fun i c => c = ⟨[spotV b o d, .ref c7 0 1, .ref c11 0 1, .ref c6 0 1, .ref c13 0 1, spotV b o d, .undef, .undef, .undef, .undef, .undef, .int .i64 0, .int .i64 0], [], none, none, H⟩) ?_ rfl
   rintro I hI i c hi rfl
   simp [slotOf]
   exact hQ _ _ ⟨_, rfl, rfl⟩
  obtain ⟨r, H', e, u, rfl, rfl⟩ := OptP.ex key
  exact ⟨u, _, e, hJ, Off.refl _ _ _⟩
 | int =>
  intro b o d H R hJ hL hb ho hd hlR hs eA eB hrl
  have ob := objCells_of hL
  have key : CallP gl Trnx.aprog 72 [spotV b o d, .ref c7 0 1, .ref c11 0 1, .ref c6 0 1, .ref c13 0 1] H (fun r H' => ∃ u, r = .ret u ∧ H' = H) := by
   refine call_ofQ (af := Trnx.a72) rfl rfl fun Q hQ => ?_
   simp only [Trnx.a72]
   simp [ob, slotOf]
   refine loop_nQ 0 (fun i c => c = ⟨[spotV b o d, .ref c7 0 1, .ref c11 0 1, .ref c6 0 1, .ref c13 0 1, spotV b o d, .undef, .undef, .undef, .undef, .undef, .int .i64 0, .int .i64 0], [], none, none, H⟩) ?_ rfl
   rintro I hI i c hi rfl
   simp [slotOf]
   exact hQ _ _ ⟨_, rfl, rfl⟩
  obtain ⟨r, H', e, u, rfl, rfl⟩ := OptP.ex key
  exact ⟨u, _, e, hJ, Off.refl _ _ _⟩
 | pair x y ih1 ih2 =>
  intro b o d H R hJ hL hb ho hd hlR hs eA eB hrl
  obtain ⟨h1, h2, h3, h4⟩ := id hL
  simp only [objs] at hb
  simp only [Ty.own] at ho
  simp only [Ty.data] at hd
  simp only [Ty.size] at hs
  have hoy := objs_pos y
  have hbx := x.both_size
  have hby := y.both_size
  have p0 := part_pair0 (H := H) (b := b) (o := o) (d := d) hL
  obtain ⟨u1, H1, c1, j1, f1⟩ := ih1 (b + 1) o d H R hJ h3 (by omega) (by omega) (by omega) hlR (by omega) eA eB hrl
  have l1 := shS_len A B x o d R
  have hL1 := hL.off f1 (by simp only [objs]; omega)
  have p1 := part_pair1 (o := o) (d := d) hL1 (by omega) (by omega) (by omega)
  obtain ⟨g1, g2, g3, g4⟩ := id hL1
  obtain ⟨u2, H2, c2, j2, f2⟩ := ih2 (b + 2 + objs x) (o + x.own) (d + x.data) H1 _ j1 g4 (by omega) (by omega) (by omega) (by omega) (by omega) (by omega) (by omega) (fun j => (l1.2 j).trans (hrl j))
  rw [l1.1] at f2
  have ob := objCells_of h1
  have ob1 := objCells_of g1
  have oc := objCells_of hJ.h13
  have oc1 := objCells_of j1.h13
  rw [RO] at p0 p1
  have w1 : IntKind.i64.wrap 1 = 1 := rfl
  have w2 : IntKind.i64.wrap (1 + 1) = 2 := rfl
  have key : CallP gl Trnx.aprog 72 [spotV b o d, .ref c7 0 1, .ref c11 0 1, .ref c6 0 1, .ref c13 0 1] H (fun r H' => ∃ u, r = .ret u ∧ H' = H2) := by
   refine call_ofQ (af := Trnx.a72) rfl rfl fun Q hQ => ?_
   simp only [Trnx.a72]
   simp [ob, slotOf]
   refine loop_nQ 2 (fun i c => ∃ s8 fl, c = ⟨[spotV b o d, .ref c7 0 1, .ref c11 0 1, .ref c6 0 1, .ref c13 0 1, spotV b o d, .undef, .undef, s8, .undef, .undef, .int .i64 2, .int .i64 i], [], fl, none, if i = 0 then H else if i = 1 then H1 else H2⟩) ?_ ⟨_, _, rfl⟩
   rintro I hI i c hi ⟨s8, fl, rfl⟩
   have hi3 : i = 0 ∨ i = 1 ∨ i = 2 := by omega
   rcases hi3 with rfl | rfl | rfl
   ·simp [oc, p0, c1, w1, slotOf]
    exact hI _ _ ⟨_, _, rfl⟩
   ·simp [oc1, p1, c2, w2, slotOf]
    exact hI _ _ ⟨_, _, rfl⟩
   ·simp [slotOf]
    exact hQ _ _ ⟨_, rfl, rfl⟩
  obtain ⟨r, H', e, u, rfl, rfl⟩ := OptP.ex key
  exact ⟨u, _, e, j2, f1.trans f2⟩
 | sum x y ih1 ih2 =>
  intro b o d H R hJ hL hb ho hd hlR hs eA eB hrl
  obtain ⟨h1, h2, h3, h4⟩ := id hL
  simp only [objs] at hb
  simp only [Ty.own] at ho
  simp only [Ty.data] at hd
  simp only [Ty.size] at hs
  have hoy := objs_pos y
  have hbx := x.both_size
  have hby := y.both_size
  have p0 := part_sum0 (o := o) (d := d) hL (by omega) (by omega)
  obtain ⟨u1, H1, c1, j1, f1⟩ := ih1 (b + 1) (o + 1) d H R hJ h3 (by omega) (by omega) (by omega) hlR (by omega) eA eB hrl
  have l1 := shS_len A B x (o + 1) d R
  have hL1 := hL.off f1 (by simp only [objs]; omega)
  have p1 := part_sum1 (o := o) (d := d) hL1 (by omega) (by omega) (by omega)
  obtain ⟨g1, g2, g3, g4⟩ := id hL1
  obtain ⟨u2, H2, c2, j2, f2⟩ := ih2 (b + 2 + objs x) (o + 1 + x.own) (d + x.data) H1 _ j1 g4 (by omega) (by omega) (by omega) (by omega) (by omega) (by omega) (by omega) (fun j => (l1.2 j).trans (hrl j))
  rw [l1.1] at f2
  have ob := objCells_of h1
  have ob1 := objCells_of g1
  have oc := objCells_of hJ.h13
  have oc1 := objCells_of j1.h13
  rw [RO] at p0 p1
  have w1 : IntKind.i64.wrap 1 = 1 := rfl
  have w2 : IntKind.i64.wrap (1 + 1) = 2 := rfl
  have key : CallP gl Trnx.aprog 72 [spotV b o d, .ref c7 0 1, .ref c11 0 1, .ref c6 0 1, .ref c13 0 1] H (fun r H' => ∃ u, r = .ret u ∧ H' = H2) := by
   refine call_ofQ (af := Trnx.a72) rfl rfl fun Q hQ => ?_
   simp only [Trnx.a72]
   simp [ob, slotOf]
   refine loop_nQ 2 (fun i c => ∃ s8 fl, c = ⟨[spotV b o d, .ref c7 0 1, .ref c11 0 1, .ref c6 0 1, .ref c13 0 1, spotV b o d, .undef, .undef, s8, .undef, .undef, .int .i64 2, .int .i64 i], [], fl, none, if i = 0 then H else if i = 1 then H1 else H2⟩) ?_ ⟨_, _, rfl⟩
   rintro I hI i c hi ⟨s8, fl, rfl⟩
   have hi3 : i = 0 ∨ i = 1 ∨ i = 2 := by omega
   rcases hi3 with rfl | rfl | rfl
   ·simp [oc, p0, c1, w1, slotOf]
    exact hI _ _ ⟨_, _, rfl⟩
   ·simp [oc1, p1, c2, w2, slotOf]
    exact hI _ _ ⟨_, _, rfl⟩
   ·simp [slotOf]
    exact hQ _ _ ⟨_, rfl, rfl⟩
  obtain ⟨r, H', e, u, rfl, rfl⟩ := OptP.ex key
  exact ⟨u, _, e, j2, f1.trans f2⟩
 | seq x ih =>
  intro b o d H R hJ hL hb ho hd hlR hs eA eB hrl
  obtain ⟨h1, h2, h3⟩ := id hL
  simp only [objs] at hb
  simp only [Ty.own] at ho
  simp only [Ty.data] at hd
  simp only [Ty.size] at hs
  have hox := objs_pos x
  have hbx := x.both_size
  have p0 := part_seq hL 0 (o := o) (d := d) (by omega) (by omega) (by omega)
  have r74 := ro74_q h3
  have ob := objCells_of h1
  rw [RO] at p0 r74
  have w1 : IntKind.i64.wrap 1 = 1 := rfl
  have key : CallP gl Trnx.aprog 72 [spotV b o d, .ref c7 0 1, .ref c11 0 1, .ref c6 0 1, .ref c13 0 1] H (fun r H' => ∃ u, r = .ret u ∧ JoH H' c7 c11 c6 c13 O f0 vA vB (shS A B (.seq x) o d R) ∧ Off H H' f0 R.length) := by
   refine call_ofQ (af := Trnx.a72) rfl rfl fun Q hQ => ?_
   simp only [Trnx.a72]
   by_cases h0 : x.own = 0
   ·have f0' := Off.refl H f0 R.length
    have hlen1 : R.length = R.length := rfl
    have hrl1 := hrl
    have hgt : ¬ 0 < x.own := by omega
    simp [ob, p0, r74, hgt, slotOf]
    have gL := hL.off (Off.refl H f0 R.length) (by simp only [objs]; omega)
    obtain ⟨g1, g2, g3⟩ := id gL
    have p0' := part_seq gL 0 (o := o) (d := d) (by omega) (by omega) (by omega)
    rw [RO] at p0'
    have ob1 := objCells_of g1
    have oc1 := objCells_of (hJ).h13
    obtain ⟨u1, H2, c1, j2, f2⟩ := ih (b + 1) d (d + x.own) H R hJ g3 (by omega) (by omega) (by omega) (by omega) (by omega) (by omega) (by omega) hrl1
    rw [hlen1] at f2
    refine loop_nQ 1 (fun i c => ∃ s8 fl, c = ⟨[spotV b o d, .ref c7 0 1, .ref c11 0 1, .ref c6 0 1, .ref c13 0 1, spotV b o d, .agg [.ref (b + 1) 0 1, .int .i64 d, .int .i64 ((d : Int) + x.own)], .undef, s8, .undef, .undef, .int .i64 1, .int .i64 i], [], fl, none, if i = 0 then H else H2⟩) ?_ ⟨_, _, rfl⟩
    rintro I hI i c hi ⟨s8, fl, rfl⟩
    have hi3 : i = 0 ∨ i = 1 := by omega
    rcases hi3 with rfl | rfl
    ·simp [oc1, p0', c1, w1, slotOf]
     exact hI _ _ ⟨_, _, rfl⟩
    ·simp [slotOf]
     exact hQ _ _ ⟨_, rfl, by simp only [shS]; rw [if_pos h0]; exact j2, f2⟩
   ·have hgt : (0 : Int) < x.own := by omega
    have o7 := objCells_of hJ.h7
    have lo : o < R.length := by omega
    have ld : d < R.length := by omega
    obtain ⟨wb, b1, b2⟩ := hB.idx (i := o) (by omega)
    have hlb := b2.len'
    have hgn : 0 < x.own := by omega
    have hroA := hrl o
    obtain ⟨wa, a1, a2⟩ := hA.idx (i := o) (by omega)
    obtain ⟨wd, d1, d2⟩ := hA.idx (i := d) (by omega)
    have hla := a2.len'
    have hld := d2.len'
    have gB : B.getD o [] = B[o] := by simp [show o < B.length by omega]
    have gA : A.getD o [] = A[o] := by simp [show o < A.length by omega]
    have gD : A.getD d [] = A[d] := by simp [show d < A.length by omega]
    have bA := lA _ (List.getElem_mem (show o < A.length by omega))
    have bD := lA _ (List.getElem_mem (show d < A.length by omega))
    have bB := lB _ (List.getElem_mem (show o < B.length by omega))
    rw [gA, gB] at hroA
    simp [ob, p0, r74, hgn, o7, b1, hlb, slotOf]
    refine loop_nQ B[o].length (fun k c => ∃ s7 fl H1, c = ⟨[spotV b o d, .ref c7 0 1, .ref c11 0 1, .ref c6 0 1, .ref c13 0 1, spotV b o d, .agg [.ref (b + 1) 0 1, .int .i64 d, .int .i64 ((d : Int) + x.own)], s7, .undef, .int .i64 B[o].length, .int .i64 k, .undef, .undef], [], fl, none, H1⟩ ∧
     JoH H1 c7 c11 c6 c13 O f0 vA vB (R.set o (shk (R.getD o []) A[o].length A[d].length k)) ∧ Off H H1 f0 R.length) ?_ ⟨.undef, none, H, rfl, by
      rw [show R.set o (shk (R.getD o []) A[o].length A[d].length 0) = R by simp [shk, lo]]; exact hJ, Off.refl _ _ _⟩
    rintro I hI k c hk ⟨s7, fl, H1, rfl, j1, f1⟩
    obtain ⟨r, hr⟩ : ∃ r, r = shk (R.getD o []) A[o].length A[d].length k := ⟨_, rfl⟩
    have hrn : r.length = A[o].length + B[o].length := by rw [hr, shk_len, hroA]
    rw [← hr] at j1
    by_cases hlt : k < B[o].length
    ·have hlt' : (k : Int) < B[o].length := by omega
     have lr : o < (R.set o r).length := by simpa using lo
     have hro : (R.set o r)[o] = r := by simp
     have k11 := load_cell j1.h11
     have k6 := load_cell j1.h6
     have xo := out_idx (O := O) (n := (R.set o r).length) lr
     have xl := j1.rows.load lr
     have xi := hdf_idx (f0 := f0) (j := o) (k := A[o].length + k) (r := r) (by omega)
     have xc := j1.rows.cell (j := o) (k := A[o].length + k) lr (by rw [hro]; omega)
     have xs := j1.rows.store (j := o) (k := A[o].length + k) lr (by rw [hro]; omega) (IntKind.i64.wrap (r.getD (A[o].length + k) 0 + A[d].length))
     have xt := j1.rows.at lr (r.set (A[o].length + k) (IntKind.i64.wrap (r.getD (A[o].length + k) 0 + A[d].length))) (by simp [hro])
     simp only [hro] at xl xc xs xt
     rw [List.set_set] at xt
     have hlr : (R.set o r).length = R.length := by simp
     rw [hlr] at xt
     rw [show r[A[o].length + k]'(by omega) = r.getD (A[o].length + k) 0 by simp [show A[o].length + k < r.length by omega]] at xc
     have wk : IntKind.i64.wrap ((A[o].length : Int) + k) = ((A[o].length + k : Nat) : Int) := by rw [wrap64 (by omega) (by omega)]; rfl
     have wk1 : IntKind.i64.wrap ((k : Int) + 1) = (k : Int) + 1 := wrap64 (by omega) (by omega)
     have v1 := load_pv H1 wa
     have v2 := load_pv H1 wd
     have hI := hI (k + 1) ⟨[spotV b o d, .ref c7 0 1, .ref c11 0 1, .ref c6 0 1, .ref c13 0 1, spotV b o d, .agg [.ref (b + 1) 0 1, .int .i64 d, .int .i64 ((d : Int) + x.own)], .int .i64 k, .undef, .int .i64 B[o].length, .int .i64 ((k : Int) + 1), .undef, .undef], [], none, none, _⟩ ⟨_, none, _, rfl, by
      rw [shk, ← hr]
      exact j1.off (by rw [hlr]; exact xt.2) xt.1 (by rw [hlr, List.length_set]), f1.trans xt.2⟩
     rw [hlr] at k11 xo xl
     generalize H1.set (f0 + o) (.cells (r.set (A[o].length + k) (IntKind.i64.wrap (r.getD (A[o].length + k) 0 + A[d].length))).length 1 (icells (r.set (A[o].length + k) (IntKind.i64.wrap (r.getD (A[o].length + k) 0 + A[d].length))))) = H3 at *
     generalize r.getD (A[o].length + k) 0 = z at *
     simp [hlt', k11, k6, xo, xl, xi, xc, xs, a1, d1, v1, v2, hla, hld, wk, wk1, slotOf, -loadV, -Int.natCast_add]
     exact ⟨hlt, hI⟩
    ·have hkB : k = B[o].length := by omega
     have hlen1 : (R.set o r).length = R.length := by simp
     have hrl1 : ∀ j, ((R.set o r).getD j []).length = (A.getD j []).length + (B.getD j []).length := fun j => (set_row_len R o r (by rw [hrn, hroA]) j).trans (hrl j)
     have hsh : shS A B (.seq x) o d R = shS A B x d (d + x.own) (R.set o r) := by simp only [shS]; rw [if_neg h0, gA, gB, gD, hr, hkB]
     have gL := hL.off f1 (by simp only [objs]; omega)
     obtain ⟨g1, g2, g3⟩ := id gL
     have p0' := part_seq gL 0 (o := o) (d := d) (by omega) (by omega) (by omega)
     rw [RO] at p0'
     have ob1 := objCells_of g1
     have oc1 := objCells_of (j1).h13
     obtain ⟨u1, H2, c1, j2, f2⟩ := ih (b + 1) d (d + x.own) H1 (R.set o r) j1 g3 (by omega) (by omega) (by omega) (by omega) (by omega) (by omega) (by omega) hrl1
     rw [hlen1] at f2
     simp [ob1, hlt, slotOf]
     refine loop_nQ 1 (fun i c => ∃ s8 fl, c = ⟨[spotV b o d, .ref c7 0 1, .ref c11 0 1, .ref c6 0 1, .ref c13 0 1, spotV b o d, .agg [.ref (b + 1) 0 1, .int .i64 d, .int .i64 ((d : Int) + x.own)], s7, s8, .int .i64 B[o].length, .int .i64 k, .int .i64 1, .int .i64 i], [], fl, none, if i = 0 then H1 else H2⟩) ?_ ⟨_, _, rfl⟩
     rintro I hI i c hi ⟨s8, fl, rfl⟩
     have hi3 : i = 0 ∨ i = 1 := by omega
     rcases hi3 with rfl | rfl
     ·simp [oc1, p0', c1, w1, slotOf]
      exact hI _ _ ⟨_, _, rfl⟩
     ·simp [slotOf]
      exact hQ _ _ ⟨_, rfl, by rw [hsh]; exact j2, f1.trans f2⟩
  obtain ⟨r, H', e, u, rfl, j, f⟩ := OptP.ex key
  exact ⟨u, _, e, j, f⟩
end Go.Proofs.Nst
set_option linter.unusedVariables false
set_option linter.unusedSimpArgs false
namespace Go.Proofs.Nst
open Go Go.Am
theorem shk_eq (a b : List Int) (P : Int) : shk (a ++ b) a.length P b.length = a ++ b.map (fun x => IntKind.i64.wrap (x + P)) := by
 have gen : ∀ k, k ≤ b.length → shk (a ++ b) a.length P k = a ++ ((b.take k).map (fun x => IntKind.i64.wrap (x + P)) ++ b.drop k) := by
  intro k
  induction k with
  | zero => intro _; simp [shk]
  | succ k ih =>
   intro hk
   have hk' : k < b.length := by omega
   have hd : b.drop k = b[k] :: b.drop (k + 1) := List.drop_eq_getElem_cons hk'
   have hl : ((b.take k).map fun x => IntKind.i64.wrap (x + P)).length = k := by simp; omega
   rw [shk, ih (by omega), hd]
   have hg : (a ++ ((b.take k).map (fun x => IntKind.i64.wrap (x + P)) ++ b[k] :: b.drop (k + 1))).getD (a.length + k) 0 = b[k] := by
    rw [List.getD_eq_getElem?_getD, List.getElem?_append_right (by omega), Nat.add_sub_cancel_left, List.getElem?_append_right (by omega), hl, Nat.sub_self]
    rfl
   rw [hg, List.set_append_right _ _ (by omega), Nat.add_sub_cancel_left, List.set_append_right _ _ (by omega), hl, ← List.take_append_getElem hk', List.map_append, Nat.sub_self, List.set_cons_zero, List.append_assoc]
   rfl
 rw [gen _ (Nat.le_refl _)]
 simp
abbrev cut (A : List (List Int)) (o n : Nat) : List (List Int) := (A.drop o).take n
theorem cut_take (A : List (List Int)) (o n m : Nat) (h : m ≤ n) : (cut A o n).take m = cut A o m := by
 rw [List.take_take, Nat.min_eq_left h]
theorem cut_drop (A : List (List Int)) (o n m : Nat) : (cut A o n).drop m = cut A (o + m) (n - m) := by
 rw [List.drop_take, List.drop_drop]
abbrev Jn (A B : List (List Int)) (τ : Ty) (o d : Nat) : List (List Int) × List (List Int) := jn τ (cut A o τ.own) (cut A d τ.data) (cut B o τ.own) (cut B d τ.data)
theorem getD_app_l {X Y : List (List Int)} {j : Nat} (h : j < X.length) : (X ++ Y).getD j [] = X.getD j [] := by
 rw [List.getD_eq_getElem?_getD, List.getElem?_append_left h, List.getD_eq_getElem?_getD]
theorem getD_app_r {X Y : List (List Int)} {n j : Nat} (h : X.length = n) (hj : n ≤ j) : (X ++ Y).getD j [] = Y.getD (j - n) [] := by
 subst h
 rw [List.getD_eq_getElem?_getD, List.getElem?_append_right hj, List.getD_eq_getElem?_getD]
theorem Jn_pair (A B : List (List Int)) (x y : Ty) (o d : Nat) : Jn A B (.pair x y) o d = ((Jn A B x o d).1 ++ (Jn A B y (o + x.own) (d + x.data)).1, (Jn A B x o d).2 ++ (Jn A B y (o + x.own) (d + x.data)).2) := by
 simp only [Jn, jn, Ty.own, Ty.data, cut_take _ _ _ _ (Nat.le_add_right _ _), cut_drop, Nat.add_sub_cancel_left]
theorem Jn_sum (A B : List (List Int)) (x y : Ty) (o d : Nat) : Jn A B (.sum x y) o d = ((A.getD o [] ++ B.getD o []) :: ((Jn A B x (o + 1) d).1 ++ (Jn A B y (o + 1 + x.own) (d + x.data)).1), (Jn A B x (o + 1) d).2 ++ (Jn A B y (o + 1 + x.own) (d + x.data)).2) := by
 have e1 : 1 + x.own + y.own - 1 = x.own + y.own := by omega
 have e3 : ∀ X : List (List Int), (cut X o (1 + x.own + y.own)).getD 0 [] = X.getD o [] := fun X => by
  rw [getD_cut _ _ _ _ (by omega)]
  rfl
 simp only [Jn, jn, Ty.own, Ty.data, cut_take _ _ _ _ (Nat.le_add_right _ _), e1, e3, cut_drop, Nat.add_sub_cancel_left]
theorem Jn_seq (A B : List (List Int)) (x : Ty) (o d : Nat) : Jn A B (.seq x) o d = ([A.getD o [] ++ (if x.own = 0 then B.getD o [] else (B.getD o []).map (fun z => IntKind.i64.wrap (z + (A.getD d []).length))), A.getD (o + 1) [] ++ B.getD (o + 1) []], (Jn A B x d (d + x.own)).1 ++ (Jn A B x d (d + x.own)).2) := by
 have e3 : ∀ (X : List (List Int)) j, j < 2 → (cut X o 2).getD j [] = X.getD (o + j) [] := fun X j hj => getD_cut _ _ _ _ hj
 simp only [Jn, jn, Ty.own, Ty.data, cut_take _ _ _ _ (Nat.le_add_right _ _), cut_drop, Nat.add_sub_cancel_left, e3 _ 0 (by omega), e3 _ 1 (by omega), Nat.add_zero]
 by_cases h : x.own = 0
 ·simp only [if_pos h]
 ·simp only [if_neg h]
  rw [headD_cut _ _ _ (by omega)]
def inR (τ : Ty) (o d j : Nat) : Prop := (o ≤ j ∧ j < o + τ.own) ∨ (d ≤ j ∧ j < d + τ.data)
theorem shS_jn (A B : List (List Int)) : ∀ (τ : Ty) (o d : Nat) (R : List (List Int)), o + τ.own ≤ d → d + τ.data ≤ R.length → (∀ j, inR τ o d j → R.getD j [] = A.getD j [] ++ B.getD j []) →
  (∀ j, ¬ inR τ o d j → (shS A B τ o d R).getD j [] = R.getD j []) ∧ (∀ j, j < τ.own → (shS A B τ o d R).getD (o + j) [] = (Jn A B τ o d).1.getD j []) ∧ (∀ j, j < τ.data → (shS A B τ o d R).getD (d + j) [] = (Jn A B τ o d).2.getD j [])
 | .unit, o, d, R, _, _, _ => ⟨fun _ _ => rfl, fun j hj => by simp [Ty.own] at hj, fun j hj => by simp [Ty.data] at hj⟩
 | .int, o, d, R, _, _, hr => by
  refine ⟨fun _ _ => rfl, fun j hj => ?_, fun j hj => by simp [Ty.data] at hj⟩
  simp only [Ty.own] at hj
  obtain rfl : j = 0 := by omega
  simp only [shS]
  rw [hr _ (.inl ⟨by omega, by simp [Ty.own]⟩)]
  simp only [Jn, jn, Ty.own, List.getD_cons_zero]
  rw [getD_cut _ _ _ _ (by omega), getD_cut _ _ _ _ (by omega)]
 | .pair x y, o, d, R, ho, hd, hr => by
  simp only [Ty.own] at ho
  simp only [Ty.data] at hd
  have hin : ∀ j, inR (.pair x y) o d j ↔ inR x o d j ∨ inR y (o + x.own) (d + x.data) j := fun j => by
   simp only [inR, Ty.own, Ty.data]
   omega
  have hdis : ∀ j, inR x o d j → ¬ inR y (o + x.own) (d + x.data) j := fun j => by simp only [inR]; omega
  obtain ⟨a1, a2, a3⟩ := shS_jn A B x o d R (by omega) (by omega) (fun j hj => hr j ((hin j).2 (.inl hj)))
  have l1 := shS_len A B x o d R
  obtain ⟨b1, b2, b3⟩ := shS_jn A B y (o + x.own) (d + x.data) (shS A B x o d R) (by omega) (by rw [l1.1]; omega) (fun j hj => by
   rw [a1 j (fun h => hdis j h hj)]
   exact hr j ((hin j).2 (.inr hj)))
  have jl := jn_len x (cut A o x.own) (cut A d x.data) (cut B o x.own) (cut B d x.data)
  rw [Jn_pair]
  refine ⟨fun j hj => ?_, fun j hj => ?_, fun j hj => ?_⟩
  ·rw [hin] at hj
   simp only [shS]
   rw [b1 j (fun h => hj (.inr h)), a1 j (fun h => hj (.inl h))]
  ·simp only [Ty.own] at hj
   simp only [shS]
   by_cases e : j < x.own
   ·rw [b1 _ (hdis _ (.inl ⟨by omega, by omega⟩)), a2 j e, getD_app_l (by rw [jl.1]; exact e)]
   ·rw [getD_app_r jl.1 (by omega), ← b2 (j - x.own) (by omega)]
    congr 1
    omega
  ·simp only [Ty.data] at hj
   simp only [shS]
   by_cases e : j < x.data
   ·rw [b1 _ (hdis _ (.inr ⟨by omega, by omega⟩)), a3 j e, getD_app_l (by rw [jl.2]; exact e)]
   ·rw [getD_app_r jl.2 (by omega), ← b3 (j - x.data) (by omega)]
    congr 1
    omega
 | .sum x y, o, d, R, ho, hd, hr => by
  simp only [Ty.own] at ho
  simp only [Ty.data] at hd
  have hin : ∀ j, inR (.sum x y) o d j ↔ j = o ∨ inR x (o + 1) d j ∨ inR y (o + 1 + x.own) (d + x.data) j := fun j => by
   simp only [inR, Ty.own, Ty.data]
   omega
  have hdis : ∀ j, inR x (o + 1) d j → ¬ inR y (o + 1 + x.own) (d + x.data) j := fun j => by simp only [inR]; omega
  have h0x : ¬ inR x (o + 1) d o := by simp only [inR]; omega
  have h0y : ¬ inR y (o + 1 + x.own) (d + x.data) o := by simp only [inR]; omega
  obtain ⟨a1, a2, a3⟩ := shS_jn A B x (o + 1) d R (by omega) (by omega) (fun j hj => hr j ((hin j).2 (.inr (.inl hj))))
  have l1 := shS_len A B x (o + 1) d R
  obtain ⟨b1, b2, b3⟩ := shS_jn A B y (o + 1 + x.own) (d + x.data) (shS A B x (o + 1) d R) (by omega) (by rw [l1.1]; omega) (fun j hj => by
   rw [a1 j (fun h => hdis j h hj)]
   exact hr j ((hin j).2 (.inr (.inr hj))))
  have jl := jn_len x (cut A (o + 1) x.own) (cut A d x.data) (cut B (o + 1) x.own) (cut B d x.data)
  rw [Jn_sum]
  refine ⟨fun j hj => ?_, fun j hj => ?_, fun j hj => ?_⟩
  ·rw [hin] at hj
   simp only [shS]
   rw [b1 j (fun h => hj (.inr (.inr h))), a1 j (fun h => hj (.inr (.inl h)))]
  ·simp only [Ty.own] at hj
   simp only [shS]
   cases j with
   | zero =>
    simp only [Nat.add_zero, List.getD_cons_zero]
    rw [b1 o h0y, a1 o h0x, hr o ((hin o).2 (.inl rfl))]
   | succ j =>
    simp only [List.getD_cons_succ]
    by_cases e : j < x.own
    ·rw [b1 _ (hdis _ (.inl ⟨by omega, by omega⟩)), getD_app_l (by rw [jl.1]; exact e), ← a2 j e]
     congr 1
     omega
    ·rw [getD_app_r jl.1 (by omega), ← b2 (j - x.own) (by omega)]
     congr 1
     omega
  ·simp only [Ty.data] at hj
   simp only [shS]
   by_cases e : j < x.data
   ·rw [b1 _ (hdis _ (.inr ⟨by omega, by omega⟩)), a3 j e, getD_app_l (by rw [jl.2]; exact e)]
   ·rw [getD_app_r jl.2 (by omega), ← b3 (j - x.data) (by omega)]
    congr 1
    omega
 | .seq x, o, d, R, ho, hd, hr => by
  simp only [Ty.own] at ho
  simp only [Ty.data] at hd
  have hin : ∀ j, inR (.seq x) o d j ↔ j = o ∨ j = o + 1 ∨ inR x d (d + x.own) j := fun j => by
   simp only [inR, Ty.own, Ty.data]
   omega
  have h0 : ¬ inR x d (d + x.own) o := by simp only [inR]; omega
  have h1 : ¬ inR x d (d + x.own) (o + 1) := by simp only [inR]; omega
  have hro := hr o ((hin o).2 (.inl rfl))
  obtain ⟨R1, hR1⟩ : ∃ R1, R1 = if x.own = 0 then R else R.set o (shk (R.getD o []) (A.getD o []).length (A.getD d []).length (B.getD o []).length) := ⟨_, rfl⟩
  have hlen : R1.length = R.length := by rw [hR1]; split <;> simp
  have hne : ∀ j, j ≠ o → R1.getD j [] = R.getD j [] := fun j hj => by
   rw [hR1]
   split
   ·rfl
   ·rw [List.getD_eq_getElem?_getD, List.getElem?_set_ne (by omega), List.getD_eq_getElem?_getD]
  have heq : R1.getD o [] = A.getD o [] ++ (if x.own = 0 then B.getD o [] else (B.getD o []).map (fun z => IntKind.i64.wrap (z + (A.getD d []).length))) := by
   rw [hR1]
   split
   ·exact hro
   ·rw [List.getD_eq_getElem?_getD, List.getElem?_set_self (by omega), hro, shk_eq]
    rfl
  obtain ⟨a1, a2, a3⟩ := shS_jn A B x d (d + x.own) R1 (by omega) (by omega) (fun j hj => by
   rw [hne j (by rintro rfl; exact h0 hj)]
   exact hr j ((hin j).2 (.inr (.inr hj))))
  have jl := jn_len x (cut A d x.own) (cut A (d + x.own) x.data) (cut B d x.own) (cut B (d + x.own) x.data)
  have hsh : shS A B (.seq x) o d R = shS A B x d (d + x.own) R1 := by simp only [shS, hR1]
  rw [Jn_seq, hsh]
  refine ⟨fun j hj => ?_, fun j hj => ?_, fun j hj => ?_⟩
  ·rw [hin] at hj
   rw [a1 j (fun h => hj (.inr (.inr h))), hne j (fun h => hj (.inl h))]
  ·simp only [Ty.own] at hj
   have hj : j = 0 ∨ j = 1 := by omega
   rcases hj with rfl | rfl
   ·simp only [Nat.add_zero, List.getD_cons_zero]
    rw [a1 o h0, heq]
   ·simp only [List.getD_cons_succ, List.getD_cons_zero]
    rw [a1 _ h1, hne _ (by omega)]
    exact hr _ ((hin _).2 (.inr (.inl rfl)))
  ·simp only [Ty.data] at hj
   by_cases e : j < x.own
   ·rw [a2 j e, getD_app_l (by rw [jl.1]; exact e)]
   ·rw [getD_app_r jl.1 (by omega), ← a3 (j - x.own) (by omega)]
    congr 1
    omega
end Go.Proofs.Nst
set_option linter.unusedVariables false
set_option linter.unusedSimpArgs false
namespace Go.Proofs.Nst
open Go Go.Am
theorem pure_ic (r : List Int) : pureL (icells r) = true := by
 rw [pureL_all]
 intro c hc
 obtain ⟨x, _, rfl⟩ := List.mem_map.1 hc
 rfl
theorem view_hds {H : Heap} : ∀ (f0 : Nat) (R : List (List Int)), (∀ j (hj : j < R.length), H[f0 + j]? = some (.cells R[j].length 1 (icells R[j]))) → viewL 0 H (hds f0 R) = some (R.map fun r => V.sv ((icells r).map fun x => [x]) false)
 | _, [], _ => rfl
 | f0, r :: R, h => by
  have h0 := h 0 (by simp)
  simp only [Nat.add_zero, List.getElem_cons_zero] at h0
  have ih := view_hds (f0 + 1) R fun j hj => by
   have := h (j + 1) (by simpa using hj)
   rw [show f0 + 1 + j = f0 + (j + 1) by omega]
   simpa using this
  have hp := pure_ic r
  have hch : chunks 1 r.length (icells r) = (icells r).map fun x => [x] := by
   have := chunks_single (icells r)
   rwa [List.length_map] at this
  have hv : viewV 0 H (.sl f0 0 r.length r.length 1 false) = some (.sv ((icells r).map fun x => [x]) false) := by
   simp only [viewV, objCells_of h0]
   rw [if_pos ⟨Nat.zero_le _, trivial, by omega, trivial, hp⟩]
   simp only [Nat.zero_mul, List.drop_zero, hch]
  simp only [hds, viewL, hv, ih, List.map_cons]
theorem view_rowsF {H : Heap} {O f0 : Nat} {R : List (List Int)} (h : RowsF H O f0 R) : ∃ u, view1 0 H (outV O R.length) = some u ∧ ListsV R u := by
 have ho := objCells_of h.out
 have hl := hds_len f0 R
 have hv := view_hds f0 R h.row
 refine ⟨.sv ((R.map fun r => V.sv ((icells r).map fun x => [x]) false).map fun x => [x]) false, ?_, _, .sv false, ?_⟩
 ·have hs : viewS 0 H (outV O R.length) = some (.sv ((R.map fun r => V.sv ((icells r).map fun x => [x]) false).map fun x => [x]) false) := by
   have hch : chunks 1 R.length (R.map fun r => V.sv ((icells r).map fun x => [x]) false) = (R.map fun r => V.sv ((icells r).map fun x => [x]) false).map fun x => [x] := by
    have := chunks_single (R.map fun r => V.sv ((icells r).map fun x => [x]) false)
    rwa [List.length_map] at this
   simp only [viewS, ho]
   rw [if_pos ⟨Nat.zero_le _, trivial, by omega, trivial⟩, hv]
   simp only [Option.map_some, Nat.zero_mul, List.drop_zero, hch]
  cases R with
  | nil =>
   simp only [view1, viewV, ho]
   rw [if_pos ⟨Nat.zero_le _, trivial, by simp, trivial, rfl⟩]
   rfl
  | cons r R =>
   have hn : viewV 0 H (outV O (r :: R).length) = none := by
    simp only [viewV, ho]
    rw [if_neg (fun hc => by
     have := hc.2.2.2.2
     simp [hds, pureL, pureV] at this)]
   rw [view1, hn, hs]
   rfl
 ·clear h ho hl hv
  induction R with
  | nil => exact .nil
  | cons r R ih => exact .cons (.sv false) ih
theorem RowsF.mono {H H' : Heap} {O f0 n : Nat} {R : List (List Int)} (h : RowsF H O f0 R) (he : ∀ (i : Nat) o, H[i]? = some o → H'[i]? = some o) : RowsF H' O f0 R := ⟨he _ _ h.out, fun j hj => he _ _ (h.row j hj), h.off⟩
theorem joined_ecf {ra rb : List Int} {wa wb : V} (ha : IntsV ra wa) (hb : IntsV rb wb) (H : Heap) (la : ra.length < 2 ^ 39) (lb : rb.length < 2 ^ 39) :
  ecallF (lim gl Trnx.aprog) H false (.func (.func 71) [] []) [.sv [[wa], [wb]] true] = some (.val (.sl H.length 0 (ra ++ rb).length (ra ++ rb).length 1 false) (H ++ [.cells (ra ++ rb).length 1 (icells (ra ++ rb))])) := by
 have := ecf_ret (joined71_c H [wa, wb] (.sv [[wa], [wb]] true) (.sv true) [icells ra, icells rb] (.cons ha (.cons hb .nil)) (by simp; omega) (by simp))
 rw [this]
 simp [icells]
end Go.Proofs.Nst
set_option linter.unusedVariables false
set_option linter.unusedSimpArgs false
namespace Go.Proofs.Nst
open Go Go.Am
theorem set_same {H : Heap} {i : Nat} {o : Am.Obj} (h : H[i]? = some o) : H.set i o = H := by
 refine List.ext_getElem? fun j => ?_
 by_cases e : i = j
 ·subst e; rw [List.getElem?_set_self (List.getElem?_eq_some_iff.1 h).1, h]
 ·rw [List.getElem?_set_ne e]
abbrev rowO (r : List Int) : Am.Obj := .cells r.length 1 (icells r)
def jH (H2 : Heap) (N : Nat) (Z : List (List Int)) (i : Nat) : Heap := H2 ++ (Am.Obj.cells N 1 (hds (H2.length + 2) (Z.take i) ++ List.replicate (N - i) V.nils) :: Am.Obj.cells 1 1 [outV H2.length N] :: (Z.take i).map rowO)
variable {H2 : Heap} {N : Nat} {Z : List (List Int)}
theorem jH_len {i : Nat} (h : i ≤ Z.length) : (jH H2 N Z i).length = H2.length + 2 + i := by simp [jH]; omega
theorem jH_old (i : Nat) {j : Nat} {o : Am.Obj} (h : H2[j]? = some o) : (jH H2 N Z i)[j]? = some o := get_app h
theorem jH_out (i : Nat) : (jH H2 N Z i)[H2.length]? = some (.cells N 1 (hds (H2.length + 2) (Z.take i) ++ List.replicate (N - i) V.nils)) := by simp [jH]
theorem jH_11 (i : Nat) : (jH H2 N Z i)[H2.length + 1]? = some (.cells 1 1 [outV H2.length N]) := by
 simp only [jH]
 rw [List.getElem?_append_right (by omega), Nat.add_sub_cancel_left]
 rfl
theorem jH_step {i : Nat} (h : i < Z.length) (hN : Z.length = N) : storeV (jH H2 N Z i ++ [rowO Z[i]]) (.ref H2.length i N) (.sl (jH H2 N Z i).length 0 Z[i].length Z[i].length 1 false) 1 = some (jH H2 N Z (i + 1)) := by
 have hl := hds_len (H2.length + 2) (Z.take i)
 have ht : (Z.take i).length = i := by simp; omega
 have ho := objCells_of (get_app (X := [rowO Z[i]]) (jH_out (H2 := H2) (N := N) (Z := Z) i))
 simp only [storeV, ho]
 have hrep : List.replicate (N - i) V.nils = V.nils :: List.replicate (N - (i + 1)) V.nils := by
  rw [show N - i = (N - (i + 1)) + 1 by omega]; rfl
 have hsp : splice (hds (H2.length + 2) (Z.take i) ++ List.replicate (N - i) V.nils) i [.sl (jH H2 N Z i).length 0 Z[i].length Z[i].length 1 false] = hds (H2.length + 2) (Z.take (i + 1)) ++ List.replicate (N - (i + 1)) V.nils := by
  rw [splice_1 _ _ _ (by simp [hl]; omega), hrep, List.set_append_right _ _ (by omega), hl, ht, Nat.sub_self, List.set_cons_zero, ← List.take_append_getElem h, hds_app, ht, jH_len (by omega), List.append_assoc]
  rfl
 have hc : (cellsV (V.sl (jH H2 N Z i).length 0 Z[i].length Z[i].length 1 false)) = [V.sl (jH H2 N Z i).length 0 Z[i].length Z[i].length 1 false] := rfl
 rw [hc, hsp, if_pos ⟨trivial, by simp [hl]; omega, rfl, rfl⟩]
 congr 1
 simp only [jH]
 rw [List.append_assoc, List.set_append_right _ _ (Nat.le_refl _), Nat.sub_self, List.cons_append, List.set_cons_zero, ← List.take_append_getElem h, List.map_append]
 rfl
theorem jH_rows (hN : Z.length = N) : RowsF (jH H2 N Z N) H2.length (H2.length + 2) Z := by
 have ht : Z.take N = Z := by rw [← hN, List.take_length]
 refine ⟨?_, fun j hj => ?_, .inl (by omega)⟩
 ·rw [jH_out, ht, Nat.sub_self, List.replicate_zero, List.append_nil, hN]
 ·simp only [jH, ht]
  rw [show H2.length + 2 + j = H2.length + (j + 2) by omega, List.getElem?_append_right (by omega), Nat.add_sub_cancel_left]
  simp [hj]
def joinE (τ : Ty) (n : Int) (A : List (List Int)) (m : Int) (B : List (List Int)) : Int := if bldE τ n A = 0 then bldE τ m B else bldE τ n A
theorem join_q {A B : List (List Int)} {vA vB : V} (hA : ListsV A vA) (hB : ListsV B vB) (lA : ∀ r ∈ A, r.length < 2 ^ 39) (lB : ∀ r ∈ B, r.length < 2 ^ 39) (lA2 : A.length < 2 ^ 39) (lB2 : B.length < 2 ^ 39)
  {t : Tr} {τ : Ty} (hτ : IsTy t τ) (ho : t.Ok) (h1 : τ.size ≤ 60) (h2 : τ.deep ≤ 12) {n m : Int} (hn : is64 n) (hm : is64 m) :
  ∃ u, PC 29 [.agg t.cs, .int .i64 n, vA, .int .i64 m, vB] (.tup [u, .int .i64 (joinE τ n A m B)]) ∧ ListsV (if joinE τ n A m B = 0 then shS A B τ 0 τ.own (zipA A B) else []) u := by
 have hcc := cells_tr ho
 have hbs := τ.both_size
 obtain ⟨H0, hH0⟩ : ∃ H0 : Heap, H0 = [.cells 1 1 [vA], .cells 1 1 [vB]] := ⟨_, rfl⟩
 have aH : AllC H0 := by rw [hH0]; intro o h; simp at h; rcases h with rfl | rfl <;> exact ⟨_, _, _, rfl⟩
 have cH : Closed H0 := by
  rw [hH0]
  intro o h
  simp only [List.mem_cons, List.not_mem_nil, or_false] at h
  rcases h with rfl | rfl
  ·exact okO_one _ (below_pure _ vA hA.pure) _ _
  ·exact okO_one _ (below_pure _ vB hB.pure) _ _
 have hb := bldH H0 τ
 have len0 : H0.length = 2 := by rw [hH0]; rfl
 obtain ⟨H2, hH2⟩ : ∃ H2, H2 = H0 ++ [.cells 1 1 [.int .i64 0]] ++ layL (H0.length + 1) τ := ⟨_, rfl⟩
 have hc := asked_ecf hτ ho h1 h2 (H0 ++ [.cells 1 1 [.int .i64 0]])
 simp only [List.length_append, List.length_singleton] at hc
 rw [← hH2] at hc hb
 rw [len0] at hc
 have hcl := hb.cell
 have hla := hb.lay
 have hl3 := hb.len
 rw [len0] at hcl hla hl3
 have e6 : H2[0]? = some (.cells 1 1 [vA]) := by rw [hH2, hH0]; rfl
 have e7 : H2[1]? = some (.cells 1 1 [vB]) := by rw [hH2, hH0]; rfl
 have hH0' : H0 ++ [.cells 1 1 [.int .i64 0]] = [.cells 1 1 [vA], .cells 1 1 [vB], .cells 1 1 [.int .i64 0]] := by rw [hH0]; rfl
 rw [hH0'] at hc
 have vac := hA.cell
 have vacs := hA.cells
 have vbc := hB.cell
 have vbcs := hB.cells
 have o6 := objCells_of e6
 have o7 := objCells_of e7
 have pa : pureL [.agg t.cs, .int .i64 n, vA, .int .i64 m, vB] = true := by simp [pureL, pureV, pure_tr ho, hA.pure, hB.pure]
 have hsz : objs τ + 3 = H2.length := by rw [hH2]; simp [layL_length, len0]; omega
 have key : CallP gl Trnx.aprog 29 [.agg t.cs, .int .i64 n, vA, .int .i64 m, vB] [] (fun r H' => ∃ w, r = .ret (.tup [w, .int .i64 (joinE τ n A m B)]) ∧
   ((joinE τ n A m B ≠ 0 ∧ w = .nils) ∨ (joinE τ n A m B = 0 ∧ ∃ O f0, w = outV O (shS A B τ 0 τ.own (zipA A B)).length ∧ RowsF H' O f0 (shS A B τ 0 τ.own (zipA A B))))) := by
  refine call_ofQ (af := Trnx.a29) rfl rfl fun Q hQ => ?_
  simp only [Trnx.a29]
  rcases built_use (hb.allC aH) (hb.closed cH) (below_pure _ vA hA.pure) (hA.regs H2) hla (by omega) lA2 lA hn with ⟨eA, uA, tA, cA, _⟩ | ⟨eA, G, cA, gl1⟩
  case inr =>
   obtain ⟨X, hX, oX⟩ := set_err hb aH gl1 (bldE τ n A)
   have d1 := caught_wrong H0.length (bldE τ n A) 0 G (gl1 _ _ _ _ hb.cell)
   rw [hX] at oX
   rw [len0] at d1 oX hX
   have hE : joinE τ n A m B = bldE τ n A := by simp only [joinE]; rw [if_neg eA]
   rw [hE] at hQ
   generalize bldE τ n A = q at *
   simp [hcc, hc, cA, d1, oX, hX, o6, storeV, vac, vacs, vbc, vbcs, slotOf, forget, AOper.writes, -ecallF, -List.all_eq_true]
   exact hQ _ _ ⟨.nils, rfl, .inl ⟨eA, rfl⟩⟩
  have hE : joinE τ n A m B = bldE τ m B := by simp only [joinE]; rw [if_pos eA]
  rw [hE] at hQ
  rcases built_use (hb.allC aH) (hb.closed cH) (below_pure _ vB hB.pure) (hB.regs H2) hla (by omega) lB2 lB hm with ⟨eB, uB, tB, cB, _⟩ | ⟨eB, G, cB, gl1⟩
  case inr =>
   obtain ⟨X, hX, oX⟩ := set_err hb aH gl1 (bldE τ m B)
   have d1 := caught_wrong H0.length (bldE τ m B) 0 G (gl1 _ _ _ _ hb.cell)
   rw [hX] at oX
   rw [len0] at d1 oX hX
   generalize bldE τ m B = q at *
   simp [hcc, hc, cA, cB, d1, oX, hX, o6, o7, storeV, vac, vacs, vbc, vbcs, slotOf, forget, AOper.writes, -ecallF, -List.all_eq_true]
   exact hQ _ _ ⟨.nils, rfl, .inl ⟨eB, rfl⟩⟩
  obtain ⟨_, rA, wA, sA, _, _⟩ := bld_all eA
  obtain ⟨_, rB, wB, sB, _, _⟩ := bld_all eB
  have hroom : room = 140737488355328 := by simp [room]
  obtain ⟨N, hN⟩ : ∃ N, N = τ.own + τ.data := ⟨_, rfl⟩
  have hNA : A.length = N := by omega
  have hNB : B.length = N := by omega
  have hlA := hA.len
  rw [hNA] at hlA
  have hZ : (zipA A B).length = N := by simp [zipA]; omega
  have g11 : objCells (H2 ++ [Am.Obj.cells N 1 (List.replicate N V.nils), Am.Obj.cells 1 1 [.nils]]) (H2.length + 1) = some (1, 1, [.nils]) := objCells_of (by
   rw [List.getElem?_append_right (by omega), Nat.add_sub_cancel_left]; rfl)
  have w24 : (N : Int) * 24 ≤ 140737488355328 := by omega
  have wN : (N : Int) ≤ 9223372036854775807 := by omega
  have hst : storeV (H2 ++ [Am.Obj.cells N 1 (List.replicate N V.nils), Am.Obj.cells 1 1 [.nils]]) (.ref (H2.length + 1) 0 1) (outV H2.length N) 1 = some (jH H2 N (zipA A B) 0) := by
   simp only [storeV, g11]
   simp [jH, hds]
  have jold : ∀ i j o, H2[j]? = some o → (jH H2 N (zipA A B) i)[j]? = some o := fun i j o h => jH_old i h
  have j0 := objCells_of (jold 0 _ _ e6)
  simp [hcc, hc, cA, cB, o6, o7, hlA, hroom, w24, wN, hst, j0, vac, vacs, vbc, vbcs, slotOf, -ecallF, -List.all_eq_true]
  refine loop_nQ N (fun i c => ∃ s12 fl, c = ⟨[.agg t.cs, .int .i64 n, vA, .int .i64 m, vB, .agg t.cs, .ref 0 0 1, .ref 1 0 1, .nils, .ref 2 0 1, .ref 3 0 1, .ref (H2.length + 1) 0 1, s12, .undef, .int .i64 N, .int .i64 i], [(.func (.func 52) [] [], [.ref 2 0 1])], fl, none, jH H2 N (zipA A B) i⟩) ?_ ⟨.undef, none, rfl⟩
  rintro I hI i c hi ⟨s12, fl, rfl⟩
  by_cases hlt : i < N
  ·have hlt' : (i : Int) < N := by omega
   have w1 : IntKind.i64.wrap ((i : Int) + 1) = (i : Int) + 1 := wrap64 (by omega) (by omega)
   obtain ⟨wa, a1, a2⟩ := hA.idx (i := i) (by omega)
   obtain ⟨wb, b1, b2⟩ := hB.idx (i := i) (by omega)
   have hcj := joined_ecf a2 b2 (jH H2 N (zipA A B) i) (lA _ (List.getElem_mem _)) (lB _ (List.getElem_mem _))
   have hzi : (zipA A B)[i]'(by omega) = A[i] ++ B[i] := by simp [zipA]
   have hss := jH_step (H2 := H2) (N := N) (Z := zipA A B) (i := i) (by omega) hZ
   rw [hzi] at hss
   have k6 := load_cell (jold i _ _ e6)
   have k7 := load_cell (jold i _ _ e7)
   have k11 := load_cell (jH_11 (H2 := H2) (N := N) (Z := zipA A B) i)
   have k11' := load_cell (get_app (X := [rowO (A[i] ++ B[i])]) (jH_11 (H2 := H2) (N := N) (Z := zipA A B) i))
   have v1 := load_pv (jH H2 N (zipA A B) i) wa
   have v2 := load_pv (jH H2 N (zipA A B) i) wb
   have xo := out_idx (O := H2.length) hlt
   have wac := SlV.cell a2
   have wacs := SlV.cells a2
   have wbc := SlV.cell b2
   have wbcs := SlV.cells b2
   have wap := SlV.pure a2
   have wbp := SlV.pure b2
   simp only [rowO] at k11' hss
   generalize A[i] ++ B[i] = q at *
   have hI := hI (i + 1) ⟨[.agg t.cs, .int .i64 n, vA, .int .i64 m, vB, .agg t.cs, .ref 0 0 1, .ref 1 0 1, .nils, .ref 2 0 1, .ref 3 0 1, .ref (H2.length + 1) 0 1, .int .i64 i, .undef, .int .i64 N, .int .i64 ((i : Int) + 1)], [(.func (.func 52) [] [], [.ref 2 0 1])], none, none, jH H2 N (zipA A B) (i + 1)⟩ ⟨_, _, rfl⟩
   generalize jH H2 N (zipA A B) (i + 1) = K2 at *
   generalize jH H2 N (zipA A B) i = K at *
   simp [hlt, hlt', k6, k7, k11, k11', a1, b1, v1, v2, xo, hcj, hss, w1, wac, wacs, wbc, wbcs, wap, wbp, fill, chunks, slotOf, -ecallF, -loadV]
   exact hI
  ·obtain rfl : i = N := by omega
   have hRF := jH_rows (H2 := H2) (N := i) (Z := zipA A B) hZ
   have hlen := jH_len (H2 := H2) (N := i) (Z := zipA A B) (i := i) (by omega)
   have k11 := jH_11 (H2 := H2) (N := i) (Z := zipA A B) i
   have q6 := jold i _ _ e6
   have q7 := jold i _ _ e7
   have q2 := jold i _ _ hcl
   have qL : LayD (jH H2 i (zipA A B) i) 3 τ := hla.ext fun k k1 k2 => by
    have : k < H2.length := by omega
    simp only [jH]
    rw [List.getElem?_append_left this]
   generalize jH H2 i (zipA A B) i = K at *
   obtain ⟨K2, hK2⟩ : ∃ K2, K2 = K ++ [Am.Obj.cells 1 1 [clo72 1 (H2.length + 1) 0 K.length]] := ⟨_, rfl⟩
   have up : ∀ j o, K[j]? = some o → K2[j]? = some o := fun j o h => by rw [hK2]; exact get_app h
   have c13 : K2[K.length]? = some (.cells 1 1 [clo72 1 (H2.length + 1) 0 K.length]) := by rw [hK2]; simp
   have hJ : JoH K2 1 (H2.length + 1) 0 K.length H2.length (H2.length + 2) vA vB (zipA A B) := ⟨hRF.mono (n := 0) up, up _ _ q7, by rw [hZ]; exact up _ _ k11, up _ _ q6, c13, .inl (by omega), .inl (by omega), .inl (by omega), .inr (by omega)⟩
   have qL2 : LayD K2 3 τ := qL.ext fun k k1 k2 => by
    have : k < K.length := by omega
    rw [hK2, List.getElem?_append_left this]
   have hgz : ∀ j, ((zipA A B).getD j []).length = (A.getD j []).length + (B.getD j []).length := fun j => by
    by_cases hj : j < i
    ·have : (zipA A B).getD j [] = A[j] ++ B[j] := by simp [zipA, List.getD_eq_getElem?_getD, List.getElem?_zipWith, hNA, hNB, hj]
     rw [this]
     simp [hNA, hNB, hj]
    ·simp [List.getD_eq_getElem?_getD, hj, hNA, hNB, hZ]
   obtain ⟨w72, K3, c72, j72, f72⟩ := join72_q hA hB lA lB τ 3 0 τ.own K2 (zipA A B) hJ qL2 (by omega) (by omega) (by omega) (by omega) (by omega) (by omega) (by omega) hgz
   have hsl := shS_len A B τ 0 τ.own (zipA A B)
   have r75 := ro75_q qL2
   have s13 : storeV (K ++ [Am.Obj.cells 1 1 [.nilf]]) (.ref K.length 0 1) (clo72 1 (H2.length + 1) 0 K.length) 1 = some K2 := by
    have : objCells (K ++ [Am.Obj.cells 1 1 [.nilf]]) K.length = some (1, 1, [.nilf]) := objCells_of (by simp)
    simp only [storeV, this]
    simp [hK2]
   have l13 := load_cell c13
   have k3 := load_cell j72.h11
   have z2 : K3[2]? = some (.cells 1 1 [.int .i64 0]) := (f72.2 2 (.inl (by omega))).trans (up _ _ q2)
   have zs : storeV K3 (.ref 2 0 1) (.int .i64 0) 1 = some K3 := by
    have := set_same z2
    simp only [storeV, objCells_of z2]
    simp [this]
   have zl := load_cell z2
   have d0 := caught_none 2 K3
   rw [RO] at r75
   simp [s13, l13, r75, c72, k3, zs, zl, d0, slotOf, -loadV]
   exact hQ _ _ ⟨_, by rw [eB], .inr ⟨eB, _, _, rfl, j72.rows⟩⟩
 obtain ⟨r, H', e, w, rfl, hw⟩ := OptP.ex key
 rcases hw with ⟨h0, rfl⟩ | ⟨h0, O, f0, rfl, hR⟩
 ·refine ⟨.nils, ?_, by rw [if_neg h0]; exact ListsV.nil⟩
  simp only [PC, pcall, callee_func, List.append_nil, List.nil_append]
  rw [if_pos pa, e]
  rfl
 ·obtain ⟨u, hu, hv⟩ := view_rowsF hR
  refine ⟨u, ?_, by rw [if_pos h0]; exact hv⟩
  simp only [PC, pcall, callee_func, List.append_nil, List.nil_append]
  rw [if_pos pa, e]
  have h3 : view1 0 H' (V.int IntKind.i64 (joinE τ n A m B)) = some (.int .i64 (joinE τ n A m B)) := rfl
  simp only [viewW, viewWL, hu, h3, Option.map_some]
end Go.Proofs.Nst
