/- Are two things the same? -/
import Derived.Test.YtncbmdeinohnbaaDoorFileT
/- Are two things the same? -/
set_option linter.unusedVariables false
set_option linter.unusedSimpArgs false
namespace Go.Proofs.FileA
open Go Go.Am
variable {gl : Nat → List V}

/-- a function says whether something holds -/
def Says (f : Nat) (args : List V) (P : Prop) : Prop := ∀ gl : Nat → List V, ∃ b : Bool, pcall (lim gl Tryd.aprog) (.func (.func f) [] []) args = some (.val (.bool b)) ∧ (b = true ↔ P)
theorem says_of {f : Nat} {args : List V} {P : Prop} (hp : pureL args = true) (h : ∀ gl : Nat → List V, CallP gl Tryd.aprog f args [] (fun r h' => ∃ b : Bool, r = .ret (.bool b) ∧ (b = true ↔ P))) : Says f args P := fun gl => by
  obtain ⟨r, h', e, b, rfl, hb⟩ := OptP.ex (h gl)
  exact ⟨b, pcall_of e hp (by simp [viewV]), hb⟩
theorem take_next {α : Type} {l m : List α} {i : Nat} (h1 : i < l.length) (h2 : i < m.length) (h : l.take i = m.take i) : l.take (i + 1) = m.take (i + 1) ↔ l[i] = m[i] := by
  rw [← List.take_append_getElem h1, ← List.take_append_getElem h2, h]
  simp only [List.append_cancel_left_eq, List.cons.injEq, and_true]
theorem take_all {α : Type} {l m : List α} {i : Nat} (h1 : i = l.length) (h : l.length = m.length) : l.take i = m.take i ↔ l = m := by
  rw [List.take_of_length_le (by omega), List.take_of_length_le (by omega)]

theorem intsV_len (l : List Int) : (intsV l).length = l.length := by simp [intsV]
theorem idx_ints {l : List Int} {v : V} (hv : SlV (intsV l) v) {i : Nat} (hi : i < l.length) : idxV v i 1 = some (.pv [.int .i64 l[i]]) := by
  rw [hv.idx]
  simp [intsV, hi]

theorem equal_q {l m : List Int} {v w : V} (hv : SlV (intsV l) v) (hw : SlV (intsV m) w) (hm : m.length < 2 ^ 46) : Says 69 [v, w] (l = m) := by
  have hlv := hv.len
  have hlw := hw.len
  rw [intsV_len] at hlv hlw
  refine says_of (by simp [pureL, hv.pure, hw.pure]) fun gl => ?_
  refine call_ofQ (af := Tryd.a69) rfl rfl fun Q hQ => ?_
  simp only [Tryd.a69]
  by_cases hll : l.length = m.length
  · have hlv' : lenV v = some (.int .i64 m.length) := by rw [hlv, hll]
    simp [hlv', hlw]
    refine loop_nQ m.length (fun i c => ∃ s : Bool, (s = true ↔ l.take i = m.take i) ∧ c = ⟨[v, w, .bool false, .bool s, .int .i64 i], [], none, none, []⟩) ?_ ⟨true, by simp, rfl⟩
    rintro I hI i c hi ⟨s, hs, rfl⟩
    cases s with
    | false =>
      simp [slotOf]
      refine hQ _ _ ⟨false, rfl, ?_⟩
      simp only [Bool.false_eq_true, false_iff] at hs ⊢
      exact fun h => hs (by rw [h])
    | true =>
      have hs := hs.1 rfl
      by_cases hlt : i < m.length
      · have hlt' : (i : Int) < m.length := by omega
        have hw3 : IntKind.i64.wrap ((i : Int) + 1) = ((i + 1 : Nat) : Int) := by rw [wrap64 (by omega) (by omega)]; rfl
        have htn := take_next (l := l) (m := m) (i := i) (by omega) hlt hs
        have hi1 := idx_ints hv (i := i) (by omega)
        have hi2 := idx_ints hw (i := i) (by omega)
        generalize l[i]'(by omega) = a at *
        generalize m[i] = b at *
        simp [hlv', hlt', hi1, hi2, hw3]
        exact ⟨hlt, hI _ _ ⟨a == b, by rw [htn]; simp, rfl⟩⟩
      · obtain rfl : i = m.length := by omega
        simp [hlv']
        refine hQ _ _ ⟨true, rfl, ?_⟩
        simp only [true_iff]
        exact (take_all hll.symm hll).1 hs
  · have hne : ((l.length : Int) == (m.length : Int)) = false := by simp; omega
    simp [hlv, hlw, hne]
    refine loop_nQ 0 (fun i c => c = ⟨[v, w, .bool false, .bool false, .int .i64 0], [], none, none, []⟩) ?_ rfl
    rintro I hI i c hi rfl
    simp [slotOf]
    refine hQ _ _ ⟨false, rfl, ?_⟩
    simp only [Bool.false_eq_true, false_iff]
    exact fun h => hll (by rw [h])

theorem All2.at {α : Type} {R : α → List V → Prop} {as : List α} {es : List (List V)} (h : All2 R as es) {i : Nat} (hi : i < as.length) : ∃ e, es[i]? = some e ∧ R as[i] e := by
  have hl := h.length
  have h2 : es[i]? = some (es[i]'(by omega)) := List.getElem?_eq_getElem (by omega)
  exact ⟨_, h2, h.get i _ _ (List.getElem?_eq_getElem hi) h2⟩
theorem idx_at {es : List (List V)} {v : V} (hv : SlV es v) {i : Nat} {e : List V} (he : es[i]? = some e) {sz : Nat} (hl : e.length = sz) : idxV v i sz = some (.pv e) := by
  rw [hv.idx]
  simp [he, hl]

theorem value_same (d : Nat) : ∀ (t u : T) (cs ds : List V), depth t ≤ d → IsT 2 0 t cs → IsT 2 0 u ds → Says 27 [.agg cs, .agg ds] (t = u) := by
  induction d with
  | zero => intro t u cs ds hd _ _; rw [depth_kids] at hd; omega
  | succ d ih =>
  intro t u cs ds hd ht hu
  have hp1 := isT_pure ht
  have hp2 := isT_pure hu
  have hdk : ∀ k ∈ t.kids, depth k ≤ d := by rw [depth_kids] at hd; exact depths_le.1 (by omega)
  refine says_of (by simp [pureL, pureV, hp1, hp2]) fun gl => ?_
  cases t with
  | mk ns ls l =>
  cases u with
  | mk ms ks m =>
  simp only [IsT] at ht hu
  obtain ⟨ha, hb, hn, vs, v, es, rfl, hls, hv, hkl, hts⟩ := ht
  obtain ⟨ha', hb', hn', vs', w, fs, rfl, hls', hw, hkl', hts'⟩ := hu
  simp only [T.kids] at hdk
  match ns, ls, ms, ks, ha, hb, ha', hb' with
  | [k0, k1], [], [j0, j1], [], _, _, _, _ =>
    simp only [IsLists] at hls hls'
    subst hls
    subst hls'
    have hall := isTs_all hts
    have hall' := isTs_all hts'
    have hlv : lenV v = some (.int .i64 l.length) := by rw [hv.len, hall.length]
    have hlw : lenV w = some (.int .i64 m.length) := by rw [hw.len, hall'.length]
    unfold small at hkl'
    refine call_ofQ (af := Tryd.a27) rfl rfl fun Q hQ => ?_
    simp only [Tryd.a27]
    simp only [T.mk.injEq, List.cons.injEq, and_true, true_and] at hQ
    by_cases hk0 : k0 = j0
    case neg =>
      have hne : (k0 == j0) = false := by simpa using hk0
      simp [hv.cell, hw.cell, hne, slotOf]
      refine loop_nQ 0 (fun i c => c = ⟨[.agg [.int .i64 k0, .int .i64 k1, v], .agg [.int .i64 j0, .int .i64 j1, w], .agg [.int .i64 k0, .int .i64 k1, v], .agg [.int .i64 j0, .int .i64 j1, w], .bool false, .bool false, .int .i64 0], [], none, none, []⟩) ?_ rfl
      rintro I hI i c hi rfl
      simp [slotOf, hv.cell, hw.cell]
      refine hQ _ _ ⟨false, rfl, ?_⟩
      simp only [Bool.false_eq_true, false_iff]
      exact fun h => hk0 h.1.1
    subst hk0
    by_cases hk1 : k1 = j1
    case neg =>
      have hne : (k1 == j1) = false := by simpa using hk1
      simp [hv.cell, hw.cell, hne, slotOf]
      refine loop_nQ 0 (fun i c => c = ⟨[.agg [.int .i64 k0, .int .i64 k1, v], .agg [.int .i64 k0, .int .i64 j1, w], .agg [.int .i64 k0, .int .i64 k1, v], .agg [.int .i64 k0, .int .i64 j1, w], .bool false, .bool false, .int .i64 0], [], none, none, []⟩) ?_ rfl
      rintro I hI i c hi rfl
      simp [slotOf, hv.cell, hw.cell]
      refine hQ _ _ ⟨false, rfl, ?_⟩
      simp only [Bool.false_eq_true, false_iff]
      exact fun h => hk1 h.1.2
    subst hk1
    by_cases hll : l.length = m.length
    case neg =>
      have hne : ((l.length : Int) == (m.length : Int)) = false := by simp; omega
      simp [hv.cell, hw.cell, hlv, hlw, hne, slotOf]
      refine loop_nQ 0 (fun i c => c = ⟨[.agg [.int .i64 k0, .int .i64 k1, v], .agg [.int .i64 k0, .int .i64 k1, w], .agg [.int .i64 k0, .int .i64 k1, v], .agg [.int .i64 k0, .int .i64 k1, w], .bool false, .bool false, .int .i64 0], [], none, none, []⟩) ?_ rfl
      rintro I hI i c hi rfl
      simp [slotOf, hv.cell, hw.cell]
      refine hQ _ _ ⟨false, rfl, ?_⟩
      simp only [Bool.false_eq_true, false_iff]
      exact fun h => hll (by rw [h.2])
    have hlv' : lenV v = some (.int .i64 m.length) := by rw [hlv, hll]
    simp [hv.cell, hw.cell, hlv', hlw, slotOf]
    refine loop_nQ m.length (fun i c => ∃ s : Bool, (s = true ↔ l.take i = m.take i) ∧ c = ⟨[.agg [.int .i64 k0, .int .i64 k1, v], .agg [.int .i64 k0, .int .i64 k1, w], .agg [.int .i64 k0, .int .i64 k1, v], .agg [.int .i64 k0, .int .i64 k1, w], .bool false, .bool s, .int .i64 i], [], none, none, []⟩) ?_ ⟨true, by simp, rfl⟩
    rintro I hI i c hi ⟨s, hs, rfl⟩
    cases s with
    | false =>
      simp [slotOf, hv.cell, hw.cell]
      refine hQ _ _ ⟨false, rfl, ?_⟩
      simp only [Bool.false_eq_true, false_iff] at hs ⊢
      exact fun h => hs (by rw [h.2])
    | true =>
      have hs := hs.1 rfl
      by_cases hlt : i < m.length
      · have hlt' : (i : Int) < m.length := by omega
        have hw3 : IntKind.i64.wrap ((i : Int) + 1) = ((i + 1 : Nat) : Int) := by rw [wrap64 (by omega) (by omega)]; rfl
        have htn := take_next (l := l) (m := m) (i := i) (by omega) hlt hs
        obtain ⟨e, he, hR⟩ := hall.at (i := i) (by omega)
        obtain ⟨e', he', hR'⟩ := hall'.at (i := i) hlt
        obtain ⟨hc1, hc2⟩ := isT_cells hR
        obtain ⟨hc1', hc2'⟩ := isT_cells hR'
        have hi1 := idx_at hv he (sz := 3) hc1
        have hi2 := idx_at hw he' (sz := 3) hc1'
        obtain ⟨b, hb, hbq⟩ := ih _ _ e e' (hdk _ (List.getElem_mem (by omega))) hR hR' gl
        have ht1 : e.take 3 = e := List.take_of_length_le (by omega)
        have ht2 : e'.take 3 = e' := List.take_of_length_le (by omega)
        rw [← htn] at hbq
        simp [hv.cell, hw.cell, hlv', hlw, hlt', hi1, hi2, hc1, hc1', ht1, ht2, hb, hw3, -pcall, -List.all_eq_true]
        exact ⟨hlt, hI _ _ ⟨b, hbq, rfl⟩⟩
      · obtain rfl : i = m.length := by omega
        simp [hlv', hv.cell, hw.cell]
        refine hQ _ _ ⟨true, rfl, ?_⟩
        simp only [true_iff]
        exact ⟨by simp, (take_all hll.symm hll).1 hs⟩

theorem exp_same (d : Nat) : ∀ (t u : T) (cs ds : List V), depth t ≤ d → IsT 3 0 t cs → IsT 3 0 u ds → Says 67 [.agg cs, .agg ds] (t = u) := by
  induction d with
  | zero => intro t u cs ds hd _ _; rw [depth_kids] at hd; omega
  | succ d ih =>
  intro t u cs ds hd ht hu
  have hp1 := isT_pure ht
  have hp2 := isT_pure hu
  have hdk : ∀ k ∈ t.kids, depth k ≤ d := by rw [depth_kids] at hd; exact depths_le.1 (by omega)
  refine says_of (by simp [pureL, pureV, hp1, hp2]) fun gl => ?_
  cases t with
  | mk ns ls l =>
  cases u with
  | mk ms ks m =>
  simp only [IsT] at ht hu
  obtain ⟨ha, hb, hn, vs, v, es, rfl, hls, hv, hkl, hts⟩ := ht
  obtain ⟨ha', hb', hn', vs', w, fs, rfl, hls', hw, hkl', hts'⟩ := hu
  simp only [T.kids] at hdk
  match ns, ls, ms, ks, ha, hb, ha', hb' with
  | [k0, k1, k2], [], [j0, j1, j2], [], _, _, _, _ =>
    simp only [IsLists] at hls hls'
    subst hls
    subst hls'
    have hall := isTs_all hts
    have hall' := isTs_all hts'
    have hlv : lenV v = some (.int .i64 l.length) := by rw [hv.len, hall.length]
    have hlw : lenV w = some (.int .i64 m.length) := by rw [hw.len, hall'.length]
    unfold small at hkl'
    refine call_ofQ (af := Tryd.a67) rfl rfl fun Q hQ => ?_
    simp only [Tryd.a67]
    simp only [T.mk.injEq, List.cons.injEq, and_true, true_and] at hQ
    by_cases hk0 : k0 = j0
    case neg =>
      have hne : (k0 == j0) = false := by simpa using hk0
      simp [hv.cell, hw.cell, hne, slotOf]
      refine loop_nQ 0 (fun i c => c = ⟨[.agg [.int .i64 k0, .int .i64 k1, .int .i64 k2, v], .agg [.int .i64 j0, .int .i64 j1, .int .i64 j2, w], .agg [.int .i64 k0, .int .i64 k1, .int .i64 k2, v], .agg [.int .i64 j0, .int .i64 j1, .int .i64 j2, w], .bool false, .bool false, .int .i64 0], [], none, none, []⟩) ?_ rfl
      rintro I hI i c hi rfl
      simp [slotOf, hv.cell, hw.cell]
      refine hQ _ _ ⟨false, rfl, ?_⟩
      simp only [Bool.false_eq_true, false_iff]
      exact fun h => hk0 h.1.1
    subst hk0
    by_cases hk1 : k1 = j1
    case neg =>
      have hne : (k1 == j1) = false := by simpa using hk1
      simp [hv.cell, hw.cell, hne, slotOf]
      refine loop_nQ 0 (fun i c => c = ⟨[.agg [.int .i64 k0, .int .i64 k1, .int .i64 k2, v], .agg [.int .i64 k0, .int .i64 j1, .int .i64 j2, w], .agg [.int .i64 k0, .int .i64 k1, .int .i64 k2, v], .agg [.int .i64 k0, .int .i64 j1, .int .i64 j2, w], .bool false, .bool false, .int .i64 0], [], none, none, []⟩) ?_ rfl
      rintro I hI i c hi rfl
      simp [slotOf, hv.cell, hw.cell]
      refine hQ _ _ ⟨false, rfl, ?_⟩
      simp only [Bool.false_eq_true, false_iff]
      exact fun h => hk1 h.1.2.1
    subst hk1
    by_cases hk2 : k2 = j2
    case neg =>
      have hne : (k2 == j2) = false := by simpa using hk2
      simp [hv.cell, hw.cell, hne, slotOf]
      refine loop_nQ 0 (fun i c => c = ⟨[.agg [.int .i64 k0, .int .i64 k1, .int .i64 k2, v], .agg [.int .i64 k0, .int .i64 k1, .int .i64 j2, w], .agg [.int .i64 k0, .int .i64 k1, .int .i64 k2, v], .agg [.int .i64 k0, .int .i64 k1, .int .i64 j2, w], .bool false, .bool false, .int .i64 0], [], none, none, []⟩) ?_ rfl
      rintro I hI i c hi rfl
      simp [slotOf, hv.cell, hw.cell]
      refine hQ _ _ ⟨false, rfl, ?_⟩
      simp only [Bool.false_eq_true, false_iff]
      exact fun h => hk2 h.1.2.2
    subst hk2
    by_cases hll : l.length = m.length
    case neg =>
      have hne : ((l.length : Int) == (m.length : Int)) = false := by simp; omega
      simp [hv.cell, hw.cell, hlv, hlw, hne, slotOf]
      refine loop_nQ 0 (fun i c => c = ⟨[.agg [.int .i64 k0, .int .i64 k1, .int .i64 k2, v], .agg [.int .i64 k0, .int .i64 k1, .int .i64 k2, w], .agg [.int .i64 k0, .int .i64 k1, .int .i64 k2, v], .agg [.int .i64 k0, .int .i64 k1, .int .i64 k2, w], .bool false, .bool false, .int .i64 0], [], none, none, []⟩) ?_ rfl
      rintro I hI i c hi rfl
      simp [slotOf, hv.cell, hw.cell]
      refine hQ _ _ ⟨false, rfl, ?_⟩
      simp only [Bool.false_eq_true, false_iff]
      exact fun h => hll (by rw [h.2])
    have hlv' : lenV v = some (.int .i64 m.length) := by rw [hlv, hll]
    simp [hv.cell, hw.cell, hlv', hlw, slotOf]
    refine loop_nQ m.length (fun i c => ∃ s : Bool, (s = true ↔ l.take i = m.take i) ∧ c = ⟨[.agg [.int .i64 k0, .int .i64 k1, .int .i64 k2, v], .agg [.int .i64 k0, .int .i64 k1, .int .i64 k2, w], .agg [.int .i64 k0, .int .i64 k1, .int .i64 k2, v], .agg [.int .i64 k0, .int .i64 k1, .int .i64 k2, w], .bool false, .bool s, .int .i64 i], [], none, none, []⟩) ?_ ⟨true, by simp, rfl⟩
    rintro I hI i c hi ⟨s, hs, rfl⟩
    cases s with
    | false =>
      simp [slotOf, hv.cell, hw.cell]
      refine hQ _ _ ⟨false, rfl, ?_⟩
      simp only [Bool.false_eq_true, false_iff] at hs ⊢
      exact fun h => hs (by rw [h.2])
    | true =>
      have hs := hs.1 rfl
      by_cases hlt : i < m.length
      · have hlt' : (i : Int) < m.length := by omega
        have hw3 : IntKind.i64.wrap ((i : Int) + 1) = ((i + 1 : Nat) : Int) := by rw [wrap64 (by omega) (by omega)]; rfl
        have htn := take_next (l := l) (m := m) (i := i) (by omega) hlt hs
        obtain ⟨e, he, hR⟩ := hall.at (i := i) (by omega)
        obtain ⟨e', he', hR'⟩ := hall'.at (i := i) hlt
        obtain ⟨hc1, hc2⟩ := isT_cells hR
        obtain ⟨hc1', hc2'⟩ := isT_cells hR'
        have hi1 := idx_at hv he (sz := 4) hc1
        have hi2 := idx_at hw he' (sz := 4) hc1'
        obtain ⟨b, hb, hbq⟩ := ih _ _ e e' (hdk _ (List.getElem_mem (by omega))) hR hR' gl
        have ht1 : e.take 4 = e := List.take_of_length_le (by omega)
        have ht2 : e'.take 4 = e' := List.take_of_length_le (by omega)
        rw [← htn] at hbq
        simp [hv.cell, hw.cell, hlv', hlw, hlt', hi1, hi2, hc1, hc1', ht1, ht2, hb, hw3, -pcall, -List.all_eq_true]
        exact ⟨hlt, hI _ _ ⟨b, hbq, rfl⟩⟩
      · obtain rfl : i = m.length := by omega
        simp [hlv', hv.cell, hw.cell]
        refine hQ _ _ ⟨true, rfl, ?_⟩
        simp only [true_iff]
        exact ⟨by simp, (take_all hll.symm hll).1 hs⟩

theorem code_same {l m : List T} {es fs : List (List V)} {v w : V} (hv : SlV es v) (hw : SlV fs w) (hm : m.length < 2 ^ 46) (hall : All2 (IsT 2 2) l es) (hall' : All2 (IsT 2 2) m fs) (hE : ∀ t ∈ l, ∀ (u : T) (cs ds : List V), IsT 2 2 t cs → IsT 2 2 u ds → Says 102 [.agg cs, .agg ds] (t = u)) : Says 91 [v, w] (l = m) := by
  have hlv := hv.len
  have hlw := hw.len
  rw [← hall.length] at hlv
  rw [← hall'.length] at hlw
  refine says_of (by simp [pureL, hv.pure, hw.pure]) fun gl => ?_
  refine call_ofQ (af := Tryd.a91) rfl rfl fun Q hQ => ?_
  simp only [Tryd.a91]
  by_cases hll : l.length = m.length
  · have hlv' : lenV v = some (.int .i64 m.length) := by rw [hlv, hll]
    simp [hlv', hlw]
    refine loop_nQ m.length (fun i c => ∃ s : Bool, (s = true ↔ l.take i = m.take i) ∧ c = ⟨[v, w, .bool false, .bool s, .int .i64 i], [], none, none, []⟩) ?_ ⟨true, by simp, rfl⟩
    rintro I hI i c hi ⟨s, hs, rfl⟩
    cases s with
    | false =>
      simp [slotOf]
      refine hQ _ _ ⟨false, rfl, ?_⟩
      simp only [Bool.false_eq_true, false_iff] at hs ⊢
      exact fun h => hs (by rw [h])
    | true =>
      have hs := hs.1 rfl
      by_cases hlt : i < m.length
      · have hlt' : (i : Int) < m.length := by omega
        have hw3 : IntKind.i64.wrap ((i : Int) + 1) = ((i + 1 : Nat) : Int) := by rw [wrap64 (by omega) (by omega)]; rfl
        have htn := take_next (l := l) (m := m) (i := i) (by omega) hlt hs
        obtain ⟨e, he, hR⟩ := hall.at (i := i) (by omega)
        obtain ⟨e', he', hR'⟩ := hall'.at (i := i) hlt
        obtain ⟨hc1, hc2⟩ := isT_cells hR
        obtain ⟨hc1', hc2'⟩ := isT_cells hR'
        have hi1 := idx_at hv he (sz := 5) hc1
        have hi2 := idx_at hw he' (sz := 5) hc1'
        obtain ⟨b, hb, hbq⟩ := hE _ (List.getElem_mem (by omega)) _ e e' hR hR' gl
        have ht1 : e.take 5 = e := List.take_of_length_le (by omega)
        have ht2 : e'.take 5 = e' := List.take_of_length_le (by omega)
        rw [← htn] at hbq
        simp [hlv', hlt', hi1, hi2, hc1, hc1', ht1, ht2, hb, hw3, -pcall, -List.all_eq_true]
        exact ⟨hlt, hI _ _ ⟨b, hbq, rfl⟩⟩
      · obtain rfl : i = m.length := by omega
        simp [hlv']
        refine hQ _ _ ⟨true, rfl, ?_⟩
        simp only [true_iff]
        exact (take_all hll.symm hll).1 hs
  · have hne : ((l.length : Int) == (m.length : Int)) = false := by simp; omega
    simp [hlv, hlw, hne]
    refine loop_nQ 0 (fun i c => c = ⟨[v, w, .bool false, .bool false, .int .i64 0], [], none, none, []⟩) ?_ rfl
    rintro I hI i c hi rfl
    simp [slotOf]
    refine hQ _ _ ⟨false, rfl, ?_⟩
    simp only [Bool.false_eq_true, false_iff]
    exact fun h => hll (by rw [h])
end Go.Proofs.FileA
/- Are two things the same? Code, vector programs, logs. -/
set_option linter.unusedVariables false
set_option linter.unusedSimpArgs false
namespace Go.Proofs.FileA
open Go Go.Am
variable {gl : Nat → List V}

theorem ints_same {l m : List Int} {v w : V} (hv : IsInts l v) (hw : IsInts m w) : Says 69 [v, w] (l = m) := equal_q hv.sl hw.sl hw.len

theorem ins_same (d : Nat) : ∀ (t u : T) (cs ds : List V), depth t ≤ d → IsT 2 2 t cs → IsT 2 2 u ds → Says 102 [.agg cs, .agg ds] (t = u) := by
  induction d with
  | zero => intro t u cs ds hd _ _; rw [depth_kids] at hd; omega
  | succ d ih =>
  intro t u cs ds hd ht hu
  have hp1 := isT_pure ht
  have hp2 := isT_pure hu
  have hdk : ∀ k ∈ t.kids, depth k ≤ d := by rw [depth_kids] at hd; exact depths_le.1 (by omega)
  refine says_of (by simp [pureL, pureV, hp1, hp2]) fun gl => ?_
  cases t with
  | mk ns ls l =>
  cases u with
  | mk ms ks m =>
  simp only [IsT] at ht hu
  obtain ⟨ha, hb, hn, vs, v, es, rfl, hls, hv, hkl, hts⟩ := ht
  obtain ⟨ha', hb', hn', vs', w, fs, rfl, hls', hw, hkl', hts'⟩ := hu
  simp only [T.kids] at hdk
  match ns, ls, ms, ks, ha, hb, ha', hb' with
  | [k0, k1], [p0, p1], [j0, j1], [q0, q1], _, _, _, _ =>
    simp only [IsLists] at hls hls'
    obtain ⟨v1, _, rfl, hv1, v2, _, rfl, hv2, rfl⟩ := hls
    obtain ⟨w1, _, rfl, hw1, w2, _, rfl, hw2, rfl⟩ := hls'
    obtain ⟨b1, e1, hb1⟩ := ints_same hv1 hw1 gl
    obtain ⟨b2, e2, hb2⟩ := ints_same hv2 hw2 gl
    unfold small at hkl'
    obtain ⟨b3, e3, hb3⟩ := code_same hv hw hkl' (isTs_all hts) (isTs_all hts') (fun t ht u cs ds h1 h2 => ih t u cs ds (hdk t ht) h1 h2) gl
    have c1 := hv1.sl.cell
    have c2 := hv2.sl.cell
    have d1 := hw1.sl.cell
    have d2 := hw2.sl.cell
    refine call_ofQ (af := Tryd.a102) rfl rfl fun Q hQ => ?_
    simp only [Tryd.a102]
    simp only [T.mk.injEq, List.cons.injEq, and_true, true_and, ← hb1, ← hb2, ← hb3] at hQ
    clear hb1 hb2 hb3
    by_cases hk0 : k0 = j0
    case neg =>
      have hne : (k0 == j0) = false := by simpa using hk0
      simp [hv.cell, hw.cell, c1, c2, d1, d2, hne, slotOf]
      exact hQ _ _ ⟨false, rfl, by simp [hk0]⟩
    by_cases hk1 : k1 = j1
    case neg =>
      have hne : (k1 == j1) = false := by simpa using hk1
      simp [hv.cell, hw.cell, c1, c2, d1, d2, hk0, hne, slotOf]
      exact hQ _ _ ⟨false, rfl, by simp [hk1]⟩
    cases b1 with
    | false =>
      simp [hv.cell, hw.cell, c1, c2, d1, d2, hk0, hk1, e1, slotOf, -pcall]
      exact hQ _ _ ⟨false, rfl, by simp⟩
    | true =>
    cases b2 with
    | false =>
      simp [hv.cell, hw.cell, c1, c2, d1, d2, hk0, hk1, e1, e2, slotOf, -pcall]
      exact hQ _ _ ⟨false, rfl, by simp⟩
    | true =>
      simp [hv.cell, hw.cell, c1, c2, d1, d2, hk0, hk1, e1, e2, e3, slotOf, -pcall]
      exact hQ _ _ ⟨b3, rfl, by simp [hk0, hk1]⟩

theorem isInts_pure {l : List Int} {v : V} (h : IsInts l v) : pureV v = true := h.sl.pure

theorem vf_same {f g : VecFunT} {cs ds : List V} (hf : IsVecFun f cs) (hg : IsVecFun g ds) : Says 68 [.agg cs, .agg ds] (f = g) := by
  obtain ⟨⟨vc, vo, va, es, rfl, h1, h2, h3, h4⟩, _, hkl⟩ := hf
  obtain ⟨⟨wc, wo, wa, fs, rfl, g1, g2, g3, g4⟩, _, hkl'⟩ := hg
  refine says_of (by simp [pureL, pureV, h1.pure, g1.pure, h3.sl.pure, h4.sl.pure, g3.sl.pure, g4.sl.pure]) fun gl => ?_
  unfold small at hkl'
  obtain ⟨b1, e1, hb1⟩ := code_same h1 g1 hkl' (isTs_all h2) (isTs_all g2) (fun t ht u cs ds a b => ins_same _ t u cs ds (Nat.le_refl _) a b) gl
  obtain ⟨b2, e2, hb2⟩ := ints_same h3 g3 gl
  obtain ⟨b3, e3, hb3⟩ := ints_same h4 g4 gl
  have a1 := h1.cell
  have a2 := h3.sl.cell
  have a3 := h4.sl.cell
  have d1 := g1.cell
  have d2 := g3.sl.cell
  have d3 := g4.sl.cell
  have hiff : f = g ↔ f.params = g.params ∧ b1 = true ∧ b2 = true ∧ b3 = true := by
    rw [hb1, hb2, hb3]
    cases f
    cases g
    simp
  refine call_ofQ (af := Tryd.a68) rfl rfl fun Q hQ => ?_
  simp only [Tryd.a68]
  simp only [hiff] at hQ
  clear hb1 hb2 hb3 hiff
  generalize f.params = k0 at *
  generalize g.params = j0 at *
  by_cases hk0 : k0 = j0
  case neg =>
    have hne : (k0 == j0) = false := by simpa using hk0
    simp [a1, a2, a3, d1, d2, d3, hne, slotOf]
    exact hQ _ _ ⟨false, rfl, by simp [hk0]⟩
  cases b1 with
  | false =>
    simp [a1, a2, a3, d1, d2, d3, hk0, e1, slotOf, -pcall]
    exact hQ _ _ ⟨false, rfl, by simp⟩
  | true =>
  cases b2 with
  | false =>
    simp [a1, a2, a3, d1, d2, d3, hk0, e1, e2, slotOf, -pcall]
    exact hQ _ _ ⟨false, rfl, by simp⟩
  | true =>
    simp [a1, a2, a3, d1, d2, d3, hk0, e1, e2, e3, slotOf, -pcall]
    exact hQ _ _ ⟨b3, rfl, by simp [hk0]⟩

theorem log_same {f g : LogT} {cs ds : List V} (hf : IsLog f cs) (hg : IsLog g ds) : Says 36 [.agg cs, .agg ds] (f = g) := by
  obtain ⟨⟨vo, va, rfl, h3, h4⟩, _⟩ := hf
  obtain ⟨⟨wo, wa, rfl, g3, g4⟩, _⟩ := hg
  refine says_of (by simp [pureL, pureV, h3.sl.pure, h4.sl.pure, g3.sl.pure, g4.sl.pure]) fun gl => ?_
  obtain ⟨b2, e2, hb2⟩ := ints_same h3 g3 gl
  obtain ⟨b3, e3, hb3⟩ := ints_same h4 g4 gl
  have a2 := h3.sl.cell
  have a3 := h4.sl.cell
  have d2 := g3.sl.cell
  have d3 := g4.sl.cell
  have hiff : f = g ↔ f.kind = g.kind ∧ b2 = true ∧ b3 = true := by
    rw [hb2, hb3]
    cases f
    cases g
    simp
  refine call_ofQ (af := Tryd.a36) rfl rfl fun Q hQ => ?_
  simp only [Tryd.a36]
  simp only [hiff] at hQ
  clear hb2 hb3 hiff
  generalize f.kind = k0 at *
  generalize g.kind = j0 at *
  by_cases hk0 : k0 = j0
  case neg =>
    have hne : (k0 == j0) = false := by simpa using hk0
    simp [a2, a3, d2, d3, hne, slotOf]
    exact hQ _ _ ⟨false, rfl, by simp [hk0]⟩
  cases b2 with
  | false =>
    simp [a2, a3, d2, d3, hk0, e2, slotOf, -pcall]
    exact hQ _ _ ⟨false, rfl, by simp⟩
  | true =>
    simp [a2, a3, d2, d3, hk0, e2, e3, slotOf, -pcall]
    exact hQ _ _ ⟨b3, rfl, by simp [hk0]⟩
end Go.Proofs.FileA
/- Are two programs the same? -/
set_option linter.unusedVariables false
set_option linter.unusedSimpArgs false
namespace Go.Proofs.FileA
open Go Go.Am
variable {gl : Nat → List V}

theorem isFun_six {f : FunT} {cs : List V} (h : IsFun f cs) : ∃ b0 b1 b2 b3, cs = [.str ⟨f.name.toArray⟩, .int .i64 f.param, b0, b1, b2, b3] ∧ IsT 3 0 f.body [b0, b1, b2, b3] := by
  obtain ⟨⟨bc, rfl, hb⟩, _, _⟩ := h
  have hl := (isT_cells hb).1
  match bc, hl with
  | [b0, b1, b2, b3], _ => exact ⟨b0, b1, b2, b3, rfl, hb⟩
theorem isVecFun_four {f : VecFunT} {cs : List V} (h : IsVecFun f cs) : cs.length = 4 := by
  obtain ⟨⟨_, _, _, _, rfl, _⟩, _⟩ := h
  rfl
theorem isProg_pure {p : ProgT} {cs : List V} (h : IsProg p cs) : pureL cs = true := by
  obtain ⟨⟨v, es, rfl, hv, _⟩, _, _⟩ := h
  simp [pureL, pureV, hv.pure]
theorem isVec_pure {p : VecT} {cs : List V} (h : IsVec p cs) : pureL cs = true := by
  obtain ⟨⟨v, es, rfl, hv, _⟩, _, _⟩ := h
  simp [pureL, pureV, hv.pure]

theorem vec_same {f g : VecT} {cs ds : List V} (hf : IsVec f cs) (hg : IsVec g ds) : Says 35 [.agg cs, .agg ds] (f = g) := by
  have hp1 := isVec_pure hf
  have hp2 := isVec_pure hg
  refine says_of (by simp [pureL, pureV, hp1, hp2]) fun gl => ?_
  obtain ⟨⟨v, es, rfl, hv, hall⟩, _, hkl⟩ := hf
  obtain ⟨⟨w, fs, rfl, hw, hall'⟩, _, hkl'⟩ := hg
  have hlv : lenV v = some (.int .i64 f.funs.length) := by rw [hv.len, hall.length]
  have hlw : lenV w = some (.int .i64 g.funs.length) := by rw [hw.len, hall'.length]
  unfold small at hkl'
  have hiff : f = g ↔ f.main = g.main ∧ f.funs = g.funs := by
    cases f
    cases g
    simp
    exact And.comm
  refine call_ofQ (af := Tryd.a35) rfl rfl fun Q hQ => ?_
  simp only [Tryd.a35]
  simp only [hiff] at hQ
  clear hiff
  generalize f.main = k at *
  generalize g.main = j at *
  generalize f.funs = l at *
  generalize g.funs = m at *
  by_cases hk : k = j
  case neg =>
    have hne : (k == j) = false := by simpa using hk
    simp [hv.cell, hw.cell, hne, slotOf]
    refine loop_nQ 0 (fun i c => c = ⟨[.agg [v, .int .i64 k], .agg [w, .int .i64 j], .agg [v, .int .i64 k], .agg [w, .int .i64 j], .bool false, .bool false, .int .i64 0], [], none, none, []⟩) ?_ rfl
    rintro I hI i c hi rfl
    simp [slotOf, hv.cell, hw.cell]
    exact hQ _ _ ⟨false, rfl, by simp [hk]⟩
  subst hk
  by_cases hll : l.length = m.length
  case neg =>
    have hne : ((l.length : Int) == (m.length : Int)) = false := by simp; omega
    simp [hv.cell, hw.cell, hlv, hlw, hne, slotOf]
    refine loop_nQ 0 (fun i c => c = ⟨[.agg [v, .int .i64 k], .agg [w, .int .i64 k], .agg [v, .int .i64 k], .agg [w, .int .i64 k], .bool false, .bool false, .int .i64 0], [], none, none, []⟩) ?_ rfl
    rintro I hI i c hi rfl
    simp [slotOf, hv.cell, hw.cell]
    refine hQ _ _ ⟨false, rfl, ?_⟩
    simp only [Bool.false_eq_true, false_iff]
    exact fun h => hll (by rw [h.2])
  have hlv' : lenV v = some (.int .i64 m.length) := by rw [hlv, hll]
  simp [hv.cell, hw.cell, hlv', hlw, slotOf]
  refine loop_nQ m.length (fun i c => ∃ s : Bool, (s = true ↔ l.take i = m.take i) ∧ c = ⟨[.agg [v, .int .i64 k], .agg [w, .int .i64 k], .agg [v, .int .i64 k], .agg [w, .int .i64 k], .bool false, .bool s, .int .i64 i], [], none, none, []⟩) ?_ ⟨true, by simp, rfl⟩
  rintro I hI i c hi ⟨s, hs, rfl⟩
  cases s with
  | false =>
    simp [slotOf, hv.cell, hw.cell]
    refine hQ _ _ ⟨false, rfl, ?_⟩
    simp only [Bool.false_eq_true, false_iff] at hs ⊢
    exact fun h => hs (by rw [h.2])
  | true =>
    have hs := hs.1 rfl
    by_cases hlt : i < m.length
    · have hlt' : (i : Int) < m.length := by omega
      have hw3 : IntKind.i64.wrap ((i : Int) + 1) = ((i + 1 : Nat) : Int) := by rw [wrap64 (by omega) (by omega)]; rfl
      have htn := take_next (l := l) (m := m) (i := i) (by omega) hlt hs
      obtain ⟨e, he, hR⟩ := hall.at (i := i) (by omega)
      obtain ⟨e', he', hR'⟩ := hall'.at (i := i) hlt
      have hc1 := isVecFun_four hR
      have hc1' := isVecFun_four hR'
      have hi1 := idx_at hv he (sz := 4) hc1
      have hi2 := idx_at hw he' (sz := 4) hc1'
      obtain ⟨b, hb, hbq⟩ := vf_same hR hR' gl
      have ht1 : e.take 4 = e := List.take_of_length_le (by omega)
      have ht2 : e'.take 4 = e' := List.take_of_length_le (by omega)
      rw [← htn] at hbq
      simp [hv.cell, hw.cell, hlv', hlw, hlt', hi1, hi2, hc1, hc1', ht1, ht2, hb, hw3, -pcall, -List.all_eq_true]
      exact ⟨hlt, hI _ _ ⟨b, hbq, rfl⟩⟩
    · obtain rfl : i = m.length := by omega
      simp [hlv', hv.cell, hw.cell]
      refine hQ _ _ ⟨true, rfl, ?_⟩
      simp only [true_iff]
      exact ⟨trivial, (take_all hll.symm hll).1 hs⟩

theorem prog_same {f g : ProgT} {cs ds : List V} (hf : IsProg f cs) (hg : IsProg g ds) : Says 34 [.agg cs, .agg ds] (f = g) := by
  have hp1 := isProg_pure hf
  have hp2 := isProg_pure hg
  refine says_of (by simp [pureL, pureV, hp1, hp2]) fun gl => ?_
  obtain ⟨⟨v, es, rfl, hv, hall⟩, _, hkl⟩ := hf
  obtain ⟨⟨w, fs, rfl, hw, hall'⟩, _, hkl'⟩ := hg
  have hlv : lenV v = some (.int .i64 f.funs.length) := by rw [hv.len, hall.length]
  have hlw : lenV w = some (.int .i64 g.funs.length) := by rw [hw.len, hall'.length]
  unfold small at hkl'
  have hiff : f = g ↔ f.main = g.main ∧ f.funs = g.funs := by
    cases f
    cases g
    simp
    exact And.comm
  refine call_ofQ (af := Tryd.a34) rfl rfl fun Q hQ => ?_
  simp only [Tryd.a34]
  simp only [hiff] at hQ
  clear hiff
  generalize f.main = k at *
  generalize g.main = j at *
  generalize f.funs = l at *
  generalize g.funs = m at *
  by_cases hk : k = j
  case neg =>
    have hne : (k == j) = false := by simpa using hk
    simp [hv.cell, hw.cell, hne, slotOf]
    refine loop_nQ 0 (fun i c => c = ⟨[.agg [v, .int .i64 k], .agg [w, .int .i64 j], .agg [v, .int .i64 k], .agg [w, .int .i64 j], .bool false, .bool false, .int .i64 0], [], none, none, []⟩) ?_ rfl
    rintro I hI i c hi rfl
    simp [slotOf, hv.cell, hw.cell]
    exact hQ _ _ ⟨false, rfl, by simp [hk]⟩
  subst hk
  by_cases hll : l.length = m.length
  case neg =>
    have hne : ((l.length : Int) == (m.length : Int)) = false := by simp; omega
    simp [hv.cell, hw.cell, hlv, hlw, hne, slotOf]
    refine loop_nQ 0 (fun i c => c = ⟨[.agg [v, .int .i64 k], .agg [w, .int .i64 k], .agg [v, .int .i64 k], .agg [w, .int .i64 k], .bool false, .bool false, .int .i64 0], [], none, none, []⟩) ?_ rfl
    rintro I hI i c hi rfl
    simp [slotOf, hv.cell, hw.cell]
    refine hQ _ _ ⟨false, rfl, ?_⟩
    simp only [Bool.false_eq_true, false_iff]
    exact fun h => hll (by rw [h.2])
  have hlv' : lenV v = some (.int .i64 m.length) := by rw [hlv, hll]
  simp [hv.cell, hw.cell, hlv', hlw, slotOf]
  refine loop_nQ m.length (fun i c => ∃ s : Bool, (s = true ↔ l.take i = m.take i) ∧ c = ⟨[.agg [v, .int .i64 k], .agg [w, .int .i64 k], .agg [v, .int .i64 k], .agg [w, .int .i64 k], .bool false, .bool s, .int .i64 i], [], none, none, []⟩) ?_ ⟨true, by simp, rfl⟩
  rintro I hI i c hi ⟨s, hs, rfl⟩
  cases s with
  | false =>
    simp [slotOf, hv.cell, hw.cell]
    refine hQ _ _ ⟨false, rfl, ?_⟩
    simp only [Bool.false_eq_true, false_iff] at hs ⊢
    exact fun h => hs (by rw [h.2])
  | true =>
    have hs := hs.1 rfl
    by_cases hlt : i < m.length
    · have hlt' : (i : Int) < m.length := by omega
      have hw3 : IntKind.i64.wrap ((i : Int) + 1) = ((i + 1 : Nat) : Int) := by rw [wrap64 (by omega) (by omega)]; rfl
      have htn := take_next (l := l) (m := m) (i := i) (by omega) hlt hs
      obtain ⟨e, he, hR⟩ := hall.at (i := i) (by omega)
      obtain ⟨e', he', hR'⟩ := hall'.at (i := i) hlt
      obtain ⟨b0, b1, b2, b3, rfl, hb1⟩ := isFun_six hR
      obtain ⟨c0, c1, c2, c3, rfl, hb2⟩ := isFun_six hR'
      have hi1 := idx_at hv he (sz := 6) rfl
      have hi2 := idx_at hw he' (sz := 6) rfl
      obtain ⟨b, hb, hbq⟩ := exp_same _ _ _ _ _ (Nat.le_refl _) hb1 hb2 gl
      have hfe : ∀ f g : FunT, f = g ↔ f.name = g.name ∧ f.param = g.param ∧ f.body = g.body := fun f g => by
        cases f
        cases g
        simp
      rw [hfe] at htn
      generalize (l[i]'(by omega)).name = n1 at *
      generalize (l[i]'(by omega)).param = q1 at *
      generalize (l[i]'(by omega)).body = t1 at *
      generalize m[i].name = n2 at *
      generalize m[i].param = q2 at *
      generalize m[i].body = t2 at *
      by_cases hnn : n1 = n2
      case neg =>
        have hne : (n1 == n2) = false := by simpa using hnn
        simp [hv.cell, hw.cell, hlv', hlw, hlt', hi1, hi2, hne, strBin, hw3, slotOf, -pcall, -List.all_eq_true]
        exact ⟨hlt, hI _ _ ⟨false, by rw [htn]; simp [hnn], rfl⟩⟩
      subst hnn
      by_cases hqq : q1 = q2
      case neg =>
        have hne : (q1 == q2) = false := by simpa using hqq
        simp [hv.cell, hw.cell, hlv', hlw, hlt', hi1, hi2, hne, strBin, hw3, slotOf, -pcall, -List.all_eq_true]
        exact ⟨hlt, hI _ _ ⟨false, by rw [htn]; simp [hqq], rfl⟩⟩
      subst hqq
      simp [hv.cell, hw.cell, hlv', hlw, hlt', hi1, hi2, strBin, hb, hw3, slotOf, -pcall, -List.all_eq_true]
      exact ⟨hlt, hI _ _ ⟨b, by rw [htn, hbq]; simp, rfl⟩⟩
    · obtain rfl : i = m.length := by omega
      simp [hlv', hv.cell, hw.cell]
      refine hQ _ _ ⟨true, rfl, ?_⟩
      simp only [true_iff]
      exact ⟨trivial, (take_all hll.symm hll).1 hs⟩
end Go.Proofs.FileA
/- What the laws share: a number that turns, two Gets of the same bytes, things of nothing. -/
set_option linter.unusedVariables false
set_option linter.unusedSimpArgs false
namespace Go.Proofs.FileA
open Go Go.Am
variable {gl : Nat → List V}

theorem turn_q (gl : Nat → List V) (n k : Int) (hn : is64 n) (hk : 1 ≤ k) (hk2 : k ≤ 4294967296) : pcall (lim gl Tryd.aprog) (.func (.func 22) [] []) [.int .i64 n, .int .i64 k] = some (.val (.int .i64 (n % k))) := by
  unfold is64 at hn
  have key : CallP gl Tryd.aprog 22 [.int .i64 n, .int .i64 k] [] (fun r h' => r = .ret (.int .i64 (n % k))) := by
    refine call_ofQ (af := Tryd.a22) rfl rfl fun Q hQ => ?_
    simp only [Tryd.a22]
    have h1 : ¬ k < 1 := by omega
    have h0 : ¬ k = 0 := by omega
    have htm : n % k = if n.tmod k < 0 then n.tmod k + k else n.tmod k := by
      have hlt := Int.tmod_lt_of_pos n (show 0 < k by omega)
      have hlt2 := Int.tmod_lt_of_pos (-n) (show 0 < k by omega)
      rw [Int.neg_tmod] at hlt2
      have hmod : n % k = n.tmod k % k := by rw [Int.tmod_def, Int.sub_mul_emod_self_left]
      rw [hmod]
      split
      · rw [← Int.add_emod_right, Int.emod_eq_of_lt (by omega) (by omega)]
      · rw [Int.emod_eq_of_lt (by omega) (by omega)]
    by_cases hneg : n.tmod k < 0
    · rw [if_pos hneg] at htm
      have hw : IntKind.i64.wrap (n.tmod k + k) = n % k := by
        have := Int.emod_lt_of_pos n (show 0 < k by omega)
        have := Int.emod_nonneg n h0
        rw [← htm, wrap64 (by omega) (by omega)]
      simp [h1, h0, hneg, hw, slotOf]
      exact hQ _ _ rfl
    · rw [if_neg hneg] at htm
      simp [h1, h0, hneg, slotOf]
      exact hQ _ _ (by rw [htm])
  obtain ⟨r, h', e, rfl⟩ := OptP.ex key
  exact pcall_of e (by simp [pureL, pureV]) (by simp [viewV])

/-- two Gets of the same bytes -/
theorem GetEnd.two {α : Type} {R : α → List V → Prop} {sz : Nat} {zero : List V} {o : Option α × Int} {x y : V} (hx : GetEnd R sz zero o x) (hy : GetEnd R sz zero o y) {z : α} (hz : R z zero) :
    ∃ c1 c2 t, x = .tup [.agg c1, .int .i64 o.2] ∧ y = .tup [.agg c2, .int .i64 o.2] ∧ Cells sz c1 ∧ Cells sz c2 ∧ R t c1 ∧ R t c2 := by
  obtain ⟨c1, rfl, h1, n1, s1⟩ := hx.ex
  obtain ⟨c2, rfl, h2, n2, s2⟩ := hy.ex
  cases ho : o.1 with
  | none => exact ⟨c1, c2, z, rfl, rfl, h1, h2, by rw [n1 ho]; exact hz, by rw [n2 ho]; exact hz⟩
  | some a => exact ⟨c1, c2, a, rfl, rfl, h1, h2, s1 a ho, s2 a ho⟩
theorem says_true {f : Nat} {args : List V} {P : Prop} (h : Says f args P) (hp : P) (gl : Nat → List V) : pcall (lim gl Tryd.aprog) (.func (.func f) [] []) args = some (.val (.bool true)) := by
  obtain ⟨b, e, hb⟩ := h gl
  rw [hb.2 hp] at e
  exact e
theorem zero_value : IsT 2 0 (.mk [0, 0] [] []) [.int .i64 0, .int .i64 0, .nils] := by
  simp only [IsT]
  exact ⟨rfl, rfl, by simp [is64], [], .nils, [], rfl, by simp [IsLists], .nil rfl, by simp [small], by simp [IsTs]⟩
theorem zero_prog : IsProg ⟨[], 0⟩ [.nils, .int .i64 0] := ⟨⟨.nils, [], rfl, .nil rfl, trivial⟩, by simp [is64], by simp [small]⟩
theorem zero_vec : IsVec ⟨[], 0⟩ [.nils, .int .i64 0] := ⟨⟨.nils, [], rfl, .nil rfl, trivial⟩, by simp [is64], by simp [small]⟩
theorem zero_log : IsLog ⟨0, [], []⟩ [.int .i64 0, .nils, .nils] := ⟨⟨.nils, .nils, rfl, ⟨.nil rfl, by simp [small], by simp⟩, ⟨.nil rfl, by simp [small], by simp⟩⟩, by simp [is64]⟩

end Go.Proofs.FileA
