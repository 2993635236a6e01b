/- A part of the law's proof: Law. -/
import Derived.Test.YtcpcmkacjdbpaaaDoorBld
/- Nest: the law NestThere over the machine. -/
set_option linter.unusedVariables false
set_option linter.unusedSimpArgs false
namespace Go.Proofs.Nst
open Go Go.Am

theorem allC_nil : AllC [] := fun o h => by cases h
theorem closed_nil : Closed [] := fun o h => by cases h
theorem build_p {v : V} {R : List (List Int)} (hR : ListsV R v) (lR : R.length < 2 ^ 39) (ll : ∀ r ∈ R, r.length < 2 ^ 39) {t : Tr} {τ : Ty} (hτ : IsTy t τ) (ho : t.Ok) (h1 : τ.size ≤ 60) (h2 : τ.deep ≤ 12) {n : Int} (hn : is64 n) :
    ∃ (u : V) (ts : List Tr), PC 26 [.agg t.cs, .int .i64 n, v] (.tup [u, .int .i64 (bldE τ n R)]) ∧ SlV (ts.map Tr.cs) u ∧ (∀ t ∈ ts, t.Ok) ∧ (bldE τ n R = 0 → ts.map Tr.vl = bldL τ n R) := by
  obtain ⟨u, X, ts, e, q1, q2, q3⟩ := build_q allC_nil closed_nil (below_pure 0 v hR.pure) (hR.regs []) lR ll hτ ho h1 h2 hn
  refine ⟨u, ts, ?_, q1, q2, q3⟩
  simp only [PC, pcall, callee_func, List.append_nil, List.nil_append]
  rw [if_pos (by simp [pureL, pureV, pure_tr ho, hR.pure]), e]
  simp only [(view_sl q1 q1.pure 0 _).2, Option.map_some]
theorem canon_p {v : V} {R : List (List Int)} (hR : ListsV R v) (lR : R.length < 2 ^ 39) (ll : ∀ r ∈ R, r.length < 2 ^ 39) {t : Tr} {τ : Ty} (hτ : IsTy t τ) (ho : t.Ok) (h1 : τ.size ≤ 60) (h2 : τ.deep ≤ 12) {n : Int} (hn : is64 n) :
    ∃ (u : V) (ts : List Tr), PC 27 [.agg t.cs, .int .i64 n, v] (.tup [u, .int .i64 (bldE τ n R)]) ∧ ListsV (if bldE τ n R = 0 then canonS τ ts else []) u ∧ (bldE τ n R = 0 → ts.map Tr.vl = bldL τ n R) := by
  obtain ⟨u, X, ts, e, q1, q2⟩ := canon_q allC_nil closed_nil (below_pure 0 v hR.pure) (hR.regs []) lR ll hτ ho h1 h2 hn
  refine ⟨u, ts, ?_, q1, q2⟩
  simp only [PC, pcall, callee_func, List.append_nil, List.nil_append]
  rw [if_pos (by simp [pureL, pureV, pure_tr ho, hR.pure]), e]
  simp only [view_lists q1, Option.map_some]

theorem canon_inj {τ : Ty} {l m : List Tr} (hl : ∀ t ∈ l, t.Ok ∧ isV τ t = true) (hm : ∀ t ∈ m, t.Ok ∧ isV τ t = true) (sl : sizedL l = true) (sm : sizedL m = true) (he : l.length = m.length) : canonS τ l = canonS τ m ↔ l.map Tr.vl = m.map Tr.vl := by
  refine ⟨fun h => ?_, canonS_vl τ⟩
  rw [← (bld_canon hl sl).2, ← (bld_canon hm sm).2, h, he]
theorem flat_fine {τ : Ty} {l : List Tr} (h1 : ∀ x ∈ l, isV τ x = true) (h2 : sizedL l = true) : flatE τ l = 0 ∧ flatR τ l = canonS τ l := by
  have : flatE τ l = 0 := by simp [flatE, h2, List.all_eq_true.2 h1]
  exact ⟨this, by simp [flatR, this]⟩

theorem law_there (t : Tr) (ht : t.Ok) (l : List Tr) (v : V) (hl : ∀ x ∈ l, x.Ok) (hv : SlV (l.map Tr.cs) v) (m : List Tr) (w : V) (hm : ∀ x ∈ m, x.Ok) (hw : SlV (m.map Tr.cs) w) (hn : t.nodes < 2 ^ 50) (hnl : Tr.nodesL l < 2 ^ 50) (hnm : Tr.nodesL m < 2 ^ 50) : ∃ h', (lim gl Trnx.aprog).call 5 [.agg t.cs, v, w] [] = some (.ret (.bool true), h') := by
  have key : CallP gl Trnx.aprog 5 [.agg t.cs, v, w] [] (fun r h' => r = .ret (.bool true)) := by
    have hh := held_q
    have ct := cells_tr ht
    obtain ⟨b1, f1, k1⟩ := fine_q t ht l v hv hl hn hnl
    obtain ⟨b2, f2, k2⟩ := fine_q t ht m w hw hm hn hnm
    rw [PC] at hh f1 f2
    refine call_ofQ (af := Trnx.a5) rfl rfl fun Q hQ => ?_
    simp only [Trnx.a5]
    cases b1 with
    | false =>
      simp [ct, f1, hh, slotOf, -pcall, -List.all_eq_true]
      exact hQ _ _ rfl
    | true =>
    cases b2 with
    | false =>
      simp [ct, f1, f2, hh, slotOf, -pcall, -List.all_eq_true]
      exact hQ _ _ rfl
    | true =>
    obtain ⟨τ, hτ, s1, s2, vl, sl, n4⟩ := k1 rfl
    obtain ⟨τ', hτ', _, _, vm, sm, m4⟩ := k2 rfl
    obtain rfl := hτ.unique hτ'
    have hbs := τ.both_size
    have hlen := Tr.nodesL_length l
    have hmen := Tr.nodesL_length m
    have al : ∀ x ∈ l, x.Ok ∧ isV τ x = true := fun x hx => ⟨hl x hx, vl x hx⟩
    have am : ∀ x ∈ m, x.Ok ∧ isV τ x = true := fun x hx => ⟨hm x hx, vm x hx⟩
    obtain ⟨o1, o2⟩ := own_ok hτ ht s1 s2
    obtain ⟨u1, q1, z1⟩ := flatten_q hτ ht s1 s2 l v hv hl (by omega)
    obtain ⟨u2, q2, z2⟩ := flatten_q hτ ht s1 s2 m w hw hm (by omega)
    rw [(flat_fine vl sl).1] at q1
    rw [(flat_fine vl sl).2] at z1
    rw [(flat_fine vm sm).1] at q2
    rw [(flat_fine vm sm).2] at z2
    have lc := canonS_len τ l
    have lcm := canonS_len τ m
    have lb : ∀ r ∈ canonS τ l, r.length < 2 ^ 39 := fun r hr => by have := canonS_bound τ l r hr; omega
    obtain ⟨e0, e1⟩ := bld_canon al sl
    obtain ⟨u3, ts, q3, x1, x2, x3⟩ := build_p z1 (by omega) lb hτ ht s1 s2 (n := (l.length : Int)) (by constructor <;> omega)
    obtain ⟨u4, ts', q4, y1, y2⟩ := canon_p z1 (by omega) lb hτ ht s1 s2 (n := (l.length : Int)) (by constructor <;> omega)
    rw [e0] at q3 q4
    rw [if_pos e0] at y1
    have x3 := (x3 e0).trans e1
    have y2 := (y2 e0).trans e1
    rw [canonS_vl τ y2] at y1
    obtain ⟨b3, q5, i3⟩ := sames_q ts l u3 v x1 hv x2 hl (by rw [← vlL_nodes, Tr.vlL_eq, x3, ← Tr.vlL_eq, vlL_nodes]; omega)
    obtain rfl : b3 = true := i3.2 x3
    have q6 := equalLists_q _ _ u4 u1 y1 z1 (by omega) (fun r hr => by have := lb r hr; omega)
    have q7 := equalLists_q _ _ u2 u1 z2 z1 (by omega) (fun r hr => by have := canonS_bound τ m r hr; omega)
    obtain ⟨b8, q8, i8⟩ := sames_q l m v w hv hw hl hm (by omega)
    have hlv := len_tr hv
    have hlw := len_tr hw
    have hl1 := z1.len
    have lown : ∀ r ∈ (canonS τ l).take τ.own, r.length = l.length := fun r hr => by
      rw [canonS, List.take_left' (flatS_len τ (l.map some)).1] at hr
      simpa using flatS_own τ _ r hr
    rw [PC] at o1 o2 q1 q2 q3 q4 q5 q6 q7 q8
    rw [decide_eq_true rfl] at q6
    rw [lc] at hl1
    have hwod : IntKind.i64.wrap ((τ.own : Int) + τ.data) = ((τ.own + τ.data : Nat) : Int) := by rw [wrap64 (by omega) (by omega)]; rfl
    simp [ct, f1, f2, o1, o2, q1, q3, q4, q5, q6, hlv, hl1, hwod, slotOf, -pcall, -List.all_eq_true, -Int.natCast_add]
    refine loop_nQ τ.own (fun i c => ∃ fl, c = ⟨[.agg t.cs, v, w, .agg t.cs, .bool false, .int .i64 τ.own, .int .i64 0, .int .i64 τ.data, .int .i64 0, u1, .int .i64 0, u3, .int .i64 0, u4, .int .i64 0, .int .i64 i, .undef], [], fl, none, []⟩) ?_ ⟨_, rfl⟩
    rintro I hI i c hi ⟨fl, rfl⟩
    by_cases hlt : i < τ.own
    · have hw2 : IntKind.i64.wrap ((i : Int) + 1) = (i : Int) + 1 := wrap64 (by omega) (by omega)
      obtain ⟨x, a1, b1⟩ := z1.idx (i := i) (by omega)
      have hlx := b1.len'
      rw [lown _ (by rw [List.mem_iff_getElem?]; exact ⟨i, by rw [List.getElem?_take, if_pos hlt]; simp⟩)] at hlx
      simp [hlt, a1, hlx, hlv, hw2, slotOf, -pcall]
      exact hI _ _ ⟨_, rfl⟩
    · obtain rfl : i = τ.own := by omega
      by_cases he : l.length = m.length
      · have heq : decide (canonS τ m = canonS τ l) = b8 := by
          have := canon_inj am al sm sl he.symm
          cases b8 with
          | false =>
            refine decide_eq_false fun h => ?_
            have := i8.2 (this.1 h).symm
            cases this
          | true => exact decide_eq_true (this.2 (i8.1 rfl).symm)
        rw [heq] at q7
        have hne : ((l.length : Int) != (m.length : Int)) = false := by simp [he]
        simp [ct, q2, hlv, hlw, hne, q7, q8, hh, slotOf, -pcall, -List.all_eq_true]
        exact hQ _ _ rfl
      · have hne : ((l.length : Int) != (m.length : Int)) = true := ne_true (by omega)
        simp [ct, q2, hlv, hlw, hne, hh, slotOf, -pcall, -List.all_eq_true]
        exact hQ _ _ rfl
  obtain ⟨r, h', e, rfl⟩ := OptP.ex key
  exact ⟨h', e⟩
end Go.Proofs.Nst
