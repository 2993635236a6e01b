/- A part of the law's proof: RFlat. -/
import Derived.Test.YtcpcmkacjdbpaaaDoorFlat
/- Nest: the reference's flat. -/
set_option linter.unusedVariables false
set_option linter.unusedSimpArgs false
namespace Go.Proofs.Nst
open Go Go.Am

/-- a slot: is there a value, and which -/
def slotCs : Option Tr → List V
  | none => [.bool false, .int .i64 0, .int .i64 0, .nils]
  | some t => .bool true :: t.cs
theorem slotCs_len (o : Option Tr) : (slotCs o).length = 4 := by cases o <;> simp [slotCs]
abbrev SlotsV (l : List (Option Tr)) (v : V) : Prop := SlV (l.map slotCs) v
theorem SlotsV.len' {l : List (Option Tr)} {v : V} (h : SlotsV l v) : lenV v = some (.int .i64 l.length) := by
  have := SlV.len h
  simpa using this
theorem SlotsV.idx' {l : List (Option Tr)} {v : V} (h : SlotsV l v) {i : Nat} (hi : i < l.length) : idxV v i 4 = some (.pv (slotCs l[i])) := by
  rw [SlV.idx h]
  simp [hi, slotCs_len]

theorem numbers_q (l : List (Option Tr)) (v : V) (h : SlotsV l v) (hl : l.length < 2 ^ 40) : ∃ u, PC 106 [v] u ∧ IntsV (l.map num) u := by
  have hlv := h.len'
  refine ⟨.sv ((l.map fun o => V.int .i64 (num o)).map fun x => [x]) false, ?_, by show SlV _ _; simp only [List.map_map]; exact .sv false⟩
  refine pc_of (by simp [pureL, SlV.pure h]) (fun hp => (SlV.sv false).viewW 0 hp) ?_
  refine call_ofQ (af := Trnx.a106) rfl rfl fun Q hQ => ?_
  simp only [Trnx.a106]
  simp [fill, slotOf]
  refine loop_nQ l.length (fun i c' => c' = ⟨[v, .nils, .sl 0 0 i i 1 false, .int .i64 i], [], none, none, [.cells i 1 ((l.take i).map fun o => .int .i64 (num o))]⟩) ?_ (by simp)
  rintro I hI i c' hi rfl
  by_cases hlt : i < l.length
  · have hlt' : (i : Int) < l.length := by omega
    have hw2 : IntKind.i64.wrap ((i : Int) + 1) = (i : Int) + 1 := wrap64 (by omega) (by omega)
    have hi1 := h.idx' hlt
    have e : (l.take (i + 1)).map (fun o => V.int .i64 (num o)) = (l.take i).map (fun o => V.int .i64 (num o)) ++ [.int .i64 (num l[i])] := by rw [← List.take_append_getElem hlt, List.map_append]; rfl
    have hI := hI (i + 1)
    rw [e] at hI
    have hap := appV_own (h := [.cells i 1 ((l.take i).map fun o => .int .i64 (num o))]) (o := 0) (n := i) (sz := 1) (bytes := 8) (cs := (l.take i).map fun o => .int .i64 (num o)) (y := .sv [[.int .i64 (num l[i])]] true) (k := 1) (ys := [.int .i64 (num l[i])]) rfl rfl rfl rfl (by simp [room]; omega)
    have hcs : slotCs l[i] = [(slotCs l[i])[0]'(by simp [slotCs_len]), (slotCs l[i])[1]'(by simp [slotCs_len]), .int .i64 (num l[i]), (slotCs l[i])[3]'(by simp [slotCs_len])] := by
      cases l[i] with
      | none => rfl
      | some t => cases t; rfl
    rw [hcs] at hi1
    generalize (slotCs l[i])[0]'(by simp [slotCs_len]) = x0 at *
    generalize (slotCs l[i])[1]'(by simp [slotCs_len]) = x1 at *
    generalize (slotCs l[i])[3]'(by simp [slotCs_len]) = x3 at *
    clear hcs
    generalize num l[i] = w at *
    generalize (l.take i).map (fun o => V.int .i64 (num o)) = A at *
    simp [hlv, hlt', hi1, hap, hw2, fill, chunks, slotOf]
    exact ⟨hlt, hI _ rfl⟩
  · obtain rfl : i = l.length := by omega
    have hfz := view_own (H := [.cells l.length 1 (l.map fun o => .int .i64 (num o))]) (b := 0) (n := l.length) (cs := l.map fun o => V.int .i64 (num o)) rfl (by simp) (pureL_all.2 fun c hc => by
      obtain ⟨n, _, rfl⟩ := List.mem_map.1 hc
      rfl)
    rw [List.take_length]
    generalize (l.map fun o => V.int .i64 (num o)) = A at *
    simp [hlv, hfz, slotOf]
    exact hQ _ _ rfl

theorem chunks_map {α : Type} (f : α → List V) (n : Nat) : ∀ l : List α, (∀ x ∈ l, (f x).length = n) → chunks n l.length (l.map f).flatten = l.map f
  | [], _ => rfl
  | x :: l, h => by
    have hx := h x (by simp)
    simp only [List.length_cons, List.map_cons, List.flatten_cons, chunks]
    rw [List.take_append_of_le_length (by omega), List.take_of_length_le (by omega), List.drop_append_of_le_length (by omega), List.drop_of_length_le (by omega), List.nil_append, chunks_map f n l fun y hy => h y (by simp [hy])]
theorem view_own4 {H : Heap} {b n : Nat} {l : List (Option Tr)} (hb : H[b]? = some (.cells n 4 (l.map slotCs).flatten)) (hn : n = l.length) (hp : pureL (l.map slotCs).flatten = true) : frzV H (.sl b 0 n n 4 false) = some (.sv (l.map slotCs) false, H.set b .gone) := by
  subst hn
  simp [frzV, viewV, objCells_of hb, hp, chunks_map slotCs 4 l fun x _ => slotCs_len x]
theorem slots_pure {l : List (Option Tr)} (h : ∀ t, some t ∈ l → t.Ok) : pureL (l.map slotCs).flatten = true := by
  rw [pureL_all]
  intro c hc
  obtain ⟨cs, h1, h2⟩ := List.mem_flatten.1 hc
  obtain ⟨o, ho, rfl⟩ := List.mem_map.1 h1
  cases o with
  | none => simp [slotCs] at h2; rcases h2 with rfl | rfl | rfl <;> rfl
  | some t =>
    rcases List.mem_cons.1 h2 with rfl | h2
    · rfl
    · exact pureL_all.1 (pure_tr (h t ho)) c h2
theorem flat4_len : ∀ l : List (Option Tr), (l.map slotCs).flatten.length = l.length * 4
  | [] => rfl
  | o :: l => by simp only [List.map_cons, List.flatten_cons, List.length_append, slotCs_len, flat4_len l, List.length_cons]; omega

theorem part_q (l : List (Option Tr)) (v : V) (h : SlotsV l v) (hl : l.length < 2 ^ 40) (hok : ∀ t, some t ∈ l → t.Ok) (s : Bool) (k : Nat) (hk : ∀ t, some t ∈ l → if s then (t.n = k → 0 < t.l.length) else k < t.l.length) :
    ∃ u, PC 107 [v, .bool s, .int .i64 k] u ∧ SlotsV (l.map (if s then partU k else partP k)) u := by
  have hlv := h.len'
  generalize hg : (if s then partU (k : Int) else partP k) = g
  refine ⟨.sv ((l.map g).map slotCs) false, ?_, .sv false⟩
  have hgn : g none = none := by rw [← hg]; cases s <;> rfl
  have hgo : ∀ t, some t ∈ l.map g → t.Ok := by
    intro t ht
    obtain ⟨o, ho, he⟩ := List.mem_map.1 ht
    cases o with
    | none => rw [hgn] at he; cases he
    | some u =>
      refine (hok u ho).kids t ?_
      rw [← hg] at he
      cases s
      · exact List.mem_of_getElem? he
      · simp only [if_true, partU] at he
        split at he
        · exact List.mem_of_getElem? he
        · cases he
  refine pc_of (by simp [pureL, pureV, SlV.pure h]) (fun hp => (SlV.sv false).viewW 0 hp) ?_
  refine call_ofQ (af := Trnx.a107) rfl rfl fun Q hQ => ?_
  simp only [Trnx.a107]
  simp [fill, slotOf]
  refine loop_nQ l.length (fun i c' => c' = ⟨[v, .bool s, .int .i64 k, .nils, .sl 0 0 i i 4 false, .int .i64 i], [], none, none, [.cells i 4 (((l.take i).map g).map slotCs).flatten]⟩) ?_ (by simp)
  rintro I hI i c' hi rfl
  by_cases hlt : i < l.length
  · have hlt' : (i : Int) < l.length := by omega
    have hw2 : IntKind.i64.wrap ((i : Int) + 1) = (i : Int) + 1 := wrap64 (by omega) (by omega)
    have hi1 := h.idx' hlt
    have hm := List.getElem_mem hlt
    have e : (((l.take (i + 1)).map g).map slotCs).flatten = (((l.take i).map g).map slotCs).flatten ++ slotCs (g l[i]) := by
      rw [← List.take_append_getElem hlt]; simp only [List.map_append, List.map_cons, List.map_nil, List.flatten_append, List.flatten_cons, List.flatten_nil, List.append_nil]
    have hI := hI (i + 1)
    rw [e] at hI
    have hlen4 := flat4_len ((l.take i).map g)
    have hap := appV_own (h := [.cells i 4 (((l.take i).map g).map slotCs).flatten]) (o := 0) (n := i) (sz := 4) (bytes := 48) (cs := (((l.take i).map g).map slotCs).flatten) (y := .sv [slotCs (g l[i])] true) (k := 1) (ys := slotCs (g l[i])) rfl rfl (by simp [sliceCells]) (by simp [slotCs_len]) (by simp [room]; omega)
    have hok2 : ∀ t, g l[i] = some t → t.Ok := fun t e2 => hgo t (by rw [← e2]; exact List.mem_map_of_mem hm)
    generalize (((l.take i).map g).map slotCs).flatten = A at *
    cases eo : l[i] with
    | none =>
      rw [eo] at hi1 hap hI
      rw [hgn] at hap hI
      simp only [slotCs] at hi1 hap hI
      simp [hlv, hlt', hi1, hap, hw2, fill, chunks, slotOf]
      exact ⟨hlt, hI _ rfl⟩
    | some t =>
      have hot := hok t (by rw [← eo]; exact hm)
      have hkt := hk t (by rw [← eo]; exact hm)
      rw [eo] at hi1 hap hI hok2
      have ecs := t.cs_eq
      simp only [slotCs, ecs] at hi1
      cases s with
      | false =>
        simp only [Bool.false_eq_true, if_false] at hkt hg
        have hj := idx_tr hot.sl hkt
        have eg : g (some t) = some t.l[k] := by rw [← hg]; simp [partP, hkt]
        rw [eg] at hap hI hok2
        have hokw := hok2 _ rfl
        generalize t.l[k] = w at *
        have hwv := SlV.cell hokw.sl
        have hwp := SlV.pure hokw.sl
        have ecw := w.cs_eq
        simp only [slotCs, ecw] at hap hI
        rw [ecw] at hj
        simp [hlv, hlt', hi1, hj, hap, hw2, hwv, hwp, fill, chunks, slotOf]
        exact ⟨hlt, hI _ rfl⟩
      | true =>
        simp only [if_true] at hkt hg
        by_cases hn : t.n = k
        · have hkl := hkt hn
          have hj := idx_tr hot.sl hkl
          have eg : g (some t) = some t.l[0] := by rw [← hg]; simp [partU, hn, hkl]
          rw [eg] at hap hI hok2
          have hokw := hok2 _ rfl
          generalize t.l[0] = w at *
          have hwv := SlV.cell hokw.sl
          have hwp := SlV.pure hokw.sl
          have ecw := w.cs_eq
          simp only [slotCs, ecw] at hap hI
          rw [ecw] at hj
          simp only [Int.natCast_zero] at hj
          simp [hlv, hlt', hi1, hn, hj, hap, hw2, hwv, hwp, fill, chunks, slotOf]
          exact ⟨hlt, hI _ rfl⟩
        · have eg : g (some t) = none := by rw [← hg]; simp [partU, hn]
          rw [eg] at hap hI
          simp only [slotCs] at hap hI
          simp [hlv, hlt', hi1, ne_true hn, hap, hw2, fill, chunks, slotOf]
          exact ⟨hlt, hI _ rfl⟩
  · obtain rfl : i = l.length := by omega
    have hfz := view_own4 (H := [.cells l.length 4 ((l.map g).map slotCs).flatten]) (b := 0) (n := l.length) (l := l.map g) rfl (by simp) (slots_pure hgo)
    rw [List.take_length]
    generalize ((l.map g).map slotCs).flatten = A at *
    simp [hlv, hfz, slotOf]
    exact hQ _ _ (by simp)
end Go.Proofs.Nst
/- Nest: the reference's flat: lists of registers that grow. -/
set_option linter.unusedVariables false
set_option linter.unusedSimpArgs false
namespace Go.Proofs.Nst
open Go Go.Am

/-- a list of cells that a function may go on with -/
inductive OwnL (n : Nat) (H : Heap) : List V → V → Prop
  | nil : OwnL n H [] .nils
  | sl (vs : List V) (b : Nat) (hb : n ≤ b) (h : H[b]? = some (.cells vs.length 1 vs)) : OwnL n H vs (.sl b 0 vs.length vs.length 1 false)
def blk : V → Option Nat
  | .sl b _ _ _ _ _ => some b
  | _ => none
namespace OwnL
variable {n : Nat} {H : Heap} {vs : List V} {v : V}
theorem slen (h : OwnL n H vs v) : sliceLen v = some vs.length := by cases h <;> rfl
theorem scells (h : OwnL n H vs v) : sliceCells H v = some vs := by
  cases h with
  | nil => rfl
  | sl vs b hb h => simp [sliceCells, objCells_of h]
theorem cell (h : OwnL n H vs v) : isCell v = true := by cases h <;> rfl
theorem cells (h : OwnL n H vs v) : cellsV v = [v] := by cases h <;> rfl
theorem blk_lt (h : OwnL n H vs v) {b : Nat} (hb : blk v = some b) : n ≤ b ∧ b < H.length := by
  cases h with
  | nil => cases hb
  | sl vs c hc h => cases hb; exact ⟨hc, (List.getElem?_eq_some_iff.1 h).1⟩
theorem frame (h : OwnL n H vs v) {H' : Heap} (he : ∀ b, blk v = some b → H'[b]? = H[b]?) : OwnL n H' vs v := by
  cases h with
  | nil => exact .nil
  | sl vs b hb h => exact .sl vs b hb (by rw [he b rfl]; exact h)
theorem lower {m : Nat} (h : OwnL n H vs v) (hm : m ≤ n) : OwnL m H vs v := by
  cases h with
  | nil => exact .nil
  | sl vs b hb h => exact .sl vs b (by omega) h
/-- frozen -/
theorem view (h : OwnL n H vs v) (hp : pureL vs = true) : ∃ u, viewV 0 H v = some u ∧ CellsV vs u := by
  cases h with
  | nil => exact ⟨.nils, rfl, .nil rfl⟩
  | sl vs b hb h => exact ⟨.sv (vs.map fun x => [x]) false, by simp [viewV, objCells_of h, hp, chunks_single], .sv false⟩
theorem frz (h : OwnL n H vs v) (hp : pureL vs = true) : ∃ u G, frzV H v = some (u, G) ∧ CellsV vs u := by
  cases h with
  | nil => exact ⟨.nils, H, rfl, .nil rfl⟩
  | sl vs b hb h => exact ⟨_, _, view_own h rfl hp, .sv false⟩
end OwnL

theorem app_own {n : Nat} {H : Heap} {vs ws : List V} {v y : V} (hv : OwnL n H vs v) (h1 : sliceLen y = some ws.length) (h2 : sliceCells H y = some ws) (hr : (vs.length + ws.length) * 24 ≤ room) (hn : n ≤ H.length) :
    ∃ v' H', appV H v y 1 24 = some (v', H') ∧ OwnL n H' (vs ++ ws) v' ∧ H.length ≤ H'.length ∧ (∀ j, j < H.length → blk v ≠ some j → H'[j]? = H[j]?) ∧ (∀ b, blk v' = some b → blk v = some b ∨ H.length ≤ b) := by
  cases hv with
  | nil =>
    by_cases h0 : ws = []
    · subst h0
      refine ⟨.nils, H, ?_, .nil, Nat.le_refl _, fun _ _ _ => rfl, fun b hb => by cases hb⟩
      simp only [appV, h1, h2]
      simp
    · refine ⟨.sl H.length 0 ws.length ws.length 1 false, H ++ [.cells ws.length 1 ws], ?_, ?_, by simp, fun j hj _ => List.getElem?_append_left hj, fun b hb => by cases hb; exact .inr (Nat.le_refl _)⟩
      · simp only [appV, h1, h2]
        simp [h0]
        simpa using hr
      · exact .sl ws H.length hn (by simp)
  | sl vs b hb h =>
    have hap := appV_own (bytes := 24) (y := y) (k := ws.length) (ys := ws) h h1 h2 (by simp) hr
    have hlt := (List.getElem?_eq_some_iff.1 h).1
    refine ⟨_, _, hap, ?_, by simp, fun j _ hj => get_set_ne (fun e => hj (by rw [e]; rfl)) _, fun c hc => by cases hc; exact .inl rfl⟩
    have := OwnL.sl (n := n) (H := H.set b (.cells (vs.length + ws.length) 1 (vs ++ ws))) (vs ++ ws) b hb (by rw [List.getElem?_set_self hlt]; simp)
    simpa using this

abbrev RFlat (τ : Ty) : Prop := ∀ (t : Tr), IsTy t τ → t.Ok → ∀ (l : List (Option Tr)) (v : V) (H : Heap), SlotsV l v → AllV τ l → l.length < 2 ^ 40 → slotsN l < 2 ^ 40 →
  ∃ o d vs ws X, CC 89 [.agg t.cs, v] H (.ret (.tup [o, d])) (H ++ X) ∧ Fr IntsV (flatS τ l).1 vs ∧ Fr IntsV (flatS τ l).2 ws ∧ OwnL H.length (H ++ X) vs o ∧ OwnL H.length (H ++ X) ws d ∧ (∀ b, blk o = some b → blk d ≠ some b)

theorem rflat_unit : RFlat .unit := by
  intro t ht ho l v H hs hV hl hn
  cases ht with
  | unit w =>
  have hw := SlV.cell ho.inv.2.2.1
  refine ⟨.nils, .nils, [], [], [], CallP.eq (call_ofQ (af := Trnx.a89) rfl rfl fun Q hQ => ?_), .nil, .nil, .nil, .nil, fun b hb => by cases hb⟩
  simp only [Trnx.a89]
  simp [Tr.cs, hw, slotOf]
  exact hQ _ _ ⟨rfl, by simp⟩
theorem rflat_int : RFlat .int := by
  intro t ht ho l v H hs hV hl hn
  cases ht with
  | int w =>
  have hw := SlV.cell ho.inv.2.2.1
  obtain ⟨u, hc, hu⟩ := numbers_q l v hs hl
  rw [PC] at hc
  refine ⟨.sl H.length 0 1 1 1 false, .nils, [u], [], [.cells 1 1 [u]], CallP.eq (call_ofQ (af := Trnx.a89) rfl rfl fun Q hQ => ?_), .cons hu .nil, .nil, .sl [u] H.length (Nat.le_refl _) (by simp), .nil, fun b hb h => by cases h⟩
  simp only [Trnx.a89]
  simp [Tr.cs, hw, hc, SlV.cell hu, SlV.cells hu, fill, slotOf, -pcall]
  exact hQ _ _ ⟨rfl, rfl⟩

theorem rflat_two (K : Int) (hK : K = 2 ∨ K = 3) (x y : Ty) (ihx : RFlat x) (ihy : RFlat y) (hsx : x.size < 2 ^ 20) (hsy : y.size < 2 ^ 20) (w : V) (a b : Tr) (hta : IsTy a x) (htb : IsTy b y) (ho : (Tr.mk K 0 w [a, b]).Ok) (l : List (Option Tr)) (v : V) (H : Heap) (hs : SlotsV l v)
    (hl : l.length < 2 ^ 40) (hn : slotsN l < 2 ^ 40) (g : Nat → Option Tr → Option Tr) (hg : ∀ i : Nat, (if K = 3 then partU (i : Int) else partP i) = g i) (hok : ∀ t, some t ∈ l → t.Ok)
    (hk : ∀ i : Nat, i < 2 → ∀ t, some t ∈ l → if K = 3 then (t.n = i → 0 < t.l.length) else i < t.l.length)
    (hv0 : AllV x (l.map (g 0))) (hv1 : AllV y (l.map (g 1))) (hsl : ∀ i, slotsN (l.map (g i)) ≤ slotsN l) :
    ∃ o d vs ws X, CC 89 [.agg (Tr.mk K 0 w [a, b]).cs, v] H (.ret (.tup [o, d])) (H ++ X) ∧ Fr IntsV ((if K = 3 then [l.map num] else []) ++ ((flatS x (l.map (g 0))).1 ++ (flatS y (l.map (g 1))).1)) vs ∧
      Fr IntsV ((flatS x (l.map (g 0))).2 ++ (flatS y (l.map (g 1))).2) ws ∧ OwnL H.length (H ++ X) vs o ∧ OwnL H.length (H ++ X) ws d ∧ (∀ b, blk o = some b → blk d ≠ some b) := by
  obtain ⟨_, _, hv, hkids⟩ := ho.inv
  have hbx := x.both_size
  have hby := y.both_size
  have hw := hv.cell
  have i0 := idx_tr hv (i := 0) (by simp)
  have i1 := idx_tr hv (i := 1) (by simp)
  simp only [List.getElem_cons_zero, List.getElem_cons_succ, Int.natCast_zero, Int.natCast_one] at i0 i1
  have hca := cells_tr (hkids a (by simp))
  have hcb := cells_tr (hkids b (by simp))
  have fx := flatS_len x (l.map (g 0))
  have fy := flatS_len y (l.map (g 1))
  have hsum : ((K : Int) == 3) = decide (K = 3) := by by_cases h : K = 3 <;> simp [h]
  obtain ⟨p0, hp0, hs0⟩ := part_q l v hs hl hok (decide (K = 3)) 0 (fun t ht => by have := hk 0 (by omega) t ht; simpa using this)
  obtain ⟨p1, hp1, hs1⟩ := part_q l v hs hl hok (decide (K = 3)) 1 (fun t ht => by have := hk 1 (by omega) t ht; simpa using this)
  have hg0 := hg 0
  have hg1 := hg 1
  simp only [decide_eq_true_eq] at hs0 hs1
  rw [hg0] at hs0
  rw [hg1] at hs1
  obtain ⟨o1, d1, vs1, ws1, X1, c1, r1, r2, q1, q2, z1⟩ := ihx a hta (hkids a (by simp)) (l.map (g 0)) p0 H hs0 hv0 (by simpa using hl) (by have := hsl 0; omega)
  obtain ⟨o2, d2, vs2, ws2, X2, c2, r3, r4, q3, q4, z2⟩ := ihy b htb (hkids b (by simp)) (l.map (g 1)) p1 (H ++ X1) hs1 hv1 (by simpa using hl) (by have := hsl 1; omega)
  obtain ⟨u, hnum, hu⟩ := numbers_q l v hs hl
  have l1 := r1.length
  have l2 := r2.length
  have l3 := r3.length
  have l4 := r4.length
  -- the lists behind the second call
  have hpre : ∀ (j : Nat), j < (H ++ X1).length → (H ++ X1 ++ X2)[j]? = (H ++ X1)[j]? := fun j hj => List.getElem?_append_left hj
  have q1' : OwnL H.length (H ++ X1 ++ X2) vs1 o1 := q1.frame fun b hb => hpre b (q1.blk_lt hb).2
  have q2' : OwnL H.length (H ++ X1 ++ X2) ws1 d1 := q2.frame fun b hb => hpre b (q2.blk_lt hb).2
  have hlX : H.length ≤ (H ++ X1).length := by simp
  obtain ⟨G, hG⟩ : ∃ G, G = H ++ X1 ++ X2 := ⟨_, rfl⟩
  rw [← hG] at q1' q2' q3 q4 c2 hpre
  have hGl : (H ++ X1).length ≤ G.length := by rw [hG]; simp
  have hroom : room = 140737488355328 := by simp [room]
  obtain ⟨o3, G1, a1, q5, g1, g2, g3⟩ := app_own q1' q3.slen q3.scells (by omega) (by omega)
  have f24 : ∀ b, blk d2 = some b → blk o1 ≠ some b := fun b hb h => by have := (q4.blk_lt hb).1; have := (q1.blk_lt h).2; omega
  have f21 : ∀ b, blk d1 = some b → blk o1 ≠ some b := fun b hb h => z1 b h hb
  have q4' : OwnL (H ++ X1).length G1 ws2 d2 := q4.frame fun b hb => g2 b (q4.blk_lt hb).2 (f24 b hb)
  have q2'' : OwnL H.length G1 ws1 d1 := q2'.frame fun b hb => g2 b (q2'.blk_lt hb).2 (f21 b hb)
  have hpreG : ∀ (j : Nat), j < H.length → G[j]? = H[j]? := fun j hj => by rw [hG, List.append_assoc, List.getElem?_append_left hj]
  have hn1 : ∀ j, j < H.length → blk o1 ≠ some j := fun j hj h => by have := (q1.blk_lt h).1; omega
  have hn2 : ∀ j, j < H.length → blk d1 ≠ some j := fun j hj h => by have := (q2.blk_lt h).1; omega
  have hd13 : ∀ b, blk o3 = some b → blk d1 ≠ some b := fun b hb h => by
    rcases g3 b hb with h2 | h2
    · exact z1 b h2 h
    · have := (q2'.blk_lt h).2; omega
  have hcs : (Tr.mk K 0 w [a, b]).cs = [.int .i64 K, .int .i64 0, w] := rfl
  rw [hcs]
  rw [PC] at hp0 hp1 hnum
  rcases hK with rfl | rfl
  · have e2 : decide ((2 : Int) = 3) = false := rfl
    rw [e2] at hp0 hp1
    obtain ⟨d3, G2, a2, q6, g4, g5, g6⟩ := app_own q2'' q4'.slen q4'.scells (by omega) (by omega)
    have q5' : OwnL H.length G2 (vs1 ++ vs2) o3 := q5.frame fun b hb => g5 b (q5.blk_lt hb).2 (hd13 b hb)
    obtain ⟨Y, hY⟩ := ext_of (H := H) (G := G2) (by omega) (fun j hj => by rw [g5 j (by omega) (hn2 j hj), g2 j (by omega) (hn1 j hj), hpreG j hj])
    refine ⟨o3, d3, vs1 ++ vs2, ws1 ++ ws2, Y, ?_, by simpa using r1.append r3, r2.append r4, by rw [← hY]; exact q5', by rw [← hY]; exact q6, ?_⟩
    · rw [← hY]
      refine CallP.eq (call_ofQ (af := Trnx.a89) rfl rfl fun Q hQ => ?_)
      simp only [Trnx.a89]
      simp only [Int.natCast_zero, Int.natCast_one] at hp0 hp1
      simp [hw, i0, i1, hca, hcb, hp0, hp1, c1, c2, a1, a2, slotOf, -pcall, -List.all_eq_true]
      exact hQ _ _ ⟨rfl, rfl⟩
    · intro b hb h
      rcases g6 b h with h2 | h2
      · exact hd13 b hb h2
      · have := (q5.blk_lt hb).2; omega
  · have e2 : decide ((3 : Int) = 3) = true := rfl
    rw [e2] at hp0 hp1
    have q7 : OwnL H.length (G1 ++ [.cells 1 1 [u]]) [u] (.sl G1.length 0 1 1 1 false) := .sl [u] G1.length (by omega) (by simp)
    have q5'' : OwnL H.length (G1 ++ [.cells 1 1 [u]]) (vs1 ++ vs2) o3 := q5.frame fun b hb => List.getElem?_append_left (q5.blk_lt hb).2
    obtain ⟨o4, G3, a3, q8, g7, g8, g9⟩ := app_own q7 q5''.slen q5''.scells (by simp; omega) (by simp; omega)
    have q4'' : OwnL (H ++ X1).length G3 ws2 d2 := q4'.frame fun b hb => by
      have := (q4'.blk_lt hb).2
      rw [g8 b (by simp; omega) (fun h => by cases h; omega), List.getElem?_append_left this]
    have q2''' : OwnL H.length G3 ws1 d1 := q2''.frame fun b hb => by
      have := (q2''.blk_lt hb).2
      rw [g8 b (by simp; omega) (fun h => by cases h; omega), List.getElem?_append_left this]
    simp only [List.length_append, List.length_singleton] at g7 g8 g9
    obtain ⟨d3, G2, a2, q6, g4, g5, g6⟩ := app_own q2''' q4''.slen q4''.scells (by omega) (by omega)
    have hd14 : ∀ b, blk o4 = some b → blk d1 ≠ some b := fun b hb h => by
      have hlt := (q2''.blk_lt h).2
      rcases g9 b hb with h2 | h2
      · cases h2; omega
      · omega
    have q8' : OwnL H.length G2 ([u] ++ (vs1 ++ vs2)) o4 := q8.frame fun b hb => g5 b (q8.blk_lt hb).2 (hd14 b hb)
    obtain ⟨Y, hY⟩ := ext_of (H := H) (G := G2) (by omega) (fun j hj => by
      rw [g5 j (by omega) (hn2 j hj), g8 j (by omega) (fun h => by cases h; omega), List.getElem?_append_left (by omega), g2 j (by omega) (hn1 j hj), hpreG j hj])
    refine ⟨o4, d3, [u] ++ (vs1 ++ vs2), ws1 ++ ws2, Y, ?_, by simpa using Fr.cons hu (r1.append r3), r2.append r4, by rw [← hY]; exact q8', by rw [← hY]; exact q6, ?_⟩
    · rw [← hY]
      refine CallP.eq (call_ofQ (af := Trnx.a89) rfl rfl fun Q hQ => ?_)
      simp only [Trnx.a89]
      simp only [Int.natCast_zero, Int.natCast_one] at hp0 hp1
      simp [hw, i0, i1, hca, hcb, hp0, hp1, c1, c2, a1, a2, a3, hnum, SlV.cell hu, SlV.cells hu, fill, slotOf, -pcall, -List.all_eq_true]
      exact hQ _ _ ⟨rfl, rfl⟩
    · intro b hb h
      rcases g6 b h with h2 | h2
      · exact hd14 b hb h2
      · have := (q8.blk_lt hb).2; omega
end Go.Proofs.Nst
/- Nest: the reference's flat of sequences; Flatten by the reference. -/
set_option linter.unusedVariables false
set_option linter.unusedSimpArgs false
namespace Go.Proofs.Nst
open Go Go.Am

mutual
theorem eqV_tr : ∀ t : Tr, t.Ok → eqV t.v t.v = true ∧ eqL t.cs t.cs = true
  | .mk k n v l, ho => by
    obtain ⟨_, _, hv, hl⟩ := ho.inv
    have h := eqLL_tr l hl
    have hvv : eqV v v = true := by
      cases hv with
      | nil _ => rfl
      | sv ex => simp [eqV, h]
    exact ⟨hvv, by simp [Tr.cs, eqL, eqV, hvv]⟩
theorem eqLL_tr : ∀ l : List Tr, (∀ x ∈ l, x.Ok) → eqLL (l.map Tr.cs) (l.map Tr.cs) = true
  | [], _ => rfl
  | t :: l, h => by
    have h1 := eqV_tr t (h t (by simp))
    have h2 := eqLL_tr l (fun x hx => h x (by simp [hx]))
    simp [eqLL, h1.2, h2]
end
theorem startsS_snoc : ∀ (a : Nat) (l : List (Option Tr)) (o : Option Tr), startsS a (l ++ [o]) = startsS a l ++ [if o.isSome then ((a + (poolS l).length : Nat) : Int) else 0]
  | a, [], none => rfl
  | a, [], some t => by simp [startsS, poolS]
  | a, none :: l, o => by
    have := startsS_snoc a l o
    simp only [List.cons_append, startsS, this]
    rfl
  | a, some t :: l, o => by
    have := startsS_snoc (a + t.l.length) l o
    simp only [List.cons_append, startsS, this, poolS, List.map_cons, kidsO, List.flatten_cons, List.length_append]
    have e : a + t.l.length + (l.map kidsO).flatten.length = a + (t.l.length + (l.map kidsO).flatten.length) := by omega
    rw [e]
def kv : Option Tr → V
  | none => .nils
  | some t => t.v
theorem slot_shape (o : Option Tr) : ∃ a b, slotCs o = [.bool o.isSome, a, b, kv o] := by
  cases o with
  | none => exact ⟨_, _, rfl⟩
  | some t => exact ⟨_, _, by rw [slotCs, t.cs_eq]; rfl⟩
theorem kv_sl {o : Option Tr} (h : ∀ t, o = some t → t.Ok) : SlV ((kidsO o).map Tr.cs) (kv o) := by
  cases o with
  | none => exact .nil rfl
  | some t => exact (h t rfl).sl
theorem kv_eq {o : Option Tr} (h : ∀ t, o = some t → t.Ok) : eqV (kv o) (kv o) = true := by
  cases o with
  | none => rfl
  | some t => exact (eqV_tr t (h t rfl)).1

theorem set3a (H : Heap) (x y z o : Am.Obj) : (H ++ [x, y, z]).set H.length o = H ++ [o, y, z] := by simp
theorem set3b (H : Heap) (x y z o : Am.Obj) : (H ++ [x, y, z]).set (H.length + 1) o = H ++ [x, o, z] := by simp
theorem set3c (H : Heap) (x y z o : Am.Obj) : (H ++ [x, y, z]).set (H.length + 2) o = H ++ [x, y, o] := by simp
abbrev poolCs (l : List Tr) : List V := ((l.map some).map slotCs).flatten
theorem poolCs_len (l : List Tr) : (poolCs l).length = l.length * 4 := by
  have := flat4_len (l.map some)
  simpa using this

theorem poolCs_app (P Q : List Tr) : poolCs (P ++ Q) = poolCs P ++ poolCs Q := by simp [poolCs]

theorem rflat_seq (x : Ty) (ih : RFlat x) (hsx : x.size < 2 ^ 20) : RFlat (.seq x) := by
  intro t ht ho l v H hs hV hl hn
  cases ht with
  | seq w a _ hta =>
  obtain ⟨_, _, hv, hkids⟩ := ho.inv
  have hbx := x.both_size
  have hw := hv.cell
  have i0 := idx_tr hv (i := 0) (by simp)
  simp only [List.getElem_cons_zero, Int.natCast_zero] at i0
  have hca := cells_tr (hkids a (by simp))
  have hlv := hs.len'
  have hpl := pool_le l
  have hplen := Tr.nodesL_length (poolS l)
  -- the pool, frozen
  have hVp := hV.pool
  have hfz : ∀ (G : Heap), G[H.length + 2]? = some (.cells (poolS l).length 4 (poolCs (poolS l))) → frzV G (.sl (H.length + 2) 0 (poolS l).length (poolS l).length 4 false) = some (.sv (((poolS l).map some).map slotCs) false, G.set (H.length + 2) .gone) := fun G hG => by
    have := view_own4 (l := (poolS l).map some) hG (by simp) (slots_pure fun t ht => (hVp t ht).1)
    exact this
  obtain ⟨o, d, vs, ws, X, hc, r1, r2, q1, q2, z1⟩ := ih a hta (hkids a (by simp)) ((poolS l).map some) (.sv (((poolS l).map some).map slotCs) false)
    (H ++ [.cells l.length 1 ((startsS 0 l).map fun n => .int .i64 n), .cells l.length 1 ((l.map lenO).map fun n => .int .i64 n), .gone]) (.sv false) hVp (by simp; omega) (by rw [slotsN_some]; omega)
  have fx := flatS_len x ((poolS l).map some)
  have l1 := r1.length
  have l2 := r2.length
  have hroom : room = 140737488355328 := by simp [room]
  have pureI : ∀ m : List Int, pureL (m.map fun n => V.int .i64 n) = true := fun m => pureL_all.2 fun c hc => by
    obtain ⟨n, _, rfl⟩ := List.mem_map.1 hc
    rfl
  -- behind the call: lens and starts are frozen, the list of both is made, the inner lists are joined
  obtain ⟨G0, hG0⟩ : ∃ G0, G0 = H ++ [.cells l.length 1 ((startsS 0 l).map fun n => .int .i64 n), .cells l.length 1 ((l.map lenO).map fun n => .int .i64 n), .gone] := ⟨_, rfl⟩
  rw [← hG0] at hc q1 q2
  have len0 : G0.length = H.length + 3 := by simp [hG0]
  have hg5 : (G0 ++ X)[H.length]? = some (.cells l.length 1 ((startsS 0 l).map fun n => .int .i64 n)) := get_app (by simp [hG0])
  have hg6 : (G0 ++ X)[H.length + 1]? = some (.cells l.length 1 ((l.map lenO).map fun n => .int .i64 n)) := get_app (by simp [hG0])
  have hf6 := view_own hg6 (by simp) (pureI _)
  have hg5' : ((G0 ++ X).set (H.length + 1) .gone)[H.length]? = some (.cells l.length 1 ((startsS 0 l).map fun n => .int .i64 n)) := by rw [get_set_ne (by omega)]; exact hg5
  have hf5 := view_own hg5' (by simp [startsS_len]) (pureI _)
  obtain ⟨u, hu⟩ : ∃ u, u = V.sv (((startsS 0 l).map fun n => V.int .i64 n).map fun x => [x]) false := ⟨_, rfl⟩
  obtain ⟨u2, hu2⟩ : ∃ u2, u2 = V.sv (((l.map lenO).map fun n => V.int .i64 n).map fun x => [x]) false := ⟨_, rfl⟩
  have iu : IntsV (startsS 0 l) u := by rw [hu]; exact .sv false
  have iu2 : IntsV (l.map lenO) u2 := by rw [hu2]; exact .sv false
  rw [← hu] at hf5
  rw [← hu2] at hf6
  obtain ⟨G1, hG1⟩ : ∃ G1, G1 = ((G0 ++ X).set (H.length + 1) .gone).set H.length .gone := ⟨_, rfl⟩
  rw [← hG1] at hf5
  have len1 : G1.length = (G0 ++ X).length := by simp [hG1]
  have len1' : (G0 ++ X).length = H.length + 3 + X.length := by simp [len0]
  have fr1 : ∀ j, j ≠ H.length → j ≠ H.length + 1 → G1[j]? = (G0 ++ X)[j]? := fun j h1 h2 => by rw [hG1, get_set_ne (by omega), get_set_ne (by omega)]
  have q1' : OwnL G0.length G1 vs o := q1.frame fun b hb => fr1 b (by have := (q1.blk_lt hb).1; omega) (by have := (q1.blk_lt hb).1; omega)
  have q2' : OwnL G0.length G1 ws d := q2.frame fun b hb => fr1 b (by have := (q2.blk_lt hb).1; omega) (by have := (q2.blk_lt hb).1; omega)
  have q3 : OwnL H.length (G1 ++ [.cells 2 1 [u, u2]]) [u, u2] (.sl G1.length 0 2 2 1 false) := .sl [u, u2] G1.length (by omega) (by simp)
  have q1'' : OwnL G0.length (G1 ++ [.cells 2 1 [u, u2]]) vs o := q1'.frame fun b hb => List.getElem?_append_left (q1'.blk_lt hb).2
  have q2'' : OwnL G0.length (G1 ++ [.cells 2 1 [u, u2]]) ws d := q2'.frame fun b hb => List.getElem?_append_left (q2'.blk_lt hb).2
  obtain ⟨d3, G2, a1, q5, g1, g2, g3⟩ := app_own q1'' q2''.slen q2''.scells (by omega) (by simp; omega)
  simp only [List.length_append, List.length_singleton] at g1 g2 g3
  have hb1 : ∀ b, blk o = some b → H.length + 3 ≤ b ∧ b < G1.length := fun b hb => by have := q1.blk_lt hb; have := q1'.blk_lt hb; omega
  have q3' : OwnL H.length G2 [u, u2] (.sl G1.length 0 2 2 1 false) := q3.frame fun b hb => by cases hb; exact g2 _ (by omega) (fun h => by have := hb1 _ h; omega)
  obtain ⟨Y, hY⟩ := ext_of (H := H) (G := G2) (by omega) (fun j hj => by
    rw [g2 j (by omega) (fun h => by have := hb1 _ h; omega), List.getElem?_append_left (by omega), fr1 j (by omega) (by omega), List.getElem?_append_left (by omega), hG0, List.getElem?_append_left hj])
  refine ⟨.sl G1.length 0 2 2 1 false, d3, [u, u2], vs ++ ws, Y, ?_, .cons iu (.cons iu2 .nil), r1.append r2, by rw [← hY]; exact q3', by rw [← hY]; exact q5.lower (by omega), ?_⟩
  case refine_2 =>
    intro b hb h
    cases hb
    rcases g3 _ h with h2 | h2
    · have := hb1 _ h2; omega
    · omega
  rw [← hY]
  have hcs : (Tr.mk 4 0 w [a]).cs = [.int .i64 4, .int .i64 0, w] := rfl
  rw [hcs]
  refine CallP.eq (call_ofQ (af := Trnx.a89) rfl rfl fun Q hQ => ?_)
  simp only [Trnx.a89]
  simp [hw, fill, slotOf]
  refine loop_nQ l.length (fun i c => ∃ s9 s10 fl, c = ⟨[.agg [.int .i64 4, .int .i64 0, w], v, .agg [.int .i64 4, .int .i64 0, w], .nils, .nils, .sl H.length 0 i i 1 false, .sl (H.length + 1) 0 i i 1 false, .sl (H.length + 2) 0 (poolS (l.take i)).length (poolS (l.take i)).length 4 false, .int .i64 i, s9, s10, .undef, .undef, .undef, .undef, .undef, .undef, .undef, .undef, .int .i64 4], [], fl, none,
    H ++ [.cells i 1 ((startsS 0 (l.take i)).map fun n => .int .i64 n), .cells i 1 (((l.take i).map lenO).map fun n => .int .i64 n), .cells (poolS (l.take i)).length 4 (poolCs (poolS (l.take i)))]⟩) ?_ ⟨.undef, .undef, none, by simp [poolS, startsS]⟩
  rintro I hI i c hi ⟨s9, s10, fl, rfl⟩
  by_cases hlt : i < l.length
  · have hlt' : (i : Int) < l.length := by omega
    have hw2 : IntKind.i64.wrap ((i : Int) + 1) = (i : Int) + 1 := wrap64 (by omega) (by omega)
    have hm := List.getElem_mem hlt
    have hok : ∀ t, l[i] = some t → t.Ok := fun t e => (hV t (by rw [← e]; exact hm)).1
    have hi1 := hs.idx' hlt
    obtain ⟨xa, xb, hsh⟩ := slot_shape l[i]
    rw [hsh] at hi1
    have ksl := kv_sl hok
    have keq := kv_eq hok
    have klv := len_tr ksl
    have kok : ∀ z ∈ kidsO l[i], z.Ok := by
      cases e : l[i] with
      | none => simp [kidsO]
      | some t => exact (hok t e).kids
    have eS : startsS 0 (l.take (i + 1)) = startsS 0 (l.take i) ++ [if (l[i]).isSome then ((poolS (l.take i)).length : Int) else 0] := by
      rw [← List.take_append_getElem hlt, startsS_snoc, Nat.zero_add]
    have eL : (l.take (i + 1)).map lenO = (l.take i).map lenO ++ [((kidsO l[i]).length : Int)] := by
      rw [← List.take_append_getElem hlt, List.map_append]; rfl
    have eP := poolS_take hlt
    have hI := hI (i + 1)
    rw [eS, eL, eP] at hI
    have hbp := poolS_take_le l (i + 1)
    rw [eP, List.length_append] at hbp
    have hS := startsS_len 0 (l.take i)
    have hSl : (startsS 0 (l.take i)).length = i := by rw [hS]; simp; omega
    have hLl : ((l.take i).map lenO).length = i := by simp; omega
    generalize kidsO l[i] = kids at *
    generalize kv l[i] = kw at *
    generalize (l[i]).isSome = sm at *
    generalize startsS 0 (l.take i) = S at *
    generalize (l.take i).map lenO = L at *
    generalize poolS (l.take i) = P at *
    clear hsh
    have hexit : ∀ (s10 : V) (fl : Option (Nat × V)), I (i + 1) ⟨[.agg [.int .i64 4, .int .i64 0, w], v, .agg [.int .i64 4, .int .i64 0, w], .nils, .nils, .sl H.length 0 (i + 1) (i + 1) 1 false, .sl (H.length + 1) 0 (i + 1) (i + 1) 1 false, .sl (H.length + 2) 0 (P.length + kids.length) (P.length + kids.length) 4 false, .int .i64 ((i : Int) + 1), .int .i64 (if sm then (P.length : Int) else 0), s10, .undef, .undef, .undef, .undef, .undef, .undef, .undef, .undef, .int .i64 4], [], fl, none,
      H ++ [.cells (i + 1) 1 (S.map (fun n => .int .i64 n) ++ [.int .i64 (if sm then (P.length : Int) else 0)]), .cells (i + 1) 1 (L.map (fun n => .int .i64 n) ++ [.int .i64 kids.length]), .cells (P.length + kids.length) 4 (poolCs P ++ poolCs kids)]⟩ := fun s10 fl => hI _ ⟨_, s10, fl, by rw [poolCs_app, List.map_append, List.map_append, List.length_append]; rfl⟩
    clear hI
    have ap1 := appV_own (h := H ++ [.cells i 1 (S.map fun n => .int .i64 n), .cells i 1 (L.map fun n => .int .i64 n), .cells P.length 4 (poolCs P)]) (o := H.length) (n := i) (sz := 1) (bytes := 8) (cs := S.map fun n => .int .i64 n) (y := .sv [[.int .i64 (if sm then (P.length : Int) else 0)]] true) (k := 1) (ys := [.int .i64 (if sm then (P.length : Int) else 0)]) (by simp) rfl rfl rfl (by omega)
    have ap2 := appV_own (h := H ++ [.cells (i + 1) 1 (S.map (fun n => .int .i64 n) ++ [.int .i64 (if sm then (P.length : Int) else 0)]), .cells i 1 (L.map fun n => .int .i64 n), .cells P.length 4 (poolCs P)]) (o := H.length + 1) (n := i) (sz := 1) (bytes := 8) (cs := L.map fun n => .int .i64 n) (y := .sv [[.int .i64 kids.length]] true) (k := 1) (ys := [.int .i64 kids.length]) (by simp) rfl rfl rfl (by omega)
    rw [set3a] at ap1
    rw [set3b] at ap2
    have ap3 : ∀ (k : Nat) (z : Tr), k < kids.length → kids[k]? = some z → ∀ A B : Am.Obj, appV (H ++ [A, B, .cells (P.length + k) 4 (poolCs P ++ poolCs (kids.take k))]) (.sl (H.length + 2) 0 (P.length + k) (P.length + k) 4 false) (.sv [[.bool true, .int .i64 z.k, .int .i64 z.n, z.v]] true) 4 48 =
        some (.sl (H.length + 2) 0 (P.length + k + 1) (P.length + k + 1) 4 false, H ++ [A, B, .cells (P.length + k + 1) 4 (poolCs P ++ poolCs (kids.take (k + 1)))]) := fun k z hk hz A B => by
      have := appV_own (h := H ++ [A, B, .cells (P.length + k) 4 (poolCs P ++ poolCs (kids.take k))]) (o := H.length + 2) (n := P.length + k) (sz := 4) (bytes := 48) (cs := poolCs P ++ poolCs (kids.take k)) (y := .sv [[.bool true, .int .i64 z.k, .int .i64 z.n, z.v]] true) (k := 1) (ys := [.bool true, .int .i64 z.k, .int .i64 z.n, z.v]) (by simp) rfl rfl rfl (by omega)
      rw [this, set3c]
      have ez : kids[k] = z := by have := (List.getElem?_eq_some_iff.1 hz).2; exact this
      have ek : poolCs (kids.take (k + 1)) = poolCs (kids.take k) ++ [.bool true, .int .i64 z.k, .int .i64 z.n, z.v] := by
        simp only [poolCs]
        rw [← List.take_append_getElem hk, ez]
        simp only [List.map_append, List.map_cons, List.map_nil, List.flatten_append, List.flatten_cons, List.flatten_nil, List.append_nil, slotCs, z.cs_eq]
      rw [ek, List.append_assoc]
    have kcell := SlV.cell ksl
    generalize hA : S.map (fun n => V.int .i64 n) = A at *
    generalize hB : L.map (fun n => V.int .i64 n) = B at *
    generalize hC : poolCs P = C at *
    cases sm
    · simp only [Bool.false_eq_true, if_false, if_true] at ap1 ap2 hexit
      simp [hlv, hlt', hi1, klv, kcell, keq, ap1, ap2, fill, chunks, slotOf]
      refine loop_nQ kids.length (fun k c => ∃ fl, c = ⟨[.agg [.int .i64 4, .int .i64 0, w], v, .agg [.int .i64 4, .int .i64 0, w], .nils, .nils, .sl H.length 0 (i + 1) (i + 1) 1 false, .sl (H.length + 1) 0 (i + 1) (i + 1) 1 false, .sl (H.length + 2) 0 (P.length + k) (P.length + k) 4 false, .int .i64 i, .int .i64 0, .int .i64 k, .undef, .undef, .undef, .undef, .undef, .undef, .undef, .undef, .int .i64 4], [], fl, none,
        H ++ [.cells (i + 1) 1 (A ++ [.int .i64 0]), .cells (i + 1) 1 (B ++ [.int .i64 kids.length]), .cells (P.length + k) 4 (C ++ poolCs (kids.take k))]⟩) ?_ ⟨none, by simp⟩
      rintro J hJ k c hk ⟨fl, rfl⟩
      by_cases hkl : k < kids.length
      · have hkl' : (k : Int) < kids.length := by omega
        have hz1 := idx_tr ksl hkl
        have hz2 := ap3 k kids[k] hkl (by simp) (.cells (i + 1) 1 (A ++ [.int .i64 0])) (.cells (i + 1) 1 (B ++ [.int .i64 kids.length]))
        have hzk := kok _ (List.getElem_mem hkl)
        have hwk : IntKind.i64.wrap ((k : Int) + 1) = (k : Int) + 1 := wrap64 (by omega) (by omega)
        generalize kids[k] = z at *
        have ecz := z.cs_eq
        have hzv := SlV.cell hzk.sl
        have hzp := SlV.pure hzk.sl
        rw [ecz] at hz1
        simp [hlv, hlt', hi1, klv, hkl', hz1, hz2, hwk, hzv, hzp, fill, chunks, slotOf]
        exact ⟨hkl, hJ _ _ ⟨_, rfl⟩⟩
      · obtain rfl : k = kids.length := by omega
        rw [List.take_length]
        simp [hlv, hlt', hi1, klv, hw2, slotOf]
        exact ⟨hlt, hexit _ _⟩
    · simp only [Bool.false_eq_true, if_false, if_true] at ap1 ap2 hexit
      simp [hlv, hlt', hi1, klv, kcell, keq, ap1, ap2, fill, chunks, slotOf]
      refine loop_nQ kids.length (fun k c => ∃ fl, c = ⟨[.agg [.int .i64 4, .int .i64 0, w], v, .agg [.int .i64 4, .int .i64 0, w], .nils, .nils, .sl H.length 0 (i + 1) (i + 1) 1 false, .sl (H.length + 1) 0 (i + 1) (i + 1) 1 false, .sl (H.length + 2) 0 (P.length + k) (P.length + k) 4 false, .int .i64 i, .int .i64 P.length, .int .i64 k, .undef, .undef, .undef, .undef, .undef, .undef, .undef, .undef, .int .i64 4], [], fl, none,
        H ++ [.cells (i + 1) 1 (A ++ [.int .i64 P.length]), .cells (i + 1) 1 (B ++ [.int .i64 kids.length]), .cells (P.length + k) 4 (C ++ poolCs (kids.take k))]⟩) ?_ ⟨none, by simp⟩
      rintro J hJ k c hk ⟨fl, rfl⟩
      by_cases hkl : k < kids.length
      · have hkl' : (k : Int) < kids.length := by omega
        have hz1 := idx_tr ksl hkl
        have hz2 := ap3 k kids[k] hkl (by simp) (.cells (i + 1) 1 (A ++ [.int .i64 P.length])) (.cells (i + 1) 1 (B ++ [.int .i64 kids.length]))
        have hzk := kok _ (List.getElem_mem hkl)
        have hwk : IntKind.i64.wrap ((k : Int) + 1) = (k : Int) + 1 := wrap64 (by omega) (by omega)
        generalize kids[k] = z at *
        have ecz := z.cs_eq
        have hzv := SlV.cell hzk.sl
        have hzp := SlV.pure hzk.sl
        rw [ecz] at hz1
        simp [hlv, hlt', hi1, klv, hkl', hz1, hz2, hwk, hzv, hzp, fill, chunks, slotOf]
        exact ⟨hkl, hJ _ _ ⟨_, rfl⟩⟩
      · obtain rfl : k = kids.length := by omega
        rw [List.take_length]
        simp [hlv, hlt', hi1, klv, hw2, slotOf]
        exact ⟨hlt, hexit _ _⟩
  · obtain rfl : i = l.length := by omega
    rw [List.take_length]
    have hfz' := hfz (H ++ [.cells l.length 1 ((startsS 0 l).map fun n => .int .i64 n), .cells l.length 1 ((l.map lenO).map fun n => .int .i64 n), .cells (poolS l).length 4 (poolCs (poolS l))]) (by simp)
    rw [set3c, ← hG0] at hfz'
    have cu := SlV.cell iu
    have cu2 := SlV.cell iu2
    have cs1 := SlV.cells iu
    have cs2 := SlV.cells iu2
    clear hG0 hG1 hu hu2
    generalize (H ++ [Am.Obj.cells l.length 1 ((startsS 0 l).map fun n => V.int .i64 n), .cells l.length 1 ((l.map lenO).map fun n => V.int .i64 n), .cells (poolS l).length 4 (poolCs (poolS l))]) = G9 at *
    generalize V.sv (((poolS l).map some).map slotCs) false = pv at hfz' hc
    simp [hlv, hw, WX_frz, nthV_eq, hfz', hc, i0, hca, hf5, hf6, cu, cu2, cs1, cs2, a1, fill, chunks, slotOf, -List.all_eq_true]
    exact hQ _ _ ⟨rfl, rfl⟩
end Go.Proofs.Nst
/- Nest: Flatten by the reference; equal lists; the law NestFlattens over the machine. -/
set_option linter.unusedVariables false
set_option linter.unusedSimpArgs false
namespace Go.Proofs.Nst
open Go Go.Am

theorem rflat_q : ∀ τ : Ty, τ.size < 2 ^ 20 → RFlat τ
  | .unit, _ => rflat_unit
  | .int, _ => rflat_int
  | .seq x, hs => by
    simp only [Ty.size] at hs
    exact rflat_seq x (rflat_q x (by omega)) (by omega)
  | .pair x y, hs => by
    simp only [Ty.size] at hs
    intro t ht ho l v H hsv hV hl hn
    cases ht with
    | pair w a b _ _ ha hb =>
    obtain ⟨o, d, vs, ws, X, hc, r1, r2, q1, q2, z⟩ := rflat_two 2 (.inl rfl) x y (rflat_q x (by omega)) (rflat_q y (by omega)) (by omega) (by omega) w a b ha hb ho l v H hsv hl hn partP (fun i => by rw [if_neg (by omega)])
      (fun t ht => (hV t ht).1) (fun i hi t ht => by
        obtain ⟨p, q, e, _⟩ := isV_pair (hV t ht).2
        rw [if_neg (by omega), e]
        simpa using hi) hV.fst hV.snd (fun i => partP_le i l)
    exact ⟨o, d, vs, ws, X, hc, by simpa [flatS] using r1, by simpa [flatS] using r2, q1, q2, z⟩
  | .sum x y, hs => by
    simp only [Ty.size] at hs
    intro t ht ho l v H hsv hV hl hn
    cases ht with
    | sum w a b _ _ ha hb =>
    obtain ⟨o, d, vs, ws, X, hc, r1, r2, q1, q2, z⟩ := rflat_two 3 (.inr rfl) x y (rflat_q x (by omega)) (rflat_q y (by omega)) (by omega) (by omega) w a b ha hb ho l v H hsv hl hn (fun i => partU i) (fun i => by rw [if_pos rfl])
      (fun t ht => (hV t ht).1) (fun i hi t ht => by
        obtain ⟨p, e, _⟩ := isV_sum (hV t ht).2
        rw [if_pos rfl, e]
        simp) hV.left hV.right (fun i => partU_le i l)
    exact ⟨o, d, vs, ws, X, hc, by simpa [flatS] using r1, by simpa [flatS] using r2, q1, q2, z⟩

theorem rflatl_q {t : Tr} {τ : Ty} (hτ : IsTy t τ) (ho : t.Ok) (hs : τ.size < 2 ^ 20) (l : List Tr) (v : V) (hv : SlV (l.map Tr.cs) v) (hV : ∀ x ∈ l, x.Ok ∧ isV τ x = true) (hn : Tr.nodesL l < 2 ^ 40) :
    ∃ u, PC 68 [.agg t.cs, v] u ∧ ListsV (canonS τ l) u := by
  have hcc := cells_tr ho
  have hlen := Tr.nodesL_length l
  have hlv := len_tr hv
  have hbs := τ.both_size
  have hall : AllV τ (l.map some) := fun t ht => by
    obtain ⟨u, hu, he⟩ := List.mem_map.1 ht
    cases he
    exact hV _ hu
  obtain ⟨o, d, vs, ws, X, hc, r1, r2, q1, q2, z1⟩ := rflat_q τ hs t hτ ho (l.map some) (.sv ((l.map some).map slotCs) false) [.gone] (.sv false) hall (by simp; omega) (by rw [slotsN_some]; exact hn)
  have fl := flatS_len τ (l.map some)
  have l1 := r1.length
  have l2 := r2.length
  have hroom : room = 140737488355328 := by simp [room]
  have pv := frIntsPure r1
  have pw := frIntsPure r2
  obtain ⟨o3, G, a1, q3, g1, g2, g3⟩ := app_own q1 q2.slen q2.scells (by omega) (by simp)
  have hpl : pureL (vs ++ ws) = true := by
    rw [pureL_all]
    intro c hc
    rcases List.mem_append.1 hc with hc | hc
    · exact pureL_all.1 pv c hc
    · exact pureL_all.1 pw c hc
  obtain ⟨u, G', hfz2, hu⟩ := q3.frz hpl
  simp only [List.cons_append, List.nil_append] at a1 hc
  have hres : ListsV (canonS τ l) u := ⟨vs ++ ws, hu, r1.append r2⟩
  refine ⟨u, ?_, hres⟩
  refine pc_of (by simp [pureL, pureV, pure_tr ho, hv.pure]) (fun hp => hu.viewW 0 hp) ?_
  refine call_ofQ (af := Trnx.a68) rfl rfl fun Q hQ => ?_
  simp only [Trnx.a68]
  simp [hcc, fill, slotOf, -List.all_eq_true]
  refine loop_nQ l.length (fun i c' => c' = ⟨[.agg t.cs, v, .agg t.cs, .nils, .sl 0 0 i i 4 false, .int .i64 i, .undef, .undef], [], none, none, [.cells i 4 (poolCs (l.take i))]⟩) ?_ (by simp)
  rintro I hI i c' hi rfl
  by_cases hlt : i < l.length
  · have hlt' : (i : Int) < l.length := by omega
    have hw2 : IntKind.i64.wrap ((i : Int) + 1) = (i : Int) + 1 := wrap64 (by omega) (by omega)
    have hi1 := idx_tr hv hlt
    have hok := (hV _ (List.getElem_mem hlt)).1
    have ek : poolCs (l.take (i + 1)) = poolCs (l.take i) ++ [.bool true, .int .i64 l[i].k, .int .i64 l[i].n, l[i].v] := by
      simp only [poolCs]
      rw [← List.take_append_getElem hlt]
      simp only [List.map_append, List.map_cons, List.map_nil, List.flatten_append, List.flatten_cons, List.flatten_nil, List.append_nil, slotCs, l[i].cs_eq]
    have hap := appV_own (h := [.cells i 4 (poolCs (l.take i))]) (o := 0) (n := i) (sz := 4) (bytes := 48) (cs := poolCs (l.take i)) (y := .sv [[.bool true, .int .i64 l[i].k, .int .i64 l[i].n, l[i].v]] true) (k := 1) (ys := [.bool true, .int .i64 l[i].k, .int .i64 l[i].n, l[i].v]) rfl rfl rfl rfl (by omega)
    have hI := hI (i + 1)
    rw [ek] at hI
    generalize l[i] = z at *
    have hzv := SlV.cell hok.sl
    have hzp := SlV.pure hok.sl
    rw [z.cs_eq] at hi1
    generalize poolCs (l.take i) = C at *
    simp [hlv, hlt', hi1, hap, hw2, hzv, hzp, fill, chunks, slotOf]
    exact ⟨hlt, hI _ rfl⟩
  · obtain rfl : i = l.length := by omega
    rw [List.take_length]
    have hf4 : frzV [.cells l.length 4 (poolCs l)] (.sl 0 0 l.length l.length 4 false) = some (.sv ((l.map some).map slotCs) false, [.gone]) := by
      have := view_own4 (H := [.cells l.length 4 (poolCs l)]) (b := 0) (n := l.length) (l := l.map some) rfl (by simp) (slots_pure fun t ht => (hall t ht).1)
      simpa using this
    generalize V.sv ((l.map some).map slotCs) false = pv at hf4 hc
    generalize poolCs l = C at *
    simp [hlv, WX_frz, nthV_eq, hf4, hcc, hc, a1, hfz2, slotOf, -List.all_eq_true]
    exact hQ _ _ rfl

theorem rflatten_q {t : Tr} {τ : Ty} (hτ : IsTy t τ) (ho : t.Ok) (h1 : τ.size ≤ 60) (h2 : τ.deep ≤ 12) (l : List Tr) (v : V) (hv : SlV (l.map Tr.cs) v) (hl : ∀ x ∈ l, x.Ok) (hn : Tr.nodesL l < 2 ^ 40) :
    ∃ u, PC 23 [.agg t.cs, v] (.tup [u, .int .i64 (flatE τ l)]) ∧ ListsV (flatR τ l) u := by
  have hcc := cells_tr ho
  have hlen := Tr.nodesL_length l
  have hlv := len_tr hv
  have ht := isType_q t ho (by rw [hτ.nodes]; omega)
  rw [tyErr_ok hτ h1 h2, PC] at ht
  have key : CallP gl Trnx.aprog 23 [.agg t.cs, v] [] (fun r h' => ∃ u, r = .ret (.tup [u, .int .i64 (flatE τ l)]) ∧ ListsV (flatR τ l) u) := by
    refine call_ofQ (af := Trnx.a23) rfl rfl fun Q hQ => ?_
    simp only [Trnx.a23]
    simp [hcc, ht, hlv, slotOf, -pcall, -List.all_eq_true]
    refine loop_nQ l.length (fun i c => Tr.longL (l.take i) = false ∧ c = ⟨[.agg t.cs, v, .agg t.cs, .nils, .int .i64 0, .int .i64 0, .int .i64 (Tr.nodesL (l.take i)), .int .i64 i, .undef], [], none, none, []⟩) ?_
      ⟨by simp [Tr.longL], by simp [Tr.nodesL]⟩
    rintro I hI i c hi ⟨hl1, rfl⟩
    have hle0 := Tr.nodesL_take_le (l := l) i
    by_cases hlt : i < l.length
    · have hlt' : (i : Int) < l.length := by omega
      have hw2 : IntKind.i64.wrap ((i : Int) + 1) = (i : Int) + 1 := wrap64 (by omega) (by omega)
      have hi1 := idx_tr hv hlt
      have hm := List.getElem_mem hlt
      have htn := Tr.nodesL_take hlt
      have htl := Tr.longL_take_false hlt hl1
      have hmn := Tr.nodesL_mem hm
      have hle := Tr.nodesL_take_le (l := l) (i + 1)
      have hlm : l[i].long = true → Tr.longL l = true := fun h => Tr.longL_iff.2 ⟨_, hm, h⟩
      have c1 := sizeOf_q l[i] (hl _ hm) (by omega)
      have c2 := long_q l[i] (hl _ hm) (by omega)
      have hcw := cells_tr (hl _ hm)
      rw [PC] at c1 c2
      generalize l[i] = w at *
      have hw3 : IntKind.i64.wrap ((Tr.nodesL (l.take i) : Int) + w.nodes) = Tr.nodesL (l.take (i + 1)) := by rw [wrap64 (by omega) (by omega)]; omega
      cases e : w.long
      · rw [e] at c2
        simp [hlv, hlt', hi1, c1, c2, hw2, hw3, slotOf, -pcall]
        exact ⟨hlt, hI _ _ ⟨htl e, rfl⟩⟩
      · rw [e] at c2
        simp [hlv, hlt', hi1, c1, c2, hw3, slotOf, -pcall]
        have hsb : sizedL l = false := by
          simp only [sizedL, Bool.and_eq_false_iff, Bool.not_eq_false']
          exact .inr (hlm e)
        refine hQ _ _ ⟨.nils, ?_, ?_⟩
        · simp [flatE, hsb]
        · simp [flatR, flatE, hsb]; exact ListsV.nil
    · obtain rfl : i = l.length := by omega
      rw [List.take_length] at hl1
      rw [List.take_length]
      by_cases hbd : Tr.nodesL l ≤ 20000
      · have hbd' : ¬ (20000 : Int) < Tr.nodesL l := by omega
        have hsz : sizedL l = true := by simp [sizedL, hbd, hl1]
        simp [hlv, hbd', slotOf]
        refine loop_nQ l.length (fun i c => (∀ z ∈ l.take i, isV τ z = true) ∧ ∃ fl, c = ⟨[.agg t.cs, v, .agg t.cs, .nils, .int .i64 0, .int .i64 0, .int .i64 (Tr.nodesL l), .int .i64 l.length, .int .i64 i], [], fl, none, []⟩) ?_
          ⟨by simp, _, rfl⟩
        rintro J hJ i c hi ⟨hz, fl, rfl⟩
        by_cases hlt : i < l.length
        · have hlt' : (i : Int) < l.length := by omega
          have hw2 : IntKind.i64.wrap ((i : Int) + 1) = (i : Int) + 1 := wrap64 (by omega) (by omega)
          have hi1 := idx_tr hv hlt
          have hm := List.getElem_mem hlt
          have hh := is_q hτ ho l[i] (hl _ hm) (by have := Tr.nodesL_mem hm; omega)
          have htk : ∀ z ∈ l.take (i + 1), z ∈ l.take i ∨ z = l[i] := fun z hz => mem_take_succ hlt hz
          rw [PC] at hh
          generalize l[i] = w at *
          cases e : isV τ w
          · rw [e] at hh
            have hal : l.all (isV τ) = false := by
              rw [Bool.eq_false_iff]
              intro h
              have := List.all_eq_true.1 h w hm
              rw [e] at this
              cases this
            simp [hlv, hlt', hi1, hcc, hh, slotOf, -pcall, -List.all_eq_true]
            refine hQ _ _ ⟨.nils, ?_, ?_⟩
            · simp only [flatE, hsz, hal]; rfl
            · simp only [flatR, flatE, hsz, hal]; exact ListsV.nil
          · rw [e] at hh
            simp [hlv, hlt', hi1, hcc, hh, hw2, slotOf, -pcall, -List.all_eq_true]
            refine ⟨hlt, hJ _ _ ⟨?_, _, rfl⟩⟩
            intro z hz2
            rcases htk z hz2 with hz2 | rfl
            · exact hz z hz2
            · exact e
        · obtain rfl : i = l.length := by omega
          rw [List.take_length] at hz
          have hal : l.all (isV τ) = true := List.all_eq_true.2 hz
          obtain ⟨u, hr, hu⟩ := rflatl_q hτ ho (by omega) l v hv (fun t ht => ⟨hl t ht, hz t ht⟩) hn
          rw [PC] at hr
          simp [hlv, hcc, hr, slotOf, -pcall, -List.all_eq_true]
          refine hQ _ _ ⟨u, ?_, ?_⟩
          · simp only [flatE, hsz, hal]; rfl
          · simp only [flatR, flatE, hsz, hal]; exact hu
      · have hbd' : (20000 : Int) < Tr.nodesL l := by omega
        have hsb : sizedL l = false := by simp [sizedL, hbd]
        simp [hlv, hbd', slotOf]
        refine hQ _ _ ⟨.nils, ?_, ?_⟩
        · simp [flatE, hsb]
        · simp [flatR, flatE, hsb]; exact ListsV.nil
  obtain ⟨r, h', e, u, rfl, hu⟩ := OptP.ex key
  refine ⟨u, ?_, hu⟩
  have hpt := pure_tr ho
  have hpv := hv.pure
  simp only [PC, pcall, callee_func, List.append_nil, List.nil_append]
  rw [if_pos (by simp [pureL, pureV, hpt, hpv]), e]
  simp only [view_lists hu, Option.map_some]

/-- both with what is no data type -/
theorem flatten_bad (t : Tr) (ho : t.Ok) (hn : t.nodes < 2 ^ 50) {e : Int} (he : e = 3 ∨ e = 15) (ht : tyErr t = e) (v : V) (hv : pureV v = true) : PC 22 [.agg t.cs, v] (.tup [.nils, .int .i64 e]) ∧ PC 23 [.agg t.cs, v] (.tup [.nils, .int .i64 e]) := by
  have hcc := cells_tr ho
  obtain ⟨X, hc⟩ := asked_bad t ho hn he ht [.cells 1 1 [.int .i64 0]]
  have hd := caught_wrong 0 e 0 ([Am.Obj.cells 1 1 [.int .i64 0]] ++ X) rfl
  have h1 := isType_q t ho (by omega)
  rw [ht, PC] at h1
  have hne : (e != 0) = true := by rcases he with rfl | rfl <;> rfl
  refine ⟨pc_of (by simp [pureL, pureV, pure_tr ho, hv]) (fun h => rfl) ?_, pc_of (by simp [pureL, pureV, pure_tr ho, hv]) (fun h => rfl) ?_⟩
  · refine call_ofQ (af := Trnx.a22) rfl rfl fun Q hQ => ?_
    simp only [Trnx.a22]
    simp at hc hd
    simp [hcc, hc, hd, objCells, slotOf, forget, AOper.writes, -pcall, -List.all_eq_true]
    exact hQ _ _ rfl
  · refine call_ofQ (af := Trnx.a23) rfl rfl fun Q hQ => ?_
    simp only [Trnx.a23]
    simp [hcc, h1, hne, slotOf, -pcall, -List.all_eq_true]
    exact hQ _ _ rfl

theorem take_succ_iff {α : Type} {l m : List α} {i : Nat} (h1 : i < l.length) (h2 : i < m.length) : l.take (i + 1) = m.take (i + 1) ↔ l.take i = m.take i ∧ l[i] = m[i] := by
  rw [← List.take_append_getElem h1, ← List.take_append_getElem h2]
  constructor
  · intro h
    obtain ⟨a, b⟩ := List.append_inj' h rfl
    exact ⟨a, by simpa using b⟩
  · rintro ⟨a, b⟩
    rw [a, b]
theorem equal_q (l m : List Int) (v w : V) (hv : IntsV l v) (hw : IntsV m w) (hl : l.length < 2 ^ 60) : PC 35 [v, w] (.bool (decide (l = m))) := by
  have lv := hv.len'
  have lw := hw.len'
  refine pc_of (by simp [pureL, SlV.pure hv, SlV.pure hw]) (fun h => rfl) ?_
  refine call_ofQ (af := Trnx.a35) rfl rfl fun Q hQ => ?_
  simp only [Trnx.a35]
  simp [lv, lw, slotOf]
  refine loop_nQ l.length (fun i c => ∃ b fl, c = ⟨[v, w, .bool false, .bool b, .int .i64 i], [], fl, none, []⟩ ∧ (b = true ↔ l.length = m.length ∧ l.take i = m.take i)) ?_ ⟨_, _, rfl, by simp; omega⟩
  rintro I hI i c hi ⟨b, fl, rfl, hb⟩
  cases b with
  | false =>
    simp [lv, lw, slotOf]
    refine hQ _ _ ?_
    have : decide (l = m) = false := decide_eq_false (by
      rintro rfl
      have := hb.2 ⟨rfl, rfl⟩
      cases this)
    rw [this]
  | true =>
    obtain ⟨h1, h2⟩ := hb.1 rfl
    by_cases hlt : i < l.length
    · have hlt' : (i : Int) < l.length := by omega
      have hlm : i < m.length := by omega
      have hw2 : IntKind.i64.wrap ((i : Int) + 1) = (i : Int) + 1 := wrap64 (by omega) (by omega)
      have a1 := hv.idx' hlt
      have a2 := hw.idx' hlm
      simp [lv, lw, hlt', a1, a2, hw2, slotOf]
      refine ⟨hlt, hI _ _ ⟨_, _, rfl, ?_⟩⟩
      rw [take_succ_iff hlt hlm]
      simp [h1, h2]
    · obtain rfl : i = l.length := by omega
      simp [lv, lw, slotOf]
      refine hQ _ _ ?_
      have : decide (l = m) = true := decide_eq_true (by
        rw [List.take_length, h1, List.take_length] at h2
        exact h2)
      rw [this]

theorem equalLists_q (l m : List (List Int)) (v w : V) (hv : ListsV l v) (hw : ListsV m w) (hl : l.length < 2 ^ 60) (hll : ∀ x ∈ l, x.length < 2 ^ 60) : PC 24 [v, w] (.bool (decide (l = m))) := by
  have lv := hv.len
  have lw := hw.len
  refine pc_of (by simp [pureL, hv.pure, hw.pure]) (fun h => rfl) ?_
  refine call_ofQ (af := Trnx.a24) rfl rfl fun Q hQ => ?_
  simp only [Trnx.a24]
  simp [lv, lw, slotOf]
  refine loop_nQ l.length (fun i c => ∃ b fl, c = ⟨[v, w, .bool false, .bool b, .int .i64 i], [], fl, none, []⟩ ∧ (b = true ↔ l.length = m.length ∧ l.take i = m.take i)) ?_ ⟨_, _, rfl, by simp; omega⟩
  rintro I hI i c hi ⟨b, fl, rfl, hb⟩
  cases b with
  | false =>
    simp [lv, lw, slotOf]
    refine hQ _ _ ?_
    have : decide (l = m) = false := decide_eq_false (by
      rintro rfl
      have := hb.2 ⟨rfl, rfl⟩
      cases this)
    rw [this]
  | true =>
    obtain ⟨h1, h2⟩ := hb.1 rfl
    by_cases hlt : i < l.length
    · have hlt' : (i : Int) < l.length := by omega
      have hlm : i < m.length := by omega
      have hw2 : IntKind.i64.wrap ((i : Int) + 1) = (i : Int) + 1 := wrap64 (by omega) (by omega)
      obtain ⟨x1, a1, b1⟩ := hv.idx hlt
      obtain ⟨x2, a2, b2⟩ := hw.idx hlm
      have hc := equal_q _ _ _ _ b1 b2 (hll _ (List.getElem_mem hlt))
      rw [PC] at hc
      simp [lv, lw, hlt', a1, a2, hc, hw2, slotOf, -pcall]
      refine ⟨hlt, hI _ _ ⟨_, _, rfl, ?_⟩⟩
      rw [take_succ_iff hlt hlm]
      simp [h1, h2]
    · obtain rfl : i = l.length := by omega
      simp [lv, lw, slotOf]
      refine hQ _ _ ?_
      have : decide (l = m) = true := decide_eq_true (by
        rw [List.take_length, h1, List.take_length] at h2
        exact h2)
      rw [this]
end Go.Proofs.Nst
