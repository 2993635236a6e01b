/- A part of the law's proof: Flat. -/
import Derived.Test.YtcpcmkacjdbpaaaDoorVal
set_option linter.unusedVariables false
set_option linter.unusedSimpArgs false
namespace Go.Proofs.Nst
open Go Go.Am
inductive Fr {α β : Type} (R : α → β → Prop) : List α → List β → Prop
 | nil : Fr R [] []
 | cons {a b as bs} (h : R a b) (t : Fr R as bs) : Fr R (a :: as) (b :: bs)
namespace Fr
variable {α β : Type} {R : α → β → Prop}
theorem length {as : List α} {bs : List β} (h : Fr R as bs) : as.length = bs.length := by
 induction h with
 | nil => rfl
 | cons _ _ ih => simp [ih]
theorem append {as as' : List α} {bs bs' : List β} (h : Fr R as bs) (h' : Fr R as' bs') : Fr R (as ++ as') (bs ++ bs') := by
 induction h with
 | nil => exact h'
 | cons a _ ih => exact .cons a ih
theorem get {as : List α} {bs : List β} (h : Fr R as bs) : ∀ {i : Nat} (h1 : i < as.length) (h2 : i < bs.length), R as[i] bs[i] := by
 induction h with
 | nil => intro i h1; simp at h1
 | cons a _ ih =>
  intro i h1 h2
  cases i with
  | zero => exact a
  | succ i => exact ih (by simpa using h1) (by simpa using h2)
theorem mem {as : List α} {bs : List β} (h : Fr R as bs) {b : β} (hb : b ∈ bs) : ∃ a ∈ as, R a b := by
 induction h with
 | nil => simp at hb
 | cons r _ ih =>
  rcases List.mem_cons.1 hb with rfl | hb
  ·exact ⟨_, by simp, r⟩
  ·obtain ⟨a, h1, h2⟩ := ih hb
   exact ⟨a, by simp [h1], h2⟩
theorem take {as : List α} {bs : List β} (h : Fr R as bs) : ∀ n, Fr R (as.take n) (bs.take n) := by
 induction h with
 | nil => intro n; simpa using Fr.nil
 | cons r _ ih =>
  intro n
  cases n with
  | zero => exact .nil
  | succ n => exact .cons r (ih n)
theorem drop {as : List α} {bs : List β} (h : Fr R as bs) : ∀ n, Fr R (as.drop n) (bs.drop n) := by
 induction h with
 | nil => intro n; simpa using Fr.nil
 | cons r t ih =>
  intro n
  cases n with
  | zero => exact .cons r t
  | succ n => exact ih n
theorem mono {R' : α → β → Prop} {as : List α} {bs : List β} (h : Fr R as bs) (hr : ∀ a b, R a b → R' a b) : Fr R' as bs := by
 induction h with
 | nil => exact .nil
 | cons r _ ih => exact .cons (hr _ _ r) ih
end Fr
abbrev CellsV (cs : List V) (v : V) : Prop := SlV (cs.map fun x => [x]) v
abbrev IntsV (l : List Int) (v : V) : Prop := CellsV (l.map fun n => .int .i64 n) v
def ListsV (ls : List (List Int)) (v : V) : Prop := ∃ vs, CellsV vs v ∧ Fr IntsV ls vs
theorem flatten_single (cs : List V) : (cs.map fun x => [x]).flatten = cs := by
 induction cs with
 | nil => rfl
 | cons c cs ih => simp [ih]
theorem chunks_single : ∀ (cs : List V), chunks 1 cs.length cs = cs.map fun x => [x]
 | [] => rfl
 | c :: cs => by simp [chunks, chunks_single cs]
theorem CellsV.slen' {cs : List V} {v : V} (h : CellsV cs v) : sliceLen v = some cs.length := by
 have := SlV.slen h
 simpa using this
theorem CellsV.scells' {cs : List V} {v : V} (h : CellsV cs v) (hp : Heap) : sliceCells hp v = some cs := by
 have := SlV.scells h hp
 rw [this, flatten_single]
theorem CellsV.len' {cs : List V} {v : V} (h : CellsV cs v) : lenV v = some (.int .i64 cs.length) := by
 have := SlV.len h
 simpa using this
theorem CellsV.idx' {cs : List V} {v : V} (h : CellsV cs v) {i : Nat} (hi : i < cs.length) : idxV v i 1 = some (.pv [cs[i]]) := by
 rw [SlV.idx h]
 simp [hi]
theorem IntsV.len' {l : List Int} {v : V} (h : IntsV l v) : lenV v = some (.int .i64 l.length) := by
 have := CellsV.len' h
 simpa using this
theorem IntsV.idx' {l : List Int} {v : V} (h : IntsV l v) {i : Nat} (hi : i < l.length) : idxV v i 1 = some (.pv [.int .i64 l[i]]) := by
 have := CellsV.idx' h (i := i) (by simpa using hi)
 simpa using this
theorem pureL_all {cs : List V} : pureL cs = true ↔ ∀ c ∈ cs, pureV c = true := by
 induction cs with
 | nil => simp [pureL]
 | cons c cs ih => simp [pureL, ih]
theorem frIntsPure {ls : List (List Int)} {vs : List V} (h : Fr IntsV ls vs) : pureL vs = true := pureL_all.2 fun c hc => by
 obtain ⟨a, _, h1⟩ := h.mem hc
 exact SlV.pure h1
theorem ListsV.pure {ls : List (List Int)} {v : V} (h : ListsV ls v) : pureV v = true := by
 obtain ⟨vs, h1, _⟩ := h
 exact SlV.pure h1
theorem ListsV.len {ls : List (List Int)} {v : V} (h : ListsV ls v) : lenV v = some (.int .i64 ls.length) := by
 obtain ⟨vs, h1, h2⟩ := h
 rw [CellsV.len' h1, h2.length]
theorem ListsV.idx {ls : List (List Int)} {v : V} (h : ListsV ls v) {i : Nat} (hi : i < ls.length) : ∃ w, idxV v i 1 = some (.pv [w]) ∧ IntsV ls[i] w := by
 obtain ⟨vs, h1, h2⟩ := h
 have hi' : i < vs.length := by rw [← h2.length]; exact hi
 exact ⟨vs[i], CellsV.idx' h1 hi', h2.get hi hi'⟩
theorem ListsV.cell {ls : List (List Int)} {v : V} (h : ListsV ls v) : isCell v = true := by
 obtain ⟨vs, h1, _⟩ := h
 exact SlV.cell h1
theorem ListsV.cells {ls : List (List Int)} {v : V} (h : ListsV ls v) : cellsV v = [v] := by
 obtain ⟨vs, h1, _⟩ := h
 exact SlV.cells h1
theorem view_own {H : Heap} {b n : Nat} {cs : List V} (hb : H[b]? = some (.cells n 1 cs)) (hn : n = cs.length) (hp : pureL cs = true) : frzV H (.sl b 0 n n 1 false) = some (.sv (cs.map fun x => [x]) false, H.set b .gone) := by
 subst hn
 simp [frzV, viewV, objCells_of hb, hp, chunks_single]
theorem viewW_own {H : Heap} {b n : Nat} {cs : List V} (hb : H[b]? = some (.cells n 1 cs)) (hn : n = cs.length) (hp : pureL cs = true) : viewW 0 H (.sl b 0 n n 1 false) = some (.sv (cs.map fun x => [x]) false) := by
 subst hn
 refine viewW_of ?_
 simp [viewV, objCells_of hb, hp, chunks_single]
theorem joined88_q (vs : List V) (v : V) (hv : CellsV vs v) (css : List (List V)) (hf : Fr (fun cs w => CellsV cs w ∧ pureL cs = true) css vs) (hlen : css.flatten.length < 2 ^ 40) (hl2 : vs.length < 2 ^ 40) : ∃ u, PC 88 [v] u ∧ CellsV css.flatten u := by
 refine ⟨.sv (css.flatten.map fun x => [x]) false, ?_, .sv false⟩
 have hpv := SlV.pure hv
 have hlv := CellsV.len' hv
 refine pc_ofW (by simp [pureL, hpv]) ?_
 refine call_ofQ (af := Trnx.a88) rfl rfl fun Q hQ => ?_
 simp only [Trnx.a88]
 simp [hlv, slotOf]
 refine loop_nQ vs.length (fun i c => ∃ x y, c = ⟨[v, .nils, .sl 0 0 (css.take i).flatten.length (css.take i).flatten.length 1 false, x, v, .int .i64 vs.length, .int .i64 i], [], y, none, [.cells (css.take i).flatten.length 1 (css.take i).flatten]⟩) ?_ ⟨.undef, none, by simp⟩
 rintro I hI i c hi ⟨x, y, rfl⟩
 by_cases hlt : i < vs.length
 ·have hlt' : (i : Int) < vs.length := by omega
  have hi1 := CellsV.idx' hv hlt
  have hw2 : IntKind.i64.wrap ((i : Int) + 1) = (i : Int) + 1 := wrap64 (by omega) (by omega)
  have hlc : i < css.length := by rw [hf.length]; exact hlt
  obtain ⟨h1, h2⟩ := hf.get hlc hlt
  have hs1 := CellsV.slen' h1
  have hs2 := CellsV.scells' h1
  have e : (css.take (i + 1)).flatten = (css.take i).flatten ++ css[i] := by rw [← List.take_append_getElem hlc, List.flatten_append]; simp
  have hbd : (css.take (i + 1)).flatten.length ≤ css.flatten.length := by
   have := congrArg List.length (congrArg List.flatten (List.take_append_drop (i + 1) css))
   rw [List.flatten_append, List.length_append] at this
   omega
  have hap := appV_own (h := [.cells (css.take i).flatten.length 1 (css.take i).flatten]) (o := 0) (n := (css.take i).flatten.length) (sz := 1) (bytes := 24) (cs := (css.take i).flatten) rfl hs1 (hs2 _) (by simp) (by
   rw [e, List.length_append] at hbd
   have : room = 140737488355328 := by simp [room]
   omega)
  have hcl := SlV.cell h1
  generalize vs[i] = w at *
  have hI := hI (i + 1)
  rw [e] at hI
  generalize (css.take i).flatten = F at *
  generalize css[i] = G at *
  simp [hlt', hi1, hap, hw2, hcl, slotOf]
  exact ⟨hlt, hI _ ⟨w, none, by simp⟩⟩
 ·obtain rfl : i = vs.length := by omega
  have e : css.take vs.length = css := by rw [← hf.length, List.take_length]
  have hp : pureL css.flatten = true := by
   rw [pureL_all]
   intro c hc
   obtain ⟨cs, h1, h2⟩ := List.mem_flatten.1 hc
   obtain ⟨j, hj, rfl⟩ := List.getElem_of_mem h1
   exact pureL_all.1 (hf.get hj (by rw [← hf.length]; exact hj)).2 c h2
  have hfz := view_own (H := [.cells css.flatten.length 1 css.flatten]) (b := 0) (n := css.flatten.length) rfl rfl hp
  rw [e]
  have hQ := hQ
  generalize css.flatten = F at *
  simp [hfz, slotOf]
  refine hQ _ _ ⟨_, rfl, ?_⟩
  exact (SlV.sv false).viewW 0 _
end Go.Proofs.Nst
set_option linter.unusedVariables false
set_option linter.unusedSimpArgs false
namespace Go.Proofs.Nst
open Go Go.Am
def num : Option Tr → Int
 | none => 0
 | some t => t.n
def kidsO : Option Tr → List Tr
 | none => []
 | some t => t.l
def lenO (o : Option Tr) : Int := (kidsO o).length
def startsS : Nat → List (Option Tr) → List Int
 | _, [] => []
 | at', none :: l => 0 :: startsS at' l
 | at', some t :: l => (at' : Int) :: startsS (at' + t.l.length) l
def poolS (l : List (Option Tr)) : List Tr := (l.map kidsO).flatten
def partP (k : Nat) (o : Option Tr) : Option Tr := match o with
 | none => none
 | some t => t.l[k]?
def partU (k : Int) (o : Option Tr) : Option Tr := match o with
 | none => none
 | some t => if t.n = k then t.l[0]? else none
def flatS : Ty → List (Option Tr) → List (List Int) × List (List Int)
 | .unit, _ => ([], [])
 | .int, l => ([l.map num], [])
 | .seq a, l => ([startsS 0 l, l.map lenO], (flatS a ((poolS l).map some)).1 ++ (flatS a ((poolS l).map some)).2)
 | .pair a b, l => ((flatS a (l.map (partP 0))).1 ++ (flatS b (l.map (partP 1))).1, (flatS a (l.map (partP 0))).2 ++ (flatS b (l.map (partP 1))).2)
 | .sum a b, l => (l.map num :: ((flatS a (l.map (partU 0))).1 ++ (flatS b (l.map (partU 1))).1), (flatS a (l.map (partU 0))).2 ++ (flatS b (l.map (partU 1))).2)
theorem flatS_len : ∀ (τ : Ty) (l : List (Option Tr)), (flatS τ l).1.length = τ.own ∧ (flatS τ l).2.length = τ.data
 | .unit, l => ⟨rfl, rfl⟩
 | .int, l => ⟨rfl, rfl⟩
 | .seq a, l => by
  have := flatS_len a ((poolS l).map some)
  simp only [flatS, Ty.own, Ty.data, List.length_append, this.1, this.2]
  exact ⟨rfl, trivial⟩
 | .pair a b, l => by
  have h1 := flatS_len a (l.map (partP 0))
  have h2 := flatS_len b (l.map (partP 1))
  simp only [flatS, Ty.own, Ty.data, List.length_append, h1.1, h1.2, h2.1, h2.2]
  exact ⟨trivial, trivial⟩
 | .sum a b, l => by
  have h1 := flatS_len a (l.map (partU 0))
  have h2 := flatS_len b (l.map (partU 1))
  simp only [flatS, Ty.own, Ty.data, List.length_append, List.length_cons, h1.1, h1.2, h2.1, h2.2]
  refine ⟨by omega, trivial⟩
def AllV (τ : Ty) (l : List (Option Tr)) : Prop := ∀ t, some t ∈ l → t.Ok ∧ isV τ t = true
def slotsN : List (Option Tr) → Nat
 | [] => 0
 | none :: l => slotsN l
 | some t :: l => t.nodes + slotsN l
theorem slotsN_some (l : List Tr) : slotsN (l.map some) = Tr.nodesL l := by
 induction l with
 | nil => rfl
 | cons t l ih => simp [slotsN, Tr.nodesL, ih]
theorem isV_seq {a : Ty} {t : Tr} (h : isV (.seq a) t = true) : ∀ x ∈ t.l, isV a x = true := by
 obtain ⟨k, n, v, l⟩ := t
 simp only [isV, Bool.and_eq_true, List.all_eq_true] at h
 exact h.2
theorem isV_pair {a b : Ty} {t : Tr} (h : isV (.pair a b) t = true) : ∃ x y, t.l = [x, y] ∧ isV a x = true ∧ isV b y = true := by
 obtain ⟨k, n, v, l⟩ := t
 match l with
 | [x, y] => simp only [isV, Bool.and_eq_true] at h; exact ⟨x, y, rfl, h.2⟩
 | [] => simp [isV] at h
 | [x] => simp [isV] at h
 | _ :: _ :: _ :: _ => simp [isV] at h
theorem isV_sum {a b : Ty} {t : Tr} (h : isV (.sum a b) t = true) : ∃ x, t.l = [x] ∧ (t.n = 0 ∧ isV a x = true ∨ t.n = 1 ∧ isV b x = true) := by
 obtain ⟨k, n, v, l⟩ := t
 match l with
 | [x] => simp only [isV, Bool.and_eq_true, Bool.or_eq_true, beq_iff_eq] at h; exact ⟨x, rfl, h.2⟩
 | [] => simp [isV] at h
 | _ :: _ :: _ => simp [isV] at h
theorem Tr.Ok.kids {t : Tr} (h : t.Ok) : ∀ x ∈ t.l, x.Ok := by
 cases h with
 | mk k n v l a b c d => exact d
theorem AllV.pool {a : Ty} {l : List (Option Tr)} (h : AllV (.seq a) l) : AllV a ((poolS l).map some) := by
 intro t ht
 obtain ⟨x, hx, he⟩ := List.mem_map.1 ht
 cases he
 simp only [poolS, List.mem_flatten, List.mem_map] at hx
 obtain ⟨_, ⟨o, ho, rfl⟩, hx⟩ := hx
 cases o with
 | none => simp [kidsO] at hx
 | some u =>
  obtain ⟨h1, h2⟩ := h u ho
  exact ⟨h1.kids _ hx, isV_seq h2 _ hx⟩
theorem AllV.fst {a b : Ty} {l : List (Option Tr)} (h : AllV (.pair a b) l) : AllV a (l.map (partP 0)) := by
 intro t ht
 obtain ⟨o, ho, he⟩ := List.mem_map.1 ht
 cases o with
 | none => simp [partP] at he
 | some u =>
  obtain ⟨h1, h2⟩ := h u ho
  obtain ⟨x, y, e, h3, h4⟩ := isV_pair h2
  simp [partP, e] at he
  subst he
  exact ⟨h1.kids _ (by simp [e]), h3⟩
theorem AllV.snd {a b : Ty} {l : List (Option Tr)} (h : AllV (.pair a b) l) : AllV b (l.map (partP 1)) := by
 intro t ht
 obtain ⟨o, ho, he⟩ := List.mem_map.1 ht
 cases o with
 | none => simp [partP] at he
 | some u =>
  obtain ⟨h1, h2⟩ := h u ho
  obtain ⟨x, y, e, h3, h4⟩ := isV_pair h2
  simp [partP, e] at he
  subst he
  exact ⟨h1.kids _ (by simp [e]), h4⟩
theorem AllV.left {a b : Ty} {l : List (Option Tr)} (h : AllV (.sum a b) l) : AllV a (l.map (partU 0)) := by
 intro t ht
 obtain ⟨o, ho, he⟩ := List.mem_map.1 ht
 cases o with
 | none => simp [partU] at he
 | some u =>
  obtain ⟨h1, h2⟩ := h u ho
  obtain ⟨x, e, h3⟩ := isV_sum h2
  rcases h3 with ⟨h3, h4⟩ | ⟨h3, h4⟩
  ·simp [partU, e, h3] at he
   subst he
   exact ⟨h1.kids _ (by simp [e]), h4⟩
  ·simp [partU, h3] at he
theorem AllV.right {a b : Ty} {l : List (Option Tr)} (h : AllV (.sum a b) l) : AllV b (l.map (partU 1)) := by
 intro t ht
 obtain ⟨o, ho, he⟩ := List.mem_map.1 ht
 cases o with
 | none => simp [partU] at he
 | some u =>
  obtain ⟨h1, h2⟩ := h u ho
  obtain ⟨x, e, h3⟩ := isV_sum h2
  rcases h3 with ⟨h3, h4⟩ | ⟨h3, h4⟩
  ·simp [partU, h3] at he
  ·simp [partU, e, h3] at he
   subst he
   exact ⟨h1.kids _ (by simp [e]), h4⟩
theorem nodes_kids (t : Tr) : Tr.nodesL t.l < t.nodes := by
 cases t; simp only [Tr.l, Tr.nodes]; omega
theorem pool_le : ∀ l : List (Option Tr), Tr.nodesL (poolS l) ≤ slotsN l
 | [] => by simp [poolS, Tr.nodesL]
 | none :: l => by have := pool_le l; simp only [poolS, List.map_cons, kidsO, List.flatten_cons, List.nil_append, slotsN]; exact this
 | some t :: l => by
  have h1 := pool_le l
  have := nodes_kids t
  simp only [poolS] at h1
  simp only [poolS, List.map_cons, kidsO, List.flatten_cons, Tr.nodesL_append, slotsN]
  omega
theorem part_le (f : Option Tr → Option Tr) (h0 : f none = none) (h : ∀ t u, f (some t) = some u → u ∈ t.l) : ∀ l : List (Option Tr), slotsN (l.map f) ≤ slotsN l
 | [] => by simp [slotsN]
 | none :: l => by have := part_le f h0 h l; simp only [List.map_cons, h0, slotsN]; exact this
 | some t :: l => by
  have := part_le f h0 h l
  simp only [List.map_cons]
  cases e : f (some t) with
  | none => simp only [slotsN]; omega
  | some u =>
   have h1 := Tr.nodesL_mem (h t u e)
   have := nodes_kids t
   simp only [slotsN]
   omega
theorem partP_le (k : Nat) (l : List (Option Tr)) : slotsN (l.map (partP k)) ≤ slotsN l := part_le _ rfl (fun t u h => List.mem_of_getElem? h) l
theorem partU_le (k : Int) (l : List (Option Tr)) : slotsN (l.map (partU k)) ≤ slotsN l := part_le _ rfl (fun t u h => by
 simp only [partU] at h
 split at h
 ·exact List.mem_of_getElem? h
 ·cases h) l
def pvO : Option Tr → V
 | none => .nilp
 | some t => .pv t.cs
theorem pvO_cell (o : Option Tr) : isCell (pvO o) = true := by cases o <;> rfl
theorem pvO_pure {o : Option Tr} : pureV (pvO o) = true := by cases o <;> simp [pvO, pureV]
inductive Ptrs (H : Heap) (l : List (Option Tr)) : V → Prop
 | sv (v : V) (h : CellsV (l.map pvO) v) : Ptrs H l v
 | sl (b : Nat) (h : H[b]? = some (.cells l.length 1 (l.map pvO))) : Ptrs H l (.sl b 0 l.length l.length 1 false)
theorem Ptrs.len {H : Heap} {l : List (Option Tr)} {v : V} (h : Ptrs H l v) : lenV v = some (.int .i64 l.length) := by
 cases h with
 | sv _ h => have := CellsV.len' h; simpa using this
 | sl b h => rfl
theorem load_ref {h : Heap} {b n sz off : Nat} {cs : List V} {x : V} (ho : h[b]? = some (.cells n sz cs)) (hx : cs[off]? = some x) : loadV h (.ref b off n) 1 false = some x := by
 have hlt := (List.getElem?_eq_some_iff.1 hx).1
 have e : (cs.drop off).take 1 = [x] := by
  rw [List.drop_eq_getElem_cons hlt, List.take_succ_cons, List.take_zero]
  have := (List.getElem?_eq_some_iff.1 hx).2
  rw [this]
 simp only [loadV, objCells_of ho]
 rw [if_pos ⟨trivial, by omega⟩, e]
 rfl
theorem Ptrs.read {H : Heap} {l : List (Option Tr)} {v : V} (h : Ptrs H l v) {i : Nat} (hi : i < l.length) : ∃ a, idxV v i 1 = some a ∧ loadV H a 1 false = some (pvO l[i]) := by
 cases h with
 | sv _ h =>
  have := CellsV.idx' h (i := i) (by simpa using hi)
  exact ⟨_, this, by simp⟩
 | sl b h =>
  refine ⟨.ref b ((0 + i) * 1) l.length, ?_, ?_⟩
  ·simp only [idxV, Int.toNat_natCast]
   rw [if_pos ⟨by omega, by omega, trivial⟩]
  ·exact load_ref h (by simp [hi])
theorem Ptrs.cell {H : Heap} {l : List (Option Tr)} {v : V} (h : Ptrs H l v) : isCell v = true := by
 cases h with
 | sv _ h => exact SlV.cell h
 | sl b h => rfl
theorem Ptrs.cells {H : Heap} {l : List (Option Tr)} {v : V} (h : Ptrs H l v) : cellsV v = [v] := by
 cases h with
 | sv _ h => exact SlV.cells h
 | sl b h => rfl
theorem Ptrs.ext {H H' : Heap} {l : List (Option Tr)} {v : V} (h : Ptrs H l v) (he : ∀ (i : Nat) o, H[i]? = some o → H'[i]? = some o) : Ptrs H' l v := by
 cases h with
 | sv _ h => exact .sv _ h
 | sl b h => exact .sl b (he _ _ h)
theorem num101_q (t : Tr) (h : Heap) : CC 101 [.pv t.cs] h (.ret (.int .i64 t.n)) h := by
 refine CallP.eq (call_ofQ (af := Trnx.a101) rfl rfl fun Q hQ => ?_)
 simp only [Trnx.a101]
 simp [Tr.cs_eq, slotOf]
 exact hQ _ _ ⟨rfl, rfl⟩
theorem num104_q (t : Tr) (h : Heap) : CC 104 [.pv t.cs] h (.ret (.int .i64 t.n)) h := by
 refine CallP.eq (call_ofQ (af := Trnx.a104) rfl rfl fun Q hQ => ?_)
 simp only [Trnx.a104]
 simp [Tr.cs_eq, slotOf]
 exact hQ _ _ ⟨rfl, rfl⟩
theorem Tr.Ok.sl {t : Tr} (h : t.Ok) : SlV (t.l.map Tr.cs) t.v := by
 cases h with
 | mk k n v l a b c d => exact c
theorem len103_q (t : Tr) (ho : t.Ok) (h : Heap) : CC 103 [.pv t.cs] h (.ret (.int .i64 t.l.length)) h := by
 have hlv := len_tr ho.sl
 refine CallP.eq (call_ofQ (af := Trnx.a103) rfl rfl fun Q hQ => ?_)
 simp only [Trnx.a103]
 simp [Tr.cs_eq, hlv, slotOf]
 exact hQ _ _ ⟨rfl, rfl⟩
theorem splice_mid (a b : List V) (x y : V) (i : Nat) (h : a.length = i) : splice (a ++ x :: b) i [y] = a ++ y :: b := by subst h; simp [splice]
theorem words_q (l : List (Option Tr)) (v : V) (H0 : Heap) (c k : Nat) (ca : List V) (f : List Int) (hf : f.length = l.length) (hl : l.length < 2 ^ 40) (hlv : lenV v = some (.int .i64 l.length)) (St : Nat → Heap → Prop)
  (h0 : St 0 (H0 ++ [.cells l.length 1 (List.replicate l.length (.int .i64 0))]))
  (hc0 : loadV H0 (.ref c 0 1) 1 false = some v)
  (hrd : ∀ i H, St i H → loadV H (.ref c 0 1) 1 false = some v ∧ ∀ (j : Nat) (hj : j < l.length), ∃ a, idxV v j 1 = some a ∧ loadV H a 1 false = some (pvO l[j]))
  (hset : ∀ i H n x, St i H → St i (H.set H0.length (.cells n 1 x)))
  (hnone : ∀ (i : Nat) (hi : i < l.length), l[i] = none → f[i]? = some 0 ∧ ∀ H, St i H → St (i + 1) H)
  (hsome : ∀ (i : Nat) (hi : i < l.length) t, l[i] = some t → ∀ H, St i H → ∃ (x : Int) (H' : Heap), f[i]? = some x ∧ (lim gl Trnx.aprog).call k (.pv t.cs :: ca) H = some (.ret (.int .i64 x), H') ∧ St (i + 1) H' ∧ H'[H0.length]? = H[H0.length]?) :
  ∃ u H', CC 100 [.func (.func k) [] ca, .ref c 0 1] H0 (.ret u) (H'.set H0.length .gone) ∧ IntsV f u ∧ St l.length H' ∧ pureV u = true := by
 have key : CallP gl Trnx.aprog 100 [.func (.func k) [] ca, .ref c 0 1] H0 (fun r h' => ∃ u H', r = .ret u ∧ h' = H'.set H0.length .gone ∧ IntsV f u ∧ St l.length H' ∧ pureV u = true) := by
  refine call_ofQ (af := Trnx.a100) rfl rfl fun Q hQ => ?_
  simp only [Trnx.a100, WX_seq]
  refine WX_last _ _ (c' := ⟨[.func (.func k) [] ca, .ref c 0 1, .nils, .undef, .undef, .undef, .undef, .undef, .undef], [], none, none, H0⟩) ?_ ?_
  ·simp [slotOf]
  simp only [seqQ_norm, WX_seq]
  have hrm : (l.length : Int) * 8 ≤ room := by
   simp only [room]
   omega
  refine WX_last _ _ (c' := ⟨[.func (.func k) [] ca, .ref c 0 1, .nils, .sl H0.length 0 l.length l.length 1 false, .undef, .undef, .undef, .undef, .undef], [], none, none, H0 ++ [.cells l.length 1 (List.replicate l.length (.int .i64 0))]⟩) ?_ ?_
  ·have hmx : (l.length : Int) ≤ 9223372036854775807 := by omega
   simp [hc0, hlv, hrm, hmx, slotOf, -loadV]
  simp only [seqQ_norm, WX_seq]
  have hr0 := (hrd 0 _ h0).1
  refine WX_last _ _ (c' := ⟨[.func (.func k) [] ca, .ref c 0 1, .nils, .sl H0.length 0 l.length l.length 1 false, .undef, .undef, v, .int .i64 l.length, .int .i64 0], [], none, none, H0 ++ [.cells l.length 1 (List.replicate l.length (.int .i64 0))]⟩) ?_ ?_
  ·simp [hr0, hlv, slotOf, -loadV]
  simp only [seqQ_norm, WX_seq, WX_block, WX_loop]
  refine loop_nQ l.length (fun i c' => ∃ H x y z, c' = ⟨[.func (.func k) [] ca, .ref c 0 1, .nils, .sl H0.length 0 l.length l.length 1 false, x, y, v, .int .i64 l.length, .int .i64 i], [], z, none, H⟩ ∧ St i H ∧ H[H0.length]? = some (.cells l.length 1 (((f.take i).map fun n => .int .i64 n) ++ List.replicate (l.length - i) (.int .i64 0)))) ?_ ⟨_, _, _, _, rfl, h0, by simp⟩
  rintro I hI i c' hi ⟨H, x, y, z, rfl, hS, hH⟩
  by_cases hlt : i < l.length
  ·have hlt' : (i : Int) < l.length := by omega
   have hw2 : IntKind.i64.wrap ((i : Int) + 1) = (i : Int) + 1 := wrap64 (by omega) (by omega)
   obtain ⟨a, ha1, ha2⟩ := (hrd i H hS).2 i hlt
   cases e : l[i] with
   | none =>
    obtain ⟨hf0, hst⟩ := hnone i hlt e
    rw [e] at ha2
    simp only [pvO] at ha2
    simp [hlt', ha1, ha2, hw2, slotOf, -loadV]
    refine ⟨hlt, hI _ _ ⟨H, _, _, _, rfl, hst _ hS, ?_⟩⟩
    rw [hH]
    have hlf : i < f.length := by omega
    have e2 : f.take (i + 1) = f.take i ++ [0] := by
     rw [← List.take_append_getElem hlf]
     have := (List.getElem?_eq_some_iff.1 hf0).2
     rw [this]
    have e3 : List.replicate (l.length - i) (V.int .i64 0) = V.int .i64 0 :: List.replicate (l.length - (i + 1)) (V.int .i64 0) := by
     rw [← List.replicate_succ]; congr 1; omega
    rw [e2, e3]
    simp
   | some t =>
    obtain ⟨n, H', hf0, hcall, hst, hkeep⟩ := hsome i hlt t e H hS
    rw [e] at ha2
    simp only [pvO] at ha2
    have hlf : i < f.length := by omega
    have e2 : f.take (i + 1) = f.take i ++ [n] := by
     rw [← List.take_append_getElem hlf]
     have := (List.getElem?_eq_some_iff.1 hf0).2
     rw [this]
    have e3 : List.replicate (l.length - i) (V.int .i64 0) = V.int .i64 0 :: List.replicate (l.length - (i + 1)) (V.int .i64 0) := by
     rw [← List.replicate_succ]; congr 1; omega
    have ho := objCells_of (hkeep.trans hH)
    have hst2 := hset (i + 1) H' l.length (((f.take (i + 1)).map fun n => V.int .i64 n) ++ List.replicate (l.length - (i + 1)) (.int .i64 0)) hst
    have hsv : storeV H' (.ref H0.length i l.length) (.int .i64 n) 1 = some (H'.set H0.length (.cells l.length 1 (((f.take (i + 1)).map fun n => V.int .i64 n) ++ List.replicate (l.length - (i + 1)) (.int .i64 0)))) := by
     simp only [storeV, ho]
     rw [if_pos ⟨trivial, by simp; omega, by simp, by simp⟩]
     congr 4
     rw [e2, e3]
     have hlen : ((f.take i).map fun n => V.int .i64 n).length = i := by simp; omega
     simp only [cellsV_int, List.map_append, List.map_cons, List.map_nil, List.append_assoc, List.singleton_append]
     exact splice_mid _ _ _ _ i hlen
    have hlt2 := (List.getElem?_eq_some_iff.1 (hkeep.trans hH)).1
    simp [hlt', ha1, ha2, hcall, hsv, hw2, slotOf, -loadV]
    exact ⟨hlt, hI _ _ ⟨_, _, _, _, rfl, by simpa using hst2, by simp [hlt2]⟩⟩
  ·obtain rfl : i = l.length := by omega
   have e1 : f.take l.length = f := List.take_of_length_le (by omega)
   rw [e1] at hH
   simp only [Nat.sub_self, List.replicate_zero, List.append_nil] at hH
   have hfz := view_own hH (by simp [hf]) (pureL_all.2 fun c hc => by
    obtain ⟨n, _, rfl⟩ := List.mem_map.1 hc
    rfl)
   simp [hfz, slotOf]
   refine hQ _ _ ⟨_, H, rfl, rfl, ?_, hS, ?_⟩
   ·show SlV ((f.map fun n => V.int .i64 n).map fun x => [x]) _
    rw [List.map_map]
    exact .sv false
   ·simp [pureV]
 obtain ⟨r, h', e, u, H', rfl, rfl, h1, h2, h3⟩ := OptP.ex key
 exact ⟨u, H', e, h1, h2, h3⟩
end Go.Proofs.Nst
set_option linter.unusedVariables false
set_option linter.unusedSimpArgs false
namespace Go.Proofs.Nst
open Go Go.Am
theorem load_cell {H : Heap} {c : Nat} {x : V} (h : H[c]? = some (.cells 1 1 [x])) : loadV H (.ref c 0 1) 1 false = some x := load_ref h rfl
theorem get_set_ne {H : Heap} {i j : Nat} (h : i ≠ j) (o : Am.Obj) : (H.set i o)[j]? = H[j]? := List.getElem?_set_ne h
theorem set_last {H : Heap} (o o' : Am.Obj) : (H ++ [o]).set H.length o' = H ++ [o'] := by simp
def wordO (g : Tr → Int) : Option Tr → Int
 | none => 0
 | some t => g t
theorem wordsP_q (l : List (Option Tr)) (v : V) (H0 : Heap) (c k : Nat) (hl : l.length < 2 ^ 40) (hp : Ptrs H0 l v) (hc : H0[c]? = some (.cells 1 1 [v])) (g : Tr → Int)
  (hk : ∀ t, some t ∈ l → ∀ H, CC k [.pv t.cs] H (.ret (.int .i64 (g t))) H) :
  ∃ u, CC 100 [.func (.func k) [] [], .ref c 0 1] H0 (.ret u) (H0 ++ [.gone]) ∧ IntsV (l.map (wordO g)) u ∧ pureV u = true := by
 have hclt := (List.getElem?_eq_some_iff.1 hc).1
 obtain ⟨u, H', h1, h2, ⟨x, rfl⟩, h4⟩ := words_q l v H0 c k [] (l.map (wordO g)) (by simp) hl hp.len (fun i H => ∃ x, H = H0 ++ [x]) ⟨_, rfl⟩ (load_cell hc)
  (fun i H ⟨x, hx⟩ => by
   subst hx
   exact ⟨load_cell (get_app hc), fun j hj => (hp.ext fun i o => get_app).read hj⟩)
  (fun i H n x ⟨y, hy⟩ => ⟨.cells n 1 x, by rw [hy, set_last]⟩)
  (fun i hi e => ⟨by simp [hi, e, wordO], fun H h => h⟩)
  (fun i hi t e H h => ⟨g t, H, by simp [hi, e, wordO], hk t (by rw [← e]; exact List.getElem_mem hi) H, h, rfl⟩)
 rw [set_last] at h1
 exact ⟨u, h1, h2, h4⟩
inductive Pool (H : Heap) (p q : Nat) : List (Option Tr) → Prop
 | nil (h : H[p]? = some (.cells 1 1 [.nils])) : Pool H p q []
 | cons (l : List (Option Tr)) (hl : l ≠ []) (h : H[p]? = some (.cells 1 1 [.sl q 0 l.length l.length 1 false])) (hq : H[q]? = some (.cells l.length 1 (l.map pvO))) : Pool H p q l
theorem Pool.app {H : Heap} {p q : Nat} {l : List (Option Tr)} (h : Pool H p q l) (X : Heap) : Pool (H ++ X) p q l := by
 cases h with
 | nil h => exact .nil (get_app h)
 | cons _ hl h hq => exact .cons _ hl (get_app h) (get_app hq)
def poolV (q n : Nat) : V := if n = 0 then .nils else .sl q 0 n n 1 false
theorem Pool.cell {H : Heap} {p q : Nat} {l : List (Option Tr)} (h : Pool H p q l) : H[p]? = some (.cells 1 1 [poolV q l.length]) := by
 cases h with
 | nil h => exact h
 | cons _ hl h hq =>
  rw [h, poolV, if_neg (by simpa using hl)]
theorem Pool.ptrs {H : Heap} {p q : Nat} {l : List (Option Tr)} (h : Pool H p q l) : Ptrs H l (poolV q l.length) := by
 cases h with
 | nil h => exact .sv _ (.nil rfl)
 | cons _ hl h hq =>
  rw [poolV, if_neg (by simpa using hl)]
  exact .sl q hq
theorem Pool.set {H : Heap} {p q : Nat} {l : List (Option Tr)} (h : Pool H p q l) {j : Nat} (h1 : j ≠ p) (h2 : j ≠ q) (o : Am.Obj) : Pool (H.set j o) p q l := by
 cases h with
 | nil h => exact .nil (by rw [get_set_ne h1]; exact h)
 | cons _ hl h hq => exact .cons _ hl (by rw [get_set_ne h1]; exact h) (by rw [get_set_ne h2]; exact hq)
theorem poolV_len (q n : Nat) : lenV (poolV q n) = some (.int .i64 n) := by
 unfold poolV
 split
 ·rename_i h; subst h; rfl
 ·rfl
theorem push_q {H : Heap} {p q : Nat} {l : List (Option Tr)} (h : Pool H p q l) (hq0 : l = [] → q = H.length) (hpq : p ≠ q) (hl : l.length < 2 ^ 40) (t : Tr) :
  ∃ v' H1, appV H (poolV q l.length) (.sv [[.pv t.cs]] true) 1 8 = some (v', H1) ∧ storeV H1 (.ref p 0 1) v' 1 = some (H1.set p (.cells 1 1 [v'])) ∧ Pool (H1.set p (.cells 1 1 [v'])) p q (l ++ [some t]) ∧
   (∀ j, j ≠ p → j ≠ q → j < H.length → (H1.set p (.cells 1 1 [v']))[j]? = H[j]?) ∧ H.length ≤ H1.length ∧ q < H1.length := by
 have hp := (List.getElem?_eq_some_iff.1 h.cell).1
 cases h with
 | nil h =>
  have hq := hq0 rfl
  subst hq
  refine ⟨.sl H.length 0 1 1 1 false, H ++ [.cells 1 1 [.pv t.cs]], ?_, ?_, ?_, ?_, ?_, ?_⟩
  ·simp [appV, poolV, sliceLen, sliceCells, room]
  ·simp [storeV, objCells_of (get_app h)]
  ·refine .cons _ (by simp) ?_ ?_
   ·rw [List.getElem?_set_self (by simp; omega)]; rfl
   ·rw [get_set_ne hpq]; simp [pvO]
  ·intro j h1 h2 h3
   rw [get_set_ne (Ne.symm h1), List.getElem?_append_left h3]
  ·simp
  ·simp
 | cons _ hne h hq =>
  have hql := (List.getElem?_eq_some_iff.1 hq).1
  have hap := appV_own (bytes := 8) (y := .sv [[.pv t.cs]] true) (k := 1) (ys := [.pv t.cs]) hq rfl rfl rfl (by simp [room]; omega)
  refine ⟨.sl q 0 (l.length + 1) (l.length + 1) 1 false, H.set q (.cells (l.length + 1) 1 (l.map pvO ++ [.pv t.cs])), ?_, ?_, ?_, ?_, ?_, ?_⟩
  ·rw [poolV, if_neg (by simpa using hne)]
   exact hap
  ·have := objCells_of (h := H.set q (.cells (l.length + 1) 1 (l.map pvO ++ [.pv t.cs]))) (by rw [get_set_ne (Ne.symm hpq)]; exact h)
   simp [storeV, this]
  ·refine .cons _ (by simp) ?_ ?_
   ·rw [List.getElem?_set_self (by simp; omega)]; simp
   ·rw [get_set_ne hpq, List.getElem?_set_self hql]; simp [pvO]
  ·intro j h1 h2 h3
   rw [get_set_ne (Ne.symm h1), get_set_ne (Ne.symm h2)]
  ·simp
  ·simpa using hql
theorem pool102_q (t : Tr) (ho : t.Ok) (H : Heap) (p q : Nat) (l : List (Option Tr)) (h : Pool H p q l) (hq0 : l = [] → q = H.length) (hpq : p ≠ q) (hl : l.length + t.l.length < 2 ^ 40) :
  ∃ H', CC 102 [.pv t.cs, .ref p 0 1] H (.ret (.int .i64 l.length)) H' ∧ Pool H' p q (l ++ t.l.map some) ∧ (∀ j, j ≠ p → j ≠ q → j < H.length → H'[j]? = H[j]?) ∧ H.length ≤ H'.length ∧ (l ++ t.l.map some = [] → q = H'.length) := by
 have hlv := len_tr ho.sl
 have key : CallP gl Trnx.aprog 102 [.pv t.cs, .ref p 0 1] H (fun r H' => r = .ret (.int .i64 l.length) ∧ Pool H' p q (l ++ t.l.map some) ∧ (∀ j, j ≠ p → j ≠ q → j < H.length → H'[j]? = H[j]?) ∧ H.length ≤ H'.length ∧ (l ++ t.l.map some = [] → q = H'.length)) := by
  refine call_ofQ (af := Trnx.a102) rfl rfl fun Q hQ => ?_
  have hp0 := load_cell h.cell
  simp only [Trnx.a102]
  rw [Tr.cs_eq]
  simp [hp0, poolV_len, hlv, slotOf, -loadV]
  have hld : ∀ H x y, loadV H (.pv [x, y, t.v]) 1 false = some x := fun _ _ _ => rfl
  have hl3 : ∀ H, loadV H (.pv [t.v]) 1 false = some t.v := fun _ => rfl
  simp [hl3, hlv, slotOf, -loadV]
  refine loop_nQ t.l.length (fun i c => ∃ G x y, c = ⟨[.pv [.int .i64 t.k, .int .i64 t.n, t.v], .ref p 0 1, .int .i64 0, .int .i64 l.length, x, .int .i64 t.l.length, .int .i64 i], [], y, none, G⟩ ∧
   Pool G p q (l ++ (t.l.take i).map some) ∧ (∀ j, j ≠ p → j ≠ q → j < H.length → G[j]? = H[j]?) ∧ H.length ≤ G.length ∧ (l ++ (t.l.take i).map some = [] → q = G.length)) ?_ ⟨H, _, _, rfl, by simpa using h, fun _ _ _ _ => rfl, Nat.le_refl _, by simpa using hq0⟩
  rintro I hI i c hi ⟨G, x, y, rfl, hP, hfr, hle, hq1⟩
  by_cases hlt : i < t.l.length
  ·have hlt' : (i : Int) < t.l.length := by omega
   have hw2 : IntKind.i64.wrap ((i : Int) + 1) = (i : Int) + 1 := wrap64 (by omega) (by omega)
   have hi1 := idx_tr ho.sl hlt
   have hlen : (l ++ (t.l.take i).map some).length = l.length + i := by simp; omega
   obtain ⟨v', H1, p1, p2, p3, p4, p5, p6⟩ := push_q hP hq1 hpq (by omega) t.l[i]
   have hp1 := load_cell hP.cell
   have e : (t.l.take (i + 1)).map some = (t.l.take i).map some ++ [some t.l[i]] := by rw [← List.take_append_getElem hlt, List.map_append]; rfl
   simp only [hlen] at p1 hp1
   have hI := hI (i + 1)
   rw [e] at hI
   generalize t.l[i] = u at *
   simp [hlt', hp1, hl3, hi1, p1, p2, hw2, fill, chunks, slotOf, pureV, -loadV]
   refine ⟨hlt, hI _ ⟨_, _, _, rfl, by simpa using p3, ?_, ?_, ?_⟩⟩
   ·intro j h1 h2 h3
    rw [p4 j h1 h2 (by omega), hfr j h1 h2 h3]
   ·simp; omega
   ·simp
  ·obtain rfl : i = t.l.length := by omega
   rw [List.take_length] at hP hq1
   simp [slotOf]
   exact hQ _ _ ⟨rfl, hP, hfr, hle, hq1⟩
 obtain ⟨r, H', e, rfl, h1⟩ := OptP.ex key
 exact ⟨H', e, h1⟩
end Go.Proofs.Nst
set_option linter.unusedVariables false
set_option linter.unusedSimpArgs false
namespace Go.Proofs.Nst
open Go Go.Am
theorem partP_q (t : Tr) (ho : t.Ok) (i : Nat) (hi : i < t.l.length) (H : Heap) (a b e : Nat) (u0 u1 u3 : V) (ha : H[a]? = some (.cells 1 1 [.ref b 0 1])) (hb : H[b]? = some (.cells 1 4 [u0, u1, .int .i64 2, u3])) (he : H[e]? = some (.cells 1 1 [.int .i64 i])) :
  CC 105 [.pv t.cs, .ref a 0 1, .ref e 0 1] H (.ret (pvO (partP i (some t)))) H := by
 have oa := objCells_of ha
 have ob := objCells_of hb
 have oe := objCells_of he
 have hi1 := idx_tr ho.sl hi
 refine CallP.eq (call_ofQ (af := Trnx.a105) rfl rfl fun Q hQ => ?_)
 have e : t.l[i]? = some t.l[i] := by simp [hi]
 simp only [partP, e, pvO] at hQ
 simp only [Trnx.a105]
 rw [Tr.cs_eq]
 generalize t.l[i] = w at *
 simp [oa, ob, oe, hi1, slotOf]
 exact hQ _ _ ⟨rfl, rfl⟩
theorem partU_q (t : Tr) (ho : t.Ok) (i : Nat) (hi : t.n = i → 0 < t.l.length) (H : Heap) (a b e : Nat) (u0 u1 u3 : V) (ha : H[a]? = some (.cells 1 1 [.ref b 0 1])) (hb : H[b]? = some (.cells 1 4 [u0, u1, .int .i64 3, u3])) (he : H[e]? = some (.cells 1 1 [.int .i64 i])) :
  CC 105 [.pv t.cs, .ref a 0 1, .ref e 0 1] H (.ret (pvO (partU i (some t)))) H := by
 have oa := objCells_of ha
 have ob := objCells_of hb
 have oe := objCells_of he
 refine CallP.eq (call_ofQ (af := Trnx.a105) rfl rfl fun Q hQ => ?_)
 simp only [partU] at hQ
 by_cases hn : t.n = i
 ·have hl := hi hn
  have hi1 := idx_tr ho.sl hl
  have e : t.l[0]? = some t.l[0] := by simp [hl]
  rw [if_pos hn] at hQ
  simp only [e, pvO] at hQ
  simp only [Trnx.a105]
  rw [Tr.cs_eq]
  generalize t.l[0] = w at *
  simp only [Int.natCast_zero] at hi1
  simp [oa, ob, oe, hn, hi1, slotOf]
  exact hQ _ _ ⟨rfl, rfl⟩
 ·rw [if_neg hn] at hQ
  simp only [pvO] at hQ
  have hne : (t.n == (i : Int)) = false := ne_false hn
  simp only [Trnx.a105]
  rw [Tr.cs_eq]
  simp [oa, ob, oe, hne, slotOf]
  exact hQ _ _ ⟨rfl, rfl⟩
theorem of99_q (l : List (Option Tr)) (v : V) (H0 : Heap) (c k : Nat) (ca : List V) (hl : l.length < 2 ^ 40) (hp : Ptrs H0 l v) (hc : H0[c]? = some (.cells 1 1 [v])) (g : Option Tr → Option Tr) (hg : g none = none)
  (hk : ∀ t, some t ∈ l → ∀ x, CC k (.pv t.cs :: ca) (H0 ++ [x]) (.ret (pvO (g (some t)))) (H0 ++ [x])) :
  ∃ u, CC 99 [.func (.func k) [] ca, .ref c 0 1] H0 (.ret u) (H0 ++ [.gone]) ∧ CellsV ((l.map g).map pvO) u := by
 have hlv := hp.len
 refine ⟨.sv (((l.map g).map pvO).map fun x => [x]) false, ?_, .sv false⟩
 have hcl : ∀ x, (H0 ++ [x])[c]? = some (.cells 1 1 [v]) := fun x => get_app hc
 refine CallP.eq (call_ofQ (af := Trnx.a99) rfl rfl fun Q hQ => ?_)
 simp only [Trnx.a99]
 have hld : ∀ x, loadV (H0 ++ [x]) (.ref c 0 1) 1 false = some v := fun x => load_cell (hcl x)
 simp [hld, hlv, slotOf, -loadV]
 refine loop_nQ l.length (fun i c' => ∃ x y, c' = ⟨[.func (.func k) [] ca, .ref c 0 1, .nils, .sl H0.length 0 i i 1 false, x, v, .int .i64 l.length, .int .i64 i], [], y, none, H0 ++ [.cells i 1 (((l.take i).map g).map pvO)]⟩) ?_ ⟨.undef, none, by simp⟩
 rintro I hI i c' hi ⟨x, y, rfl⟩
 by_cases hlt : i < l.length
 ·have hlt' : (i : Int) < l.length := by omega
  have hw2 : IntKind.i64.wrap ((i : Int) + 1) = (i : Int) + 1 := wrap64 (by omega) (by omega)
  have hm := List.getElem_mem hlt
  have hlen : (((l.take i).map g).map pvO).length = i := by simp; omega
  have e : ((l.take (i + 1)).map g).map pvO = ((l.take i).map g).map pvO ++ [pvO (g l[i])] := by rw [← List.take_append_getElem hlt, List.map_append, List.map_append]; rfl
  have hI := hI (i + 1)
  rw [e] at hI
  obtain ⟨a, ha1, ha2⟩ := (hp.ext (H' := H0 ++ [.cells i 1 (((l.take i).map g).map pvO)]) fun i o => get_app).read hlt
  have hap := appV_own (h := H0 ++ [.cells i 1 (((l.take i).map g).map pvO)]) (o := H0.length) (n := i) (sz := 1) (bytes := 8) (cs := ((l.take i).map g).map pvO) (y := .sv [[pvO (g l[i])]] true) (k := 1) (ys := [pvO (g l[i])]) (by simp) rfl rfl rfl (by simp [room]; omega)
  have hc1 := hk
  generalize hA : ((l.take i).map g).map pvO = A at *
  cases eo : l[i] with
  | none =>
   rw [eo] at ha2 hap hI
   rw [hg] at hap hI
   simp only [pvO] at ha2 hap hI
   simp [hlt', ha1, ha2, hap, hw2, fill, chunks, slotOf, -loadV]
   refine ⟨hlt, hI _ ⟨_, _, rfl⟩⟩
  | some t =>
   have hc2 := hk t (by rw [← eo]; exact hm) (.cells i 1 A)
   rw [eo] at ha2 hap hI
   generalize hgt : g (some t) = w at *
   have hpc := pvO_cell w
   have hpp := pvO_pure (o := w)
   simp only [pvO] at ha2
   generalize pvO w = pw at *
   have hcs : cellsV pw = [pw] ∨ True := .inr trivial
   have hcs : cellsV pw = [pw] := by
    cases pw <;> first | rfl | simp [isCell] at hpc
   simp [hlt', ha1, ha2, hap, hc2, hw2, hcs, hpc, hpp, fill, chunks, slotOf, -loadV]
   refine ⟨hlt, hI _ ⟨_, _, rfl⟩⟩
 ·obtain rfl : i = l.length := by omega
  rw [List.take_length]
  have hfz := view_own (H := H0 ++ [.cells l.length 1 ((l.map g).map pvO)]) (b := H0.length) (n := l.length) (cs := (l.map g).map pvO) (by simp) (by simp) (pureL_all.2 fun c hc => by
   obtain ⟨n, _, rfl⟩ := List.mem_map.1 hc
   exact pvO_pure)
  rw [set_last] at hfz
  generalize (l.map g).map pvO = A at *
  simp [hfz, slotOf]
  exact hQ _ _ ⟨rfl, rfl⟩
end Go.Proofs.Nst
set_option linter.unusedVariables false
set_option linter.unusedSimpArgs false
namespace Go.Proofs.Nst
open Go Go.Am
theorem ext_of {H G : Heap} (hl : H.length ≤ G.length) (h : ∀ j, j < H.length → G[j]? = H[j]?) : ∃ X, G = H ++ X := by
 refine ⟨G.drop H.length, ?_⟩
 have e : G.take H.length = H := by
  apply List.ext_getElem?
  intro i
  rw [List.getElem?_take]
  by_cases hi : i < H.length
  ·rw [if_pos hi, h i hi]
  ·rw [if_neg hi]
   rw [Nat.not_lt] at hi
   exact (List.getElem?_eq_none (by omega)).symm
 have := List.take_append_drop H.length G
 rw [e] at this
 exact this.symm
theorem startsS_len : ∀ (a : Nat) (l : List (Option Tr)), (startsS a l).length = l.length
 | _, [] => rfl
 | a, none :: l => by simp [startsS, startsS_len a l]
 | a, some t :: l => by simp [startsS, startsS_len _ l]
theorem startsS_get : ∀ (a : Nat) (l : List (Option Tr)) (i : Nat), (∀ t, l[i]? = some (some t) → (startsS a l)[i]? = some ((a + (poolS (l.take i)).length : Nat) : Int)) ∧ (l[i]? = some none → (startsS a l)[i]? = some 0)
 | _, [], i => by simp
 | a, none :: l, 0 => by simp [startsS]
 | a, none :: l, i + 1 => by
  have := startsS_get a l i
  simpa [startsS, poolS, kidsO] using this
 | a, some t :: l, 0 => by simp [startsS, poolS]
 | a, some t :: l, i + 1 => by
  have h := startsS_get (a + t.l.length) l i
  refine ⟨fun u hu => ?_, fun hu => ?_⟩
  ·have := h.1 u (by simpa using hu)
   simp only [startsS, List.getElem?_cons_succ, this, List.take_succ_cons, poolS, List.map_cons, kidsO, List.flatten_cons, List.length_append]
   congr 2
   omega
  ·have := h.2 (by simpa using hu)
   simpa [startsS] using this
theorem poolS_take {l : List (Option Tr)} {i : Nat} (h : i < l.length) : poolS (l.take (i + 1)) = poolS (l.take i) ++ kidsO l[i] := by
 simp only [poolS]
 rw [← List.take_append_getElem h, List.map_append, List.flatten_append]
 simp
theorem poolS_take_le (l : List (Option Tr)) (i : Nat) : (poolS (l.take i)).length ≤ (poolS l).length := by
 have : poolS l = poolS (l.take i) ++ poolS (l.drop i) := by
  simp only [poolS]
  rw [← List.flatten_append, ← List.map_append, List.take_append_drop]
 rw [this, List.length_append]
 omega
theorem ListsV.nil : ListsV [] .nils := ⟨[], .nil rfl, .nil⟩
theorem ListsV.one {l : List Int} {u : V} (h : IntsV l u) : ListsV [l] (.sv [[u]] true) := ⟨[u], .sv true, .cons h .nil⟩
theorem ListsV.two {l m : List Int} {u w : V} (h : IntsV l u) (h2 : IntsV m w) : ListsV [l, m] (.sv [[u], [w]] true) := ⟨[u, w], .sv true, .cons h (.cons h2 .nil)⟩
theorem joined2_q {la lb : List (List Int)} {a b : V} (ha : ListsV la a) (hb : ListsV lb b) (h1 : la.length < 2 ^ 30) (h2 : lb.length < 2 ^ 30) : ∃ u, PC 88 [.sv [[a], [b]] true] u ∧ ListsV (la ++ lb) u := by
 obtain ⟨as, ha1, ha2⟩ := ha
 obtain ⟨bs, hb1, hb2⟩ := hb
 have l1 := ha2.length
 have l2 := hb2.length
 obtain ⟨u, hc, hu⟩ := joined88_q [a, b] (.sv [[a], [b]] true) (.sv true) [as, bs] (.cons ⟨ha1, frIntsPure ha2⟩ (.cons ⟨hb1, frIntsPure hb2⟩ .nil)) (by simp; omega) (by simp)
 exact ⟨u, hc, as ++ bs, by simpa using hu, ha2.append hb2⟩
abbrev FlatOK (τ : Ty) : Prop := ∀ (l : List (Option Tr)) (v : V) (H : Heap) (b : Nat), Lay H b τ → Ptrs H l v → AllV τ l → l.length < 2 ^ 40 → slotsN l < 2 ^ 40 →
 ∃ o d X, CC 87 [.ref b 0 1, v] H (.ret (.tup [o, d])) (H ++ X) ∧ ListsV (flatS τ l).1 o ∧ ListsV (flatS τ l).2 d
theorem flat_unit : FlatOK .unit := by
 intro l v H b hL hp hV hl hn
 cases hL with
 | unit _ w hb =>
 have oc : ∀ X, objCells (H ++ ([.cells 1 1 [.ref b 0 1]] ++ X)) H.length = some (1, 1, [.ref b 0 1]) := fun X => by simp [objCells]
 have ob : ∀ X, objCells (H ++ X) b = some (1, 4, [.int .i64 0, .int .i64 0, .int .i64 0, w]) := fun X => objCells_of (get_app hb)
 refine ⟨.nils, .nils, [.cells 1 1 [.ref b 0 1], .cells 1 1 [v]], CallP.eq (call_ofQ (af := Trnx.a87) rfl rfl fun Q hQ => ?_), ListsV.nil, ListsV.nil⟩
 simp only [Trnx.a87]
 simp only [List.cons_append, List.nil_append] at oc
 simp [hp.cell, hp.cells, oc, ob, slotOf]
 exact hQ _ _ ⟨rfl, rfl⟩
theorem flat_int : FlatOK .int := by
 intro l v H b hL hp hV hl hn
 cases hL with
 | int _ w hb =>
 have oc : ∀ X, objCells (H ++ ([.cells 1 1 [.ref b 0 1]] ++ X)) H.length = some (1, 1, [.ref b 0 1]) := fun X => by simp [objCells]
 have ob : ∀ X, objCells (H ++ X) b = some (1, 4, [.int .i64 1, .int .i64 0, .int .i64 1, w]) := fun X => objCells_of (get_app hb)
 obtain ⟨u, hc, hu, hpu⟩ := wordsP_q l v (H ++ [.cells 1 1 [.ref b 0 1], .cells 1 1 [v]]) (H.length + 1) 101 hl (hp.ext fun i o => get_app) (by simp) (fun t => t.n) (fun t ht G => num101_q t G)
 have e : l.map (wordO fun t => t.n) = l.map num := List.map_congr_left fun o _ => by cases o <;> rfl
 rw [e] at hu
 refine ⟨.sv [[u]] true, .nils, [.cells 1 1 [.ref b 0 1], .cells 1 1 [v], .gone], CallP.eq (call_ofQ (af := Trnx.a87) rfl rfl fun Q hQ => ?_), ListsV.one hu, ListsV.nil⟩
 simp only [Trnx.a87]
 simp only [List.cons_append, List.nil_append] at oc
 simp only [List.append_assoc, List.cons_append, List.nil_append] at hc
 simp [hp.cell, hp.cells, oc, ob, hc, hpu, SlV.cell hu, SlV.cells hu, fill, chunks, slotOf]
 exact hQ _ _ ⟨rfl, rfl⟩
theorem flat_seq (x : Ty) (ih : FlatOK x) (hsz : x.size < 2 ^ 20) : FlatOK (.seq x) := by
 intro l v H b hL hp hV hl hn
 cases hL with
 | seq _ p a1 _ hb hpp h1 l1 l3 =>
 have hbs := x.both_size
 obtain ⟨H1, hH1⟩ : ∃ H1, H1 = H ++ [.cells 1 1 [.ref b 0 1], .cells 1 1 [v]] := ⟨_, rfl⟩
 obtain ⟨H2, hH2⟩ : ∃ H2, H2 = H1 ++ [.cells 1 1 [.nils]] := ⟨_, rfl⟩
 have len1 : H1.length = H.length + 2 := by simp [hH1]
 have len2 : H2.length = H.length + 3 := by simp [hH2, len1]
 have g1 : ∀ j, j < H.length → H2[j]? = H[j]? := fun j hj => by
  rw [hH2, hH1, List.append_assoc, List.getElem?_append_left hj]
 have gc2 : H2[H.length]? = some (.cells 1 1 [.ref b 0 1]) := by simp [hH2, hH1]
 have gc3 : H2[H.length + 1]? = some (.cells 1 1 [v]) := by simp [hH2, hH1]
 have gc8 : H2[H.length + 2]? = some (.cells 1 1 [.nils]) := by rw [hH2, ← len1]; simp
 have hpool := pool_le l
 have hplen := Tr.nodesL_length (poolS l)
 -- the starts
 have key := words_q l v H2 (H.length + 1) 102 [.ref (H.length + 2) 0 1] (startsS 0 l) (startsS_len 0 l) hl hp.len
  (fun i G => Pool G (H.length + 2) (H.length + 4) ((poolS (l.take i)).map some) ∧ (∀ j, j ≠ H.length + 2 → j < H2.length → G[j]? = H2[j]?) ∧ H2.length + 1 ≤ G.length ∧ (poolS (l.take i) = [] → H.length + 4 = G.length))
  ⟨by simpa [poolS] using Pool.nil (get_app gc8), fun j _ hj => by rw [List.getElem?_append_left hj], by simp, fun _ => by simp [len2]⟩ (load_cell gc3)
  (fun i G ⟨k1, k2, k3, k4⟩ => ⟨load_cell (by rw [k2 _ (by omega) (by omega)]; exact gc3), fun j hj => (hp.ext (H' := G) fun i o ho => by
   have hi := (List.getElem?_eq_some_iff.1 ho).1
   rw [k2 i (by omega) (by omega), g1 i hi]; exact ho).read hj⟩)
  (fun i G n y ⟨k1, k2, k3, k4⟩ => ⟨k1.set (by omega) (by omega) _, fun j h1 h2 => by rw [get_set_ne (by omega)]; exact k2 j h1 h2, by simpa using k3, fun e => by simpa using k4 e⟩)
  (fun i hi e => ⟨(startsS_get 0 l i).2 (by simp [hi, e]), fun G ⟨k1, k2, k3, k4⟩ => by
   have ep : poolS (l.take (i + 1)) = poolS (l.take i) := by rw [poolS_take hi, e]; simp [kidsO]
   rw [ep]
   exact ⟨k1, k2, k3, k4⟩⟩)
  (fun i hi t e G ⟨k1, k2, k3, k4⟩ => by
   have hot := (hV t (by rw [← e]; exact List.getElem_mem hi)).1
   have ep : poolS (l.take (i + 1)) = poolS (l.take i) ++ t.l := by rw [poolS_take hi, e]; rfl
   have hle := poolS_take_le l (i + 1)
   rw [ep, List.length_append] at hle
   obtain ⟨G', c1, c2, c3, c4, c5⟩ := pool102_q t hot G (H.length + 2) (H.length + 4) ((poolS (l.take i)).map some) k1 (fun e => k4 (by simpa using e)) (by omega) (by simp; omega)
   refine ⟨_, G', (startsS_get 0 l i).1 t (by simp [hi, e]), by simpa using c1, ⟨by rw [ep]; simpa using c2, ?_, by omega, fun e => c5 (by rw [ep] at e; simpa using e)⟩, ?_⟩
   ·intro j h1 h2
    rw [c3 j h1 (by omega) (by omega), k2 j h1 h2]
   ·rw [c3 _ (by omega) (by omega) (by omega)])
 obtain ⟨u, G, hc1, hu, ⟨k1, k2, k3, k4⟩, hpu⟩ := key
 rw [List.take_length] at k1 k4
 obtain ⟨H3, hH3⟩ : ∃ H3, H3 = G.set H2.length .gone := ⟨_, rfl⟩
 rw [← hH3] at hc1
 have len3 : H3.length = G.length := by simp [hH3]
 have P3 : Pool H3 (H.length + 2) (H.length + 4) ((poolS l).map some) := by rw [hH3]; exact k1.set (by omega) (by omega) _
 have g3 : ∀ j, j ≠ H.length + 2 → j < H2.length → H3[j]? = H2[j]? := fun j h1 h2 => by rw [hH3, get_set_ne (by omega)]; exact k2 j h1 h2
 have ex3 : ∀ (i : Nat) o, H[i]? = some o → H3[i]? = some o := fun i o ho => by
  have hi := (List.getElem?_eq_some_iff.1 ho).1
  rw [g3 i (by omega) (by omega), g1 i hi]; exact ho
 -- the lengths
 obtain ⟨u2, hc2, hu2, hpu2⟩ := wordsP_q l v H3 (H.length + 1) 103 hl (hp.ext ex3) (by rw [g3 _ (by omega) (by omega)]; exact gc3) (fun t => t.l.length) (fun t ht G => len103_q t (hV t ht).1 G)
 have el : l.map (wordO fun t => t.l.length) = l.map lenO := List.map_congr_left fun o _ => by cases o <;> rfl
 rw [el] at hu2
 obtain ⟨H4, hH4⟩ : ∃ H4, H4 = H3 ++ [.gone] := ⟨_, rfl⟩
 rw [← hH4] at hc2
 have ex4 : ∀ (i : Nat) o, H[i]? = some o → H4[i]? = some o := fun i o ho => by rw [hH4]; exact get_app (ex3 i o ho)
 have P4 : Pool H4 (H.length + 2) (H.length + 4) ((poolS l).map some) := by
  rw [hH4]
  exact P3.app _
 have oc2 : objCells H4 H.length = some (1, 1, [.ref b 0 1]) := objCells_of (by rw [hH4]; exact get_app (by rw [g3 _ (by omega) (by omega)]; exact gc2))
 have ob : objCells H4 b = some (1, 4, [.int .i64 2, .int .i64 (x.own + x.data : Nat), .int .i64 4, .sl p 0 1 1 1 false]) := objCells_of (ex4 _ _ hb)
 have op : objCells H4 p = some (1, 1, [.ref a1 0 1]) := objCells_of (ex4 _ _ hpp)
 have oc8 := objCells_of P4.cell
 have hpt := P4.ptrs
 rw [List.length_map] at oc8 hpt
 obtain ⟨o, d, X, hc3, ho, hd⟩ := ih _ _ H4 a1 (h1.ext ex4) hpt hV.pool (by simp; omega) (by rw [slotsN_some]; omega)
 have fl := flatS_len x ((poolS l).map some)
 obtain ⟨w, hc4, hw⟩ := joined2_q ho hd (by omega) (by omega)
 have hpo := ho.pure
 have hpd := hd.pure
 have hco := ho.cell
 have hcd := hd.cell
 have hso := ho.cells
 have hsd := hd.cells
 have len4 : H4.length = H3.length + 1 := by simp [hH4]
 obtain ⟨Y, hY⟩ := ext_of (H := H) (G := H4 ++ X) (by simp; omega) (fun j hj => by
  rw [List.getElem?_append_left (by omega), hH4, List.getElem?_append_left (by omega), g3 j (by omega) (by omega), g1 j hj])
 refine ⟨.sv [[u], [u2]] true, w, Y, ?_, ListsV.two hu hu2, hw⟩
 rw [← hY]
 have ob1 : objCells H1 b = some (1, 4, [.int .i64 2, .int .i64 (x.own + x.data : Nat), .int .i64 4, .sl p 0 1 1 1 false]) := objCells_of (by rw [hH1]; exact get_app hb)
 have oc21 : objCells H1 H.length = some (1, 1, [.ref b 0 1]) := by simp [hH1, objCells]
 have hpv := hp.cell
 have hpvs := hp.cells
 rw [PC] at hc4
 refine CallP.eq (call_ofQ (af := Trnx.a87) rfl rfl fun Q hQ => ?_)
 simp only [Trnx.a87, WX_seq]
 refine WX_last _ _ (c' := ⟨[.ref b 0 1, v, .ref H.length 0 1, .ref (H.length + 1) 0 1, .nils, .nils, .undef, .undef, .undef, .undef, .undef, .undef, .undef, .undef, .undef, .undef, .undef, .undef, .undef, .undef, .undef], [], none, none, H1⟩) ?_ ?_
 ·rw [hH1]; simp [hpv, hpvs, slotOf]
 simp only [seqQ_norm, WX_seq]
 simp [oc21, ob1, len1, slotOf]
 rw [← hH2]
 simp [hc1, hc2, slotOf]
 simp [oc2, ob, op, oc8, hc3, slotOf, -pcall]
 simp [SlV.cell hu, SlV.cell hu2, hpu, hpu2, SlV.cells hu, SlV.cells hu2, hco, hcd, hso, hsd, hpo, hpd, hc4, fill, chunks, slotOf, -pcall]
 exact hQ _ _ ⟨rfl, rfl⟩
theorem flat_two (K : Int) (hK : K = 2 ∨ K = 3) (x y : Ty) (ihx : FlatOK x) (ihy : FlatOK y) (hsx : x.size < 2 ^ 20) (hsy : y.size < 2 ^ 20) (l : List (Option Tr)) (v : V) (H : Heap) (b p a1 a2 : Nat) (u0 u1 : V) (hb : H[b]? = some (.cells 1 4 [u0, u1, .int .i64 K, .sl p 0 2 2 1 false]))
  (hpp : H[p]? = some (.cells 2 1 [.ref a1 0 1, .ref a2 0 1])) (h1 : Lay H a1 x) (h2 : Lay H a2 y) (hp : Ptrs H l v) (hl : l.length < 2 ^ 40) (hn : slotsN l < 2 ^ 40) (g : Nat → Option Tr → Option Tr) (hg0 : ∀ i, g i none = none)
  (hk : ∀ i : Nat, i < 2 → ∀ t, some t ∈ l → ∀ (G : Heap) (e : Nat), G[H.length]? = some (.cells 1 1 [.ref b 0 1]) → G[b]? = some (.cells 1 4 [u0, u1, .int .i64 K, .sl p 0 2 2 1 false]) → G[e]? = some (.cells 1 1 [.int .i64 i]) →
   CC 105 [.pv t.cs, .ref H.length 0 1, .ref e 0 1] G (.ret (pvO (g i (some t)))) G)
  (hv0 : AllV x (l.map (g 0))) (hv1 : AllV y (l.map (g 1))) (hsl : ∀ i, slotsN (l.map (g i)) ≤ slotsN l) :
  ∃ o d X, CC 87 [.ref b 0 1, v] H (.ret (.tup [o, d])) (H ++ X) ∧
   ListsV ((if K = 3 then [l.map num] else []) ++ ((flatS x (l.map (g 0))).1 ++ (flatS y (l.map (g 1))).1)) o ∧ ListsV ((flatS x (l.map (g 0))).2 ++ (flatS y (l.map (g 1))).2) d := by
 have hbx := x.both_size
 have hby := y.both_size
 obtain ⟨H1, hH1⟩ : ∃ H1, H1 = H ++ [.cells 1 1 [.ref b 0 1], .cells 1 1 [v]] := ⟨_, rfl⟩
 have len1 : H1.length = H.length + 2 := by simp [hH1]
 have ex1 : ∀ (i : Nat) o, H[i]? = some o → H1[i]? = some o := fun i o ho => by rw [hH1]; exact get_app ho
 have gc2 : H1[H.length]? = some (.cells 1 1 [.ref b 0 1]) := by simp [hH1]
 have gc3 : H1[H.length + 1]? = some (.cells 1 1 [v]) := by simp [hH1]
 have ob1 := objCells_of (ex1 _ _ hb)
 have oc21 := objCells_of gc2
 have hpv := hp.cell
 have hpvs := hp.cells
 generalize hpre : (if K = 3 then [l.map num] else []) = pre
 have hprel : pre.length ≤ 1 := by rw [← hpre]; split <;> simp
 have key : CallP gl Trnx.aprog 87 [.ref b 0 1, v] H (fun r H' => ∃ o d X, r = .ret (.tup [o, d]) ∧ H' = H ++ X ∧
   ListsV (pre ++ ((flatS x (l.map (g 0))).1 ++ (flatS y (l.map (g 1))).1)) o ∧ ListsV ((flatS x (l.map (g 0))).2 ++ (flatS y (l.map (g 1))).2) d) := by
  refine call_ofQ (af := Trnx.a87) rfl rfl fun Q hQ => ?_
  simp only [Trnx.a87, WX_seq]
  refine WX_last _ _ (c' := ⟨[.ref b 0 1, v, .ref H.length 0 1, .ref (H.length + 1) 0 1, .nils, .nils, .undef, .undef, .undef, .undef, .undef, .undef, .undef, .undef, .undef, .undef, .undef, .undef, .undef, .undef, .undef], [], none, none, H1⟩) ?_ ?_
  ·rw [hH1]; simp [hpv, hpvs, slotOf]
  simp only [seqQ_norm, WX_seq]
  refine WX_last _ _ (c' := ⟨[.ref b 0 1, v, .ref H.length 0 1, .ref (H.length + 1) 0 1, .nils, .nils, .func (.func 99) [] [.ref (H.length + 1) 0 1], .undef, .undef, .undef, .undef, .undef, .undef, .undef, .undef, .undef, .undef, .undef, .undef, .undef, .undef], [], none, none, H1⟩) ?_ ?_
  ·simp [slotOf]
  simp only [seqQ_norm, WX_seq]
  refine WX_last _ _ (c' := ⟨[.ref b 0 1, v, .ref H.length 0 1, .ref (H.length + 1) 0 1, .nils, .nils, .func (.func 99) [] [.ref (H.length + 1) 0 1], .func (.func 100) [] [.ref (H.length + 1) 0 1], .undef, .undef, .undef, .undef, .undef, .undef, .undef, .undef, .undef, .undef, .undef, .undef, .undef], [], none, none, H1⟩) ?_ ?_
  ·simp [slotOf]
  simp only [seqQ_norm, WX_seq]
  refine WX_last _ _ (c' := ⟨[.ref b 0 1, v, .ref H.length 0 1, .ref (H.length + 1) 0 1, .nils, .nils, .func (.func 99) [] [.ref (H.length + 1) 0 1], .func (.func 100) [] [.ref (H.length + 1) 0 1], .undef, .undef, .undef, .undef, .undef, .undef, .undef, .undef, .undef, .int .i64 K, .undef, .undef, .undef], [], none, none, H1⟩) ?_ ?_
  ·simp [oc21, ob1, slotOf]
  simp only [seqQ_norm]
  refine WX.mono (Q := fun o c => o = .norm ∧ c = ⟨[.ref b 0 1, v, .ref H.length 0 1, .ref (H.length + 1) 0 1, .nils, .nils, .func (.func 99) [] [.ref (H.length + 1) 0 1], .func (.func 100) [] [.ref (H.length + 1) 0 1], .undef, .undef, .undef, .undef, .undef, .undef, .undef, .undef, .undef, .int .i64 K, .undef, .undef, .undef], [], none, none, H1⟩) ?_ ?_
  ·rcases hK with rfl | rfl <;> simp [slotOf]
  rintro _ _ ⟨rfl, rfl⟩
  simp only [seqQ_norm, WX_seq]
  refine WX_last _ _ (c' := ⟨[.ref b 0 1, v, .ref H.length 0 1, .ref (H.length + 1) 0 1, .nils, .nils, .func (.func 99) [] [.ref (H.length + 1) 0 1], .func (.func 100) [] [.ref (H.length + 1) 0 1], .undef, .undef, .undef, .undef, .undef, .undef, .undef, .undef, .undef, .int .i64 K, .undef, .undef, .undef], [], some (59, .bool (K == 3)), none, H1⟩) ?_ ?_
  ·simp [oc21, ob1, slotOf]
  simp only [seqQ_norm]
  refine WX.mono (Q := fun o c => o = .norm ∧ ∃ o4 Y, c = ⟨[.ref b 0 1, v, .ref H.length 0 1, .ref (H.length + 1) 0 1, o4, .nils, .func (.func 99) [] [.ref (H.length + 1) 0 1], .func (.func 100) [] [.ref (H.length + 1) 0 1], .undef, .undef, .undef, .undef, .undef, .undef, .undef, .undef, .undef, .int .i64 K, .undef, .undef, .undef], [], none, none, H1 ++ Y⟩ ∧ ListsV pre o4) ?_ ?_
  ·rcases hK with rfl | rfl
   ·simp
    rw [← hpre]
    exact ListsV.nil
   ·obtain ⟨u, hc, hu, hpu⟩ := wordsP_q l v H1 (H.length + 1) 104 hl (hp.ext ex1) gc3 (fun t => t.n) (fun t ht G => num104_q t G)
    have e : l.map (wordO fun t => t.n) = l.map num := List.map_congr_left fun o _ => by cases o <;> rfl
    rw [e] at hu
    simp [hc, hpu, SlV.cell hu, SlV.cells hu, fill, chunks, slotOf]
    rw [← hpre]
    exact ListsV.one hu
  rintro _ _ ⟨rfl, o4, Y, rfl, ho4⟩
  have ob2 := objCells_of (get_app (X := Y) (ex1 _ _ hb))
  have oc22 := objCells_of (get_app (X := Y) gc2)
  simp only [seqQ_norm]
  simp [oc22, ob2, slotOf]
  refine loop_nQ 2 (fun i c => ∃ X o d s13 s14 s15 s16 fl, c = ⟨[.ref b 0 1, v, .ref H.length 0 1, .ref (H.length + 1) 0 1, o, d, .func (.func 99) [] [.ref (H.length + 1) 0 1], .func (.func 100) [] [.ref (H.length + 1) 0 1], .undef, .undef, .undef, .undef, .undef, s13, s14, s15, s16, .int .i64 K, .sl p 0 2 2 1 false, .int .i64 2, .int .i64 i], [], fl, none, H1 ++ X⟩ ∧
   ListsV (pre ++ ((if 1 ≤ i then (flatS x (l.map (g 0))).1 else []) ++ (if 2 ≤ i then (flatS y (l.map (g 1))).1 else []))) o ∧ ListsV ((if 1 ≤ i then (flatS x (l.map (g 0))).2 else []) ++ (if 2 ≤ i then (flatS y (l.map (g 1))).2 else [])) d) ?_
   ⟨Y, o4, .nils, _, _, _, _, _, rfl, by simpa using ho4, by simpa using ListsV.nil⟩
  rintro I hI i c hi ⟨X, o, d, s13, s14, s15, s16, fl, rfl, ho, hd⟩
  have hi3 : i = 0 ∨ i = 1 ∨ i = 2 := by omega
  rcases hi3 with rfl | rfl | rfl
  ·obtain ⟨G, hG⟩ : ∃ G, G = H1 ++ X := ⟨_, rfl⟩
   rw [← hG]
   have exG : ∀ Y, ∀ (i : Nat) o, H1[i]? = some o → (G ++ Y)[i]? = some o := fun Y i o ho => get_app (by rw [hG]; exact get_app ho)
   have oc2 : ∀ Y, objCells (G ++ Y) H.length = some (1, 1, [.ref b 0 1]) := fun Y => objCells_of (exG Y _ _ gc2)
   have op : ∀ Y, objCells (G ++ Y) p = some (2, 1, [.ref a1 0 1, .ref a2 0 1]) := fun Y => objCells_of (exG Y _ _ (ex1 _ _ hpp))
   have op0 := op []
   rw [List.append_nil] at op0
   have on : ∀ x, objCells (G ++ [.cells 1 1 [x]]) G.length = some (1, 1, [x]) := fun x => by simp [objCells]
   obtain ⟨u, hc1, hu⟩ := of99_q l v (G ++ [.cells 1 1 [.int .i64 0]]) (H.length + 1) 105 [.ref H.length 0 1, .ref G.length 0 1] hl (hp.ext fun i o ho => exG _ _ _ (ex1 _ _ ho)) (exG _ _ _ gc3) (g 0) (hg0 0)
    (fun t ht x => hk 0 (by omega) t ht _ G.length (get_app (exG _ _ _ gc2)) (get_app (exG _ _ _ (ex1 _ _ hb))) (get_app (by simp)))
   obtain ⟨o', d', X', hc2, ho', hd'⟩ := ihx (l.map (g 0)) u (G ++ [.cells 1 1 [.int .i64 0]] ++ [.gone]) a1 (h1.ext fun i o ho => get_app (exG _ _ _ (ex1 _ _ ho))) (.sv _ hu) hv0 (by simpa using hl) (by have := hsl 0; omega)
   have fl := flatS_len x (l.map (g 0))
   obtain ⟨o2, hj1, hoo⟩ := joined2_q ho ho' (by simp; omega) (by omega)
   obtain ⟨d2, hj2, hdd⟩ := joined2_q hd hd' (by simp) (by omega)
   have hwr : IntKind.i64.wrap 1 = 1 := rfl
   simp only [List.append_assoc, List.cons_append, List.nil_append, Int.natCast_zero, Int.natCast_one, Int.cast_ofNat_Int] at hc1 hc2
   rw [PC] at hj1 hj2
   simp [op0, on, storeV, hc1, hc2, slotOf, -pcall]
   simp [ho.cell, ho.cells, ho.pure, ho'.cell, ho'.cells, ho'.pure, hd.cell, hd.cells, hd.pure, hd'.cell, hd'.cells, hd'.pure, hj1, hj2, hwr, fill, chunks, slotOf, -pcall]
   have eH : G ++ (.cells 1 1 [.int .i64 0] :: .gone :: X') = H1 ++ (X ++ (.cells 1 1 [.int .i64 0] :: .gone :: X')) := by rw [hG, List.append_assoc]
   rw [eH]
   refine hI _ _ ⟨_, o2, d2, _, _, _, _, _, rfl, ?_, ?_⟩
   ·simpa using hoo
   ·simpa using hdd
  ·obtain ⟨G, hG⟩ : ∃ G, G = H1 ++ X := ⟨_, rfl⟩
   rw [← hG]
   have exG : ∀ Y, ∀ (i : Nat) o, H1[i]? = some o → (G ++ Y)[i]? = some o := fun Y i o ho => get_app (by rw [hG]; exact get_app ho)
   have oc2 : ∀ Y, objCells (G ++ Y) H.length = some (1, 1, [.ref b 0 1]) := fun Y => objCells_of (exG Y _ _ gc2)
   have op : ∀ Y, objCells (G ++ Y) p = some (2, 1, [.ref a1 0 1, .ref a2 0 1]) := fun Y => objCells_of (exG Y _ _ (ex1 _ _ hpp))
   have op0 := op []
   rw [List.append_nil] at op0
   have on : ∀ x, objCells (G ++ [.cells 1 1 [x]]) G.length = some (1, 1, [x]) := fun x => by simp [objCells]
   obtain ⟨u, hc1, hu⟩ := of99_q l v (G ++ [.cells 1 1 [.int .i64 1]]) (H.length + 1) 105 [.ref H.length 0 1, .ref G.length 0 1] hl (hp.ext fun i o ho => exG _ _ _ (ex1 _ _ ho)) (exG _ _ _ gc3) (g 1) (hg0 1)
    (fun t ht x => hk 1 (by omega) t ht _ G.length (get_app (exG _ _ _ gc2)) (get_app (exG _ _ _ (ex1 _ _ hb))) (get_app (by simp)))
   obtain ⟨o', d', X', hc2, ho', hd'⟩ := ihy (l.map (g 1)) u (G ++ [.cells 1 1 [.int .i64 1]] ++ [.gone]) a2 (h2.ext fun i o ho => get_app (exG _ _ _ (ex1 _ _ ho))) (.sv _ hu) hv1 (by simpa using hl) (by have := hsl 1; omega)
   have fl := flatS_len y (l.map (g 1))
   obtain ⟨o2, hj1, hoo⟩ := joined2_q ho ho' (by have := (flatS_len x (l.map (g 0))).1; simp; omega) (by omega)
   obtain ⟨d2, hj2, hdd⟩ := joined2_q hd hd' (by have := (flatS_len x (l.map (g 0))).2; simp; omega) (by omega)
   have hwr : IntKind.i64.wrap (1 + 1) = 2 := rfl
   simp only [List.append_assoc, List.cons_append, List.nil_append, Int.natCast_zero, Int.natCast_one, Int.cast_ofNat_Int] at hc1 hc2
   rw [PC] at hj1 hj2
   simp [op0, on, storeV, hc1, hc2, slotOf, -pcall]
   simp [ho.cell, ho.cells, ho.pure, ho'.cell, ho'.cells, ho'.pure, hd.cell, hd.cells, hd.pure, hd'.cell, hd'.cells, hd'.pure, hj1, hj2, hwr, fill, chunks, slotOf, -pcall]
   have eH : G ++ (.cells 1 1 [.int .i64 1] :: .gone :: X') = H1 ++ (X ++ (.cells 1 1 [.int .i64 1] :: .gone :: X')) := by rw [hG, List.append_assoc]
   rw [eH]
   refine hI _ _ ⟨_, o2, d2, _, _, _, _, _, rfl, ?_, ?_⟩
   ·simpa using hoo
   ·simpa using hdd
  ·simp [slotOf]
   refine hQ _ _ ⟨o, d, [.cells 1 1 [.ref b 0 1], .cells 1 1 [v]] ++ X, rfl, ?_, by simpa using ho, by simpa using hd⟩
   rw [hH1, List.append_assoc]
 obtain ⟨r, H', e, o, d, X, rfl, rfl, h3, h4⟩ := OptP.ex key
 exact ⟨o, d, X, e, h3, h4⟩
end Go.Proofs.Nst
set_option linter.unusedVariables false
set_option linter.unusedSimpArgs false
namespace Go.Proofs.Nst
open Go Go.Am
theorem flat_q : ∀ τ : Ty, τ.size < 2 ^ 20 → FlatOK τ
 | .unit, _ => flat_unit
 | .int, _ => flat_int
 | .seq x, hs => by
  simp only [Ty.size] at hs
  exact flat_seq x (flat_q x (by omega)) (by omega)
 | .pair x y, hs => by
  simp only [Ty.size] at hs
  intro l v H b hL hp hV hl hn
  cases hL with
  | pair _ p a1 a2 _ _ hb hpp h1 h2 l1 l2 l3 =>
  obtain ⟨o, d, X, hc, ho, hd⟩ := flat_two 2 (.inl rfl) x y (flat_q x (by omega)) (flat_q y (by omega)) (by omega) (by omega) l v H b p a1 a2 _ _ hb hpp h1 h2 hp hl hn partP (fun i => rfl)
   (fun i hi t ht G e g1 g2 g3 => by
    obtain ⟨ho, hv⟩ := hV t ht
    obtain ⟨p, q, e, _⟩ := isV_pair hv
    exact partP_q t ho i (by rw [e]; simpa using hi) G _ _ _ _ _ _ g1 g2 g3)
   hV.fst hV.snd (fun i => partP_le i l)
  exact ⟨o, d, X, hc, by simpa [flatS] using ho, by simpa [flatS] using hd⟩
 | .sum x y, hs => by
  simp only [Ty.size] at hs
  intro l v H b hL hp hV hl hn
  cases hL with
  | sum _ p a1 a2 _ _ hb hpp h1 h2 l1 l2 l3 =>
  obtain ⟨o, d, X, hc, ho, hd⟩ := flat_two 3 (.inr rfl) x y (flat_q x (by omega)) (flat_q y (by omega)) (by omega) (by omega) l v H b p a1 a2 _ _ hb hpp h1 h2 hp hl hn (fun i => partU i) (fun i => rfl)
   (fun i hi t ht G e g1 g2 g3 => by
    obtain ⟨ho, hv⟩ := hV t ht
    obtain ⟨p, e, _⟩ := isV_sum hv
    exact partU_q t ho i (fun _ => by rw [e]; simp) G _ _ _ _ _ _ g1 g2 g3)
   hV.left hV.right (fun i => partU_le i l)
  exact ⟨o, d, X, hc, by simpa [flatS] using ho, by simpa [flatS] using hd⟩
def canonS (τ : Ty) (l : List Tr) : List (List Int) := (flatS τ (l.map some)).1 ++ (flatS τ (l.map some)).2
theorem canonS_len (τ : Ty) (l : List Tr) : (canonS τ l).length = τ.own + τ.data := by
 have := flatS_len τ (l.map some)
 simp [canonS, this.1, this.2]
theorem registers_q (τ : Ty) (hs : τ.size < 2 ^ 20) (l : List Tr) (v : V) (hv : SlV (l.map Tr.cs) v) (H : Heap) (b : Nat) (hL : Lay H b τ) (hV : ∀ t ∈ l, t.Ok ∧ isV τ t = true) (hn : Tr.nodesL l < 2 ^ 40) :
  ∃ u X, CC 67 [.ref b 0 1, v] H (.ret u) (H ++ X) ∧ ListsV (canonS τ l) u := by
 have hlen := Tr.nodesL_length l
 have hlv := len_tr hv
 have hbs := τ.both_size
 obtain ⟨o, d, X, hc, ho, hd⟩ := flat_q τ hs (l.map some) (.sl H.length 0 l.length l.length 1 false) (H ++ [.cells l.length 1 (l.map fun t => .pv t.cs)]) b (hL.app _) (by
   have := Ptrs.sl (H := H ++ [.cells l.length 1 (l.map fun t => .pv t.cs)]) (l := l.map some) H.length (by simp; intro a _; rfl)
   simpa using this)
  (fun t ht => by
   obtain ⟨u, hu, he⟩ := List.mem_map.1 ht
   cases he
   exact hV _ hu) (by simp; omega) (by rw [slotsN_some]; exact hn)
 have fl := flatS_len τ (l.map some)
 obtain ⟨u, hj, hu⟩ := joined2_q ho hd (by omega) (by omega)
 refine ⟨u, .cells l.length 1 (l.map fun t => .pv t.cs) :: X, CallP.eq (call_ofQ (af := Trnx.a67) rfl rfl fun Q hQ => ?_), hu⟩
 rw [PC] at hj
 simp only [List.append_assoc, List.singleton_append] at hc
 simp only [Trnx.a67]
 simp [hlv, slotOf]
 refine loop_nQ l.length (fun i c' => ∃ x y, c' = ⟨[.ref b 0 1, v, .nils, .sl H.length 0 i i 1 false, x, .undef, .undef, .int .i64 l.length, .int .i64 i], [], y, none, H ++ [.cells i 1 ((l.take i).map fun t => .pv t.cs)]⟩) ?_ ⟨.undef, none, by simp⟩
 rintro I hI i c' hi ⟨x, y, rfl⟩
 by_cases hlt : i < l.length
 ·have hlt' : (i : Int) < l.length := by omega
  have hw2 : IntKind.i64.wrap ((i : Int) + 1) = (i : Int) + 1 := wrap64 (by omega) (by omega)
  have hi1 := idx_tr hv hlt
  have e : (l.take (i + 1)).map (fun t : Tr => V.pv t.cs) = (l.take i).map (fun t : Tr => V.pv t.cs) ++ [.pv l[i].cs] := by rw [← List.take_append_getElem hlt, List.map_append]; rfl
  have hI := hI (i + 1)
  rw [e] at hI
  have hap := appV_own (h := H ++ [.cells i 1 ((l.take i).map fun t => .pv t.cs)]) (o := H.length) (n := i) (sz := 1) (bytes := 8) (cs := (l.take i).map fun t => .pv t.cs) (y := .sv [[.pv l[i].cs]] true) (k := 1) (ys := [.pv l[i].cs]) (by simp) rfl rfl rfl (by simp [room]; omega)
  generalize l[i] = w at *
  generalize (l.take i).map (fun t : Tr => V.pv t.cs) = A at *
  simp [hlt', hi1, hap, hw2, fill, chunks, pureV, slotOf]
  refine ⟨hlt, hI _ ⟨_, _, rfl⟩⟩
 ·obtain rfl : i = l.length := by omega
  rw [List.take_length]
  generalize (l.map fun t : Tr => V.pv t.cs) = A at *
  simp [hc, ho.cell, ho.cells, ho.pure, hd.cell, hd.cells, hd.pure, hj, fill, chunks, slotOf, -pcall]
  exact hQ _ _ ⟨rfl, rfl⟩
def sizedL (l : List Tr) : Bool := decide (Tr.nodesL l ≤ 20000) && !Tr.longL l
def flatE (τ : Ty) (l : List Tr) : Int := if sizedL l then (if l.all (isV τ) then 0 else 1) else 3
def flatR (τ : Ty) (l : List Tr) : List (List Int) := if flatE τ l = 0 then canonS τ l else []
theorem view_lists {ls : List (List Int)} {u : V} (h : ListsV ls u) (e : Int) (lo : Nat) (hp : Heap) : viewW lo hp (.tup [u, .int .i64 e]) = some (.tup [u, .int .i64 e]) := by
 obtain ⟨vs, h1, _⟩ := h
 have := SlV.view h1 lo hp
 refine viewW_of ?_
 simp [viewV, viewL, this]
theorem flatten_q {t : Tr} {τ : Ty} (hτ : IsTy t τ) (ho : t.Ok) (h1 : τ.size ≤ 60) (h2 : τ.deep ≤ 12) (l : List Tr) (v : V) (hv : SlV (l.map Tr.cs) v) (hl : ∀ x ∈ l, x.Ok) (hn : Tr.nodesL l < 2 ^ 40) :
  ∃ u, PC 22 [.agg t.cs, v] (.tup [u, .int .i64 (flatE τ l)]) ∧ ListsV (flatR τ l) u := by
 have hcc := cells_tr ho
 have hlen := Tr.nodesL_length l
 have hlv := len_tr hv
 have hc := asked_q hτ ho h1 h2 [.cells 1 1 [.int .i64 0]]
 have hlay : Lay ([Am.Obj.cells 1 1 [.int .i64 0]] ++ layL 1 τ) 1 τ := by
  have := lay_of τ [Am.Obj.cells 1 1 [.int .i64 0]] []
  simpa using this
 have m3 := must_t 3
 have m1 := must_t 1
 have f3 := must_f 3
 have f1 := must_f 1
 have d3 := caught_wrong 0 3 0 ([Am.Obj.cells 1 1 [.int .i64 0]] ++ layL 1 τ) rfl
 have d1 := caught_wrong 0 1 0 ([Am.Obj.cells 1 1 [.int .i64 0]] ++ layL 1 τ) rfl
 have es : ∀ x, objCells (([Am.Obj.cells 1 1 [.int .i64 0]] ++ layL 1 τ).set 0 (Am.Obj.cells 1 1 [.int .i64 x])) 0 = some (1, 1, [.int .i64 x]) := fun _ => rfl
 have e0 : ∀ X, objCells (([Am.Obj.cells 1 1 [.int .i64 0]] ++ layL 1 τ) ++ X) 0 = some (1, 1, [.int .i64 0]) := fun _ => rfl
 have s0 : ∀ X, (([Am.Obj.cells 1 1 [.int .i64 0]] ++ layL 1 τ) ++ X).set 0 (Am.Obj.cells 1 1 [.int .i64 0]) = ([Am.Obj.cells 1 1 [.int .i64 0]] ++ layL 1 τ) ++ X := fun _ => rfl
 simp only [List.length_singleton] at hc
 rw [PC] at m3 m1
 generalize hH : [Am.Obj.cells 1 1 [V.int .i64 0]] ++ layL 1 τ = H at *
 have key : CallP gl Trnx.aprog 22 [.agg t.cs, v] [] (fun r h' => ∃ u, r = .ret (.tup [u, .int .i64 (flatE τ l)]) ∧ ListsV (flatR τ l) u) := by
  refine call_ofQ (af := Trnx.a22) rfl rfl fun Q hQ => ?_
  simp only [Trnx.a22]
  simp [hcc, hc, hlv, slotOf, -List.all_eq_true]
  refine loop_nQ l.length (fun i c => Tr.nodesL (l.take i) ≤ 20000 ∧ Tr.longL (l.take i) = false ∧ ∃ s7 s8 s9 fl, c = ⟨[.agg t.cs, v, .agg t.cs, .nils, .ref 0 0 1, .ref 1 0 1, .int .i64 (Tr.nodesL (l.take i)), s7, s8, s9, .undef, v, .int .i64 l.length, .int .i64 i, .undef, .undef, .undef], [(.func (.func 52) [] [], [.ref 0 0 1])], fl, none, H⟩) ?_
   ⟨by simp [Tr.nodesL], by simp [Tr.longL], .undef, .undef, .undef, none, by simp [Tr.nodesL]⟩
  rintro I hI i c hi ⟨hn1, hl1, s7, s8, s9, fl, rfl⟩
  by_cases hlt : i < l.length
  ·have hlt' : (i : Int) < l.length := by omega
   have hw2 : IntKind.i64.wrap ((i : Int) + 1) = (i : Int) + 1 := wrap64 (by omega) (by omega)
   have hi1 := idx_tr hv hlt
   have hm := List.getElem_mem hlt
   have htn := Tr.nodesL_take hlt
   have htl := Tr.longL_take_false hlt hl1
   have hmn := Tr.nodesL_mem hm
   have hle := Tr.nodesL_take_le (l := l) (i + 1)
   have hlm : l[i].long = true → Tr.longL l = true := fun h => Tr.longL_iff.2 ⟨_, hm, h⟩
   obtain ⟨m, hsz, hmm⟩ := size_q l[i] (hl _ hm) (by omega)
   have hcw := cells_tr (hl _ hm)
   rw [PC] at hsz
   generalize l[i] = w at *
   have hbad : sizedL l = false → WX (lim gl Trnx.aprog) gl .skip ⟨[], [], none, none, H.set 0 (.cells 1 1 [.int .i64 3])⟩ (fun _ _ => Q (.ret (.tup [.nils, .int .i64 3])) (H.set 0 (.cells 1 1 [.int .i64 3]))) := by
    intro hsb
    refine hQ _ _ ⟨.nils, ?_, ?_⟩
    ·simp [flatE, hsb]
    ·simp [flatR, flatE, hsb]; exact ListsV.nil
   cases e : w.sized
   ·rw [e] at hsz
    have hsb : sizedL l = false := by
     simp only [Tr.sized, Bool.and_eq_false_iff, decide_eq_false_iff_not, Bool.not_eq_false'] at e
     simp only [sizedL, Bool.and_eq_false_iff, decide_eq_false_iff_not, Bool.not_eq_false']
     rcases e with e | e
     ·exact .inl (by omega)
     ·exact .inr (hlm e)
    simp [hlt', hi1, hcw, hsz, f3, d3, es, slotOf, forget, AOper.writes, -pcall, -List.all_eq_true]
    exact hbad hsb
   ·rw [e] at hsz
    rw [hmm e] at hsz
    have hwl : w.long = false := by simp [Tr.sized] at e; exact e.2
    have hw3 : IntKind.i64.wrap ((Tr.nodesL (l.take i) : Int) + w.nodes) = Tr.nodesL (l.take (i + 1)) := by rw [wrap64 (by omega) (by omega)]; omega
    by_cases hbd : Tr.nodesL (l.take (i + 1)) ≤ 20000
    ·have hbd' : (Tr.nodesL (l.take (i + 1)) : Int) ≤ 20000 := by omega
     simp [hlt', hi1, hcw, hsz, m3, hw2, hw3, hbd', slotOf, -pcall, -List.all_eq_true]
     exact ⟨hlt, hI _ _ ⟨hbd, htl hwl, _, _, _, _, rfl⟩⟩
    ·have hbd' : ¬ (Tr.nodesL (l.take (i + 1)) : Int) ≤ 20000 := by omega
     simp [hlt', hi1, hcw, hsz, f3, d3, es, hw3, hbd', slotOf, forget, AOper.writes, -pcall, -List.all_eq_true]
     refine hbad ?_
     simp only [sizedL, Bool.and_eq_false_iff, decide_eq_false_iff_not]
     exact .inl (by omega)
  ·obtain rfl : i = l.length := by omega
   rw [List.take_length] at hn1 hl1
   have hsz : sizedL l = true := by simp [sizedL, hn1, hl1]
   rw [List.take_length]
   simp [hlv, slotOf]
   refine loop_nQ l.length (fun i c => (∀ z ∈ l.take i, isV τ z = true) ∧ ∃ s10 fl, c = ⟨[.agg t.cs, v, .agg t.cs, .nils, .ref 0 0 1, .ref 1 0 1, .int .i64 (Tr.nodesL l), s7, s8, s9, s10, v, .int .i64 l.length, .int .i64 l.length, v, .int .i64 l.length, .int .i64 i], [(.func (.func 52) [] [], [.ref 0 0 1])], fl, none, H⟩) ?_
    ⟨by simp, _, _, rfl⟩
   rintro J hJ i c hi ⟨hz, s10, fl, rfl⟩
   by_cases hlt : i < l.length
   ·have hlt' : (i : Int) < l.length := by omega
    have hw2 : IntKind.i64.wrap ((i : Int) + 1) = (i : Int) + 1 := wrap64 (by omega) (by omega)
    have hi1 := idx_tr hv hlt
    have hm := List.getElem_mem hlt
    have hh := has_q hlay l[i] (hl _ hm) (by have := Tr.nodesL_mem hm; omega)
    have htk : ∀ z ∈ l.take (i + 1), z ∈ l.take i ∨ z = l[i] := fun z hz => mem_take_succ hlt hz
    have hcw := cells_tr (hl _ hm)
    generalize l[i] = w at *
    cases e : isV τ w
    ·rw [e] at hh
     have hal : l.all (isV τ) = false := by
      rw [Bool.eq_false_iff]
      intro h
      have := List.all_eq_true.1 h w hm
      rw [e] at this
      cases this
     simp [hlt', hi1, hcw, hh, f1, d1, es, slotOf, forget, AOper.writes, -pcall, -List.all_eq_true]
     refine hQ _ _ ⟨.nils, ?_, ?_⟩
     ·simp only [flatE, hsz, hal]; rfl
     ·simp only [flatR, flatE, hsz, hal]; exact ListsV.nil
    ·rw [e] at hh
     simp [hlt', hi1, hcw, hh, m1, hw2, slotOf, -pcall, -List.all_eq_true]
     refine ⟨hlt, hJ _ _ ⟨?_, _, _, rfl⟩⟩
     intro z hz2
     rcases htk z hz2 with hz2 | rfl
     ·exact hz z hz2
     ·exact e
   ·obtain rfl : i = l.length := by omega
    rw [List.take_length] at hz
    have hal : l.all (isV τ) = true := List.all_eq_true.2 hz
    obtain ⟨u, X, hr, hu⟩ := registers_q τ (by omega) l v hv H 1 hlay (fun t ht => ⟨hl t ht, hz t ht⟩) hn
    have d0 := caught_none 0 (H ++ X)
    simp [hr, e0, s0, d0, storeV, slotOf]
    refine hQ _ _ ⟨u, ?_, ?_⟩
    ·simp only [flatE, hsz, hal]; rfl
    ·simp only [flatR, flatE, hsz, hal]; exact hu
 obtain ⟨r, h', e, u, rfl, hu⟩ := OptP.ex key
 refine ⟨u, ?_, hu⟩
 have hpt := pure_tr ho
 have hpv := hv.pure
 simp only [PC, pcall, callee_func, List.append_nil, List.nil_append]
 rw [if_pos (by simp [pureL, pureV, hpt, hpv]), e]
 simp only [view_lists hu, Option.map_some]
end Go.Proofs.Nst
