/- What the reference's writer does; the data of arguments. -/
import Derived.Test.YtncbmdeinohnbaaDoorFileW
import Derived.Test.YtncbmdeinohnbaaDoorAmCoreD
/- The reference's writer: numbers. -/
set_option linter.unusedVariables false
set_option linter.unusedSimpArgs false
namespace Go.Proofs.FileA
open Go Go.Am
variable {gl : Nat → List V}

/-- bytes of an object of one's own -/
def cellsB (l : List UInt8) : Am.Obj := .cells l.length 1 (bytesC l)
def OwnB (o : Nat) (l : List UInt8) (h : Heap) : Prop := h[o]? = some (cellsB l)
def slB (o : Nat) (l : List UInt8) : V := .sl o 0 l.length l.length 1 false
@[simp] theorem isCell_slB (o : Nat) (l : List UInt8) : isCell (slB o l) = true := rfl
@[simp] theorem lenV_slB (o : Nat) (l : List UInt8) : lenV (slB o l) = some (.int .i64 l.length) := rfl
@[simp] theorem cellsV_slB (o : Nat) (l : List UInt8) : cellsV (slB o l) = [slB o l] := rfl

theorem app_own {h : Heap} {o : Nat} {l m : List UInt8} {y : V} (ho : OwnB o l h) (hy : SlV (bytesV m) y) (hl : l.length + m.length ≤ 2 ^ 47) :
    appV h (slB o l) y 1 1 = some (slB o (l ++ m), h.set o (cellsB (l ++ m))) := by
  have := appV_own (bytes := 1) ho hy.slen (hy.scells h) (by rw [bytesV_flat]; simp) (by unfold room; simp; omega)
  rw [bytesV_flat] at this
  simpa [slB, cellsB] using this
theorem own_set {h : Heap} {o : Nat} {l : List UInt8} (m : List UInt8) (ho : OwnB o l h) : OwnB o m (h.set o (cellsB m)) := by
  unfold OwnB
  rw [List.getElem?_set_self (List.getElem?_eq_some_iff.1 ho).1]
/-- one more append -/
theorem app_next {h : Heap} {o : Nat} {l0 m : List UInt8} {y : V} (l : List UInt8) (ho : OwnB o l0 h) (hy : SlV (bytesV m) y) (hl : l.length + m.length ≤ 2 ^ 47) :
    ∃ l', l' = l ++ m ∧ appV (h.set o (cellsB l)) (slB o l) y 1 1 = some (slB o l', h.set o (cellsB l')) :=
  ⟨_, rfl, by have := app_own (own_set l ho) hy hl; rw [List.set_set] at this; exact this⟩
theorem app_first {h : Heap} {o : Nat} {l m : List UInt8} {y : V} (ho : OwnB o l h) (hy : SlV (bytesV m) y) (hl : l.length + m.length ≤ 2 ^ 47) :
    ∃ l', l' = l ++ m ∧ appV h (slB o l) y 1 1 = some (slB o l', h.set o (cellsB l')) := ⟨_, rfl, app_own ho hy hl⟩
theorem own_view {h : Heap} {o : Nat} {l : List UInt8} (ho : OwnB o l h) : viewV 0 h (slB o l) = some (.sv (bytesV l) false) := view_bytes ho
theorem own_frz {h : Heap} {o : Nat} {l : List UInt8} (ho : OwnB o l h) : frzV h (slB o l) = some (.sv (bytesV l) false, h.set o .gone) := by
  have := own_view ho
  unfold slB at this ⊢
  unfold frzV
  simp only [this]
theorem own_new (h : Heap) (l : List UInt8) : OwnB h.length l (h ++ [cellsB l]) := by
  unfold OwnB
  rw [List.getElem?_append_right (Nat.le_refl _)]
  simp
theorem bytesC_one (b : UInt8) : bytesC [b] = [.int .u8 b.toNat] := rfl
theorem set_last {α : Type} (h : List α) (a b : α) : (h ++ [a]).set h.length b = h ++ [b] := by simp

theorem pcall_of {rec : Rec} {n : Nat} {as : List V} {v x : V} {h : Heap} (hc : rec.call n as [] = some (.ret v, h)) (hp : pureL as = true) (hv : viewV 0 h v = some x) : pcall rec (.func (.func n) [] []) as = some (.val x) := by
  simp [pcall, callee, hp, hc, hv]

/-- a function that gives bytes -/
def PureB (f : Nat) (args : List V) (c : List UInt8) : Prop := ∀ gl : Nat → List V, pcall (lim gl Tryd.aprog) (.func (.func f) [] []) args = some (.val (.sv (bytesV c) false))
theorem pureB_of {f : Nat} {args : List V} {c : List UInt8} (hp : pureL args = true) (h : ∀ gl : Nat → List V, CallP gl Tryd.aprog f args [] (fun r h' => r = .ret (.sv (bytesV c) false))) : PureB f args c := fun gl => by
  obtain ⟨r, h', e, rfl⟩ := OptP.ex (h gl)
  exact pcall_of e hp (by simp [viewV])

theorem be_succ (k n : Nat) : be (k + 1) n = UInt8.ofNat (n / 256 ^ k) :: be k n := by
  unfold be
  rw [List.range_succ_eq_map]
  simp only [List.map_cons, List.map_map]
  congr 1
  apply List.map_congr_left
  intro i hi
  simp only [Function.comp]
  congr 3
  omega

theorem rleast_ok (m : Nat) (hm : m < 2 ^ 63) (h : Heap) : CallP gl Tryd.aprog 92 [.int .i64 m] h (fun r h' => ∃ v, r = .ret v ∧ SlV (bytesV (be (wid m) m)) v) := by
  have hwid : wid m ≤ 8 := wid_le 7 m (by omega)
  have hwp := wid_pos m
  have hsh : ∀ j : Nat, (((m / 256 ^ j : Nat)) : Int).fdiv 256 = ((m / 256 ^ (j + 1) : Nat) : Int) := fun j => by
    have := shr_eq (m / 256 ^ j) 1
    rw [Nat.div_div_eq_div_mul, ← Nat.pow_succ] at this
    simpa using this
  have hu : ∀ j : Nat, IntKind.u8.wrap ((m / 256 ^ j : Nat) : Int) = ((UInt8.ofNat (m / 256 ^ j)).toNat : Int) := fun j => by rw [u8_of (Int.natCast_nonneg _), Int.toNat_natCast]
  refine call_ofQ (af := Tryd.a92) rfl rfl fun Q hQ => ?_
  simp only [Tryd.a92]
  have h0 := hsh 0
  simp only [Nat.pow_zero, Nat.div_one] at h0
  simp [fill, chunks, IntKind.bits, h0, -Int.natCast_ediv]
  refine loop_nQ (wid m - 1) (fun j c => ∃ v h', c = ⟨[.int .i64 (m / 256 ^ (j + 1) : Nat), .nils, v], [], none, none, h'⟩ ∧ SlV (bytesV (be (j + 1) m)) v ∧ (∃ ex, v = .sv (bytesV (be (j + 1) m)) ex)) ?_ ⟨_, _, by simp only [Nat.zero_add, Nat.pow_one]; rfl, ?_, ?_⟩
  · rintro I hI j c hj ⟨v, h', rfl, hv, ⟨ex, hve⟩⟩
    by_cases hjw : j + 1 < wid m
    · have hpos : (0 : Int) < ((m / 256 ^ (j + 1) : Nat) : Int) := by
        have := (wid_lt (j + 1) m (by omega)).1 hjw
        have hp : 0 < 256 ^ (j + 1) := Nat.pow_pos (by omega)
        have := Nat.div_pos this hp
        omega
      have hown := own_new h' [UInt8.ofNat (m / 256 ^ (j + 1))]
      have hlen : (be (j + 1) m).length = j + 1 := be_length _ _
      have happ := app_own hown hv (by rw [hlen]; simp; omega)
      have hfrz := own_frz (own_new h' (be (j + 1 + 1) m))
      rw [set_last] at happ hfrz
      simp only [slB, cellsB, List.singleton_append, ← be_succ, be_length, bytesC_one, List.length_singleton, ← hu] at happ hfrz
      subst hve
      generalize hq : m / 256 ^ (j + 1) = q at *
      have hsq : (q : Int).fdiv 256 = ((m / 256 ^ (j + 1 + 1) : Nat) : Int) := by rw [← hq]; exact hsh (j + 1)
      simp [hpos, fill, chunks, IntKind.bits, happ, hfrz, hsq, -Int.natCast_ediv, -Int.natCast_pos]
      exact ⟨by omega, hI _ _ ⟨_, _, rfl, .sv _, _, rfl⟩⟩
    · obtain hjw' : j + 1 = wid m := by omega
      have hz : ¬ ((0 : Int) < ((m / 256 ^ (j + 1) : Nat) : Int)) := fun h => by
        have hp : 0 < 256 ^ (j + 1) := Nat.pow_pos (by omega)
        have h2 : 0 < m / 256 ^ (j + 1) := by omega
        have := (wid_lt (j + 1) m (by omega)).2 (Nat.div_pos_iff.1 h2).2
        omega
      generalize m / 256 ^ (j + 1) = q at *
      simp [hz, -Int.natCast_pos]
      exact hQ _ _ ⟨_, rfl, by rw [← hjw']; exact hv⟩
  · rw [be_succ]; have := hu 0; simp only [Nat.pow_zero, Nat.div_one] at this; simp only [bytesV, be, List.range_zero, List.map_nil, List.map_cons, Nat.pow_zero, Nat.div_one, ← this]; exact .sv true
  · rw [be_succ]; have := hu 0; simp only [Nat.pow_zero, Nat.div_one] at this; simp only [bytesV, be, List.range_zero, List.map_nil, List.map_cons, Nat.pow_zero, Nat.div_one, ← this]; exact ⟨true, rfl⟩

/-- Number: bytes of an object of one's own -/
theorem rnumber_ok (n : Int) (hn : is64 n) (h : Heap) : CallP gl Tryd.aprog 72 [.int .i64 n] h (fun r h' => ∃ o, r = .ret (slB o (numB n)) ∧ OwnB o (numB n) h') := by
  unfold is64 at hn
  refine call_ofQ (af := Tryd.a72) rfl rfl fun Q hQ => ?_
  simp only [Tryd.a72]
  by_cases hs0 : 0 ≤ n ∧ n < 240
  · have hnb : numB n = [UInt8.ofNat n.toNat] := by unfold numB; rw [if_pos hs0]
    have h239 : n ≤ 239 := by omega
    have hown := own_new h [UInt8.ofNat n.toNat]
    simp only [cellsB, bytesC_one, ← u8_of hs0.1, List.length_singleton] at hown
    simp [hs0.1, h239, slotOf, fill]
    exact hQ _ _ ⟨h.length, by rw [hnb]; rfl, by rw [hnb]; unfold OwnB cellsB; rw [bytesC_one, ← u8_of hs0.1]; simp⟩
  · have hm : ∃ m : Nat, ∃ first : Nat, (n < 0 → n = -1 - m ∧ first = 247) ∧ (¬ n < 0 → n = m ∧ first = 239) ∧ numB n = UInt8.ofNat (first + wid m) :: be (wid m) m ∧ m < 2 ^ 63 := by
      by_cases h0 : n < 0
      · refine ⟨(-1 - n).toNat, 247, fun _ => ⟨by omega, rfl⟩, fun h => absurd h0 h, ?_, by omega⟩
        unfold numB; rw [if_neg hs0, if_neg (by omega)]
      · refine ⟨n.toNat, 239, fun h => absurd h h0, fun _ => ⟨by omega, rfl⟩, ?_, by omega⟩
        unfold numB; rw [if_neg hs0, if_pos (by omega)]
    obtain ⟨m, first, hm1, hm2, hnb, hmb⟩ := hm
    have hwid : wid m ≤ 8 := wid_le 7 m (by omega)
    have hfirst : first ≤ 247 := by by_cases h0 : n < 0; · have := (hm1 h0).2; omega
                                    · have := (hm2 h0).2; omega
    obtain ⟨r, h1, e, v, rfl, hv⟩ := OptP.ex (rleast_ok (gl := gl) m hmb [])
    have hpc := pcall_of e (by simp [pureL, pureV]) (hv.view 0 h1)
    have hlen := hv.len
    rw [bytesV_length, be_length] at hlen
    have hfk : IntKind.i64.wrap ((first : Int) + (wid m : Int)) = ((first + wid m : Nat) : Int) := by rw [wrap64 (by omega) (by omega)]; rfl
    have hown := own_new h [UInt8.ofNat (first + wid m)]
    obtain ⟨l1, hl1, happ⟩ := app_first hown hv (by simp; omega)
    have hu : IntKind.u8.wrap ((first + wid m : Nat) : Int) = ((UInt8.ofNat (first + wid m)).toNat : Int) := by rw [u8_of (Int.natCast_nonneg _), Int.toNat_natCast]
    rw [set_last] at happ
    simp only [cellsB, bytesC_one, ← hu, List.length_singleton] at happ
    have happ' : appV (h ++ [Am.Obj.cells 1 1 [V.int .u8 (IntKind.u8.wrap ((first + wid m : Nat) : Int))]]) (.sl h.length 0 1 1 1 false) v 1 1 = some (slB h.length l1, h ++ [cellsB l1]) := happ
    rw [List.singleton_append, ← hnb] at hl1
    subst hl1
    have hcell : isCell v = true := hv.cell
    have hfin := own_new h (numB n)
    by_cases h0 : n < 0
    case' pos =>
      obtain ⟨hnm, hfi⟩ := hm1 h0
      have h1 : ¬ (0 ≤ n) := by omega
      have h2 : IntKind.i64.wrap (-1 - n) = m := by rw [wrap64 (by omega) (by omega)]; omega
      have hfk' : IntKind.i64.wrap (247 + (wid m : Int)) = ((first + wid m : Nat) : Int) := by rw [← hfk, hfi]; rfl
      simp [h1, h0, slotOf, h2, hpc, hlen, hfk', fill, happ', -pcall, -Int.natCast_add]
    case' neg =>
      obtain ⟨hnm, hfi⟩ := hm2 h0
      have h240 : ¬ (n ≤ 239) := by omega
      have h1 : 0 ≤ n := by omega
      have hfk' : IntKind.i64.wrap (239 + (wid m : Int)) = ((first + wid m : Nat) : Int) := by rw [← hfk, hfi]; rfl
      rw [← hnm] at hpc
      simp [h1, h0, h240, slotOf, hpc, hlen, hfk', fill, happ', -pcall, -Int.natCast_add]
    all_goals exact hQ _ _ ⟨_, rfl, hfin⟩

theorem rnum_pc (n : Int) (hn : is64 n) : PureB 72 [.int .i64 n] (numB n) := fun gl => by
  obtain ⟨r, h1, e, o, rfl, ho⟩ := OptP.ex (rnumber_ok (gl := gl) n hn [])
  exact pcall_of e (by simp [pureL, pureV]) (own_view ho)
end Go.Proofs.FileA
/- The reference's writer: contents. -/
set_option linter.unusedVariables false
set_option linter.unusedSimpArgs false
namespace Go.Proofs.FileA
open Go Go.Am
variable {gl : Nat → List V}

theorem contents_mem {ks : List T} {t : T} (h : t ∈ ks) : (content t).length ≤ (contents ks).length := by
  induction ks with
  | nil => simp at h
  | cons k ks ih =>
    simp only [contents, List.length_append]
    rcases List.mem_cons.1 h with rfl | h
    · omega
    · have := ih h; omega
theorem numB_le (n : Int) (hn : is64 n) : (numB n).length ≤ 9 := by
  unfold is64 at hn
  unfold numB
  split
  · simp
  · split
    · have := wid_le 7 n.toNat (by omega); simp; omega
    · have := wid_le 7 (-1 - n).toNat (by omega); simp; omega
theorem contents_take (ks : List T) (i : Nat) : (contents (ks.take i)).length ≤ (contents ks).length := by
  induction ks generalizing i with
  | nil => simp [contents]
  | cons k ks ih =>
    cases i with
    | zero => simp [contents]
    | succ i => simp only [List.take_succ_cons, contents, List.length_append]; have := ih i; omega
theorem contents_snoc {ks : List T} {i : Nat} (h : i < ks.length) : contents (ks.take (i + 1)) = contents (ks.take i) ++ content ks[i] := by
  rw [← List.take_append_getElem h, contents_eq, contents_eq, List.map_append, List.flatten_append]
  simp

theorem rnumbers_ok {v : V} {l : List Int} (hl : IsInts l v) (hb : (listB l).length ≤ 2 ^ 46) : PureB 75 [v] (listB l) := by
  refine pureB_of (by simp [pureL, hl.sl.pure]) fun gl => ?_
  have hlen : lenV v = some (.int .i64 l.length) := by rw [hl.sl.len]; simp [intsV]
  have hsm := hl.len
  unfold small at hsm
  obtain ⟨r, h1, e, o, rfl, ho⟩ := OptP.ex (rnumber_ok (gl := gl) l.length (by unfold is64; omega) [])
  refine call_ofQ (af := Tryd.a75) rfl rfl fun Q hQ => ?_
  simp only [Tryd.a75]
  simp [hlen, e]
  refine loop_nQ l.length (fun i c => ∃ out h2, c = ⟨[v, .nils, slB o out, .int .i64 i], [], none, none, h2⟩ ∧ out = numB l.length ++ (l.take i).flatMap numB ∧ OwnB o out h2) ?_ ⟨_, _, rfl, by simp, ho⟩
  rintro I hI i c hi ⟨out, h2, rfl, hout, ho2⟩
  by_cases hlt : i < l.length
  · have hlt' : (i : Int) < l.length := by omega
    have hidx : idxV v i 1 = some (.pv [.int .i64 l[i]]) := by rw [hl.sl.idx]; simp [intsV, hlt]
    have hw1 : IntKind.i64.wrap ((i : Int) + 1) = ((i + 1 : Nat) : Int) := by rw [wrap64 (by omega) (by omega)]; rfl
    have hpc := rnum_pc l[i] (hl.rng _ (List.getElem_mem hlt)) gl
    have htk := take_flatMap numB hlt
    have hsz : out.length + (numB l[i]).length ≤ 2 ^ 47 := by
      have h9 := numB_le l[i] (hl.rng _ (List.getElem_mem hlt))
      have h10 : (out).length ≤ (listB l).length := by
        rw [hout]; unfold listB
        have : ((l.take i).flatMap numB).length ≤ (l.flatMap numB).length := by
          conv => rhs; rw [← List.take_append_drop i l, List.flatMap_append]
          simp
        simp only [List.length_append]; omega
      omega
    obtain ⟨l', hl', happ⟩ := app_first ho2 (.sv false) hsz
    simp [hlt', hidx, hlen, hw1, hpc, happ, -pcall]
    exact ⟨hlt, hI _ _ ⟨_, _, rfl, by rw [hl', hout, htk, List.append_assoc], own_set l' ho2⟩⟩
  · obtain rfl : i = l.length := by omega
    have hfz := own_frz ho2
    simp [hlen, hfz]
    refine hQ _ _ ?_
    rw [hout, List.take_of_length_le (Nat.le_refl _)]
    rfl

theorem rtree47 (d : Nat) : ∀ (t : T) (cs : List V), depth t ≤ d → IsT 2 0 t cs → (content t).length ≤ 2 ^ 46 → PureB 47 [.agg cs] (content t) := by
  induction d with
  | zero => intro t cs hd _ _; rw [depth_kids] at hd; omega
  | succ d ih =>
  intro t cs hd ht hsize
  have hpu := isT_pure ht
  have hdk : ∀ k ∈ t.kids, depth k ≤ d := by rw [depth_kids] at hd; exact depths_le.1 (by omega)
  cases t with
  | mk ns ls ks =>
  simp only [IsT] at ht
  obtain ⟨ha, hb, hn, vs, v, es, rfl, hls, hv, hkl, hts⟩ := ht
  simp only [T.kids] at hdk
  match ns, ls, ha, hb with
  | [k, n], [], _, _ =>
    simp only [IsLists] at hls
    subst hls
    have hall := isTs_all hts
    have hl := hall.length
    have hcon : content (.mk [k, n] [] ks) = (numB k ++ numB n ++ numB ks.length) ++ contents ks := by simp [content]
    rw [hcon] at hsize ⊢
    refine pureB_of (by simpa [pureL, pureV] using hpu) fun gl => ?_
    have hlv : lenV v = some (.int .i64 ks.length) := by rw [hv.len, hl]
    unfold small at hkl
    have hk64 : is64 (ks.length : Int) := by unfold is64; omega
    obtain ⟨r, h1, e, o, rfl, ho⟩ := OptP.ex (rnumber_ok (gl := gl) k (hn _ (by simp)) [])
    obtain ⟨l0, hl0⟩ : ∃ l0, l0 = numB k := ⟨_, rfl⟩
    rw [← hl0] at e ho
    have hp1 := rnum_pc n (hn _ (by simp)) gl
    have hb0 := numB_le k (hn _ (by simp))
    have hb1 := numB_le n (hn _ (by simp))
    obtain ⟨l1, hl1, ha1⟩ := app_first (m := numB n) ho (.sv false) (by rw [hl0]; omega)
    have hb9 := numB_le _ hk64
    have hpk := rnum_pc _ hk64 gl
    obtain ⟨lf, hlf, haf⟩ := app_next (m := numB ks.length) l1 ho (.sv false) (by rw [hl1]; rw [hl0]; simp only [List.length_append]; omega)
    have hlf' : lf = numB k ++ numB n ++ numB ks.length := by rw [hlf, hl1, hl0]
    refine call_ofQ (af := Tryd.a47) rfl rfl fun Q hQ => ?_
    simp only [Tryd.a47]
    simp [hv.cell, hlv, e, hp1, ha1, hpk, haf, -pcall]
    refine loop_nQ ks.length (fun i c => ∃ out h2, c = ⟨[.agg [.int .i64 k, .int .i64 n, v], .agg [.int .i64 k, .int .i64 n, v], .nils, slB o out, .int .i64 i], [], none, none, h2⟩ ∧ out = lf ++ contents (ks.take i) ∧ OwnB o out h2) ?_ ⟨_, _, rfl, by simp [contents], own_set _ ho⟩
    rintro I hI i c hi ⟨out, h2, rfl, hout, ho2⟩
    by_cases hlt : i < ks.length
    · have hlt' : (i : Int) < ks.length := by omega
      have hi1 : ks[i]? = some ks[i] := List.getElem?_eq_getElem hlt
      have hi2 : es[i]? = some (es[i]'(by omega)) := List.getElem?_eq_getElem (by omega)
      have hti := hall.get i _ _ hi1 hi2
      obtain ⟨he1, he2⟩ := isT_cells hti
      have hidx : idxV v i 3 = some (.pv (es[i]'(by omega))) := by rw [hv.idx]; simp only [Int.natCast_nonneg, if_true, Int.toNat_natCast, hi2, he1]
      have hw1 : IntKind.i64.wrap ((i : Int) + 1) = ((i + 1 : Nat) : Int) := by rw [wrap64 (by omega) (by omega)]; rfl
      have hmem : ks[i] ∈ ks := List.getElem_mem hlt
      have hcm := contents_mem hmem
      have hct := contents_take ks i
      have hsn := contents_snoc hlt
      simp only [List.length_append] at hsize
      have hpc := ih ks[i] _ (hdk _ hmem) hti (by omega) gl
      generalize (es[i]'(by omega)) = el at *
      generalize ks[i] = kt at *
      have he3 : el.take 3 = el := List.take_of_length_le (by omega)
      obtain ⟨l', hl', happ⟩ := app_first (m := content kt) ho2 (.sv false) (by rw [hout, hlf']; simp only [List.length_append]; omega)
      simp [hlt', hidx, hlv, hv.cell, hw1, he1, he3, hpc, happ, -pcall]
      exact ⟨hlt, hI _ _ ⟨_, _, rfl, by rw [hl', hout, hsn, List.append_assoc], own_set l' ho2⟩⟩
    · obtain rfl : i = ks.length := by omega
      have hfz := own_frz ho2
      simp [hlv, hv.cell, hfz]
      refine hQ _ _ ?_
      rw [hout, hlf', List.take_of_length_le (Nat.le_refl _)]

theorem rtree73 (d : Nat) : ∀ (t : T) (cs : List V), depth t ≤ d → IsT 3 0 t cs → (content t).length ≤ 2 ^ 46 → PureB 73 [.agg cs] (content t) := by
  induction d with
  | zero => intro t cs hd _ _; rw [depth_kids] at hd; omega
  | succ d ih =>
  intro t cs hd ht hsize
  have hpu := isT_pure ht
  have hdk : ∀ k ∈ t.kids, depth k ≤ d := by rw [depth_kids] at hd; exact depths_le.1 (by omega)
  cases t with
  | mk ns ls ks =>
  simp only [IsT] at ht
  obtain ⟨ha, hb, hn, vs, v, es, rfl, hls, hv, hkl, hts⟩ := ht
  simp only [T.kids] at hdk
  match ns, ls, ha, hb with
  | [k, n, m], [], _, _ =>
    simp only [IsLists] at hls
    subst hls
    have hall := isTs_all hts
    have hl := hall.length
    have hcon : content (.mk [k, n, m] [] ks) = (numB k ++ numB n ++ numB m ++ numB ks.length) ++ contents ks := by simp [content]
    rw [hcon] at hsize ⊢
    refine pureB_of (by simpa [pureL, pureV] using hpu) fun gl => ?_
    have hlv : lenV v = some (.int .i64 ks.length) := by rw [hv.len, hl]
    unfold small at hkl
    have hk64 : is64 (ks.length : Int) := by unfold is64; omega
    obtain ⟨r, h1, e, o, rfl, ho⟩ := OptP.ex (rnumber_ok (gl := gl) k (hn _ (by simp)) [])
    obtain ⟨l0, hl0⟩ : ∃ l0, l0 = numB k := ⟨_, rfl⟩
    rw [← hl0] at e ho
    have hp1 := rnum_pc n (hn _ (by simp)) gl
    have hp2 := rnum_pc m (hn _ (by simp)) gl
    have hb0 := numB_le k (hn _ (by simp))
    have hb1 := numB_le n (hn _ (by simp))
    have hb2 := numB_le m (hn _ (by simp))
    obtain ⟨l1, hl1, ha1⟩ := app_first (m := numB n) ho (.sv false) (by rw [hl0]; omega)
    obtain ⟨l2, hl2, ha2⟩ := app_next (m := numB m) l1 ho (.sv false) (by rw [hl1, hl0]; simp only [List.length_append]; omega)
    have hb9 := numB_le _ hk64
    have hpk := rnum_pc _ hk64 gl
    obtain ⟨lf, hlf, haf⟩ := app_next (m := numB ks.length) l2 ho (.sv false) (by rw [hl2]; rw [hl1]; rw [hl0]; simp only [List.length_append]; omega)
    have hlf' : lf = numB k ++ numB n ++ numB m ++ numB ks.length := by rw [hlf, hl2, hl1, hl0]
    refine call_ofQ (af := Tryd.a73) rfl rfl fun Q hQ => ?_
    simp only [Tryd.a73]
    simp [hv.cell, hlv, e, hp1, ha1, hp2, ha2, hpk, haf, -pcall]
    refine loop_nQ ks.length (fun i c => ∃ out h2, c = ⟨[.agg [.int .i64 k, .int .i64 n, .int .i64 m, v], .agg [.int .i64 k, .int .i64 n, .int .i64 m, v], .nils, slB o out, .int .i64 i], [], none, none, h2⟩ ∧ out = lf ++ contents (ks.take i) ∧ OwnB o out h2) ?_ ⟨_, _, rfl, by simp [contents], own_set _ ho⟩
    rintro I hI i c hi ⟨out, h2, rfl, hout, ho2⟩
    by_cases hlt : i < ks.length
    · have hlt' : (i : Int) < ks.length := by omega
      have hi1 : ks[i]? = some ks[i] := List.getElem?_eq_getElem hlt
      have hi2 : es[i]? = some (es[i]'(by omega)) := List.getElem?_eq_getElem (by omega)
      have hti := hall.get i _ _ hi1 hi2
      obtain ⟨he1, he2⟩ := isT_cells hti
      have hidx : idxV v i 4 = some (.pv (es[i]'(by omega))) := by rw [hv.idx]; simp only [Int.natCast_nonneg, if_true, Int.toNat_natCast, hi2, he1]
      have hw1 : IntKind.i64.wrap ((i : Int) + 1) = ((i + 1 : Nat) : Int) := by rw [wrap64 (by omega) (by omega)]; rfl
      have hmem : ks[i] ∈ ks := List.getElem_mem hlt
      have hcm := contents_mem hmem
      have hct := contents_take ks i
      have hsn := contents_snoc hlt
      simp only [List.length_append] at hsize
      have hpc := ih ks[i] _ (hdk _ hmem) hti (by omega) gl
      generalize (es[i]'(by omega)) = el at *
      generalize ks[i] = kt at *
      have he3 : el.take 4 = el := List.take_of_length_le (by omega)
      obtain ⟨l', hl', happ⟩ := app_first (m := content kt) ho2 (.sv false) (by rw [hout, hlf']; simp only [List.length_append]; omega)
      simp [hlt', hidx, hlv, hv.cell, hw1, he1, he3, hpc, happ, -pcall]
      exact ⟨hlt, hI _ _ ⟨_, _, rfl, by rw [hl', hout, hsn, List.append_assoc], own_set l' ho2⟩⟩
    · obtain rfl : i = ks.length := by omega
      have hfz := own_frz ho2
      simp [hlv, hv.cell, hfz]
      refine hQ _ _ ?_
      rw [hout, hlf', List.take_of_length_le (Nat.le_refl _)]
end Go.Proofs.FileA
/- The reference's writer: code, programs, logs. -/
set_option linter.unusedVariables false
set_option linter.unusedSimpArgs false
namespace Go.Proofs.FileA
open Go Go.Am
variable {gl : Nat → List V}

theorem rcode_ok (d : Nat) : ∀ (ks : List T) (v : V) (es : List (List V)), depths ks ≤ d → SlV es v → IsTs 2 2 ks es → small ks.length → (codeB ks).length ≤ 2 ^ 46 → PureB 74 [v] (codeB ks) := by
  induction d with
  | zero =>
    intro ks v es hd hv hts hkl hsize
    have : ks = [] := by
      cases ks with
      | nil => rfl
      | cons k ks => simp only [depths] at hd; have := depth_kids k; omega
    subst this
    simp only [IsTs] at hts
    subst hts
    refine pureB_of (by simp [pureL, hv.pure]) fun gl => ?_
    have hlv := hv.len
    obtain ⟨r, h1, e, o, rfl, ho⟩ := OptP.ex (rnumber_ok (gl := gl) 0 (by unfold is64; omega) [])
    refine call_ofQ (af := Tryd.a74) rfl rfl fun Q hQ => ?_
    simp only [Tryd.a74]
    simp at hlv
    simp [hlv, e]
    refine loop_round ?_
    have hfz := own_frz ho
    simp [hlv, hfz, roundQ]
    refine hQ _ _ ?_
    simp [codeB, contents]
  | succ d ih =>
    intro ks v es hd hv hts hkl hsize
    have hall := isTs_all hts
    have hl := hall.length
    have hlv : lenV v = some (.int .i64 ks.length) := by rw [hv.len, hl]
    unfold small at hkl
    have hk64 : is64 (ks.length : Int) := by unfold is64; omega
    refine pureB_of (by simp [pureL, hv.pure]) fun gl => ?_
    obtain ⟨r, h1, e, o, rfl, ho⟩ := OptP.ex (rnumber_ok (gl := gl) ks.length hk64 [])
    refine call_ofQ (af := Tryd.a74) rfl rfl fun Q hQ => ?_
    simp only [Tryd.a74]
    simp [hlv, e]
    refine loop_nQ ks.length (fun i c => ∃ out h2 a4, c = ⟨[v, .nils, slB o out, .int .i64 i, a4], [], none, none, h2⟩ ∧ out = numB ks.length ++ contents (ks.take i) ∧ OwnB o out h2) ?_ ⟨_, _, _, rfl, by simp [contents], ho⟩
    rintro I hI i c hi ⟨out, h2, a4, rfl, hout, ho2⟩
    by_cases hlt : i < ks.length
    · have hlt' : (i : Int) < ks.length := by omega
      have hi1 : ks[i]? = some ks[i] := List.getElem?_eq_getElem hlt
      have hi2 : es[i]? = some (es[i]'(by omega)) := List.getElem?_eq_getElem (by omega)
      have hti := hall.get i _ _ hi1 hi2
      obtain ⟨he1, he2⟩ := isT_cells hti
      have hidx : idxV v i 5 = some (.pv (es[i]'(by omega))) := by rw [hv.idx]; simp only [Int.natCast_nonneg, if_true, Int.toNat_natCast, hi2, he1]
      have hw1 : IntKind.i64.wrap ((i : Int) + 1) = ((i + 1 : Nat) : Int) := by rw [wrap64 (by omega) (by omega)]; rfl
      have hmem : ks[i] ∈ ks := List.getElem_mem hlt
      have hcm := contents_mem hmem
      have hct := contents_take ks i
      have hsn := contents_snoc hlt
      have hdt := depths_le.1 hd _ hmem
      unfold codeB at hsize
      simp only [List.length_append] at hsize
      generalize (es[i]'(by omega)) = el at *
      generalize ks[i] = kt at *
      cases kt with
      | mk ns ls kk =>
      simp only [IsT] at hti
      obtain ⟨hna, hnb, hn, vs, vk, es2, rfl, hls, hvk, hkkl, hkts⟩ := hti
      match ns, ls, hna, hnb with
      | [k, n], [la, lb], _, _ =>
        simp only [IsLists] at hls
        obtain ⟨va, _, rfl, hva, vb, _, rfl, hvb, rfl⟩ := hls
        have hcon : content (.mk [k, n] [la, lb] kk) = numB k ++ (numB n ++ (listB la ++ (listB lb ++ codeB kk))) := by simp [content, codeB]
        rw [hcon] at hcm hsn
        simp only [List.length_append] at hcm
        have hp1 := rnum_pc k (hn _ (by simp)) gl
        have hp2 := rnum_pc n (hn _ (by simp)) gl
        have hp3 := rnumbers_ok hva (by omega) gl
        have hp4 := rnumbers_ok hvb (by omega) gl
        have hp5 := ih kk vk es2 (by simp only [depth] at hdt; omega) hvk hkts hkkl (by omega) gl
        have hol : out.length = (numB ks.length).length + (contents (ks.take i)).length := by rw [hout, List.length_append]
        obtain ⟨l1, hl1, ha1⟩ := app_first (m := numB k) ho2 (.sv false) (by omega)
        have hm1 := congrArg List.length hl1
        rw [List.length_append] at hm1
        obtain ⟨l2, hl2, ha2⟩ := app_next (m := numB n) l1 ho2 (.sv false) (by omega)
        have hm2 := congrArg List.length hl2
        rw [List.length_append] at hm2
        obtain ⟨l3, hl3, ha3⟩ := app_next (m := listB la) l2 ho2 (.sv false) (by omega)
        have hm3 := congrArg List.length hl3
        rw [List.length_append] at hm3
        obtain ⟨l4, hl4, ha4⟩ := app_next (m := listB lb) l3 ho2 (.sv false) (by omega)
        have hm4 := congrArg List.length hl4
        rw [List.length_append] at hm4
        obtain ⟨l5, hl5, ha5⟩ := app_next (m := codeB kk) l4 ho2 (.sv false) (by omega)
        simp [hlt', hidx, hlv, hw1, hva.sl.cell, hvb.sl.cell, hvk.cell, hp1, hp2, hp3, hp4, hp5, ha1, ha2, ha3, ha4, ha5, -pcall]
        refine ⟨hlt, hI _ _ ⟨_, _, _, rfl, ?_, own_set l5 ho2⟩⟩
        rw [hl5, hl4, hl3, hl2, hl1, hout, hsn]
        simp only [List.append_assoc]
    · obtain rfl : i = ks.length := by omega
      have hfz := own_frz ho2
      simp [hlv, hfz]
      refine hQ _ _ ?_
      rw [hout, List.take_of_length_le (Nat.le_refl _)]
      rfl

theorem map_flatten_mem {α : Type} {f : α → List UInt8} {ks : List α} {t : α} (h : t ∈ ks) : (f t).length ≤ (ks.map f).flatten.length := by
  induction ks with
  | nil => simp at h
  | cons k ks ih =>
    simp only [List.map_cons, List.flatten_cons, List.length_append]
    rcases List.mem_cons.1 h with rfl | h
    · omega
    · have := ih h; omega
theorem map_flatten_take {α : Type} (f : α → List UInt8) (ks : List α) (i : Nat) : ((ks.take i).map f).flatten.length ≤ (ks.map f).flatten.length := by
  conv => rhs; rw [← List.take_append_drop i ks, List.map_append, List.flatten_append]
  simp
theorem map_flatten_snoc {α : Type} (f : α → List UInt8) {ks : List α} {i : Nat} (h : i < ks.length) : ((ks.take (i + 1)).map f).flatten = ((ks.take i).map f).flatten ++ f ks[i] := by
  rw [← List.take_append_getElem h, List.map_append, List.flatten_append]
  simp

theorem rprog_ok {p : ProgT} {cs : List V} (hp : IsProg p cs) (hsize : (progB p).length ≤ 2 ^ 46) : PureB 49 [.agg cs] (progB p) := by
  obtain ⟨⟨v, es, rfl, hv, hall⟩, hr, hlen⟩ := hp
  have hl := hall.length
  have hlv : lenV v = some (.int .i64 p.funs.length) := by rw [hv.len, hl]
  unfold small at hlen
  have hk64 : is64 (p.funs.length : Int) := by unfold is64; omega
  refine pureB_of (by simp [pureL, pureV, hv.pure]) fun gl => ?_
  obtain ⟨r, h1, e, o, rfl, ho⟩ := OptP.ex (rnumber_ok (gl := gl) p.funs.length hk64 [])
  unfold progB at hsize
  simp only [List.length_append] at hsize
  refine call_ofQ (af := Tryd.a49) rfl rfl fun Q hQ => ?_
  simp only [Tryd.a49]
  simp [hlv, hv.cell, e]
  refine loop_nQ p.funs.length (fun i c => ∃ out h2 a5, c = ⟨[.agg [v, .int .i64 p.main], .agg [v, .int .i64 p.main], .nils, slB o out, .int .i64 i, a5], [], none, none, h2⟩ ∧ out = numB p.funs.length ++ ((p.funs.take i).map funB).flatten ∧ OwnB o out h2) ?_ ⟨_, _, _, rfl, by simp, ho⟩
  rintro I hI i c hi ⟨out, h2, a5, rfl, hout, ho2⟩
  have hol : out.length = (numB p.funs.length).length + ((p.funs.take i).map funB).flatten.length := by rw [hout, List.length_append]
  by_cases hlt : i < p.funs.length
  · have hlt' : (i : Int) < p.funs.length := by omega
    have hie : i < es.length := by omega
    have hi1 : p.funs[i]? = some p.funs[i] := List.getElem?_eq_getElem hlt
    have hi2 : es[i]? = some (es[i]'hie) := List.getElem?_eq_getElem hie
    have hti := hall.get i _ _ hi1 hi2
    obtain ⟨he1, he2⟩ := isFun_cells hti
    have hidx : idxV v i 6 = some (.pv (es[i]'hie)) := by rw [hv.idx]; simp only [Int.natCast_nonneg, if_true, Int.toNat_natCast, hi2, he1]
    have hw1 : IntKind.i64.wrap ((i : Int) + 1) = ((i + 1 : Nat) : Int) := by rw [wrap64 (by omega) (by omega)]; rfl
    have hmem : p.funs[i] ∈ p.funs := List.getElem_mem hlt
    have hcm := map_flatten_mem (f := funB) hmem
    have hct := map_flatten_take funB p.funs i
    have hsn := map_flatten_snoc funB hlt
    obtain ⟨f, hfe⟩ : ∃ f, f = p.funs[i]'hlt := ⟨_, rfl⟩
    rw [← hfe] at hti hcm hsn
    obtain ⟨el, hel⟩ : ∃ el, el = es[i]'hie := ⟨_, rfl⟩
    rw [← hel] at hti he1 he2 hidx
    obtain ⟨⟨bc, rfl, hb⟩, hfr, hfl⟩ := hti
    obtain ⟨hbl, hbc⟩ := isT_cells hb
    have hbp := isT_pure hb
    have hcon : funB f = numB f.name.length ++ (f.name ++ (numB f.param ++ content f.body)) := by simp [funB, textB]
    rw [hcon] at hcm hsn
    simp only [List.length_append] at hcm
    unfold small at hfl
    have hp1 := rnum_pc (f.name.length : Int) (by unfold is64; omega) gl
    have hp2 := rnum_pc f.param hfr gl
    have hp3 := rtree73 _ f.body bc (Nat.le_refl _) hb (by omega) gl
    have hb3 : bc.take 4 = bc := List.take_of_length_le (by omega)
    obtain ⟨l1, hl1, ha1⟩ := app_first (m := numB f.name.length) ho2 (.sv false) (by omega)
    have hm1 := congrArg List.length hl1
    rw [List.length_append] at hm1
    obtain ⟨l2, hl2, ha2⟩ := app_next (m := f.name) l1 ho2 (y := s2bV ⟨f.name.toArray⟩) (by unfold s2bV; exact .sv false) (by omega)
    have hm2 := congrArg List.length hl2
    rw [List.length_append] at hm2
    obtain ⟨l3, hl3, ha3⟩ := app_next (m := numB f.param) l2 ho2 (.sv false) (by omega)
    have hm3 := congrArg List.length hl3
    rw [List.length_append] at hm3
    obtain ⟨l4, hl4, ha4⟩ := app_next (m := content f.body) l3 ho2 (.sv false) (by omega)
    have hsz : (⟨f.name.toArray⟩ : ByteArray).size = f.name.length := by simp [ByteArray.size]
    simp [hlt', hidx, hlv, hv.cell, hw1, hbl, hbc, hb3, hsz, hp1, hp2, hp3, ha1, ha2, ha3, ha4, -pcall, -List.all_eq_true]
    refine ⟨hlt, hI _ _ ⟨_, _, _, rfl, ?_, own_set l4 ho2⟩⟩
    rw [hl4, hl3, hl2, hl1, hout, hsn]
    simp only [List.append_assoc]
  · obtain rfl : i = p.funs.length := by omega
    rw [List.take_of_length_le (Nat.le_refl _)] at hout hol
    have hpm := rnum_pc p.main hr gl
    obtain ⟨l1, hl1, ha1⟩ := app_first (m := numB p.main) ho2 (.sv false) (by omega)
    have hfz := own_frz (own_set l1 ho2)
    simp [hlv, hv.cell, hpm, ha1, hfz, -pcall]
    refine hQ _ _ ?_
    rw [hl1, hout]
    rfl

theorem rvec_ok {p : VecT} {cs : List V} (hp : IsVec p cs) (hsize : (vecB p).length ≤ 2 ^ 46) : PureB 51 [.agg cs] (vecB p) := by
  obtain ⟨⟨v, es, rfl, hv, hall⟩, hr, hlen⟩ := hp
  have hl := hall.length
  have hlv : lenV v = some (.int .i64 p.funs.length) := by rw [hv.len, hl]
  unfold small at hlen
  have hk64 : is64 (p.funs.length : Int) := by unfold is64; omega
  refine pureB_of (by simp [pureL, pureV, hv.pure]) fun gl => ?_
  obtain ⟨r, h1, e, o, rfl, ho⟩ := OptP.ex (rnumber_ok (gl := gl) p.funs.length hk64 [])
  unfold vecB at hsize
  simp only [List.length_append] at hsize
  refine call_ofQ (af := Tryd.a51) rfl rfl fun Q hQ => ?_
  simp only [Tryd.a51]
  simp [hlv, hv.cell, e]
  refine loop_nQ p.funs.length (fun i c => ∃ out h2 a5, c = ⟨[.agg [v, .int .i64 p.main], .agg [v, .int .i64 p.main], .nils, slB o out, .int .i64 i, a5], [], none, none, h2⟩ ∧ out = numB p.funs.length ++ ((p.funs.take i).map vecFunB).flatten ∧ OwnB o out h2) ?_ ⟨_, _, _, rfl, by simp, ho⟩
  rintro I hI i c hi ⟨out, h2, a5, rfl, hout, ho2⟩
  have hol : out.length = (numB p.funs.length).length + ((p.funs.take i).map vecFunB).flatten.length := by rw [hout, List.length_append]
  by_cases hlt : i < p.funs.length
  · have hlt' : (i : Int) < p.funs.length := by omega
    have hie : i < es.length := by omega
    have hi1 : p.funs[i]? = some p.funs[i] := List.getElem?_eq_getElem hlt
    have hi2 : es[i]? = some (es[i]'hie) := List.getElem?_eq_getElem hie
    have hti := hall.get i _ _ hi1 hi2
    obtain ⟨he1, he2⟩ := isVecFun_cells hti
    have hidx : idxV v i 4 = some (.pv (es[i]'hie)) := by rw [hv.idx]; simp only [Int.natCast_nonneg, if_true, Int.toNat_natCast, hi2, he1]
    have hw1 : IntKind.i64.wrap ((i : Int) + 1) = ((i + 1 : Nat) : Int) := by rw [wrap64 (by omega) (by omega)]; rfl
    have hmem : p.funs[i] ∈ p.funs := List.getElem_mem hlt
    have hcm := map_flatten_mem (f := vecFunB) hmem
    have hct := map_flatten_take vecFunB p.funs i
    have hsn := map_flatten_snoc vecFunB hlt
    obtain ⟨f, hfe⟩ : ∃ f, f = p.funs[i]'hlt := ⟨_, rfl⟩
    rw [← hfe] at hti hcm hsn
    obtain ⟨el, hel⟩ : ∃ el, el = es[i]'hie := ⟨_, rfl⟩
    rw [← hel] at hti he1 he2 hidx
    obtain ⟨⟨vc, vo, va, es2, rfl, hvc, hts, hvo, hva⟩, hfr, hfl⟩ := hti
    have hcon : vecFunB f = numB f.params ++ (codeB f.code ++ (listB f.outs ++ listB f.ats)) := by simp [vecFunB]
    rw [hcon] at hcm hsn
    simp only [List.length_append] at hcm
    have hp1 := rnum_pc f.params hfr gl
    have hp2 := rcode_ok _ f.code vc es2 (Nat.le_refl _) hvc hts hfl (by omega) gl
    have hp3 := rnumbers_ok hvo (by omega) gl
    have hp4 := rnumbers_ok hva (by omega) gl
    obtain ⟨l1, hl1, ha1⟩ := app_first (m := numB f.params) ho2 (.sv false) (by omega)
    have hm1 := congrArg List.length hl1
    rw [List.length_append] at hm1
    obtain ⟨l2, hl2, ha2⟩ := app_next (m := codeB f.code) l1 ho2 (.sv false) (by omega)
    have hm2 := congrArg List.length hl2
    rw [List.length_append] at hm2
    obtain ⟨l3, hl3, ha3⟩ := app_next (m := listB f.outs) l2 ho2 (.sv false) (by omega)
    have hm3 := congrArg List.length hl3
    rw [List.length_append] at hm3
    obtain ⟨l4, hl4, ha4⟩ := app_next (m := listB f.ats) l3 ho2 (.sv false) (by omega)
    simp [hlt', hidx, hlv, hv.cell, hw1, hvc.cell, hvo.sl.cell, hva.sl.cell, hp1, hp2, hp3, hp4, ha1, ha2, ha3, ha4, -pcall]
    refine ⟨hlt, hI _ _ ⟨_, _, _, rfl, ?_, own_set l4 ho2⟩⟩
    rw [hl4, hl3, hl2, hl1, hout, hsn]
    simp only [List.append_assoc]
  · obtain rfl : i = p.funs.length := by omega
    rw [List.take_of_length_le (Nat.le_refl _)] at hout hol
    have hpm := rnum_pc p.main hr gl
    obtain ⟨l1, hl1, ha1⟩ := app_first (m := numB p.main) ho2 (.sv false) (by omega)
    have hfz := own_frz (own_set l1 ho2)
    simp [hlv, hv.cell, hpm, ha1, hfz, -pcall]
    refine hQ _ _ ?_
    rw [hl1, hout]
    rfl

theorem rlog_ok {l : LogT} {cs : List V} (hp : IsLog l cs) (hsize : (logB l).length ≤ 2 ^ 46) : PureB 52 [.agg cs] (logB l) := by
  obtain ⟨⟨vc, vm, rfl, hvc, hvm⟩, hr⟩ := hp
  refine pureB_of (by simp [pureL, pureV, hvc.sl.pure, hvm.sl.pure]) fun gl => ?_
  obtain ⟨r, h1, e, o, rfl, ho⟩ := OptP.ex (rnumber_ok (gl := gl) l.kind hr [])
  unfold logB at hsize
  simp only [List.length_append] at hsize
  have hp3 := rnumbers_ok hvc (by omega) gl
  have hp4 := rnumbers_ok hvm (by omega) gl
  obtain ⟨l1, hl1, ha1⟩ := app_first (m := listB l.choices) ho (.sv false) (by omega)
  have hm1 := congrArg List.length hl1
  rw [List.length_append] at hm1
  obtain ⟨l2, hl2, ha2⟩ := app_next (m := listB l.marks) l1 ho (.sv false) (by omega)
  have hfz := own_frz (own_set l2 ho)
  refine call_ofQ (af := Tryd.a52) rfl rfl fun Q hQ => ?_
  simp only [Tryd.a52]
  simp [hvc.sl.cell, hvm.sl.cell, e, hp3, hp4, ha1, ha2, hfz, -pcall]
  refine hQ _ _ ?_
  rw [hl2, hl1]
  rfl
end Go.Proofs.FileA
/- The reference: how deep, put. -/
set_option linter.unusedVariables false
set_option linter.unusedSimpArgs false
namespace Go.Proofs.FileA
open Go Go.Am
variable {gl : Nat → List V}

mutual
theorem depth_le_content : ∀ t : T, depth t ≤ (content t).length
  | ⟨ns, ls, ks⟩ => by
    have := depths_le_contents ks
    have h1 := numB_pos (ks.length : Int)
    simp only [depth, content, List.length_append]
    omega
theorem depths_le_contents : ∀ ks : List T, depths ks ≤ (contents ks).length
  | [] => by simp [depths]
  | t :: ts => by
    have h1 := depth_le_content t
    have h2 := depths_le_contents ts
    simp only [depths, contents, List.length_append]
    omega
end
theorem depths_snoc {ks : List T} {i : Nat} (h : i < ks.length) : depths (ks.take (i + 1)) = max (depths (ks.take i)) (depth ks[i]) := by
  rw [← List.take_append_getElem h]
  generalize ks.take i = l
  generalize ks[i] = k
  induction l with
  | nil => simp [depths]
  | cons a l ih => simp only [List.cons_append, depths, ih]; omega
theorem depths_take (ks : List T) (i : Nat) : depths (ks.take i) ≤ depths ks := by
  rw [depths_le]
  intro t ht
  exact depths_le.1 (Nat.le_refl _) t (List.mem_of_mem_take ht)

def PureI (f : Nat) (args : List V) (n : Int) : Prop := ∀ gl : Nat → List V, pcall (lim gl Tryd.aprog) (.func (.func f) [] []) args = some (.val (.int .i64 n))
theorem pureI_of {f : Nat} {args : List V} {n : Int} (hp : pureL args = true) (h : ∀ gl : Nat → List V, CallP gl Tryd.aprog f args [] (fun r h' => r = .ret (.int .i64 n))) : PureI f args n := fun gl => by
  obtain ⟨r, h', e, rfl⟩ := OptP.ex (h gl)
  exact pcall_of e hp (by simp [viewV])
theorem maxI_nat (a b : Nat) : (if a < b then (b : Int) else (a : Int)) = ((max a b : Nat) : Int) := by
  split <;> omega

theorem rdeep46 (d : Nat) : ∀ (t : T) (cs : List V), depth t ≤ d → depth t ≤ 2 ^ 46 → IsT 2 0 t cs → PureI 46 [.agg cs] (depth t : Nat) := by
  induction d with
  | zero => intro t cs hd _ _; rw [depth_kids] at hd; omega
  | succ d ih =>
  intro t cs hd hsize ht
  have hpu := isT_pure ht
  have hdk : ∀ k ∈ t.kids, depth k ≤ d := by rw [depth_kids] at hd; exact depths_le.1 (by omega)
  cases t with
  | mk ns ls ks =>
  simp only [IsT] at ht
  obtain ⟨ha, hb, hn, vs, v, es, rfl, hls, hv, hkl, hts⟩ := ht
  simp only [T.kids] at hdk
  simp only [depth] at hsize ⊢
  match ns, ls, ha, hb with
  | [k, n], [], _, _ =>
    simp only [IsLists] at hls
    subst hls
    have hall := isTs_all hts
    have hl := hall.length
    refine pureI_of (by simpa [pureL, pureV] using hpu) fun gl => ?_
    have hlv : lenV v = some (.int .i64 ks.length) := by rw [hv.len, hl]
    unfold small at hkl
    refine call_ofQ (af := Tryd.a46) rfl rfl fun Q hQ => ?_
    simp only [Tryd.a46]
    simp [hv.cell, hlv, -pcall]
    refine loop_nQ ks.length (fun i c => ∃ h2, c = ⟨[.agg [.int .i64 k, .int .i64 n, v], .agg [.int .i64 k, .int .i64 n, v], .int .i64 0, .int .i64 (depths (ks.take i) : Nat), .int .i64 i], [], none, none, h2⟩) ?_ ⟨_, rfl⟩
    rintro I hI i c hi ⟨h2, rfl⟩
    by_cases hlt : i < ks.length
    · have hlt' : (i : Int) < ks.length := by omega
      have hie : i < es.length := by omega
      have hi1 : ks[i]? = some ks[i] := List.getElem?_eq_getElem hlt
      have hi2 : es[i]? = some (es[i]'hie) := List.getElem?_eq_getElem hie
      have hti := hall.get i _ _ hi1 hi2
      obtain ⟨he1, he2⟩ := isT_cells hti
      have hidx : idxV v i 3 = some (.pv (es[i]'hie)) := by rw [hv.idx]; simp only [Int.natCast_nonneg, if_true, Int.toNat_natCast, hi2, he1]
      have hw1 : IntKind.i64.wrap ((i : Int) + 1) = ((i + 1 : Nat) : Int) := by rw [wrap64 (by omega) (by omega)]; rfl
      have hmem : ks[i] ∈ ks := List.getElem_mem hlt
      have hdm := depths_le.1 (Nat.le_refl _) _ hmem
      have hpc := ih ks[i] _ (hdk _ hmem) (by omega) hti gl
      have hsn := depths_snoc hlt
      have he3 : (es[i]'hie).take 3 = es[i]'hie := List.take_of_length_le (by omega)
      have hmx := maxI_nat (depths (ks.take i)) (depth ks[i])
      rw [← hsn] at hmx
      simp [hlt', hidx, hlv, hv.cell, hw1, he1, he3, hpc, hmx, -pcall]
      exact ⟨hlt, hI _ _ ⟨_, rfl⟩⟩
    · obtain rfl : i = ks.length := by omega
      have hw : IntKind.i64.wrap (((depths (ks.take ks.length) : Nat) : Int) + 1) = ((depths ks + 1 : Nat) : Int) := by rw [List.take_of_length_le (Nat.le_refl _), wrap64 (by omega) (by omega)]; rfl
      rw [List.take_of_length_le (Nat.le_refl _)] at hw ⊢
      simp [hlv, hv.cell, hw]
      exact hQ _ _ rfl

theorem rdeep48 (d : Nat) : ∀ (t : T) (cs : List V), depth t ≤ d → depth t ≤ 2 ^ 46 → IsT 3 0 t cs → PureI 48 [.agg cs] (depth t : Nat) := by
  induction d with
  | zero => intro t cs hd _ _; rw [depth_kids] at hd; omega
  | succ d ih =>
  intro t cs hd hsize ht
  have hpu := isT_pure ht
  have hdk : ∀ k ∈ t.kids, depth k ≤ d := by rw [depth_kids] at hd; exact depths_le.1 (by omega)
  cases t with
  | mk ns ls ks =>
  simp only [IsT] at ht
  obtain ⟨ha, hb, hn, vs, v, es, rfl, hls, hv, hkl, hts⟩ := ht
  simp only [T.kids] at hdk
  simp only [depth] at hsize ⊢
  match ns, ls, ha, hb with
  | [k, n, m], [], _, _ =>
    simp only [IsLists] at hls
    subst hls
    have hall := isTs_all hts
    have hl := hall.length
    refine pureI_of (by simpa [pureL, pureV] using hpu) fun gl => ?_
    have hlv : lenV v = some (.int .i64 ks.length) := by rw [hv.len, hl]
    unfold small at hkl
    refine call_ofQ (af := Tryd.a48) rfl rfl fun Q hQ => ?_
    simp only [Tryd.a48]
    simp [hv.cell, hlv, -pcall]
    refine loop_nQ ks.length (fun i c => ∃ h2, c = ⟨[.agg [.int .i64 k, .int .i64 n, .int .i64 m, v], .agg [.int .i64 k, .int .i64 n, .int .i64 m, v], .int .i64 0, .int .i64 (depths (ks.take i) : Nat), .int .i64 i], [], none, none, h2⟩) ?_ ⟨_, rfl⟩
    rintro I hI i c hi ⟨h2, rfl⟩
    by_cases hlt : i < ks.length
    · have hlt' : (i : Int) < ks.length := by omega
      have hie : i < es.length := by omega
      have hi1 : ks[i]? = some ks[i] := List.getElem?_eq_getElem hlt
      have hi2 : es[i]? = some (es[i]'hie) := List.getElem?_eq_getElem hie
      have hti := hall.get i _ _ hi1 hi2
      obtain ⟨he1, he2⟩ := isT_cells hti
      have hidx : idxV v i 4 = some (.pv (es[i]'hie)) := by rw [hv.idx]; simp only [Int.natCast_nonneg, if_true, Int.toNat_natCast, hi2, he1]
      have hw1 : IntKind.i64.wrap ((i : Int) + 1) = ((i + 1 : Nat) : Int) := by rw [wrap64 (by omega) (by omega)]; rfl
      have hmem : ks[i] ∈ ks := List.getElem_mem hlt
      have hdm := depths_le.1 (Nat.le_refl _) _ hmem
      have hpc := ih ks[i] _ (hdk _ hmem) (by omega) hti gl
      have hsn := depths_snoc hlt
      have he3 : (es[i]'hie).take 4 = es[i]'hie := List.take_of_length_le (by omega)
      have hmx := maxI_nat (depths (ks.take i)) (depth ks[i])
      rw [← hsn] at hmx
      simp [hlt', hidx, hlv, hv.cell, hw1, he1, he3, hpc, hmx, -pcall]
      exact ⟨hlt, hI _ _ ⟨_, rfl⟩⟩
    · obtain rfl : i = ks.length := by omega
      have hw : IntKind.i64.wrap (((depths (ks.take ks.length) : Nat) : Int) + 1) = ((depths ks + 1 : Nat) : Int) := by rw [List.take_of_length_le (Nat.le_refl _), wrap64 (by omega) (by omega)]; rfl
      rw [List.take_of_length_le (Nat.le_refl _)] at hw ⊢
      simp [hlv, hv.cell, hw]
      exact hQ _ _ rfl

theorem rdeepCode (d : Nat) : ∀ (ks : List T) (v : V) (es : List (List V)), depths ks ≤ d → depths ks ≤ 2 ^ 46 → SlV es v → IsTs 2 2 ks es → small ks.length → PureI 50 [v] (depths ks : Nat) := by
  induction d with
  | zero =>
    intro ks v es hd _ hv hts hkl
    have : ks = [] := by
      cases ks with
      | nil => rfl
      | cons k ks => simp only [depths] at hd; have := depth_kids k; omega
    subst this
    simp only [IsTs] at hts
    subst hts
    refine pureI_of (by simp [pureL, hv.pure]) fun gl => ?_
    have hlv := hv.len
    refine call_ofQ (af := Tryd.a50) rfl rfl fun Q hQ => ?_
    simp only [Tryd.a50]
    simp at hlv
    simp [hlv]
    refine loop_round ?_
    simp [hlv, roundQ]
    exact hQ _ _ rfl
  | succ d ih =>
    intro ks v es hd hsize hv hts hkl
    have hall := isTs_all hts
    have hl := hall.length
    have hlv : lenV v = some (.int .i64 ks.length) := by rw [hv.len, hl]
    unfold small at hkl
    refine pureI_of (by simp [pureL, hv.pure]) fun gl => ?_
    refine call_ofQ (af := Tryd.a50) rfl rfl fun Q hQ => ?_
    simp only [Tryd.a50]
    simp [hlv, -pcall]
    refine loop_nQ ks.length (fun i c => ∃ h2, c = ⟨[v, .int .i64 0, .int .i64 (depths (ks.take i) : Nat), .int .i64 i], [], none, none, h2⟩) ?_ ⟨_, rfl⟩
    rintro I hI i c hi ⟨h2, rfl⟩
    by_cases hlt : i < ks.length
    · have hlt' : (i : Int) < ks.length := by omega
      have hie : i < es.length := by omega
      have hi1 : ks[i]? = some ks[i] := List.getElem?_eq_getElem hlt
      have hi2 : es[i]? = some (es[i]'hie) := List.getElem?_eq_getElem hie
      have hti := hall.get i _ _ hi1 hi2
      obtain ⟨he1, he2⟩ := isT_cells hti
      have hidx : idxV v i 5 = some (.pv (es[i]'hie)) := by rw [hv.idx]; simp only [Int.natCast_nonneg, if_true, Int.toNat_natCast, hi2, he1]
      have hw1 : IntKind.i64.wrap ((i : Int) + 1) = ((i + 1 : Nat) : Int) := by rw [wrap64 (by omega) (by omega)]; rfl
      have hmem : ks[i] ∈ ks := List.getElem_mem hlt
      have hdm := depths_le.1 (Nat.le_refl _) _ hmem
      have hsn := depths_snoc hlt
      have hmx := maxI_nat (depths (ks.take i)) (depth ks[i])
      rw [← hsn] at hmx
      generalize (es[i]'hie) = el at hti he1 he2 hidx
      obtain ⟨kt, hkt⟩ : ∃ kt, kt = ks[i]'hlt := ⟨_, rfl⟩
      rw [← hkt] at hti hdm hmx
      cases kt with
      | mk ns ls kk =>
      simp only [IsT] at hti
      obtain ⟨hna, hnb, hn, vs, vk, es2, rfl, hls, hvk, hkkl, hkts⟩ := hti
      simp only [depth] at hdm hmx
      match ns, ls, hna, hnb with
      | [k, n], [la, lb], _, _ =>
        simp only [IsLists] at hls
        obtain ⟨va, _, rfl, hva, vb, _, rfl, hvb, rfl⟩ := hls
        have hpc := ih kk vk es2 (by omega) (by omega) hvk hkts hkkl gl
        have hw2 : IntKind.i64.wrap ((depths kk : Int) + 1) = ((depths kk + 1 : Nat) : Int) := by rw [wrap64 (by omega) (by omega)]; rfl
        simp [hlt', hidx, hlv, hw1, hpc, hw2, -pcall, -Int.natCast_add]
        rw [← hkt] at hsn
        simp only [depth] at hsn
        have hgen : ∀ (inst : Decidable (depths (ks.take i) < depths kk + 1)), (@ite _ _ inst ((depths kk + 1 : Nat) : Int) (depths (ks.take i) : Int)) = ((depths (ks.take (i + 1)) : Nat) : Int) := fun inst => by split <;> omega
        rw [hgen]
        exact ⟨hlt, hI _ _ ⟨_, rfl⟩⟩
    · obtain rfl : i = ks.length := by omega
      rw [List.take_of_length_le (Nat.le_refl _)]
      simp [hlv]
      exact hQ _ _ rfl

theorem rput_ok (k : UInt8) (d : Nat) (c : List UInt8) (hd : d ≤ 2 ^ 46) (hc : c.length ≤ 2 ^ 46) (gl : Nat → List V) :
    pcall (lim gl Tryd.aprog) (.func (.func 45) [] []) [.int .i64 k.toNat, .int .i64 d, .sv (bytesV c) false] = some (.val (putR d k c)) := by
  have key : CallP gl Tryd.aprog 45 [.int .i64 k.toNat, .int .i64 d, .sv (bytesV c) false] [] (fun r h' => r = .ret (putR d k c)) := by
    have hu : IntKind.u8.wrap (k.toNat : Int) = (k.toNat : Int) := by
      have := k.toNat_lt
      rw [wrapu8 (by omega) (by omega)]
    unfold putR
    refine call_ofQ (af := Tryd.a45) rfl rfl fun Q hQ => ?_
    simp only [Tryd.a45]
    by_cases h60 : 60 < d
    · have h60' : (60 : Int) < d := by omega
      rw [if_pos h60] at hQ
      simp [h60']
      exact hQ _ _ rfl
    · have h60' : ¬ ((60 : Int) < d) := by omega
      rw [if_neg h60] at hQ
      have hown := own_new ([] : Heap) [83, 119, k]
      obtain ⟨l1, hl1, ha1⟩ := app_first (m := c) hown (.sv false) (by simp; omega)
      have hm1 := congrArg List.length hl1
      rw [List.length_append] at hm1
      simp only [List.length_cons, List.length_nil] at hm1
      have ha1' : appV [Am.Obj.cells 3 1 [V.int .u8 83, V.int .u8 119, V.int .u8 k.toNat]] (V.sl 0 0 3 3 1 false) (.sv (bytesV c) false) 1 1 = some (slB 0 l1, [cellsB l1]) := ha1
      have hown1 : OwnB 0 l1 [cellsB l1] := rfl
      have hv1 := own_view hown1
      have hsum : (lim gl Tryd.aprog).call 20 [.sv (bytesV l1) false] [] = some (.ret (.int .i64 (sumOf l1)), []) := by
        have := rsum_ok (gl := gl) l1 (by omega) false []
        rw [sumV_eq, (sumN_eq l1).1] at this
        exact this
      obtain ⟨l2, hl2, ha2⟩ := app_first (m := be 4 (sumOf l1)) (y := .sv (bytesV (be 4 (sumOf l1))) true) hown1 (.sv true) (by simp; omega)
      have hb : ∀ j, ((UInt8.ofNat (sumOf l1 / 256 ^ j)).toNat : Int) = IntKind.u8.wrap ((sumOf l1 : Int).fdiv (2 ^ (8 * j))) := fun j => by rw [shr_eq, u8_of (Int.natCast_nonneg _), Int.toNat_natCast]
      have ha2' : appV [cellsB l1] (slB 0 l1) (.sv [[V.int .u8 (IntKind.u8.wrap ((sumOf l1 : Int).fdiv 16777216))], [V.int .u8 (IntKind.u8.wrap ((sumOf l1 : Int).fdiv 65536))], [V.int .u8 (IntKind.u8.wrap ((sumOf l1 : Int).fdiv 256))], [V.int .u8 (IntKind.u8.wrap (sumOf l1 : Int))]] true) 1 1 = some (slB 0 l2, [cellsB l2]) := by
        rw [be4] at ha2
        simp only [bytesV, List.map_cons, List.map_nil, hb] at ha2
        simpa using ha2
      have hown2 : OwnB 0 l2 [cellsB l2] := rfl
      have hfz := own_frz hown2
      have hfo : l2 = fileOf k c := by rw [hl2, hl1]; rfl
      have hfl := fileOf_length k c
      by_cases hlong : 200000 < c.length + 7
      · have hlong' : (200000 : Int) < l2.length := by rw [hfo, hfl]; omega
        rw [if_pos hlong] at hQ
        simp [h60', hu, fill, ha1', bcall, viewL, hv1, hsum, plainV, chunks, IntKind.bits, ha2', hlong']
        exact hQ _ _ rfl
      · have hlong' : ¬ (200000 : Int) < l2.length := by rw [hfo, hfl]; omega
        rw [if_neg hlong, ← hfo] at hQ
        simp [h60', hu, fill, ha1', bcall, viewL, hv1, hsum, plainV, chunks, IntKind.bits, ha2', hlong', hfz]
        exact hQ _ _ rfl
  obtain ⟨r, h', e, rfl⟩ := OptP.ex key
  refine pcall_of e (by simp [pureL, pureV]) ?_
  unfold putR
  split
  · simp [viewV, viewL]
  · split <;> simp [viewV, viewL]
end Go.Proofs.FileA
/- The reference: Put of each kind. -/
set_option linter.unusedVariables false
set_option linter.unusedSimpArgs false
namespace Go.Proofs.FileA
open Go Go.Am
variable {gl : Nat → List V}

theorem putR_form (d : Nat) (k : UInt8) (c : List UInt8) : ∃ v n, putR d k c = .tup [v, .int .i64 n] ∧ isCell v = true := by
  unfold putR
  split
  · exact ⟨_, _, rfl, rfl⟩
  · split
    · exact ⟨_, _, rfl, rfl⟩
    · exact ⟨_, _, rfl, rfl⟩

def PureV (f : Nat) (args : List V) (x : V) : Prop := ∀ gl : Nat → List V, pcall (lim gl Tryd.aprog) (.func (.func f) [] []) args = some (.val x)
theorem pureV_of {f : Nat} {args : List V} {x : V} (hp : pureL args = true) (hv : ∀ h, viewV 0 h x = some x) (h : ∀ gl : Nat → List V, CallP gl Tryd.aprog f args [] (fun r h' => r = .ret x)) : PureV f args x := fun gl => by
  obtain ⟨r, h', e, rfl⟩ := OptP.ex (h gl)
  exact pcall_of e hp (hv _)
theorem putR_view (d : Nat) (k : UInt8) (c : List UInt8) (h : Heap) : viewV 0 h (putR d k c) = some (putR d k c) := by
  unfold putR
  split
  · simp [viewV, viewL]
  · split <;> simp [viewV, viewL]

theorem rPutValue {x : T} {cs : List V} (hx : IsT 2 0 x cs) (hsz : (content x).length ≤ 2 ^ 46) : PureV 11 [.agg cs] (putR (depth x) 0 (content x)) := by
  have hall := (isT_cells hx).2
  have hpu := isT_pure hx
  have hln : cs.length = 3 := (isT_cells hx).1
  have hcs : cs.take 3 = cs := List.take_of_length_le (by omega)
  have hd := depth_le_content x
  refine pureV_of (by simpa [pureL, pureV] using hpu) (putR_view _ _ _) fun gl => ?_
  have h1 := rdeep46 _ x cs (Nat.le_refl _) (by omega) hx gl
  have h2 := rtree47 _ x cs (Nat.le_refl _) hx hsz gl
  have h3 := rput_ok 0 (depth x) (content x) (by omega) hsz gl
  obtain ⟨v, n, hr, _⟩ := putR_form (depth x) 0 (content x)
  rw [hr] at h3 ⊢
  simp only [UInt8.toNat_zero, Int.natCast_zero] at h3
  refine call_ofQ (af := Tryd.a11) rfl rfl fun Q hQ => ?_
  simp only [Tryd.a11]
  simp [hall, hln, hcs, h1, h2, h3, -pcall, -List.all_eq_true]
  exact hQ _ _ rfl

theorem rPutLog {x : LogT} {cs : List V} (hx : IsLog x cs) (hsz : (logB x).length ≤ 2 ^ 46) : PureV 18 [.agg cs] (putR 0 3 (logB x)) := by
  have hck := hx
  have hall : cs.all isCell = true := by obtain ⟨⟨v, w, rfl, hv, hw⟩, _⟩ := hck; simp [hv.sl.cell, hw.sl.cell]
  have hpu : pureL cs = true := by obtain ⟨⟨v, w, rfl, hv, hw⟩, _⟩ := hck; simp [pureL, pureV, hv.sl.pure, hw.sl.pure]
  have hln : cs.length = 3 := by obtain ⟨⟨v, w, rfl, hv, hw⟩, _⟩ := hck; rfl
  have hcs : cs.take 3 = cs := List.take_of_length_le (by omega)
  refine pureV_of (by simpa [pureL, pureV] using hpu) (putR_view _ _ _) fun gl => ?_
  have h2 := rlog_ok hx hsz gl
  have h3 := rput_ok 3 0 (logB x) (by omega) hsz gl
  obtain ⟨v, n, hr, _⟩ := putR_form 0 3 (logB x)
  rw [hr] at h3 ⊢
  have h3' : pcall (lim gl Tryd.aprog) (V.func (Fn.func 45) [] []) [V.int .i64 3, V.int .i64 0, V.sv (bytesV (logB x)) false] = some (Ref.val (V.tup [v, V.int .i64 n])) := h3
  refine call_ofQ (af := Tryd.a18) rfl rfl fun Q hQ => ?_
  simp only [Tryd.a18]
  simp [hall, hln, hcs, h2, h3', -pcall, -List.all_eq_true]
  exact hQ _ _ rfl

theorem depths_append (a b : List T) : depths (a ++ b) = max (depths a) (depths b) := by
  induction a with
  | nil => simp [depths]
  | cons t a ih => simp only [List.cons_append, depths, ih]; omega

theorem rPutProg {x : ProgT} {cs : List V} (hx : IsProg x cs) (hsz : (progB x).length ≤ 2 ^ 46) : PureV 13 [.agg cs] (putR (progDepth x) 1 (progB x)) := by
  have h2 := rprog_ok hx hsz
  obtain ⟨⟨v, es, rfl, hv, hall⟩, hr, hlen⟩ := hx
  have hl := hall.length
  have hlv : lenV v = some (.int .i64 x.funs.length) := by rw [hv.len, hl]
  unfold small at hlen
  have hfd : ∀ f ∈ x.funs, depth f.body ≤ 2 ^ 46 := fun f hf => by
    have h1 := depth_le_content f.body
    have h2 := map_flatten_mem (f := funB) hf
    have h3 : (content f.body).length ≤ (funB f).length := by simp only [funB, List.length_append]; omega
    have h4 : ((x.funs.map funB).flatten).length ≤ (progB x).length := by unfold progB; simp only [List.length_append]; omega
    omega
  have hpd : progDepth x ≤ 2 ^ 46 := depths_le.2 fun t ht => by obtain ⟨f, hf, rfl⟩ := List.mem_map.1 ht; exact hfd f hf
  refine pureV_of (by simp [pureL, pureV, hv.pure]) (putR_view _ _ _) fun gl => ?_
  have h3 := rput_ok 1 (progDepth x) (progB x) hpd hsz gl
  obtain ⟨v', n, hr', _⟩ := putR_form (progDepth x) 1 (progB x)
  rw [hr'] at h3 ⊢
  have h3' : pcall (lim gl Tryd.aprog) (V.func (Fn.func 45) [] []) [V.int .i64 1, V.int .i64 (progDepth x), V.sv (bytesV (progB x)) false] = some (Ref.val (V.tup [v', V.int .i64 n])) := h3
  refine call_ofQ (af := Tryd.a13) rfl rfl fun Q hQ => ?_
  simp only [Tryd.a13]
  simp [hv.cell, hlv, -pcall]
  refine loop_nQ x.funs.length (fun i c => ∃ h2, c = ⟨[.agg [v, .int .i64 x.main], .agg [v, .int .i64 x.main], .nils, .int .i64 0, .int .i64 (depths ((x.funs.take i).map (·.body)) : Nat), .int .i64 i], [], none, none, h2⟩) ?_ ⟨_, rfl⟩
  rintro I hI i c hi ⟨hh, rfl⟩
  by_cases hlt : i < x.funs.length
  · have hlt' : (i : Int) < x.funs.length := by omega
    have hie : i < es.length := by omega
    have hi1 : x.funs[i]? = some (x.funs[i]'hlt) := List.getElem?_eq_getElem hlt
    have hi2 : es[i]? = some (es[i]'hie) := List.getElem?_eq_getElem hie
    have hti := hall.get i _ _ hi1 hi2
    obtain ⟨he1, he2⟩ := isFun_cells hti
    have hidx : idxV v i 6 = some (.pv (es[i]'hie)) := by rw [hv.idx]; simp only [Int.natCast_nonneg, if_true, Int.toNat_natCast, hi2, he1]
    have hw1 : IntKind.i64.wrap ((i : Int) + 1) = ((i + 1 : Nat) : Int) := by rw [wrap64 (by omega) (by omega)]; rfl
    have hmem : x.funs[i]'hlt ∈ x.funs := List.getElem_mem hlt
    have hdm := hfd _ hmem
    have hsn : depths ((x.funs.take (i + 1)).map (·.body)) = max (depths ((x.funs.take i).map (·.body))) (depth (x.funs[i]'hlt).body) := by
      rw [← List.take_append_getElem hlt, List.map_append, depths_append]
      simp [depths]
    obtain ⟨el, hel⟩ : ∃ el, el = es[i]'hie := ⟨_, rfl⟩
    rw [← hel] at hti he1 he2 hidx
    obtain ⟨f, hfe⟩ : ∃ f, f = x.funs[i]'hlt := ⟨_, rfl⟩
    rw [← hfe] at hti hdm hsn
    obtain ⟨⟨bc, rfl, hb⟩, hfr, hfl⟩ := hti
    obtain ⟨hbl, hbc⟩ := isT_cells hb
    have hb3 : bc.take 4 = bc := List.take_of_length_le (by omega)
    have hpc := rdeep48 _ f.body bc (Nat.le_refl _) hdm hb gl
    obtain ⟨m1, hm1⟩ : ∃ m1, m1 = depths ((x.funs.take i).map (·.body)) := ⟨_, rfl⟩
    obtain ⟨m2, hm2⟩ : ∃ m2, m2 = depths ((x.funs.take (i + 1)).map (·.body)) := ⟨_, rfl⟩
    rw [← hm1, ← hm2] at hsn
    rw [← hm1]
    have hgen : ∀ (inst : Decidable (m1 < depth f.body)), (@ite _ _ inst ((depth f.body : Nat) : Int) (m1 : Int)) = ((m2 : Nat) : Int) := fun inst => by split <;> omega
    simp [hlt', hidx, hlv, hv.cell, hw1, hbl, hb3, hpc, -pcall]
    rw [hgen]
    exact ⟨hlt, hI _ _ ⟨hh, by rw [hm2]; rfl⟩⟩
  · obtain rfl : i = x.funs.length := by omega
    have hpg : (depths ((x.funs.take x.funs.length).map (·.body)) : Int) = progDepth x := by rw [List.take_of_length_le (Nat.le_refl _)]; rfl
    rw [hpg]
    simp [hlv, hv.cell, h2 gl, h3', -pcall]
    exact hQ _ _ rfl

theorem foldr_max_append (a b : List Nat) : (a ++ b).foldr max 0 = max (a.foldr max 0) (b.foldr max 0) := by
  induction a with
  | nil => simp
  | cons t a ih => simp only [List.cons_append, List.foldr_cons, ih]; omega

theorem rPutVec {x : VecT} {cs : List V} (hx : IsVec x cs) (hsz : (vecB x).length ≤ 2 ^ 46) : PureV 16 [.agg cs] (putR (vecDepth x) 2 (vecB x)) := by
  have h2 := rvec_ok hx hsz
  obtain ⟨⟨v, es, rfl, hv, hall⟩, hr, hlen⟩ := hx
  have hl := hall.length
  have hlv : lenV v = some (.int .i64 x.funs.length) := by rw [hv.len, hl]
  unfold small at hlen
  have hfd : ∀ f ∈ x.funs, depths f.code ≤ 2 ^ 46 := fun f hf => by
    have h1 := depths_le_contents f.code
    have h2 := map_flatten_mem (f := vecFunB) hf
    have h3 : (contents f.code).length ≤ (vecFunB f).length := by simp only [vecFunB, codeB, List.length_append]; omega
    have h4 : ((x.funs.map vecFunB).flatten).length ≤ (vecB x).length := by unfold vecB; simp only [List.length_append]; omega
    omega
  have hpd : vecDepth x ≤ 2 ^ 46 := foldr_max_le.2 fun t ht => by obtain ⟨f, hf, rfl⟩ := List.mem_map.1 ht; exact hfd f hf
  refine pureV_of (by simp [pureL, pureV, hv.pure]) (putR_view _ _ _) fun gl => ?_
  have h3 := rput_ok 2 (vecDepth x) (vecB x) hpd hsz gl
  obtain ⟨v', n, hr', _⟩ := putR_form (vecDepth x) 2 (vecB x)
  rw [hr'] at h3 ⊢
  have h3' : pcall (lim gl Tryd.aprog) (V.func (Fn.func 45) [] []) [V.int .i64 2, V.int .i64 (vecDepth x), V.sv (bytesV (vecB x)) false] = some (Ref.val (V.tup [v', V.int .i64 n])) := h3
  refine call_ofQ (af := Tryd.a16) rfl rfl fun Q hQ => ?_
  simp only [Tryd.a16]
  simp [hv.cell, hlv, -pcall]
  refine loop_nQ x.funs.length (fun i c => ∃ h2, c = ⟨[.agg [v, .int .i64 x.main], .agg [v, .int .i64 x.main], .nils, .int .i64 0, .int .i64 (((x.funs.take i).map fun f => depths f.code).foldr max 0 : Nat), .int .i64 i], [], none, none, h2⟩) ?_ ⟨_, rfl⟩
  rintro I hI i c hi ⟨hh, rfl⟩
  by_cases hlt : i < x.funs.length
  · have hlt' : (i : Int) < x.funs.length := by omega
    have hie : i < es.length := by omega
    have hi1 : x.funs[i]? = some (x.funs[i]'hlt) := List.getElem?_eq_getElem hlt
    have hi2 : es[i]? = some (es[i]'hie) := List.getElem?_eq_getElem hie
    have hti := hall.get i _ _ hi1 hi2
    obtain ⟨he1, he2⟩ := isVecFun_cells hti
    have hidx : idxV v i 4 = some (.pv (es[i]'hie)) := by rw [hv.idx]; simp only [Int.natCast_nonneg, if_true, Int.toNat_natCast, hi2, he1]
    have hw1 : IntKind.i64.wrap ((i : Int) + 1) = ((i + 1 : Nat) : Int) := by rw [wrap64 (by omega) (by omega)]; rfl
    have hmem : x.funs[i]'hlt ∈ x.funs := List.getElem_mem hlt
    have hdm := hfd _ hmem
    have hsn : ((x.funs.take (i + 1)).map fun f => depths f.code).foldr max 0 = max (((x.funs.take i).map fun f => depths f.code).foldr max 0) (depths (x.funs[i]'hlt).code) := by
      rw [← List.take_append_getElem hlt, List.map_append, foldr_max_append]
      simp
    obtain ⟨el, hel⟩ : ∃ el, el = es[i]'hie := ⟨_, rfl⟩
    rw [← hel] at hti he1 he2 hidx
    obtain ⟨f, hfe⟩ : ∃ f, f = x.funs[i]'hlt := ⟨_, rfl⟩
    rw [← hfe] at hti hdm hsn
    obtain ⟨⟨vc, vo, va, es2, rfl, hvc, hts, hvo, hva⟩, hfr, hfl⟩ := hti
    have hpc := rdeepCode _ f.code vc es2 (Nat.le_refl _) hdm hvc hts hfl gl
    obtain ⟨m1, hm1⟩ : ∃ m1, m1 = ((x.funs.take i).map fun f => depths f.code).foldr max 0 := ⟨_, rfl⟩
    obtain ⟨m2, hm2⟩ : ∃ m2, m2 = ((x.funs.take (i + 1)).map fun f => depths f.code).foldr max 0 := ⟨_, rfl⟩
    rw [← hm1, ← hm2] at hsn
    rw [← hm1]
    have hgen : ∀ (inst : Decidable (m1 < depths f.code)), (@ite _ _ inst ((depths f.code : Nat) : Int) (m1 : Int)) = ((m2 : Nat) : Int) := fun inst => by split <;> omega
    simp [hlt', hidx, hlv, hv.cell, hvc.cell, hw1, hpc, -pcall]
    rw [hgen]
    exact ⟨hlt, hI _ _ ⟨hh, by rw [hm2]; rfl⟩⟩
  · obtain rfl : i = x.funs.length := by omega
    have hpg : ((((x.funs.take x.funs.length).map fun f => depths f.code).foldr max 0 : Nat) : Int) = vecDepth x := by rw [List.take_of_length_le (Nat.le_refl _)]; rfl
    rw [hpg]
    simp [hlv, hv.cell, h2 gl, h3', -pcall]
    exact hQ _ _ rfl
end Go.Proofs.FileA
/- File's data: from a datum of a type to numbers, lists and trees. -/
set_option linter.unusedVariables false
set_option linter.unusedSimpArgs false
namespace Go.Proofs.FileA
open Go Go.Am

mutual
/-- how much a datum holds -/
def dsz {H : Type} : DataW H → Nat
  | .lit (.string bs) => bs.length + 1
  | .slice es _ => dszL es + 1
  | .agg ps => dszL ps + 1
  | _ => 1
def dszL {H : Type} : List (DataW H) → Nat
  | [] => 0
  | d :: ds => dsz d + dszL ds
end
theorem dsz_pos {H : Type} (d : DataW H) : 1 ≤ dsz d := by
  cases d with
  | lit l => cases l <;> simp [dsz]
  | _ => simp [dsz]
theorem dszL_len {H : Type} (ds : List (DataW H)) : ds.length ≤ dszL ds := by
  induction ds with
  | nil => simp
  | cons d ds ih => have := dsz_pos d; simp [dszL]; omega

theorem dszL_mem {H : Type} {es : List (DataW H)} {x : DataW H} (hx : x ∈ es) : dsz x ≤ dszL es := by
  induction es with
  | nil => simp at hx
  | cons a es ih =>
    simp only [dszL]
    rcases List.mem_cons.1 hx with rfl | hx
    · omega
    · have := ih hx; omega

section
variable {H : Type} {P : Program} {n : Nat}

/-- the parts of a struct -/
def dtyAll (P : Program) (n : Nat) : List TypeId → List (DataW H) → Prop
  | [], [] => True
  | t :: ts, d :: ds => dty P n t d ∧ dtyAll P n ts ds
  | _, _ => False
theorem dtyAll_of : ∀ {ts : List TypeId} {ps : List (DataW H)}, ps.length = ts.length → (∀ (i : Nat) t p, ts[i]? = some t → ps[i]? = some p → dty P n t p) → dtyAll P n ts ps
  | [], [], _, _ => trivial
  | t :: ts, p :: ps, hl, h => ⟨h 0 t p rfl rfl, dtyAll_of (by simpa using hl) fun i t' p' h1 h2 => h (i + 1) t' p' (by simpa using h1) (by simpa using h2)⟩
  | [], _ :: _, hl, _ => by simp at hl
  | _ :: _, [], hl, _ => by simp at hl
theorem dty_struct {t : TypeId} {fs : Array Field} {d : DataW H} {ts : List TypeId} (hu : P.underlying t = some (.struct fs)) (hts : fs.toList.map (·.type) = ts) (h : dty P n t d) : ∃ m ps, n = m + 1 ∧ d = .agg ps ∧ dtyAll P m ts ps := by
  cases n with
  | zero => exact h.elim
  | succ m =>
    simp only [dty, hu] at h
    obtain ⟨ps, rfl, hl, h⟩ := h
    refine ⟨m, ps, rfl, rfl, dtyAll_of (by rw [hl, ← hts]; simp) fun i t' p h1 h2 => ?_⟩
    rw [← hts, List.getElem?_map, Option.map_eq_some_iff] at h1
    obtain ⟨f, hf, rfl⟩ := h1
    exact h i f p (by simpa using hf) h2
theorem dty_int {t : TypeId} {d : DataW H} (hu : P.underlying t = some (.int .i64)) (h : dty P n t d) : ∃ m, d = .lit (.int .i64 m) ∧ is64 m := by
  cases n with
  | zero => exact h.elim
  | succ k =>
    simp only [dty, hu] at h
    obtain ⟨m, rfl, hw⟩ := h
    refine ⟨m, rfl, ?_⟩
    simp [Lit.wf, IntKind.has, IntKind.min, IntKind.max, IntKind.signed, IntKind.bits] at hw
    unfold is64
    omega
theorem dty_str {t : TypeId} {d : DataW H} (hu : P.underlying t = some .string) (h : dty P n t d) : ∃ s, d = .lit (.string s) := by
  cases n with
  | zero => exact h.elim
  | succ k =>
    simp only [dty, hu] at h
    obtain ⟨s, rfl, _⟩ := h
    exact ⟨s, rfl⟩

theorem all2_of {α : Type} {R : α → List V → Prop} {B : α → List UInt8} : ∀ {es : List (DataW H)}, (∀ d ∈ es, ∃ a, R a (dcells d) ∧ (B a).length ≤ 9 * dsz d) → ∃ as, All2 R as (dcellsL es) ∧ ((as.map B).flatten).length ≤ 9 * dszL es
  | [], _ => ⟨[], trivial, by simp⟩
  | e :: es, h => by
    obtain ⟨a, h1, h2⟩ := h e (by simp)
    obtain ⟨as, h3, h4⟩ := all2_of (es := es) fun d hd => h d (by simp [hd])
    exact ⟨a :: as, ⟨h1, h3⟩, by simp only [List.map_cons, List.flatten_cons, List.length_append, dszL]; omega⟩

theorem numB_len (k : Nat) (hk : k < 2 ^ 46) : (numB (k : Int)).length ≤ 9 := numB_le _ (by unfold is64; omega)

/-- a slice -/
theorem dty_slice {t e : TypeId} {d : DataW H} (hu : P.underlying t = some (.slice e)) (h : dty P n t d) (hsz : dsz d ≤ 2 ^ 40) {α : Type} {R : α → List V → Prop} {B : α → List UInt8}
    (each : ∀ (m : Nat) (x : DataW H), m < n → dty P m e x → dsz x ≤ 2 ^ 40 → ∃ a, R a (dcells x) ∧ (B a).length ≤ 9 * dsz x) :
    ∃ as v es, dcells d = [v] ∧ SlV es v ∧ All2 R as es ∧ small as.length ∧ (numB as.length ++ (as.map B).flatten).length ≤ 9 * dsz d := by
  cases n with
  | zero => exact h.elim
  | succ k =>
    simp only [dty, hu] at h
    rcases h with rfl | ⟨es, rest, rfl, _, hel⟩
    · exact ⟨[], .nils, [], rfl, .nil rfl, trivial, by simp [small], by simp [dsz, numB]⟩
    · simp only [dsz] at hsz ⊢
      have hle : ∀ x ∈ es, dsz x ≤ dszL es := fun x hx => dszL_mem hx
      obtain ⟨as, h1, h2⟩ := all2_of (R := R) (B := B) (es := es) fun x hx => each k x (by omega) (hel x hx) (by have := hle x hx; omega)
      have hl := h1.length
      rw [dcellsL_eq, List.length_map] at hl
      have hlen := dszL_len es
      have h9 := numB_len as.length (by omega)
      exact ⟨as, _, _, rfl, .sv _, h1, by unfold small; omega, by simp only [List.length_append]; omega⟩

/-- a list of numbers -/
theorem dty_ints {t ti : TypeId} {d : DataW H} (hu : P.underlying t = some (.slice ti)) (hi : P.underlying ti = some (.int .i64)) (h : dty P n t d) (hsz : dsz d ≤ 2 ^ 40) : ∃ l v, dcells d = [v] ∧ IsInts l v ∧ (listB l).length ≤ 9 * dsz d := by
  obtain ⟨as, v, es, h1, h2, h3, h4, h5⟩ := dty_slice (R := fun (m : Int) cs => cs = [.int .i64 m] ∧ is64 m) (B := numB) hu h hsz fun m x _ hx _ => by
    obtain ⟨k, rfl, hk⟩ := dty_int hi hx
    exact ⟨k, ⟨rfl, hk⟩, numB_le k hk⟩
  have key : ∀ (as : List Int) (es : List (List V)), All2 (fun (m : Int) cs => cs = [V.int .i64 m] ∧ is64 m) as es → es = intsV as ∧ ∀ n ∈ as, is64 n := by
    intro as
    induction as with
    | nil => intro es h; cases es with
      | nil => exact ⟨rfl, by simp⟩
      | cons _ _ => exact h.elim
    | cons a as ih => intro es h; cases es with
      | nil => exact h.elim
      | cons e es =>
        obtain ⟨⟨rfl, h1⟩, h2⟩ := h
        obtain ⟨rfl, h3⟩ := ih es h2
        exact ⟨rfl, by simp [h1]; exact h3⟩
  obtain ⟨rfl, hr⟩ := key as es h3
  refine ⟨as, v, h1, ⟨h2, h4, hr⟩, ?_⟩
  unfold listB
  rw [List.flatMap_def]
  exact h5

theorem isTs_all2 {a b : Nat} {as : List T} {es : List (List V)} (h : All2 (IsT a b) as es) : IsTs a b as es := isTs_of h

/-- values -/
theorem dty_value {tv tl ti : TypeId} {fs : Array Field} (hu : P.underlying tv = some (.struct fs)) (hfs : fs.toList.map (·.type) = [ti, ti, tl]) (hl : P.underlying tl = some (.slice tv)) (hi : P.underlying ti = some (.int .i64)) :
    ∀ (n : Nat) (d : DataW H), dty P n tv d → dsz d ≤ 2 ^ 40 → ∃ t, IsT 2 0 t (dcells d) ∧ (content t).length ≤ 9 * dsz d := by
  intro n
  induction n using Nat.strongRecOn with
  | _ n ih =>
    intro d h hsz
    obtain ⟨m, ps, rfl, rfl, hps⟩ := dty_struct hu hfs h
    match ps, hps with
    | [p, q, r], ⟨hp, hq, hr, _⟩ =>
      obtain ⟨k, rfl, hk⟩ := dty_int hi hp
      obtain ⟨k2, rfl, hk2⟩ := dty_int hi hq
      simp only [dsz, dszL] at hsz ⊢
      obtain ⟨as, v, es, h1, h2, h3, h4, h5⟩ := dty_slice (R := IsT 2 0) (B := content) hl hr (by omega) fun m' x hm hx hs => ih m' (by omega) x hx hs
      refine ⟨.mk [k, k2] [] as, ?_, ?_⟩
      · simp only [IsT]
        exact ⟨rfl, rfl, by simp [hk, hk2], [], v, es, by simp [dcells, dflat, h1], by simp [IsLists], h2, h4, isTs_of h3⟩
      · have := numB_le k hk
        have := numB_le k2 hk2
        rw [content, contents_eq]
        simp only [List.flatMap_cons, List.flatMap_nil, List.append_nil, List.length_append] at h5 ⊢
        omega
/-- expressions -/
theorem dty_exp {tv tl ti : TypeId} {fs : Array Field} (hu : P.underlying tv = some (.struct fs)) (hfs : fs.toList.map (·.type) = [ti, ti, ti, tl]) (hl : P.underlying tl = some (.slice tv)) (hi : P.underlying ti = some (.int .i64)) :
    ∀ (n : Nat) (d : DataW H), dty P n tv d → dsz d ≤ 2 ^ 40 → ∃ t, IsT 3 0 t (dcells d) ∧ (content t).length ≤ 9 * dsz d := by
  intro n
  induction n using Nat.strongRecOn with
  | _ n ih =>
    intro d h hsz
    obtain ⟨m, ps, rfl, rfl, hps⟩ := dty_struct hu hfs h
    match ps, hps with
    | [p, q, o, r], ⟨hp, hq, ho, hr, _⟩ =>
      obtain ⟨k, rfl, hk⟩ := dty_int hi hp
      obtain ⟨k2, rfl, hk2⟩ := dty_int hi hq
      obtain ⟨k3, rfl, hk3⟩ := dty_int hi ho
      simp only [dsz, dszL] at hsz ⊢
      obtain ⟨as, v, es, h1, h2, h3, h4, h5⟩ := dty_slice (R := IsT 3 0) (B := content) hl hr (by omega) fun m' x hm hx hs => ih m' (by omega) x hx hs
      refine ⟨.mk [k, k2, k3] [] as, ?_, ?_⟩
      · simp only [IsT]
        exact ⟨rfl, rfl, by simp [hk, hk2, hk3], [], v, es, by simp [dcells, dflat, h1], by simp [IsLists], h2, h4, isTs_of h3⟩
      · have := numB_le k hk
        have := numB_le k2 hk2
        have := numB_le k3 hk3
        rw [content, contents_eq]
        simp only [List.flatMap_cons, List.flatMap_nil, List.append_nil, List.length_append] at h5 ⊢
        omega
/-- instructions -/
theorem dty_ins {tv tl ti tn : TypeId} {fs : Array Field} (hu : P.underlying tv = some (.struct fs)) (hfs : fs.toList.map (·.type) = [ti, ti, tn, tn, tl]) (hl : P.underlying tl = some (.slice tv)) (hn : P.underlying tn = some (.slice ti)) (hi : P.underlying ti = some (.int .i64)) :
    ∀ (n : Nat) (d : DataW H), dty P n tv d → dsz d ≤ 2 ^ 40 → ∃ t, IsT 2 2 t (dcells d) ∧ (content t).length ≤ 9 * dsz d := by
  intro n
  induction n using Nat.strongRecOn with
  | _ n ih =>
    intro d h hsz
    obtain ⟨m, ps, rfl, rfl, hps⟩ := dty_struct hu hfs h
    match ps, hps with
    | [p, q, l1, l2, r], ⟨hp, hq, hl1, hl2, hr, _⟩ =>
      obtain ⟨k, rfl, hk⟩ := dty_int hi hp
      obtain ⟨k2, rfl, hk2⟩ := dty_int hi hq
      simp only [dsz, dszL] at hsz ⊢
      obtain ⟨i1, v1, g1, g2, g3⟩ := dty_ints hn hi hl1 (by omega)
      obtain ⟨i2, v2, g4, g5, g6⟩ := dty_ints hn hi hl2 (by omega)
      obtain ⟨as, v, es, h1, h2, h3, h4, h5⟩ := dty_slice (R := IsT 2 2) (B := content) hl hr (by omega) fun m' x hm hx hs => ih m' (by omega) x hx hs
      refine ⟨.mk [k, k2] [i1, i2] as, ?_, ?_⟩
      · simp only [IsT]
        exact ⟨rfl, rfl, by simp [hk, hk2], [v1, v2], v, es, by simp [dcells, dflat, h1, g1, g4], by simp only [IsLists]; exact ⟨v1, _, rfl, g2, v2, _, rfl, g5, rfl⟩, h2, h4, isTs_of h3⟩
      · have := numB_le k hk
        have := numB_le k2 hk2
        rw [content, contents_eq]
        simp only [List.flatMap_cons, List.flatMap_nil, List.append_nil, List.length_append] at h5 ⊢
        omega
/-- functions, programs -/
theorem dty_fun {tf te tl ti ts : TypeId} {fs fe : Array Field} (hu : P.underlying tf = some (.struct fs)) (hfs : fs.toList.map (·.type) = [ts, ti, te]) (hue : P.underlying te = some (.struct fe)) (hfe : fe.toList.map (·.type) = [ti, ti, ti, tl]) (hl : P.underlying tl = some (.slice te))
    (hi : P.underlying ti = some (.int .i64)) (hs : P.underlying ts = some .string) (n : Nat) (d : DataW H) (h : dty P n tf d) (hsz : dsz d ≤ 2 ^ 40) : ∃ f, IsFun f (dcells d) ∧ (funB f).length ≤ 9 * dsz d := by
  obtain ⟨m, ps, rfl, rfl, hps⟩ := dty_struct hu hfs h
  match ps, hps with
  | [p, q, r], ⟨hp, hq, hr, _⟩ =>
    obtain ⟨s, rfl⟩ := dty_str hs hp
    obtain ⟨k, rfl, hk⟩ := dty_int hi hq
    simp only [dsz, dszL] at hsz ⊢
    obtain ⟨t, h1, h2⟩ := dty_exp hue hfe hl hi m r hr (by omega)
    have h9 := numB_len s.length (by omega)
    have h8 := numB_le k hk
    refine ⟨⟨s, k, t⟩, ⟨⟨_, by simp only [dcells, dflat]; simp, h1⟩, hk, by unfold small; simp only; omega⟩, ?_⟩
    simp only [funB, textB, List.length_append]
    omega
theorem dty_prog {tp tfl tf te tl ti ts : TypeId} {fp fs fe : Array Field} (hup : P.underlying tp = some (.struct fp)) (hfp : fp.toList.map (·.type) = [tfl, ti]) (hfl : P.underlying tfl = some (.slice tf))
    (hu : P.underlying tf = some (.struct fs)) (hfs : fs.toList.map (·.type) = [ts, ti, te]) (hue : P.underlying te = some (.struct fe)) (hfe : fe.toList.map (·.type) = [ti, ti, ti, tl]) (hl : P.underlying tl = some (.slice te))
    (hi : P.underlying ti = some (.int .i64)) (hs : P.underlying ts = some .string) (n : Nat) (d : DataW H) (h : dty P n tp d) (hsz : dsz d ≤ 2 ^ 40) : ∃ f, IsProg f (dcells d) ∧ (progB f).length ≤ 9 * dsz d := by
  obtain ⟨m, ps, rfl, rfl, hps⟩ := dty_struct hup hfp h
  match ps, hps with
  | [p, q], ⟨hp, hq, _⟩ =>
    obtain ⟨k, rfl, hk⟩ := dty_int hi hq
    simp only [dsz, dszL] at hsz ⊢
    obtain ⟨as, v, es, h1, h2, h3, h4, h5⟩ := dty_slice (R := IsFun) (B := funB) hfl hp (by omega) fun m' x hm hx hs' => dty_fun hu hfs hue hfe hl hi hs m' x hx hs'
    have h8 := numB_le k hk
    refine ⟨⟨as, k⟩, ⟨⟨v, es, by simp [dcells, dflat, h1], h2, h3⟩, hk, h4⟩, ?_⟩
    simp only [progB, List.length_append] at h5 ⊢
    omega
/-- vector functions, programs -/
theorem dty_vecFun {tf te tl ti tn : TypeId} {fs fe : Array Field} (hu : P.underlying tf = some (.struct fs)) (hfs : fs.toList.map (·.type) = [ti, tl, tn, tn]) (hue : P.underlying te = some (.struct fe)) (hfe : fe.toList.map (·.type) = [ti, ti, tn, tn, tl]) (hl : P.underlying tl = some (.slice te))
    (hn : P.underlying tn = some (.slice ti)) (hi : P.underlying ti = some (.int .i64)) (n : Nat) (d : DataW H) (h : dty P n tf d) (hsz : dsz d ≤ 2 ^ 40) : ∃ f, IsVecFun f (dcells d) ∧ (vecFunB f).length ≤ 9 * dsz d := by
  obtain ⟨m, ps, rfl, rfl, hps⟩ := dty_struct hu hfs h
  match ps, hps with
  | [p, q, l1, l2], ⟨hp, hq, hl1, hl2, _⟩ =>
    obtain ⟨k, rfl, hk⟩ := dty_int hi hp
    simp only [dsz, dszL] at hsz ⊢
    obtain ⟨as, v, es, h1, h2, h3, h4, h5⟩ := dty_slice (R := IsT 2 2) (B := content) hl hq (by omega) fun m' x hm hx hs' => dty_ins hue hfe hl hn hi m' x hx hs'
    obtain ⟨i1, v1, g1, g2, g3⟩ := dty_ints hn hi hl1 (by omega)
    obtain ⟨i2, v2, g4, g5, g6⟩ := dty_ints hn hi hl2 (by omega)
    have h8 := numB_le k hk
    refine ⟨⟨k, as, i1, i2⟩, ⟨⟨v, v1, v2, es, by simp [dcells, dflat, h1, g1, g4], h2, isTs_of h3, g2, g5⟩, hk, h4⟩, ?_⟩
    simp only [vecFunB, codeB, contents_eq, List.length_append] at h5 ⊢
    omega
theorem dty_vec {tp tfl tf te tl ti tn : TypeId} {fp fs fe : Array Field} (hup : P.underlying tp = some (.struct fp)) (hfp : fp.toList.map (·.type) = [tfl, ti]) (hfl : P.underlying tfl = some (.slice tf))
    (hu : P.underlying tf = some (.struct fs)) (hfs : fs.toList.map (·.type) = [ti, tl, tn, tn]) (hue : P.underlying te = some (.struct fe)) (hfe : fe.toList.map (·.type) = [ti, ti, tn, tn, tl]) (hl : P.underlying tl = some (.slice te))
    (hn : P.underlying tn = some (.slice ti)) (hi : P.underlying ti = some (.int .i64)) (n : Nat) (d : DataW H) (h : dty P n tp d) (hsz : dsz d ≤ 2 ^ 40) : ∃ f, IsVec f (dcells d) ∧ (vecB f).length ≤ 9 * dsz d := by
  obtain ⟨m, ps, rfl, rfl, hps⟩ := dty_struct hup hfp h
  match ps, hps with
  | [p, q], ⟨hp, hq, _⟩ =>
    obtain ⟨k, rfl, hk⟩ := dty_int hi hq
    simp only [dsz, dszL] at hsz ⊢
    obtain ⟨as, v, es, h1, h2, h3, h4, h5⟩ := dty_slice (R := IsVecFun) (B := vecFunB) hfl hp (by omega) fun m' x hm hx hs' => dty_vecFun hu hfs hue hfe hl hn hi m' x hx hs'
    have h8 := numB_le k hk
    refine ⟨⟨as, k⟩, ⟨⟨v, es, by simp [dcells, dflat, h1], h2, h3⟩, hk, h4⟩, ?_⟩
    simp only [vecB, List.length_append] at h5 ⊢
    omega
theorem dty_log {tp ti tn : TypeId} {fp : Array Field} (hup : P.underlying tp = some (.struct fp)) (hfp : fp.toList.map (·.type) = [ti, tn, tn]) (hn : P.underlying tn = some (.slice ti)) (hi : P.underlying ti = some (.int .i64)) (n : Nat) (d : DataW H) (h : dty P n tp d) (hsz : dsz d ≤ 2 ^ 40) :
    ∃ f, IsLog f (dcells d) ∧ (logB f).length ≤ 9 * dsz d := by
  obtain ⟨m, ps, rfl, rfl, hps⟩ := dty_struct hup hfp h
  match ps, hps with
  | [p, l1, l2], ⟨hp, hl1, hl2, _⟩ =>
    obtain ⟨k, rfl, hk⟩ := dty_int hi hp
    simp only [dsz, dszL] at hsz ⊢
    obtain ⟨i1, v1, g1, g2, g3⟩ := dty_ints hn hi hl1 (by omega)
    obtain ⟨i2, v2, g4, g5, g6⟩ := dty_ints hn hi hl2 (by omega)
    have h8 := numB_le k hk
    refine ⟨⟨k, i1, i2⟩, ⟨⟨v1, v2, by simp [dcells, dflat, g1, g4], g2, g5⟩, hk⟩, ?_⟩
    simp only [logB, List.length_append]
    omega
end
end Go.Proofs.FileA
