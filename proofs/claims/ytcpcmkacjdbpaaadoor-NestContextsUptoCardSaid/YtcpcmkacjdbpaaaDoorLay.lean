/- A part of the law's proof: Lay. -/
import Derived.Test.YtcpcmkacjdbpaaaDoorTy
import Derived.Test.YtcpcmkacjdbpaaaDoorCoreD
set_option linter.unusedVariables false
set_option linter.unusedSimpArgs false
namespace Go.Proofs.Nst
open Go Go.Am
theorem must_t (e : Int) : PC 58 [.bool true, .int .i64 e] (.tup []) := by
 refine pc_of rfl (fun h => rfl) ?_
 refine call_ofQ (af := Trnx.a58) rfl rfl fun Q hQ => ?_
 simp only [Trnx.a58]
 simp [slotOf]
 exact hQ _ _ rfl
theorem must_f (e : Int) : pcall (lim gl Trnx.aprog) (.func (.func 58) [] []) [.bool false, .int .i64 e] = some (.pan (.iface 104 (.agg [.int .i64 e]))) := by
 refine pc_pan rfl rfl ?_
 refine call_ofQ (af := Trnx.a58) rfl rfl fun Q hQ => ?_
 simp only [Trnx.a58]
 simp [slotOf, fill]
 exact hQ _ _ rfl
theorem objCells_set {h : Heap} {a : Nat} {o : Am.Obj} (ho : h[a]? = some o) (n sz : Nat) (cs : List V) : objCells (h.set a (.cells n sz cs)) a = some (n, sz, cs) := by
 have := (List.getElem?_eq_some_iff.1 ho).1
 simp [objCells, this]
theorem objCells_ne {h : Heap} {a b : Nat} (hne : a ≠ b) (o : Am.Obj) : objCells (h.set a o) b = objCells h b := by
 simp [objCells, hne]
theorem objCells_of {h : Heap} {a n sz : Nat} {cs : List V} (ho : h[a]? = some (.cells n sz cs)) : objCells h a = some (n, sz, cs) := by
 simp [objCells, ho]
abbrev clo98 (a b : Nat) : V := .func (.func 98) [] [.ref a 0 1, .ref b 0 1]
theorem small1_q : ∀ t : Tr, t.Ok → ∀ (L d : Nat) (h : Heap) (a b : Nat), L < 2 ^ 60 → d < 2 ^ 60 → a ≠ b → h[a]? = some (.cells 1 1 [.int .i64 L]) → h[b]? = some (.cells 1 1 [clo98 a b]) →
  ∃ (ok : Bool) (L' : Int), CC 98 [.agg t.cs, .int .i64 d, .ref a 0 1, .ref b 0 1] h (.ret (.bool ok)) (h.set a (.cells 1 1 [.int .i64 L'])) ∧ (ok = true ↔ t.nodes ≤ L ∧ t.levels ≤ d) ∧ (ok = true → L' = L - t.nodes) := by
 intro t
 induction t using Tr.ind with
 | h k n v l ih =>
 intro ho L d h a b hL hd hab ha hb
 obtain ⟨_, _, hv, hl⟩ := ho.inv
 have hlv := len_tr hv
 have key : CallP gl Trnx.aprog 98 [.agg (Tr.mk k n v l).cs, .int .i64 d, .ref a 0 1, .ref b 0 1] h (fun r h' => ∃ (ok : Bool) (L' : Int), r = .ret (.bool ok) ∧ h' = h.set a (.cells 1 1 [.int .i64 L']) ∧ (ok = true ↔ (Tr.mk k n v l).nodes ≤ L ∧ (Tr.mk k n v l).levels ≤ d) ∧ (ok = true → L' = L - (Tr.mk k n v l).nodes)) := by
  refine call_ofQ (af := Trnx.a98) rfl rfl fun Q hQ => ?_
  simp only [Trnx.a98]
  have oa := objCells_of ha
  have hb' := hb
  have ob : ∀ x, objCells (h.set a (.cells 1 1 [.int .i64 x])) b = some (1, 1, [clo98 a b]) := fun x => by rw [objCells_ne hab]; exact objCells_of hb
  have oa' : ∀ x, objCells (h.set a (.cells 1 1 [.int .i64 x])) a = some (1, 1, [.int .i64 x]) := fun x => objCells_set ha _ _ _
  have hw : IntKind.i64.wrap ((L : Int) - 1) = (L : Int) - 1 := wrap64 (by omega) (by omega)
  by_cases h0 : L = 0
  ·subst h0
   simp [Tr.cs, hv.cell, oa, oa', storeV, hw, slotOf]
   refine hQ _ _ ⟨false, -1, rfl, rfl, ?_, by simp⟩
   simp [Tr.nodes]
  have hlt0 : ¬ ((L : Int) - 1 < 0) := by omega
  by_cases h1 : d = 0
  ·subst h1
   simp [Tr.cs, hv.cell, oa, oa', storeV, hw, hlt0, slotOf]
   refine hQ _ _ ⟨false, L - 1, rfl, rfl, ?_, by simp⟩
   simp [Tr.levels]
  have hd0 : ((d : Int) == 0) = false := by simp; omega
  simp [Tr.cs, hv.cell, oa, oa', storeV, hw, hlt0, hd0, hlv, slotOf]
  refine loop_nQ l.length (fun i c => Tr.nodesL (l.take i) + 1 ≤ L ∧ Tr.levelsL (l.take i) + 1 ≤ d ∧ ∃ x y, c = ⟨[.agg [.int .i64 k, .int .i64 n, v], .int .i64 d, .ref a 0 1, .ref b 0 1, .agg [.int .i64 k, .int .i64 n, v], .bool false, x, v, .int .i64 l.length, .int .i64 i], [], y, none, h.set a (.cells 1 1 [.int .i64 (L - 1 - Tr.nodesL (l.take i))])⟩) ?_ ⟨by simp [Tr.nodesL]; omega, by simp [Tr.levelsL]; omega, .undef, none, by simp [Tr.nodesL]⟩
  rintro I hI i c hi ⟨hn1, hl1, x, y, rfl⟩
  by_cases hlt : i < l.length
  ·have hlt' : (i : Int) < l.length := by omega
   have hi1 := idx_tr hv hlt
   have htn := Tr.nodesL_take hlt
   have htl := Tr.levelsL_take hlt
   have hle := Tr.nodesL_take_le (l := l) (i + 1)
   have hLi : ((L - 1 - Tr.nodesL (l.take i) : Nat) : Int) = (L : Int) - 1 - Tr.nodesL (l.take i) := by omega
   have hdi : ((d - 1 : Nat) : Int) = (d : Int) - 1 := by omega
   have ha2 : (h.set a (.cells 1 1 [.int .i64 ((L : Int) - 1 - Tr.nodesL (l.take i))]))[a]? = some (.cells 1 1 [.int .i64 ((L - 1 - Tr.nodesL (l.take i) : Nat) : Int)]) := by
    have := (List.getElem?_eq_some_iff.1 ha).1
    rw [hLi]; simp [this]
   have hb2 : (h.set a (.cells 1 1 [.int .i64 ((L : Int) - 1 - Tr.nodesL (l.take i))]))[b]? = some (.cells 1 1 [clo98 a b]) := by simp [hab, hb]
   obtain ⟨ok, L', hc, h2, h3⟩ := ih l[i] (List.getElem_mem hlt) (hl _ (List.getElem_mem hlt)) (L - 1 - Tr.nodesL (l.take i)) (d - 1) _ a b (by omega) (by omega) hab ha2 hb2
   rw [hdi] at hc
   have hok := hl _ (List.getElem_mem hlt)
   have hw1 : IntKind.i64.wrap ((d : Int) - 1) = (d : Int) - 1 := wrap64 (by omega) (by omega)
   have hw2 : IntKind.i64.wrap ((i : Int) + 1) = (i : Int) + 1 := wrap64 (by omega) (by have := Tr.nodesL_length (l.take i); rw [List.length_take] at this; omega)
   have hcc := cells_tr hok
   have hcall := Tr.nodesL_mem (List.getElem_mem hlt)
   have hcal2 := Tr.levelsL_mem (List.getElem_mem hlt)
   simp only [List.set_set] at hc
   generalize l[i] = u at *
   cases ok with
   | true =>
    have h3 := h3 rfl
    have h2 := h2.1 rfl
    simp [hv.cell, hlv, hlt', hi1, ob, oa', hc, hcc, hw1, hw2, slotOf, -List.all_eq_true]
    refine ⟨hlt, hI _ _ ⟨by omega, by omega, .agg u.cs, none, ?_⟩⟩
    have e : L' = (L : Int) - 1 - Tr.nodesL (l.take (i + 1)) := by omega
    rw [e]
    rfl
   | false =>
    simp [hv.cell, hlv, hlt', hi1, ob, oa', hc, hcc, hw1, slotOf, -List.all_eq_true]
    refine hQ _ _ ⟨false, L', rfl, rfl, ?_, by simp⟩
    simp only [Bool.false_eq_true, false_iff] at h2 ⊢
    simp only [Tr.nodes, Tr.levels]
    omega
  ·obtain rfl : i = l.length := by omega
   rw [List.take_length] at hn1 hl1
   simp [hv.cell, hlv, slotOf]
   refine hQ _ _ ⟨true, _, rfl, rfl, ?_, fun _ => ?_⟩
   ·simp only [Tr.nodes, Tr.levels, true_iff]; omega
   ·simp only [Tr.nodes]; omega
 obtain ⟨r, h', e, ok, L', rfl, rfl, h1, h2⟩ := OptP.ex key
 exact ⟨ok, L', e, h1, h2⟩
theorem small_q (t : Tr) (ho : t.Ok) : PC 81 [.agg t.cs] (.bool (decide (t.nodes ≤ 60 ∧ t.levels ≤ 12))) := by
 obtain ⟨ok, L', hc, h1, h2⟩ := small1_q t ho 60 12 [.cells 1 1 [.int .i64 60], .cells 1 1 [clo98 0 1]] 0 1 (by omega) (by omega) (by omega) rfl rfl
 refine pc_of (by simp [pureL, pureV, pure_tr ho]) (fun h => rfl) ?_
 refine call_ofQ (af := Trnx.a81) rfl rfl fun Q hQ => ?_
 simp only [Trnx.a81]
 have hcc := cells_tr ho
 have hc' : (lim gl Trnx.aprog).call 98 [.agg t.cs, .int .i64 12, .ref 0 0 1, .ref 1 0 1] [.cells 1 1 [.int .i64 60], .cells 1 1 [clo98 0 1]] = some (.ret (.bool ok), _) := hc
 simp [hcc, hc', storeV, objCells, slotOf, -List.all_eq_true]
 refine hQ _ _ ?_
 have : ok = decide (t.nodes ≤ 60 ∧ t.levels ≤ 12) := by
  cases ok with
  | true => rw [decide_eq_true (h1.1 rfl)]
  | false => rw [decide_eq_false (fun h => by have := h1.2 h; cases this)]
 rw [this]
end Go.Proofs.Nst
set_option linter.unusedVariables false
set_option linter.unusedSimpArgs false
namespace Go.Proofs.Nst
open Go Go.Am
def objs : Ty → Nat
 | .unit => 1 | .int => 1 | .pair a b => objs a + objs b + 2 | .sum a b => objs a + objs b + 2 | .seq a => objs a + 2
abbrev lobj (own data kind : Nat) (v : V) : Am.Obj := .cells 1 4 [.int .i64 own, .int .i64 data, .int .i64 kind, v]
def layL : Nat → Ty → List Am.Obj
 | b, .unit => [lobj 0 0 0 .nils]
 | b, .int => [lobj 1 0 1 .nils]
 | b, .pair x y => lobj (x.own + y.own) (x.data + y.data) 2 (.sl (b + 1 + objs x) 0 2 2 1 false) :: (layL (b + 1) x ++ .cells 2 1 [.ref (b + 1) 0 1, .ref (b + 2 + objs x) 0 1] :: layL (b + 2 + objs x) y)
 | b, .sum x y => lobj (1 + x.own + y.own) (x.data + y.data) 3 (.sl (b + 1 + objs x) 0 2 2 1 false) :: (layL (b + 1) x ++ .cells 2 1 [.ref (b + 1) 0 1, .ref (b + 2 + objs x) 0 1] :: layL (b + 2 + objs x) y)
 | b, .seq x => lobj 2 (x.own + x.data) 4 (.sl (b + 1 + objs x) 0 1 1 1 false) :: (layL (b + 1) x ++ [.cells 1 1 [.ref (b + 1) 0 1]])
theorem layL_length : ∀ (b : Nat) (τ : Ty), (layL b τ).length = objs τ
 | b, .unit => rfl
 | b, .int => rfl
 | b, .pair x y => by simp only [layL, objs, List.length_cons, List.length_append, layL_length]; omega
 | b, .sum x y => by simp only [layL, objs, List.length_cons, List.length_append, layL_length]; omega
 | b, .seq x => by simp only [layL, objs, List.length_cons, List.length_append, layL_length, List.length_nil]
theorem layL_head (b : Nat) (τ : Ty) : ∃ v, (layL b τ)[0]? = some (lobj τ.own τ.data τ.kind v) := by
 cases τ <;> exact ⟨_, rfl⟩
theorem none_q (b : Nat) (h : Heap) : CC 128 [.ref b 0 1] h (.ret (.agg [.int .i64 0, .int .i64 0])) h := by
 refine CallP.eq (call_ofQ (af := Trnx.a128) rfl rfl fun Q hQ => ?_)
 simp only [Trnx.a128]
 simp [fill, slotOf]
 exact hQ _ _ ⟨rfl, rfl⟩
theorem one_q (b : Nat) (h : Heap) : CC 129 [.ref b 0 1] h (.ret (.agg [.int .i64 1, .int .i64 0])) h := by
 refine CallP.eq (call_ofQ (af := Trnx.a129) rfl rfl fun Q hQ => ?_)
 simp only [Trnx.a129]
 simp [fill, slotOf]
 exact hQ _ _ ⟨rfl, rfl⟩
section
variable {h : Heap} {b pb a1 a2 : Nat} {u0 u1 u2 v1 v2 w1 w2 : V} {o1 d1 o2 d2 : Nat}
theorem both_q (hb : h[b]? = some (.cells 1 4 [u0, u1, u2, .sl pb 0 2 2 1 false])) (hp : h[pb]? = some (.cells 2 1 [.ref a1 0 1, .ref a2 0 1]))
  (h1 : h[a1]? = some (.cells 1 4 [.int .i64 o1, .int .i64 d1, v1, w1])) (h2 : h[a2]? = some (.cells 1 4 [.int .i64 o2, .int .i64 d2, v2, w2])) (hs : o1 + o2 + d1 + d2 < 2 ^ 60) :
  CC 130 [.ref b 0 1] h (.ret (.agg [.int .i64 (o1 + o2 : Nat), .int .i64 (d1 + d2 : Nat)])) h := by
 have e0 := objCells_of hb
 have e1 := objCells_of hp
 have e2 := objCells_of h1
 have e3 := objCells_of h2
 have w1 : IntKind.i64.wrap ((o1 : Int) + o2) = (o1 : Int) + o2 := wrap64 (by omega) (by omega)
 have w2 : IntKind.i64.wrap ((d1 : Int) + d2) = (d1 : Int) + d2 := wrap64 (by omega) (by omega)
 refine CallP.eq (call_ofQ (af := Trnx.a130) rfl rfl fun Q hQ => ?_)
 simp only [Trnx.a130]
 simp [e0, e1, e2, e3, w1, w2, fill, slotOf]
 exact hQ _ _ ⟨rfl, rfl⟩
theorem sum_q (hb : h[b]? = some (.cells 1 4 [u0, u1, u2, .sl pb 0 2 2 1 false])) (hp : h[pb]? = some (.cells 2 1 [.ref a1 0 1, .ref a2 0 1]))
  (h1 : h[a1]? = some (.cells 1 4 [.int .i64 o1, .int .i64 d1, v1, w1])) (h2 : h[a2]? = some (.cells 1 4 [.int .i64 o2, .int .i64 d2, v2, w2])) (hs : o1 + o2 + d1 + d2 < 2 ^ 60) :
  CC 131 [.ref b 0 1] h (.ret (.agg [.int .i64 (1 + o1 + o2 : Nat), .int .i64 (d1 + d2 : Nat)])) h := by
 have hc := ro_eq (af := Trnx.a130) rfl (both_q hb hp h1 h2 hs)
 have w1 : IntKind.i64.wrap ((o1 : Int) + o2 + 1) = 1 + (o1 : Int) + o2 := by rw [wrap64 (by omega) (by omega)]; omega
 refine CallP.eq (call_ofQ (af := Trnx.a131) rfl rfl fun Q hQ => ?_)
 simp only [Trnx.a131]
 simp at hc
 simp [hc, w1, fill, slotOf]
 exact hQ _ _ ⟨rfl, rfl⟩
theorem seqc_q (hb : h[b]? = some (.cells 1 4 [u0, u1, u2, .sl pb 0 1 1 1 false])) (hp : h[pb]? = some (.cells 1 1 [.ref a1 0 1]))
  (h1 : h[a1]? = some (.cells 1 4 [.int .i64 o1, .int .i64 d1, v1, w1])) (hs : o1 + d1 < 2 ^ 60) :
  CC 132 [.ref b 0 1] h (.ret (.agg [.int .i64 2, .int .i64 (o1 + d1 : Nat)])) h := by
 have e0 := objCells_of hb
 have e1 := objCells_of hp
 have e2 := objCells_of h1
 have w1 : IntKind.i64.wrap ((o1 : Int) + d1) = (o1 : Int) + d1 := wrap64 (by omega) (by omega)
 refine CallP.eq (call_ofQ (af := Trnx.a132) rfl rfl fun Q hQ => ?_)
 simp only [Trnx.a132]
 simp [e0, e1, e2, w1, fill, slotOf]
 exact hQ _ _ ⟨rfl, rfl⟩
end
end Go.Proofs.Nst
set_option linter.unusedVariables false
set_option linter.unusedSimpArgs false
namespace Go.Proofs.Nst
open Go Go.Am
theorem of_unit (v : V) (ho : (Tr.mk 0 0 v []).Ok) (h : Heap) : CC 82 [.agg (Tr.mk 0 0 v []).cs] h (.ret (.ref h.length 0 1)) (h ++ layL h.length .unit) := by
 obtain ⟨_, _, hv, hl⟩ := ho.inv
 have hlv := len_tr hv
 have hm := must_t 15
 rw [PC] at hm
 have hc := none_q h.length (h ++ [lobj 0 0 0 .nils])
 refine CallP.eq (call_ofQ (af := Trnx.a82) rfl rfl fun Q hQ => ?_)
 simp only [Trnx.a82]
 simp [Tr.cs, hv.cell, hlv, gl1, hm, fill, slotOf, -pcall]
 refine loop_nQ 0 (fun i c => c = ⟨[.agg [.int .i64 0, .int .i64 0, v], .agg [.int .i64 0, .int .i64 0, v], .nilp, .ref h.length 0 1, .undef, v, .int .i64 0, .int .i64 0], [], none, none, h ++ [lobj 0 0 0 .nils]⟩) ?_ rfl
 rintro I hI i c hi rfl
 simp [hv.cell, gl2, hc, objCells, storeV, slotOf, -pcall]
 exact hQ _ _ ⟨rfl, rfl⟩
theorem of_int (v : V) (ho : (Tr.mk 1 0 v []).Ok) (h : Heap) : CC 82 [.agg (Tr.mk 1 0 v []).cs] h (.ret (.ref h.length 0 1)) (h ++ layL h.length .int) := by
 obtain ⟨_, _, hv, hl⟩ := ho.inv
 have hlv := len_tr hv
 have hm := must_t 15
 rw [PC] at hm
 have hc := one_q h.length (h ++ [lobj 0 0 1 .nils])
 refine CallP.eq (call_ofQ (af := Trnx.a82) rfl rfl fun Q hQ => ?_)
 simp only [Trnx.a82]
 simp [Tr.cs, hv.cell, hlv, gl1, hm, fill, slotOf, -pcall]
 refine loop_nQ 0 (fun i c => c = ⟨[.agg [.int .i64 1, .int .i64 0, v], .agg [.int .i64 1, .int .i64 0, v], .nilp, .ref h.length 0 1, .undef, v, .int .i64 0, .int .i64 0], [], none, none, h ++ [lobj 0 0 1 .nils]⟩) ?_ rfl
 rintro I hI i c hi rfl
 simp [hv.cell, gl2, hc, objCells, storeV, slotOf, -pcall]
 exact hQ _ _ ⟨rfl, rfl⟩
theorem of_seq (v : V) (a : Tr) (x : Ty) (ho : (Tr.mk 4 0 v [a]).Ok) (ha : IsTy a x) (hs : x.size < 2 ^ 50) (ih : ∀ h, CC 82 [.agg a.cs] h (.ret (.ref h.length 0 1)) (h ++ layL h.length x)) (h : Heap) :
  CC 82 [.agg (Tr.mk 4 0 v [a]).cs] h (.ret (.ref h.length 0 1)) (h ++ layL h.length (.seq x)) := by
 obtain ⟨_, _, hv, hl⟩ := ho.inv
 have hlv := len_tr hv
 have hm := must_t 15
 rw [PC] at hm
 have i0 := idx_tr hv (i := 0) (by simp)
 simp only [List.getElem_cons_zero, Int.natCast_zero] at i0
 have hoa := hl a (by simp)
 have hcc := cells_tr hoa
 -- the heaps
 have hc1 := ih (h ++ [lobj 0 0 4 .nils])
 have l1 : (h ++ [lobj 0 0 4 .nils]).length = h.length + 1 := by simp
 rw [l1] at hc1
 have hlen := layL_length (h.length + 1) x
 obtain ⟨w, hw⟩ := layL_head (h.length + 1) x
 have := x.both_size
 refine CallP.eq (call_ofQ (af := Trnx.a82) rfl rfl fun Q hQ => ?_)
 have hcs : (Tr.mk 4 0 v [a]).cs = [.int .i64 4, .int .i64 0, v] := rfl
 generalize hX : layL (h.length + 1) x = X at *
 have e1 : objCells (h ++ [lobj 0 0 4 .nils]) h.length = some (1, 4, [.int .i64 0, .int .i64 0, .int .i64 4, .nils]) := by simp [objCells]
 have e2 : objCells (h ++ [lobj 0 0 4 .nils] ++ X) h.length = some (1, 4, [.int .i64 0, .int .i64 0, .int .i64 4, .nils]) := by simp [objCells]
 have n2 : (h ++ [lobj 0 0 4 .nils] ++ X).length = h.length + 1 + objs x := by simp [hlen]; omega
 have e3 : objCells (h ++ [lobj 0 0 4 .nils] ++ X ++ [Am.Obj.cells 1 1 [.ref (h.length + 1) 0 1]]) h.length = some (1, 4, [.int .i64 0, .int .i64 0, .int .i64 4, .nils]) := by simp [objCells]
 have s3 : (h ++ [lobj 0 0 4 .nils] ++ X ++ [Am.Obj.cells 1 1 [.ref (h.length + 1) 0 1]]).set h.length (Am.Obj.cells 1 4 [.int .i64 0, .int .i64 0, .int .i64 4, .sl (h.length + 1 + objs x) 0 1 1 1 false]) =
  h ++ [lobj 0 0 4 (.sl (h.length + 1 + objs x) 0 1 1 1 false)] ++ X ++ [Am.Obj.cells 1 1 [.ref (h.length + 1) 0 1]] := by simp
 have g0 : (h ++ [lobj 0 0 4 (.sl (h.length + 1 + objs x) 0 1 1 1 false)] ++ X ++ [Am.Obj.cells 1 1 [.ref (h.length + 1) 0 1]])[h.length]? = some (.cells 1 4 [.int .i64 0, .int .i64 0, .int .i64 4, .sl (h.length + 1 + objs x) 0 1 1 1 false]) := by simp
 have g1 : (h ++ [lobj 0 0 4 (.sl (h.length + 1 + objs x) 0 1 1 1 false)] ++ X ++ [Am.Obj.cells 1 1 [.ref (h.length + 1) 0 1]])[h.length + 1 + objs x]? = some (.cells 1 1 [.ref (h.length + 1) 0 1]) := by
  rw [List.getElem?_append_right (by simp [hlen]; omega)]
  simp [hlen]
  rw [show h.length + 1 + objs x - (h.length + (objs x + 1)) = 0 by omega]
  rfl
 have g2 : (h ++ [lobj 0 0 4 (.sl (h.length + 1 + objs x) 0 1 1 1 false)] ++ X ++ [Am.Obj.cells 1 1 [.ref (h.length + 1) 0 1]])[h.length + 1]? = some (lobj x.own x.data x.kind w) := by
  have hx0 : 0 < X.length := (List.getElem?_eq_some_iff.1 hw).1
  rw [List.getElem?_append_left (by simp; omega), List.getElem?_append_right (by simp)]
  simpa using hw
 have hq := seqc_q g0 g1 g2 (by omega)
 have e5 := objCells_of g0
 have s5 : (h ++ [lobj 0 0 4 (.sl (h.length + 1 + objs x) 0 1 1 1 false)] ++ X ++ [Am.Obj.cells 1 1 [.ref (h.length + 1) 0 1]]).set h.length (Am.Obj.cells 1 4 [.int .i64 2, .int .i64 ((x.own : Int) + (x.data : Int)), .int .i64 4, .sl (h.length + 1 + objs x) 0 1 1 1 false]) =
  h ++ layL h.length (.seq x) := by simp [layL, hX]
 generalize hH1 : h ++ [lobj 0 0 4 .nils] = H1 at *
 generalize hH2 : H1 ++ X = H2 at *
 generalize hH3 : H2 ++ [Am.Obj.cells 1 1 [V.ref (h.length + 1) 0 1]] = H3 at *
 generalize hH4 : h ++ [lobj 0 0 4 (.sl (h.length + 1 + objs x) 0 1 1 1 false)] ++ X ++ [Am.Obj.cells 1 1 [.ref (h.length + 1) 0 1]] = H4 at *
 have room1 : (8 : Nat) ≤ room := by simp [room]
 simp only [Trnx.a82]
 simp [hcs, hv.cell, hlv, gl1, hm, fill, slotOf, -pcall]
 refine loop_nQ 1 (fun i c => (i = 0 ∧ c = ⟨[.agg [.int .i64 4, .int .i64 0, v], .agg [.int .i64 4, .int .i64 0, v], .nilp, .ref h.length 0 1, .undef, v, .int .i64 1, .int .i64 0], [], none, none, H1⟩) ∨
  (i = 1 ∧ c = ⟨[.agg [.int .i64 4, .int .i64 0, v], .agg [.int .i64 4, .int .i64 0, v], .nilp, .ref h.length 0 1, .agg a.cs, v, .int .i64 1, .int .i64 1], [], none, none, H4⟩)) ?_ (.inl ⟨rfl, by rw [← hH1]; rfl⟩)
 rintro I hI i c hi (⟨rfl, rfl⟩ | ⟨rfl, rfl⟩)
 ·have hwr : IntKind.i64.wrap 1 = 1 := rfl
  simp [hv.cell, i0, e1, e2, e3, n2, s3, hc1, hcc, storeV, appV, sliceLen, sliceCells, fill, room1, hH2, hH3, hwr, slotOf, -pcall, -List.all_eq_true]
  exact hI _ _ (.inr ⟨rfl, rfl⟩)
 ·simp [hv.cell, gl2, hq, e5, s5, storeV, slotOf, -pcall]
  exact hQ _ _ ⟨rfl, rfl⟩
theorem of_pair (v : V) (a b : Tr) (x y : Ty) (ho : (Tr.mk 2 0 v [a, b]).Ok) (hs : x.size + y.size < 2 ^ 50) (iha : ∀ h, CC 82 [.agg a.cs] h (.ret (.ref h.length 0 1)) (h ++ layL h.length x))
  (ihb : ∀ h, CC 82 [.agg b.cs] h (.ret (.ref h.length 0 1)) (h ++ layL h.length y)) (h : Heap) : CC 82 [.agg (Tr.mk 2 0 v [a, b]).cs] h (.ret (.ref h.length 0 1)) (h ++ layL h.length (.pair x y)) := by
 obtain ⟨_, _, hv, hl⟩ := ho.inv
 have hlv := len_tr hv
 have hm := must_t 15
 rw [PC] at hm
 have i0 := idx_tr hv (i := 0) (by simp)
 have i1 := idx_tr hv (i := 1) (by simp)
 simp only [List.getElem_cons_zero, List.getElem_cons_succ, Int.natCast_zero, Int.natCast_one] at i0 i1
 have hca := cells_tr (hl a (by simp))
 have hcb := cells_tr (hl b (by simp))
 have hc1 := iha (h ++ [lobj 0 0 2 .nils])
 have l1 : (h ++ [lobj 0 0 2 .nils]).length = h.length + 1 := by simp
 rw [l1] at hc1
 have hlen := layL_length (h.length + 1) x
 obtain ⟨w, hw⟩ := layL_head (h.length + 1) x
 have hlen2 := layL_length (h.length + 2 + objs x) y
 obtain ⟨w', hw'⟩ := layL_head (h.length + 2 + objs x) y
 have := x.both_size
 have := y.both_size
 have hcs : (Tr.mk 2 0 v [a, b]).cs = [.int .i64 2, .int .i64 0, v] := rfl
 refine CallP.eq (call_ofQ (af := Trnx.a82) rfl rfl fun Q hQ => ?_)
 generalize hX : layL (h.length + 1) x = X at *
 generalize hY : layL (h.length + 2 + objs x) y = Y at *
 have hx0 : 0 < X.length := (List.getElem?_eq_some_iff.1 hw).1
 have hy0 : 0 < Y.length := (List.getElem?_eq_some_iff.1 hw').1
 -- the heaps: H1 the layout itself; H2 with the first part; H3 with the list of parts; H4 that stored; H5 with the second part; H6 with the list grown
 have e1 : objCells (h ++ [lobj 0 0 2 .nils]) h.length = some (1, 4, [.int .i64 0, .int .i64 0, .int .i64 2, .nils]) := by simp [objCells]
 have e2 : objCells (h ++ [lobj 0 0 2 .nils] ++ X) h.length = some (1, 4, [.int .i64 0, .int .i64 0, .int .i64 2, .nils]) := by simp [objCells]
 have n2 : (h ++ [lobj 0 0 2 .nils] ++ X).length = h.length + 1 + objs x := by simp [hlen]; omega
 have e3 : objCells (h ++ [lobj 0 0 2 .nils] ++ X ++ [Am.Obj.cells 1 1 [.ref (h.length + 1) 0 1]]) h.length = some (1, 4, [.int .i64 0, .int .i64 0, .int .i64 2, .nils]) := by simp [objCells]
 have s3 : (h ++ [lobj 0 0 2 .nils] ++ X ++ [Am.Obj.cells 1 1 [.ref (h.length + 1) 0 1]]).set h.length (Am.Obj.cells 1 4 [.int .i64 0, .int .i64 0, .int .i64 2, .sl (h.length + 1 + objs x) 0 1 1 1 false]) =
  h ++ [lobj 0 0 2 (.sl (h.length + 1 + objs x) 0 1 1 1 false)] ++ X ++ [Am.Obj.cells 1 1 [.ref (h.length + 1) 0 1]] := by simp
 have n4 : (h ++ [lobj 0 0 2 (.sl (h.length + 1 + objs x) 0 1 1 1 false)] ++ X ++ [Am.Obj.cells 1 1 [.ref (h.length + 1) 0 1]]).length = h.length + 2 + objs x := by simp [hlen]; omega
 have e4 : objCells (h ++ [lobj 0 0 2 (.sl (h.length + 1 + objs x) 0 1 1 1 false)] ++ X ++ [Am.Obj.cells 1 1 [.ref (h.length + 1) 0 1]]) h.length = some (1, 4, [.int .i64 0, .int .i64 0, .int .i64 2, .sl (h.length + 1 + objs x) 0 1 1 1 false]) := by simp [objCells]
 have hc2 := ihb (h ++ [lobj 0 0 2 (.sl (h.length + 1 + objs x) 0 1 1 1 false)] ++ X ++ [Am.Obj.cells 1 1 [.ref (h.length + 1) 0 1]])
 rw [n4, hY] at hc2
 have e5 : objCells (h ++ [lobj 0 0 2 (.sl (h.length + 1 + objs x) 0 1 1 1 false)] ++ X ++ [Am.Obj.cells 1 1 [.ref (h.length + 1) 0 1]] ++ Y) h.length = some (1, 4, [.int .i64 0, .int .i64 0, .int .i64 2, .sl (h.length + 1 + objs x) 0 1 1 1 false]) := by simp [objCells]
 have at1 : ∀ (A : List Am.Obj) (o : Am.Obj) (B : List Am.Obj), A.length = h.length + 1 + objs x → (A ++ [o] ++ B)[h.length + 1 + objs x]? = some o := fun A o B hA => by
  rw [List.getElem?_append_left (by simp; omega), List.getElem?_append_right (by omega), hA, Nat.sub_self]
  rfl
 have set1 : ∀ (A : List Am.Obj) (o o' : Am.Obj) (B : List Am.Obj), A.length = h.length + 1 + objs x → (A ++ [o] ++ B).set (h.length + 1 + objs x) o' = A ++ [o'] ++ B := fun A o o' B hA => by
  rw [List.append_assoc, List.set_append_right _ _ (by omega), hA, Nat.sub_self]
  simp
 have nA : (h ++ [lobj 0 0 2 (.sl (h.length + 1 + objs x) 0 1 1 1 false)] ++ X).length = h.length + 1 + objs x := by simp [hlen]; omega
 have e6 : objCells (h ++ [lobj 0 0 2 (.sl (h.length + 1 + objs x) 0 1 1 1 false)] ++ X ++ [Am.Obj.cells 1 1 [.ref (h.length + 1) 0 1]] ++ Y) (h.length + 1 + objs x) = some (1, 1, [.ref (h.length + 1) 0 1]) := objCells_of (at1 _ _ _ nA)
 have s6 := set1 _ (Am.Obj.cells 1 1 [.ref (h.length + 1) 0 1]) (.cells 2 1 [.ref (h.length + 1) 0 1, .ref (h.length + 2 + objs x) 0 1]) Y nA
 have e7 : objCells (h ++ [lobj 0 0 2 (.sl (h.length + 1 + objs x) 0 1 1 1 false)] ++ X ++ [Am.Obj.cells 2 1 [.ref (h.length + 1) 0 1, .ref (h.length + 2 + objs x) 0 1]] ++ Y) h.length = some (1, 4, [.int .i64 0, .int .i64 0, .int .i64 2, .sl (h.length + 1 + objs x) 0 1 1 1 false]) := by simp [objCells]
 have s7 : (h ++ [lobj 0 0 2 (.sl (h.length + 1 + objs x) 0 1 1 1 false)] ++ X ++ [Am.Obj.cells 2 1 [.ref (h.length + 1) 0 1, .ref (h.length + 2 + objs x) 0 1]] ++ Y).set h.length (Am.Obj.cells 1 4 [.int .i64 0, .int .i64 0, .int .i64 2, .sl (h.length + 1 + objs x) 0 2 2 1 false]) =
  h ++ [lobj 0 0 2 (.sl (h.length + 1 + objs x) 0 2 2 1 false)] ++ X ++ [Am.Obj.cells 2 1 [.ref (h.length + 1) 0 1, .ref (h.length + 2 + objs x) 0 1]] ++ Y := by simp
 have nB : (h ++ [lobj 0 0 2 (.sl (h.length + 1 + objs x) 0 2 2 1 false)] ++ X).length = h.length + 1 + objs x := by simp [hlen]; omega
 have g0 : (h ++ [lobj 0 0 2 (.sl (h.length + 1 + objs x) 0 2 2 1 false)] ++ X ++ [Am.Obj.cells 2 1 [.ref (h.length + 1) 0 1, .ref (h.length + 2 + objs x) 0 1]] ++ Y)[h.length]? = some (.cells 1 4 [.int .i64 0, .int .i64 0, .int .i64 2, .sl (h.length + 1 + objs x) 0 2 2 1 false]) := by simp
 have g1 : (h ++ [lobj 0 0 2 (.sl (h.length + 1 + objs x) 0 2 2 1 false)] ++ X ++ [Am.Obj.cells 2 1 [.ref (h.length + 1) 0 1, .ref (h.length + 2 + objs x) 0 1]] ++ Y)[h.length + 1 + objs x]? = some (.cells 2 1 [.ref (h.length + 1) 0 1, .ref (h.length + 2 + objs x) 0 1]) := at1 _ _ _ nB
 have g2 : (h ++ [lobj 0 0 2 (.sl (h.length + 1 + objs x) 0 2 2 1 false)] ++ X ++ [Am.Obj.cells 2 1 [.ref (h.length + 1) 0 1, .ref (h.length + 2 + objs x) 0 1]] ++ Y)[h.length + 1]? = some (lobj x.own x.data x.kind w) := by
  rw [List.getElem?_append_left (by simp <;> omega), List.getElem?_append_left (by simp <;> omega), List.getElem?_append_right (by simp)]
  simpa using hw
 have g3 : (h ++ [lobj 0 0 2 (.sl (h.length + 1 + objs x) 0 2 2 1 false)] ++ X ++ [Am.Obj.cells 2 1 [.ref (h.length + 1) 0 1, .ref (h.length + 2 + objs x) 0 1]] ++ Y)[h.length + 2 + objs x]? = some (lobj y.own y.data y.kind w') := by
  rw [List.getElem?_append_right (by simp [hlen]; omega)]
  rw [show h.length + 2 + objs x - (h ++ [lobj 0 0 2 (.sl (h.length + 1 + objs x) 0 2 2 1 false)] ++ X ++ [Am.Obj.cells 2 1 [.ref (h.length + 1) 0 1, .ref (h.length + 2 + objs x) 0 1]]).length = 0 by simp [hlen]; omega]
  exact hw'
 have hq := both_q g0 g1 g2 g3 (by omega)
 have e8 := objCells_of g0
 have s8 : (h ++ [lobj 0 0 2 (.sl (h.length + 1 + objs x) 0 2 2 1 false)] ++ X ++ [Am.Obj.cells 2 1 [.ref (h.length + 1) 0 1, .ref (h.length + 2 + objs x) 0 1]] ++ Y).set h.length (Am.Obj.cells 1 4 [.int .i64 ((x.own : Int) + (y.own : Int)), .int .i64 ((x.data : Int) + (y.data : Int)), .int .i64 2, .sl (h.length + 1 + objs x) 0 2 2 1 false]) =
  h ++ layL h.length (.pair x y) := by simp [layL, hX, hY]
 generalize hH1 : h ++ [lobj 0 0 2 .nils] = H1 at *
 generalize hH2 : H1 ++ X = H2 at *
 generalize hH3 : H2 ++ [Am.Obj.cells 1 1 [V.ref (h.length + 1) 0 1]] = H3 at *
 generalize hH4 : h ++ [lobj 0 0 2 (.sl (h.length + 1 + objs x) 0 1 1 1 false)] ++ X ++ [Am.Obj.cells 1 1 [.ref (h.length + 1) 0 1]] = H4 at *
 generalize hH5 : H4 ++ Y = H5 at *
 generalize hH6 : h ++ [lobj 0 0 2 (.sl (h.length + 1 + objs x) 0 1 1 1 false)] ++ X ++ [Am.Obj.cells 2 1 [.ref (h.length + 1) 0 1, .ref (h.length + 2 + objs x) 0 1]] ++ Y = H6 at *
 generalize hH7 : h ++ [lobj 0 0 2 (.sl (h.length + 1 + objs x) 0 2 2 1 false)] ++ X ++ [Am.Obj.cells 2 1 [.ref (h.length + 1) 0 1, .ref (h.length + 2 + objs x) 0 1]] ++ Y = H7 at *
 have room1 : (8 : Nat) ≤ room := by simp [room]
 have room2 : (16 : Nat) ≤ room := by simp [room]
 simp only [Trnx.a82]
 simp [hcs, hv.cell, hlv, gl1, hm, fill, slotOf, -pcall]
 refine loop_nQ 2 (fun i c => (i = 0 ∧ c = ⟨[.agg [.int .i64 2, .int .i64 0, v], .agg [.int .i64 2, .int .i64 0, v], .nilp, .ref h.length 0 1, .undef, v, .int .i64 2, .int .i64 0], [], none, none, H1⟩) ∨
  (i = 1 ∧ c = ⟨[.agg [.int .i64 2, .int .i64 0, v], .agg [.int .i64 2, .int .i64 0, v], .nilp, .ref h.length 0 1, .agg a.cs, v, .int .i64 2, .int .i64 1], [], none, none, H4⟩) ∨
  (i = 2 ∧ c = ⟨[.agg [.int .i64 2, .int .i64 0, v], .agg [.int .i64 2, .int .i64 0, v], .nilp, .ref h.length 0 1, .agg b.cs, v, .int .i64 2, .int .i64 2], [], none, none, H7⟩)) ?_ (.inl ⟨rfl, by rw [← hH1]; rfl⟩)
 rintro I hI i c hi (⟨rfl, rfl⟩ | ⟨rfl, rfl⟩ | ⟨rfl, rfl⟩)
 ·have hwr : IntKind.i64.wrap 1 = 1 := rfl
  simp [hv.cell, i0, e1, e2, e3, n2, s3, hc1, hca, storeV, appV, sliceLen, sliceCells, fill, room1, hH2, hH3, hwr, slotOf, -pcall, -List.all_eq_true]
  exact hI _ _ (.inr (.inl ⟨rfl, rfl⟩))
 ·have hwr : IntKind.i64.wrap (1 + 1) = 2 := rfl
  simp [hv.cell, i1, e4, e5, e6, s6, e7, s7, hc2, hcb, storeV, appV, sliceLen, sliceCells, fill, room2, hH5, hH6, hwr, slotOf, -pcall, -List.all_eq_true]
  exact hI _ _ (.inr (.inr ⟨rfl, rfl⟩))
 ·simp [hv.cell, gl2, hq, e8, s8, storeV, slotOf, -pcall]
  exact hQ _ _ ⟨rfl, rfl⟩
theorem of_sum (v : V) (a b : Tr) (x y : Ty) (ho : (Tr.mk 3 0 v [a, b]).Ok) (hs : x.size + y.size < 2 ^ 50) (iha : ∀ h, CC 82 [.agg a.cs] h (.ret (.ref h.length 0 1)) (h ++ layL h.length x))
  (ihb : ∀ h, CC 82 [.agg b.cs] h (.ret (.ref h.length 0 1)) (h ++ layL h.length y)) (h : Heap) : CC 82 [.agg (Tr.mk 3 0 v [a, b]).cs] h (.ret (.ref h.length 0 1)) (h ++ layL h.length (.sum x y)) := by
 obtain ⟨_, _, hv, hl⟩ := ho.inv
 have hlv := len_tr hv
 have hm := must_t 15
 rw [PC] at hm
 have i0 := idx_tr hv (i := 0) (by simp)
 have i1 := idx_tr hv (i := 1) (by simp)
 simp only [List.getElem_cons_zero, List.getElem_cons_succ, Int.natCast_zero, Int.natCast_one] at i0 i1
 have hca := cells_tr (hl a (by simp))
 have hcb := cells_tr (hl b (by simp))
 have hc1 := iha (h ++ [lobj 0 0 3 .nils])
 have l1 : (h ++ [lobj 0 0 3 .nils]).length = h.length + 1 := by simp
 rw [l1] at hc1
 have hlen := layL_length (h.length + 1) x
 obtain ⟨w, hw⟩ := layL_head (h.length + 1) x
 have hlen2 := layL_length (h.length + 2 + objs x) y
 obtain ⟨w', hw'⟩ := layL_head (h.length + 2 + objs x) y
 have := x.both_size
 have := y.both_size
 have hcs : (Tr.mk 3 0 v [a, b]).cs = [.int .i64 3, .int .i64 0, v] := rfl
 refine CallP.eq (call_ofQ (af := Trnx.a82) rfl rfl fun Q hQ => ?_)
 generalize hX : layL (h.length + 1) x = X at *
 generalize hY : layL (h.length + 2 + objs x) y = Y at *
 have hx0 : 0 < X.length := (List.getElem?_eq_some_iff.1 hw).1
 have hy0 : 0 < Y.length := (List.getElem?_eq_some_iff.1 hw').1
 -- the heaps: H1 the layout itself; H2 with the first part; H3 with the list of parts; H4 that stored; H5 with the second part; H6 with the list grown
 have e1 : objCells (h ++ [lobj 0 0 3 .nils]) h.length = some (1, 4, [.int .i64 0, .int .i64 0, .int .i64 3, .nils]) := by simp [objCells]
 have e2 : objCells (h ++ [lobj 0 0 3 .nils] ++ X) h.length = some (1, 4, [.int .i64 0, .int .i64 0, .int .i64 3, .nils]) := by simp [objCells]
 have n2 : (h ++ [lobj 0 0 3 .nils] ++ X).length = h.length + 1 + objs x := by simp [hlen]; omega
 have e3 : objCells (h ++ [lobj 0 0 3 .nils] ++ X ++ [Am.Obj.cells 1 1 [.ref (h.length + 1) 0 1]]) h.length = some (1, 4, [.int .i64 0, .int .i64 0, .int .i64 3, .nils]) := by simp [objCells]
 have s3 : (h ++ [lobj 0 0 3 .nils] ++ X ++ [Am.Obj.cells 1 1 [.ref (h.length + 1) 0 1]]).set h.length (Am.Obj.cells 1 4 [.int .i64 0, .int .i64 0, .int .i64 3, .sl (h.length + 1 + objs x) 0 1 1 1 false]) =
  h ++ [lobj 0 0 3 (.sl (h.length + 1 + objs x) 0 1 1 1 false)] ++ X ++ [Am.Obj.cells 1 1 [.ref (h.length + 1) 0 1]] := by simp
 have n4 : (h ++ [lobj 0 0 3 (.sl (h.length + 1 + objs x) 0 1 1 1 false)] ++ X ++ [Am.Obj.cells 1 1 [.ref (h.length + 1) 0 1]]).length = h.length + 2 + objs x := by simp [hlen]; omega
 have e4 : objCells (h ++ [lobj 0 0 3 (.sl (h.length + 1 + objs x) 0 1 1 1 false)] ++ X ++ [Am.Obj.cells 1 1 [.ref (h.length + 1) 0 1]]) h.length = some (1, 4, [.int .i64 0, .int .i64 0, .int .i64 3, .sl (h.length + 1 + objs x) 0 1 1 1 false]) := by simp [objCells]
 have hc2 := ihb (h ++ [lobj 0 0 3 (.sl (h.length + 1 + objs x) 0 1 1 1 false)] ++ X ++ [Am.Obj.cells 1 1 [.ref (h.length + 1) 0 1]])
 rw [n4, hY] at hc2
 have e5 : objCells (h ++ [lobj 0 0 3 (.sl (h.length + 1 + objs x) 0 1 1 1 false)] ++ X ++ [Am.Obj.cells 1 1 [.ref (h.length + 1) 0 1]] ++ Y) h.length = some (1, 4, [.int .i64 0, .int .i64 0, .int .i64 3, .sl (h.length + 1 + objs x) 0 1 1 1 false]) := by simp [objCells]
 have at1 : ∀ (A : List Am.Obj) (o : Am.Obj) (B : List Am.Obj), A.length = h.length + 1 + objs x → (A ++ [o] ++ B)[h.length + 1 + objs x]? = some o := fun A o B hA => by
  rw [List.getElem?_append_left (by simp; omega), List.getElem?_append_right (by omega), hA, Nat.sub_self]
  rfl
 have set1 : ∀ (A : List Am.Obj) (o o' : Am.Obj) (B : List Am.Obj), A.length = h.length + 1 + objs x → (A ++ [o] ++ B).set (h.length + 1 + objs x) o' = A ++ [o'] ++ B := fun A o o' B hA => by
  rw [List.append_assoc, List.set_append_right _ _ (by omega), hA, Nat.sub_self]
  simp
 have nA : (h ++ [lobj 0 0 3 (.sl (h.length + 1 + objs x) 0 1 1 1 false)] ++ X).length = h.length + 1 + objs x := by simp [hlen]; omega
 have e6 : objCells (h ++ [lobj 0 0 3 (.sl (h.length + 1 + objs x) 0 1 1 1 false)] ++ X ++ [Am.Obj.cells 1 1 [.ref (h.length + 1) 0 1]] ++ Y) (h.length + 1 + objs x) = some (1, 1, [.ref (h.length + 1) 0 1]) := objCells_of (at1 _ _ _ nA)
 have s6 := set1 _ (Am.Obj.cells 1 1 [.ref (h.length + 1) 0 1]) (.cells 2 1 [.ref (h.length + 1) 0 1, .ref (h.length + 2 + objs x) 0 1]) Y nA
 have e7 : objCells (h ++ [lobj 0 0 3 (.sl (h.length + 1 + objs x) 0 1 1 1 false)] ++ X ++ [Am.Obj.cells 2 1 [.ref (h.length + 1) 0 1, .ref (h.length + 2 + objs x) 0 1]] ++ Y) h.length = some (1, 4, [.int .i64 0, .int .i64 0, .int .i64 3, .sl (h.length + 1 + objs x) 0 1 1 1 false]) := by simp [objCells]
 have s7 : (h ++ [lobj 0 0 3 (.sl (h.length + 1 + objs x) 0 1 1 1 false)] ++ X ++ [Am.Obj.cells 2 1 [.ref (h.length + 1) 0 1, .ref (h.length + 2 + objs x) 0 1]] ++ Y).set h.length (Am.Obj.cells 1 4 [.int .i64 0, .int .i64 0, .int .i64 3, .sl (h.length + 1 + objs x) 0 2 2 1 false]) =
  h ++ [lobj 0 0 3 (.sl (h.length + 1 + objs x) 0 2 2 1 false)] ++ X ++ [Am.Obj.cells 2 1 [.ref (h.length + 1) 0 1, .ref (h.length + 2 + objs x) 0 1]] ++ Y := by simp
 have nB : (h ++ [lobj 0 0 3 (.sl (h.length + 1 + objs x) 0 2 2 1 false)] ++ X).length = h.length + 1 + objs x := by simp [hlen]; omega
 have g0 : (h ++ [lobj 0 0 3 (.sl (h.length + 1 + objs x) 0 2 2 1 false)] ++ X ++ [Am.Obj.cells 2 1 [.ref (h.length + 1) 0 1, .ref (h.length + 2 + objs x) 0 1]] ++ Y)[h.length]? = some (.cells 1 4 [.int .i64 0, .int .i64 0, .int .i64 3, .sl (h.length + 1 + objs x) 0 2 2 1 false]) := by simp
 have g1 : (h ++ [lobj 0 0 3 (.sl (h.length + 1 + objs x) 0 2 2 1 false)] ++ X ++ [Am.Obj.cells 2 1 [.ref (h.length + 1) 0 1, .ref (h.length + 2 + objs x) 0 1]] ++ Y)[h.length + 1 + objs x]? = some (.cells 2 1 [.ref (h.length + 1) 0 1, .ref (h.length + 2 + objs x) 0 1]) := at1 _ _ _ nB
 have g2 : (h ++ [lobj 0 0 3 (.sl (h.length + 1 + objs x) 0 2 2 1 false)] ++ X ++ [Am.Obj.cells 2 1 [.ref (h.length + 1) 0 1, .ref (h.length + 2 + objs x) 0 1]] ++ Y)[h.length + 1]? = some (lobj x.own x.data x.kind w) := by
  rw [List.getElem?_append_left (by simp <;> omega), List.getElem?_append_left (by simp <;> omega), List.getElem?_append_right (by simp)]
  simpa using hw
 have g3 : (h ++ [lobj 0 0 3 (.sl (h.length + 1 + objs x) 0 2 2 1 false)] ++ X ++ [Am.Obj.cells 2 1 [.ref (h.length + 1) 0 1, .ref (h.length + 2 + objs x) 0 1]] ++ Y)[h.length + 2 + objs x]? = some (lobj y.own y.data y.kind w') := by
  rw [List.getElem?_append_right (by simp [hlen]; omega)]
  rw [show h.length + 2 + objs x - (h ++ [lobj 0 0 3 (.sl (h.length + 1 + objs x) 0 2 2 1 false)] ++ X ++ [Am.Obj.cells 2 1 [.ref (h.length + 1) 0 1, .ref (h.length + 2 + objs x) 0 1]]).length = 0 by simp [hlen]; omega]
  exact hw'
 have hq := sum_q g0 g1 g2 g3 (by omega)
 have e8 := objCells_of g0
 have s8 : (h ++ [lobj 0 0 3 (.sl (h.length + 1 + objs x) 0 2 2 1 false)] ++ X ++ [Am.Obj.cells 2 1 [.ref (h.length + 1) 0 1, .ref (h.length + 2 + objs x) 0 1]] ++ Y).set h.length (Am.Obj.cells 1 4 [.int .i64 (1 + (x.own : Int) + (y.own : Int)), .int .i64 ((x.data : Int) + (y.data : Int)), .int .i64 3, .sl (h.length + 1 + objs x) 0 2 2 1 false]) =
  h ++ layL h.length (.sum x y) := by simp [layL, hX, hY]
 generalize hH1 : h ++ [lobj 0 0 3 .nils] = H1 at *
 generalize hH2 : H1 ++ X = H2 at *
 generalize hH3 : H2 ++ [Am.Obj.cells 1 1 [V.ref (h.length + 1) 0 1]] = H3 at *
 generalize hH4 : h ++ [lobj 0 0 3 (.sl (h.length + 1 + objs x) 0 1 1 1 false)] ++ X ++ [Am.Obj.cells 1 1 [.ref (h.length + 1) 0 1]] = H4 at *
 generalize hH5 : H4 ++ Y = H5 at *
 generalize hH6 : h ++ [lobj 0 0 3 (.sl (h.length + 1 + objs x) 0 1 1 1 false)] ++ X ++ [Am.Obj.cells 2 1 [.ref (h.length + 1) 0 1, .ref (h.length + 2 + objs x) 0 1]] ++ Y = H6 at *
 generalize hH7 : h ++ [lobj 0 0 3 (.sl (h.length + 1 + objs x) 0 2 2 1 false)] ++ X ++ [Am.Obj.cells 2 1 [.ref (h.length + 1) 0 1, .ref (h.length + 2 + objs x) 0 1]] ++ Y = H7 at *
 have room1 : (8 : Nat) ≤ room := by simp [room]
 have room2 : (16 : Nat) ≤ room := by simp [room]
 simp only [Trnx.a82]
 simp [hcs, hv.cell, hlv, gl1, hm, fill, slotOf, -pcall]
 refine loop_nQ 2 (fun i c => (i = 0 ∧ c = ⟨[.agg [.int .i64 3, .int .i64 0, v], .agg [.int .i64 3, .int .i64 0, v], .nilp, .ref h.length 0 1, .undef, v, .int .i64 2, .int .i64 0], [], none, none, H1⟩) ∨
  (i = 1 ∧ c = ⟨[.agg [.int .i64 3, .int .i64 0, v], .agg [.int .i64 3, .int .i64 0, v], .nilp, .ref h.length 0 1, .agg a.cs, v, .int .i64 2, .int .i64 1], [], none, none, H4⟩) ∨
  (i = 2 ∧ c = ⟨[.agg [.int .i64 3, .int .i64 0, v], .agg [.int .i64 3, .int .i64 0, v], .nilp, .ref h.length 0 1, .agg b.cs, v, .int .i64 2, .int .i64 2], [], none, none, H7⟩)) ?_ (.inl ⟨rfl, by rw [← hH1]; rfl⟩)
 rintro I hI i c hi (⟨rfl, rfl⟩ | ⟨rfl, rfl⟩ | ⟨rfl, rfl⟩)
 ·have hwr : IntKind.i64.wrap 1 = 1 := rfl
  simp [hv.cell, i0, e1, e2, e3, n2, s3, hc1, hca, storeV, appV, sliceLen, sliceCells, fill, room1, hH2, hH3, hwr, slotOf, -pcall, -List.all_eq_true]
  exact hI _ _ (.inr (.inl ⟨rfl, rfl⟩))
 ·have hwr : IntKind.i64.wrap (1 + 1) = 2 := rfl
  simp [hv.cell, i1, e4, e5, e6, s6, e7, s7, hc2, hcb, storeV, appV, sliceLen, sliceCells, fill, room2, hH5, hH6, hwr, slotOf, -pcall, -List.all_eq_true]
  exact hI _ _ (.inr (.inr ⟨rfl, rfl⟩))
 ·simp [hv.cell, gl2, hq, e8, s8, storeV, slotOf, -pcall]
  exact hQ _ _ ⟨rfl, rfl⟩
theorem of_q {t : Tr} {τ : Ty} (hτ : IsTy t τ) : t.Ok → τ.size < 2 ^ 50 → ∀ h : Heap, CC 82 [.agg t.cs] h (.ret (.ref h.length 0 1)) (h ++ layL h.length τ) := by
 induction hτ with
 | unit v => exact fun ho _ h => of_unit v ho h
 | int v => exact fun ho _ h => of_int v ho h
 | pair v a b x y _ _ iha ihb =>
  intro ho hs h
  simp only [Ty.size] at hs
  obtain ⟨_, _, _, hl⟩ := ho.inv
  exact of_pair v a b x y ho (by omega) (iha (hl a (by simp)) (by omega)) (ihb (hl b (by simp)) (by omega)) h
 | sum v a b x y _ _ iha ihb =>
  intro ho hs h
  simp only [Ty.size] at hs
  obtain ⟨_, _, _, hl⟩ := ho.inv
  exact of_sum v a b x y ho (by omega) (iha (hl a (by simp)) (by omega)) (ihb (hl b (by simp)) (by omega)) h
 | seq v a x ha iha =>
  intro ho hs h
  simp only [Ty.size] at hs
  obtain ⟨_, _, _, hl⟩ := ho.inv
  exact of_seq v a x ho ha (by omega) (iha (hl a (by simp)) (by omega)) h
end Go.Proofs.Nst
set_option linter.unusedVariables false
set_option linter.unusedSimpArgs false
namespace Go.Proofs.Nst
open Go Go.Am
abbrev wrong (e : Int) : V := .iface 104 (.agg [.int .i64 e])
end Go.Proofs.Nst
set_option linter.unusedVariables false
set_option linter.unusedSimpArgs false
namespace Go.Proofs.Nst
open Go Go.Am
theorem asked_q {t : Tr} {τ : Ty} (hτ : IsTy t τ) (ho : t.Ok) (h1 : τ.size ≤ 60) (h2 : τ.deep ≤ 12) (h : Heap) : CC 53 [.agg t.cs] h (.ret (.ref h.length 0 1)) (h ++ layL h.length τ) := by
 have hs := small_q t ho
 rw [PC, decide_eq_true ⟨by rw [hτ.nodes]; omega, by rw [hτ.levels]; omega⟩] at hs
 have hcc := cells_tr ho
 have hm := must_t 3
 rw [PC] at hm
 have hc := of_q hτ ho (by omega) h
 refine CallP.eq (call_ofQ (af := Trnx.a53) rfl rfl fun Q hQ => ?_)
 simp only [Trnx.a53]
 simp [hcc, hs, hm, hc, slotOf, -pcall, -List.all_eq_true]
 exact hQ _ _ ⟨rfl, rfl⟩
theorem caught_none (p : Nat) (h : Heap) : (lim gl Trnx.aprog).dcall 52 [.ref p 0 1] none h = some (none, h) := by
 refine dcall_of (af := Trnx.a52) rfl rfl ?_
 simp only [Trnx.a52]
 simp [slotOf]
theorem caught_wrong (p : Nat) (e u : Int) (h : Heap) (hp : h[p]? = some (.cells 1 1 [.int .i64 u])) : (lim gl Trnx.aprog).dcall 52 [.ref p 0 1] (some (wrong e)) h = some (none, h.set p (.cells 1 1 [.int .i64 e])) := by
 have o := objCells_of hp
 refine dcall_of (af := Trnx.a52) rfl rfl ?_
 simp only [Trnx.a52]
 simp [o, storeV, slotOf]
theorem own_ok {t : Tr} {τ : Ty} (hτ : IsTy t τ) (ho : t.Ok) (h1 : τ.size ≤ 60) (h2 : τ.deep ≤ 12) : PC 12 [.agg t.cs] (.tup [.int .i64 τ.own, .int .i64 0]) ∧ PC 14 [.agg t.cs] (.tup [.int .i64 τ.data, .int .i64 0]) := by
 have hcc := cells_tr ho
 have hc := asked_q hτ ho h1 h2 [.cells 1 1 [.int .i64 0]]
 obtain ⟨w, hw⟩ := layL_head 1 τ
 have e1 : objCells ([Am.Obj.cells 1 1 [.int .i64 0]] ++ layL 1 τ) 1 = some (1, 4, [.int .i64 τ.own, .int .i64 τ.data, .int .i64 τ.kind, w]) := objCells_of (by simpa using hw)
 have hd := caught_none 0 ([Am.Obj.cells 1 1 [.int .i64 0]] ++ layL 1 τ)
 have e0 : objCells ([Am.Obj.cells 1 1 [.int .i64 0]] ++ layL 1 τ) 0 = some (1, 1, [.int .i64 0]) := rfl
 have s0 : ([Am.Obj.cells 1 1 [.int .i64 0]] ++ layL 1 τ).set 0 (Am.Obj.cells 1 1 [.int .i64 0]) = [Am.Obj.cells 1 1 [.int .i64 0]] ++ layL 1 τ := rfl
 simp only [List.length_singleton] at hc
 generalize hH : [Am.Obj.cells 1 1 [V.int .i64 0]] ++ layL 1 τ = H at *
 refine ⟨pc_of (by simp [pureL, pureV, pure_tr ho]) (fun h => rfl) ?_, pc_of (by simp [pureL, pureV, pure_tr ho]) (fun h => rfl) ?_⟩
 ·refine call_ofQ (af := Trnx.a12) rfl rfl fun Q hQ => ?_
  simp only [Trnx.a12]
  simp [hcc, hc, hd, e0, e1, s0, storeV, slotOf, -pcall, -List.all_eq_true]
  exact hQ _ _ rfl
 ·refine call_ofQ (af := Trnx.a14) rfl rfl fun Q hQ => ?_
  simp only [Trnx.a14]
  simp [hcc, hc, hd, e0, e1, s0, storeV, slotOf, -pcall, -List.all_eq_true]
  exact hQ _ _ rfl
end Go.Proofs.Nst
