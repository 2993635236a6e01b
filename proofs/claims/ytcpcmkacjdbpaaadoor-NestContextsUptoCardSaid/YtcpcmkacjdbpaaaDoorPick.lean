/- A part of the law's proof: Pick. -/
import Derived.Test.YtcpcmkacjdbpaaaDoorJoin
import Derived.Test.YtcpcmkacjdbpaaaDoorLaw
set_option linter.unusedVariables false
set_option linter.unusedSimpArgs false
namespace Go.Proofs.Nst
open Go Go.Am
def badP (n x : Int) : Bool := decide (x < 0) || decide (n ≤ x)
abbrev clo77 (c : Nat) : V := .func (.func 77) [] [.ref c 0 1]
theorem p77_q {H : Heap} {c : Nat} {n : Int} (hc : H[c]? = some (.cells 1 1 [.int .i64 n])) (x : Int) : CC 77 [.int .i64 x, .ref c 0 1] H (.ret (.bool (badP n x))) H := by
 have oc := objCells_of hc
 refine CallP.eq (call_ofQ (af := Trnx.a77) rfl rfl fun Q hQ => ?_)
 simp only [Trnx.a77]
 by_cases h : x < 0
 ·simp [h, oc, slotOf]
  exact hQ _ _ ⟨by simp [badP, h], rfl⟩
 ·simp [h, oc, slotOf]
  exact hQ _ _ ⟨by simp [badP, h], rfl⟩
theorem index96_q {H : Heap} {c : Nat} {n : Int} (hc : H[c]? = some (.cells 1 1 [.int .i64 n])) {p : List Int} {v : V} (hv : IntsV p v) (hl : p.length < 2 ^ 40) :
  ∃ k : Int, CC 96 [v, clo77 c] H (.ret (.int .i64 k)) H ∧ (decide (0 ≤ k) = p.any (badP n)) := by
 have lv := hv.len'
 have key : CallP gl Trnx.aprog 96 [v, clo77 c] H (fun r H' => ∃ k : Int, r = .ret (.int .i64 k) ∧ H' = H ∧ (decide (0 ≤ k) = p.any (badP n))) := by
  refine call_ofQ (af := Trnx.a96) rfl rfl fun Q hQ => ?_
  simp only [Trnx.a96]
  simp [lv, slotOf]
  refine loop_nQ p.length (fun i x => ∃ s3 fl, x = ⟨[v, clo77 c, .int .i64 0, s3, .int .i64 p.length, .int .i64 i], [], fl, none, H⟩ ∧ (p.take i).any (badP n) = false) ?_ ⟨_, _, rfl, by simp⟩
  rintro I hI i x hi ⟨s3, fl, rfl, hz⟩
  by_cases hlt : i < p.length
  ·have hlt' : (i : Int) < p.length := by omega
   have w1 : IntKind.i64.wrap ((i : Int) + 1) = (i : Int) + 1 := wrap64 (by omega) (by omega)
   have hx := hv.idx' hlt
   have hp := p77_q hc p[i]
   have ht : (p.take (i + 1)).any (badP n) = ((p.take i).any (badP n) || badP n p[i]) := by rw [← List.take_append_getElem hlt, List.any_append]; simp
   have hm : badP n p[i] = true → p.any (badP n) = true := fun h => List.any_eq_true.2 ⟨_, List.getElem_mem hlt, h⟩
   generalize p[i] = z at *
   cases e : badP n z
   ·rw [e] at hp
    simp [hlt', hx, hp, w1, slotOf]
    exact ⟨hlt, hI _ _ ⟨_, _, rfl, by rw [ht, hz, e]; rfl⟩⟩
   ·rw [e] at hp
    simp [hlt', hx, hp, slotOf]
    exact hQ _ _ ⟨i, rfl, rfl, by rw [hm e]; simp⟩
  ·obtain rfl : i = p.length := by omega
   rw [List.take_length] at hz
   simp [slotOf]
   exact hQ _ _ ⟨-1, rfl, rfl, by rw [hz]; rfl⟩
 obtain ⟨r, H', e, k, rfl, rfl, hk⟩ := OptP.ex key
 exact ⟨k, e, hk⟩
theorem contains76_q {H : Heap} {c : Nat} {n : Int} (hc : H[c]? = some (.cells 1 1 [.int .i64 n])) {p : List Int} {v : V} (hv : IntsV p v) (hl : p.length < 2 ^ 40) :
  CC 76 [v, clo77 c] H (.ret (.bool (p.any (badP n)))) H := by
 obtain ⟨k, h1, h2⟩ := index96_q hc hv hl
 have vc := SlV.cell hv
 refine CallP.eq (call_ofQ (af := Trnx.a76) rfl rfl fun Q hQ => ?_)
 simp only [Trnx.a76]
 simp [h1, slotOf]
 exact hQ _ _ ⟨by rw [← h2], rfl⟩
theorem joined_p {r : List Int} {w : V} (h : IntsV r w) (hl : r.length < 2 ^ 39) : PC 71 [.sv [[w]] true] (.sv ((icells r).map fun x => [x]) false) := by
 have := joined71_c [] [w] (.sv [[w]] true) (.sv true) [icells r] (.cons h .nil) (by simp; omega) (by simp)
 have pw := SlV.pure h
 simp only [PC, pcall, callee_func, List.append_nil, List.nil_append]
 rw [if_pos (by simp [pureL, pureV]), this]
 have hp := pure_ic r
 have := viewW_own (H := [.cells (icells r).length 1 (icells r)]) (b := 0) (n := (icells r).length) rfl rfl hp
 simp [-List.length_map] at this ⊢
 exact this
def pickS (own : Nat) (p : List Int) (R : List (List Int)) : List (List Int) := (R.take own).map (fun r => p.map fun x => r.getD x.toNat 0) ++ R.drop own
def pickE (τ : Ty) (n : Int) (R : List (List Int)) (p : List Int) : Int := if bldE τ n R = 0 then (if p.length ≤ 20000 ∧ p.any (badP n) = false then 0 else 2) else bldE τ n R
end Go.Proofs.Nst
set_option linter.unusedVariables false
set_option linter.unusedSimpArgs false
namespace Go.Proofs.Nst
open Go Go.Am
def pkRow (own : Nat) (p : List Int) (i : Nat) (r : List Int) : List Int := if i < own then p.map (fun x => r.getD x.toNat 0) else r
def kH (H2 : Heap) (ws : List V) (g : Nat) : Heap := H2 ++ (Am.Obj.cells ws.length 1 ws :: List.replicate g Am.Obj.gone)
theorem kH_at {H2 : Heap} {ws : List V} {g : Nat} : (kH H2 ws g)[H2.length]? = some (.cells ws.length 1 ws) := by simp [kH]
theorem kH_old {H2 : Heap} {ws : List V} {g j : Nat} {o : Am.Obj} (h : H2[j]? = some o) : (kH H2 ws g)[j]? = some o := get_app h
theorem kH_gone {H2 : Heap} {ws : List V} {g : Nat} : kH H2 ws g ++ [.gone] = kH H2 ws (g + 1) := by
 simp only [kH, List.append_assoc, List.cons_append, List.replicate_succ']
theorem kH_app {H2 : Heap} {ws : List V} {g : Nat} {w : V} (hw : ws.length < 2 ^ 40) : appV (kH H2 ws g) (.sl H2.length 0 ws.length ws.length 1 false) (.sv [[w]] true) 1 24 = some (.sl H2.length 0 (ws.length + 1) (ws.length + 1) 1 false, kH H2 (ws ++ [w]) g) := by
 have hroom : room = 140737488355328 := by simp [room]
 have := appV_own (h := kH H2 ws g) (bytes := 24) (k := 1) (y := .sv [[w]] true) (ys := [w]) kH_at rfl (by simp [sliceCells]) rfl (by omega)
 rw [this]
 simp [kH]
theorem kH_app' {H2 : Heap} {ws : List V} {g : Nat} {w : V} (hw : ws.length < 2 ^ 40) : appV (kH H2 ws g) (.sl H2.length 0 ws.length ws.length 1 false) (.vs [w] 1 1) 1 24 = some (.sl H2.length 0 (ws.length + 1) (ws.length + 1) 1 false, kH H2 (ws ++ [w]) g) := by
 have hroom : room = 140737488355328 := by simp [room]
 have := appV_own (h := kH H2 ws g) (bytes := 24) (k := 1) (y := .vs [w] 1 1) (ys := [w]) kH_at rfl rfl rfl (by omega)
 rw [this]
 simp [kH]
theorem Fr.of_nth {α β : Type} {p : α → β → Prop} : ∀ {l : List α} {m : List β}, l.length = m.length → (∀ i (h1 : i < l.length) (h2 : i < m.length), p l[i] m[i]) → Fr p l m
 | [], [], _, _ => .nil
 | a :: l, b :: m, h, hp => .cons (hp 0 (by simp) (by simp)) (Fr.of_nth (by simpa using h) fun i h1 h2 => hp (i + 1) (by simpa using h1) (by simpa using h2))
theorem pickS_get {own : Nat} {p : List Int} {R : List (List Int)} {j : Nat} (hj : j < R.length) : (pickS own p R)[j]? = some (pkRow own p j R[j]) := by
 unfold pickS pkRow
 by_cases h : j < own
 ·rw [if_pos h, List.getElem?_append_left (by simp; omega)]
  simp [h, hj]
 ·rw [if_neg h, List.getElem?_append_right (by simp; omega)]
  simp only [List.length_map, List.length_take]
  rw [List.getElem?_drop, show own + (j - min own R.length) = j by omega]
  simp [hj]
theorem pickS_len {own : Nat} {p : List Int} {R : List (List Int)} : (pickS own p R).length = R.length := by simp [pickS]; omega
theorem pick_q {R : List (List Int)} {vR : V} (hR : ListsV R vR) (lR : ∀ r ∈ R, r.length < 2 ^ 39) (lR2 : R.length < 2 ^ 39) {p : List Int} {vp : V} (hp : IntsV p vp) (hpl : p.length < 2 ^ 39)
  {t : Tr} {τ : Ty} (hτ : IsTy t τ) (ho : t.Ok) (h1 : τ.size ≤ 60) (h2 : τ.deep ≤ 12) {n : Int} (hn : is64 n) :
  ∃ u, PC 31 [.agg t.cs, .int .i64 n, vR, vp] (.tup [u, .int .i64 (pickE τ n R p)]) ∧ ListsV (if pickE τ n R p = 0 then pickS τ.own p R else []) u := by
 have hcc := cells_tr ho
 have hbs := τ.both_size
 obtain ⟨H0, hH0⟩ : ∃ H0 : Heap, H0 = [.cells 1 1 [.int .i64 n]] := ⟨_, rfl⟩
 have aH : AllC H0 := by rw [hH0]; intro o h; exact ⟨_, _, _, List.mem_singleton.1 h⟩
 have cH : Closed H0 := by
  rw [hH0]
  intro o h
  rw [List.mem_singleton.1 h]
  exact okO_ints _ _ _ [_]
 have hb := bldH H0 τ
 have len0 : H0.length = 1 := by rw [hH0]; rfl
 obtain ⟨H2, hH2⟩ : ∃ H2, H2 = H0 ++ [.cells 1 1 [.int .i64 0]] ++ layL (H0.length + 1) τ := ⟨_, rfl⟩
 have hc := asked_ecf hτ ho h1 h2 (H0 ++ [.cells 1 1 [.int .i64 0]])
 simp only [List.length_append, List.length_singleton] at hc
 rw [← hH2] at hc hb
 rw [len0] at hc
 have hcl := hb.cell
 have hla := hb.lay
 have hl3 := hb.len
 rw [len0] at hcl hla hl3
 have e5 : H2[0]? = some (.cells 1 1 [.int .i64 n]) := by rw [hH2, hH0]; rfl
 have hH0' : H0 ++ [.cells 1 1 [.int .i64 0]] = [.cells 1 1 [.int .i64 n], .cells 1 1 [.int .i64 0]] := by rw [hH0]; rfl
 rw [hH0'] at hc
 have vrc := hR.cell
 have vrcs := hR.cells
 have vpc := SlV.cell hp
 have vpcs := SlV.cells hp
 have o5 := objCells_of e5
 have lvr := hR.len
 have lvp := hp.len'
 have hcon := ecf_ret (contains76_q e5 hp (by omega))
 have m2 := must_t 2
 have f2 := must_f 2
 rw [PC] at m2
 have pa : pureL [.agg t.cs, .int .i64 n, vR, vp] = true := by simp [pureL, pureV, pure_tr ho, hR.pure, SlV.pure hp]
 have key : CallP gl Trnx.aprog 31 [.agg t.cs, .int .i64 n, vR, vp] [] (fun r H' => ∃ u, r = .ret (.tup [u, .int .i64 (pickE τ n R p)]) ∧ ListsV (if pickE τ n R p = 0 then pickS τ.own p R else []) u) := by
  refine call_ofQ (af := Trnx.a31) rfl rfl fun Q hQ => ?_
  simp only [Trnx.a31]
  rcases built_use (hb.allC aH) (hb.closed cH) (below_pure _ vR hR.pure) (hR.regs H2) hla (by omega) lR2 lR hn with ⟨eA, uA, tA, cA, _⟩ | ⟨eA, G, cA, gl1⟩
  case inr =>
   obtain ⟨X, hX, oX⟩ := set_err hb aH gl1 (bldE τ n R)
   have d1 := caught_wrong H0.length (bldE τ n R) 0 G (gl1 _ _ _ _ hb.cell)
   rw [hX] at oX
   rw [len0] at d1 oX hX
   have hE : pickE τ n R p = bldE τ n R := by simp only [pickE]; rw [if_neg eA]
   rw [hE] at hQ
   generalize bldE τ n R = q at *
   simp [hcc, hc, cA, d1, oX, hX, o5, storeV, vrc, vrcs, vpc, vpcs, slotOf, forget, AOper.writes, -ecallF, -List.all_eq_true]
   exact hQ _ _ ⟨.nils, rfl, by rw [if_neg eA]; exact ListsV.nil⟩
  have hE : pickE τ n R p = if p.length ≤ 20000 ∧ p.any (badP n) = false then 0 else 2 := by simp only [pickE]; rw [if_pos eA]
  rw [hE] at hQ
  obtain ⟨hn0, rR, wR, sR, _, _⟩ := bld_all eA
  by_cases hgood : p.length ≤ 20000 ∧ p.any (badP n) = false
  case neg =>
   rw [if_neg hgood] at hQ
   obtain ⟨X, hX, oX⟩ := set_err hb aH (Le.refl H2) 2
   have d1 := caught_wrong H0.length 2 0 H2 hb.cell
   rw [hX] at oX
   rw [len0] at d1 oX hX
   by_cases h20 : p.length ≤ 20000
   ·have hany : p.any (badP n) = true := by
     cases e : p.any (badP n)
     ·exact absurd ⟨h20, e⟩ hgood
     ·rfl
    have h20' : (p.length : Int) ≤ 20000 := by omega
    rw [hany] at hcon
    simp [hcc, hc, cA, d1, oX, hX, o5, lvp, h20, h20', hcon, f2, storeV, vrc, vrcs, vpc, vpcs, slotOf, forget, AOper.writes, -pcall, -ecallF, -List.all_eq_true]
    exact hQ _ _ ⟨.nils, rfl, by rw [if_neg (by omega)]; exact ListsV.nil⟩
   ·have h20' : ¬ (p.length : Int) ≤ 20000 := by omega
    simp [hcc, hc, cA, d1, oX, hX, o5, lvp, h20, h20', f2, storeV, vrc, vrcs, vpc, vpcs, slotOf, forget, AOper.writes, -pcall, -ecallF, -List.all_eq_true]
    exact hQ _ _ ⟨.nils, rfl, by rw [if_neg (by omega)]; exact ListsV.nil⟩
  rw [if_pos hgood, if_pos rfl] at hQ
  obtain ⟨h20, hany⟩ := hgood
  have h20' : (p.length : Int) ≤ 20000 := by omega
  rw [hany] at hcon
  simp [hcc, hc, cA, o5, lvp, h20, h20', hcon, m2, lvr, vrc, vrcs, vpc, vpcs, slotOf, -pcall, -ecallF, -List.all_eq_true]
  have wown : ∀ j (hj : j < R.length), j < τ.own → (R[j].length : Int) = n := fun j hj ho => by
   have := List.all_eq_true.1 wR R[j] (by rw [List.mem_iff_getElem?]; exact ⟨j, by rw [List.getElem?_take, if_pos ho]; simp [hj]⟩)
   simpa using this
  have hpin : ∀ k (hk : k < p.length), 0 ≤ p[k] ∧ p[k] < n := fun k hk => by
   have := List.any_eq_false.1 hany p[k] (List.getElem_mem hk)
   simp [badP] at this
   omega
  have r74 : ∀ ws g, (lim gl Trnx.aprog).ro 74 [.ref 2 0 1] (kH H2 ws g) = some (.ret (.int .i64 τ.own)) := fun ws g => ro74_q (hla.ext fun k k1 k2 => by
   have hsz : objs τ + 2 = H2.length := by rw [hH2]; simp [layL_length, len0]; omega
   simp only [kH]
   rw [List.getElem?_append_left (by omega)])
  refine loop_nQ R.length (fun i c => ∃ s10 s11 s12 s13 s17 s18 s19 fl ws, c = ⟨[.agg t.cs, .int .i64 n, vR, vp, .agg t.cs, .ref 0 0 1, .nils, .ref 1 0 1, .ref 2 0 1, .sl H2.length 0 i i 1 false, s10, s11, s12, s13, vR, .int .i64 R.length, .int .i64 i, s17, s18, s19], [(.func (.func 52) [] [], [.ref 1 0 1])], fl, none, kH H2 ws (min i τ.own)⟩ ∧
   ws.length = i ∧ ∀ j (h : j < ws.length) (h' : j < R.length), IntsV (pkRow τ.own p j R[j]) ws[j]) ?_ ⟨.undef, .undef, .undef, .undef, .undef, .undef, .undef, none, [], by simp [kH], rfl, fun j h => by simp at h⟩
  rintro I hI i c hi ⟨s10, s11, s12, s13, s17, s18, s19, fl, ws, rfl, hws, hfr⟩
  by_cases hlt : i < R.length
  ·have hlt' : (i : Int) < R.length := by omega
   have w1 : IntKind.i64.wrap ((i : Int) + 1) = (i : Int) + 1 := wrap64 (by omega) (by omega)
   obtain ⟨w, a1, a2⟩ := hR.idx (i := i) hlt
   have wc := SlV.cell a2
   have wcs := SlV.cells a2
   have wp := SlV.pure a2
   have lri := lR _ (List.getElem_mem hlt)
   have hnext : ∀ (w' : V), IntsV (pkRow τ.own p i R[i]) w' → ∀ j (h : j < (ws ++ [w']).length) (h' : j < R.length), IntsV (pkRow τ.own p j R[j]) (ws ++ [w'])[j] := fun w' hw' j h h' => by
    by_cases e : j < ws.length
    ·rw [List.getElem_append_left e]; exact hfr j e h'
    ·simp at h
     obtain rfl : j = i := by omega
     rw [List.getElem_append_right (by omega)]
     simpa using hw'
   by_cases hge : τ.own ≤ i
   ·have hge' : (τ.own : Int) ≤ i := by omega
    have q71 := joined_p a2 lri
    rw [PC] at q71
    have hap := kH_app (H2 := H2) (ws := ws) (g := min i τ.own) (w := .sv ((icells R[i]).map fun x => [x]) false) (by omega)
    have hI := hI (i + 1) ⟨[.agg t.cs, .int .i64 n, vR, vp, .agg t.cs, .ref 0 0 1, .nils, .ref 1 0 1, .ref 2 0 1, .sl H2.length 0 (i + 1) (i + 1) 1 false, .int .i64 i, w, s12, s13, vR, .int .i64 R.length, .int .i64 ((i : Int) + 1), s17, s18, s19], [(.func (.func 52) [] [], [.ref 1 0 1])], none, none, kH H2 (ws ++ [.sv ((icells R[i]).map fun x => [x]) false]) (min i τ.own)⟩
     ⟨_, _, _, _, _, _, _, none, _, by rw [show min (i + 1) τ.own = min i τ.own by omega]; rfl, by simp [hws], hnext _ (by unfold pkRow; rw [if_neg (by omega)]; exact .sv false)⟩
    have r74 := r74 ws (min i τ.own)
    rw [hws] at hap
    have v1 : isCell (V.sv ((icells R[i]).map fun x => [x]) false) = true := rfl
    have v2 : cellsV (V.sv ((icells R[i]).map fun x => [x]) false) = [V.sv ((icells R[i]).map fun x => [x]) false] := rfl
    have v3 : pureV (V.sv ((icells R[i]).map fun x => [x]) false) = true := rfl
    generalize V.sv ((icells R[i]).map fun x => [x]) false = rv at *
    generalize kH H2 (ws ++ [rv]) (min i τ.own) = K2 at *
    generalize kH H2 ws (min i τ.own) = K at *
    simp [hlt', a1, r74, hge, hge', q71, hap, w1, wc, wcs, wp, v1, v2, v3, fill, chunks, slotOf, -pcall]
    exact ⟨hlt, hI⟩
   ·have hge' : ¬ (τ.own : Int) ≤ i := by omega
    have hroom : room = 140737488355328 := by simp [room]
    have r74 := r74 ws (min i τ.own)
    have hmin : min i τ.own = i := by omega
    have hmin1 : min (i + 1) τ.own = i + 1 := by omega
    rw [hmin] at r74 ⊢
    have hkg := kH_gone (H2 := H2) (ws := ws) (g := i)
    have hap1 := fun w' => kH_app (H2 := H2) (ws := ws) (g := i + 1) (w := w') (by omega)
    have hap2 := fun w' => kH_app' (H2 := H2) (ws := ws) (g := i + 1) (w := w') (by omega)
    have hI := fun w' (h : IntsV (pkRow τ.own p i R[i]) w') s12 s13 => hI (i + 1) ⟨[.agg t.cs, .int .i64 n, vR, vp, .agg t.cs, .ref 0 0 1, .nils, .ref 1 0 1, .ref 2 0 1, .sl H2.length 0 (i + 1) (i + 1) 1 false, .int .i64 i, w, s12, s13, vR, .int .i64 R.length, .int .i64 ((i : Int) + 1), vp, .int .i64 p.length, .int .i64 p.length], [(.func (.func 52) [] [], [.ref 1 0 1])], none, none, kH H2 (ws ++ [w']) (i + 1)⟩
     ⟨_, _, _, _, _, _, _, none, _, by rw [hmin1]; rfl, by simp [hws], hnext _ h⟩
    rw [← hkg] at hap1 hap2
    rw [hws] at hap1 hap2
    have hlri : (R[i].length : Int) = n := wown i hlt (by omega)
    obtain ⟨ri, hri⟩ : ∃ ri, ri = R[i] := ⟨_, rfl⟩
    rw [← hri] at a2 hlri hI
    have hpk : pkRow τ.own p i ri = p.map fun x => ri.getD x.toNat 0 := by unfold pkRow; rw [if_pos (by omega)]
    rw [hpk] at hI
    clear hnext hfr
    generalize kH H2 ws i = K at *
    simp [hlt', a1, r74, hge, hge', lvp, wc, wcs, slotOf]
    refine loop_nQ p.length (fun k c => ∃ s13 fl, c = ⟨[.agg t.cs, .int .i64 n, vR, vp, .agg t.cs, .ref 0 0 1, .nils, .ref 1 0 1, .ref 2 0 1, .sl H2.length 0 i i 1 false, .int .i64 i, w, .sl K.length 0 k k 1 false, s13, vR, .int .i64 R.length, .int .i64 i, vp, .int .i64 p.length, .int .i64 k], [(.func (.func 52) [] [], [.ref 1 0 1])], fl, none, K ++ [.cells k 1 (icells ((p.take k).map fun x => ri.getD x.toNat 0))]⟩) ?_ ⟨s13, none, rfl⟩
    rintro J hJ k c hk ⟨s13, fl, rfl⟩
    by_cases hkt : k < p.length
    ·have hkt' : (k : Int) < p.length := by omega
     have wk1 : IntKind.i64.wrap ((k : Int) + 1) = (k : Int) + 1 := wrap64 (by omega) (by omega)
     have x1 := hp.idx' hkt
     obtain ⟨b1, b2⟩ := hpin k hkt
     have x2 := a2.idx' (i := p[k].toNat) (by omega)
     rw [Int.toNat_of_nonneg b1] at x2
     have hap := appV_own (h := K ++ [.cells k 1 (icells ((p.take k).map fun x => ri.getD x.toNat 0))]) (o := K.length) (n := k) (sz := 1) (bytes := 8) (k := 1) (cs := icells ((p.take k).map fun x => ri.getD x.toNat 0)) (y := .sv [[.int .i64 (ri[p[k].toNat]'(by omega))]] true) (ys := [.int .i64 (ri[p[k].toNat]'(by omega))]) (by simp) rfl (by simp [sliceCells]) rfl (by omega)
     rw [set_last] at hap
     have e : icells ((p.take (k + 1)).map fun x => ri.getD x.toNat 0) = icells ((p.take k).map fun x => ri.getD x.toNat 0) ++ [.int .i64 (ri[p[k].toNat]'(by omega))] := by
      have h1 : (p.take (k + 1)).map (fun x => ri.getD x.toNat 0) = (p.take k).map (fun x => ri.getD x.toNat 0) ++ [ri[p[k].toNat]'(by omega)] := by
       rw [← List.take_append_getElem hkt, List.map_append]
       simp only [List.map_cons, List.map_nil, List.getD_eq_getElem?_getD]
       rw [List.getElem?_eq_getElem (by omega)]
       rfl
      rw [h1]
      simp only [icells, List.map_append, List.map_cons, List.map_nil]
     have hJ := hJ (k + 1) ⟨[.agg t.cs, .int .i64 n, vR, vp, .agg t.cs, .ref 0 0 1, .nils, .ref 1 0 1, .ref 2 0 1, .sl H2.length 0 i i 1 false, .int .i64 i, w, .sl K.length 0 (k + 1) (k + 1) 1 false, .int .i64 p[k], vR, .int .i64 R.length, .int .i64 i, vp, .int .i64 p.length, .int .i64 ((k : Int) + 1)], [(.func (.func 52) [] [], [.ref 1 0 1])], none, none, _⟩ ⟨_, none, by rw [e]; rfl⟩
     generalize ri[p[k].toNat]'(by omega) = z at *
     generalize p[k] = y at *
     generalize icells ((p.take k).map fun x => ri.getD x.toNat 0) = cs at *
     simp [hkt', x1, x2, hap, wk1, fill, chunks, slotOf]
     exact ⟨hkt, hJ⟩
    ·obtain hkp : k = p.length := by omega
     subst hkp
     rw [List.take_length]
     have hfz := view_own (H := K ++ [.cells p.length 1 (icells (p.map fun x => ri.getD x.toNat 0))]) (b := K.length) (n := p.length) (cs := icells (p.map fun x => ri.getD x.toNat 0)) (by simp) (by simp) (pure_ic _)
     rw [set_last] at hfz
     have hI := hI (.sv ((icells (p.map fun x => ri.getD x.toNat 0)).map fun x => [x]) false) (.sv false)
     have v1 : isCell (V.sv ((icells (p.map fun x => ri.getD x.toNat 0)).map fun x => [x]) false) = true := rfl
     have v2 : cellsV (V.sv ((icells (p.map fun x => ri.getD x.toNat 0)).map fun x => [x]) false) = [V.sv ((icells (p.map fun x => ri.getD x.toNat 0)).map fun x => [x]) false] := rfl
     have v3 : pureV (V.sv ((icells (p.map fun x => ri.getD x.toNat 0)).map fun x => [x]) false) = true := rfl
     generalize V.sv ((icells (p.map fun x => ri.getD x.toNat 0)).map fun x => [x]) false = rv at *
     generalize icells (p.map fun x => ri.getD x.toNat 0) = cs at *
     have hap1 := hap1 rv
     have hap2 := hap2 rv
     generalize kH H2 (ws ++ [rv]) (i + 1) = K2 at *
     simp [hfz, hap1, hap2, w1, v1, v2, v3, WX_frz, nthV_eq, fill, chunks, slotOf]
     exact ⟨hlt, hI _ _⟩
  ·obtain rfl : i = R.length := by omega
   have hfz : frzV (kH H2 ws (min R.length τ.own)) (.sl H2.length 0 R.length R.length 1 false) = some (.sv (ws.map fun x => [x]) false, (kH H2 ws (min R.length τ.own)).set H2.length .gone) := view_own (by rw [kH_at, hws]) hws.symm (by
    rw [pureL_all]
    intro x hx
    obtain ⟨j, hj, rfl⟩ := List.mem_iff_getElem.1 hx
    exact SlV.pure (hfr j hj (by omega)))
   have hLV : ListsV (pickS τ.own p R) (.sv (ws.map fun x => [x]) false) := ⟨ws, .sv false, Fr.of_nth (by rw [pickS_len, hws]) fun j h1 h2 => by
    have := hfr j h2 (by omega)
    have hg := pickS_get (own := τ.own) (p := p) (R := R) (j := j) (by omega)
    rw [List.getElem?_eq_getElem h1] at hg
    rw [Option.some.inj hg]
    exact this⟩
   have z1 : ((kH H2 ws (min R.length τ.own)).set H2.length Am.Obj.gone)[1]? = some (.cells 1 1 [.int .i64 0]) := by
    rw [List.getElem?_set_ne (by omega)]
    exact kH_old hcl
   generalize (kH H2 ws (min R.length τ.own)).set H2.length Am.Obj.gone = K3 at *
   have zs : storeV K3 (.ref 1 0 1) (.int .i64 0) 1 = some K3 := by
    have := set_same z1
    simp only [storeV, objCells_of z1]
    simp [this]
   have zl := load_cell z1
   have d0 := caught_none 1 K3
   simp [hfz, zs, zl, d0, slotOf, -loadV]
   exact hQ _ _ ⟨_, rfl, hLV⟩
 obtain ⟨r, H', e, u, rfl, hw⟩ := OptP.ex key
 refine ⟨u, ?_, hw⟩
 simp only [PC, pcall, callee_func, List.append_nil, List.nil_append]
 rw [if_pos pa, e]
 simp only [view_lists hw, Option.map_some]
end Go.Proofs.Nst
set_option linter.unusedVariables false
set_option linter.unusedSimpArgs false
namespace Go.Proofs.Nst
open Go Go.Am
def uptoL (m : Nat) : List Int := (List.range m).map fun (k : Nat) => ((k : Nat) : Int)
theorem upto32_q (m : Nat) (hm : m < 2 ^ 39) : ∃ u, PC 32 [.int .i64 m] u ∧ IntsV (uptoL m) u := by
 have hroom : room = 140737488355328 := by simp [room]
 have key : CallP gl Trnx.aprog 32 [.int .i64 m] [] (fun r H' => r = .ret (.sv ((icells (uptoL m)).map fun x => [x]) false)) := by
  refine call_ofQ (af := Trnx.a32) rfl rfl fun Q hQ => ?_
  simp only [Trnx.a32]
  simp [fill, slotOf]
  refine loop_nQ m (fun k c => ∃ fl, c = ⟨[.int .i64 m, .nils, .sl 0 0 k k 1 false, .int .i64 k], [], fl, none, [.cells k 1 (icells (uptoL k))]⟩) ?_ ⟨none, by simp [uptoL, icells]⟩
  rintro I hI k c hk ⟨fl, rfl⟩
  by_cases hlt : k < m
  ·have hlt' : (k : Int) < m := by omega
   have w1 : IntKind.i64.wrap ((k : Int) + 1) = (k : Int) + 1 := wrap64 (by omega) (by omega)
   have hap := appV_own (h := [.cells k 1 (icells (uptoL k))]) (o := 0) (n := k) (sz := 1) (bytes := 8) (k := 1) (cs := icells (uptoL k)) (y := .sv [[.int .i64 k]] true) (ys := [.int .i64 k]) rfl rfl (by simp [sliceCells]) rfl (by omega)
   have e : icells (uptoL (k + 1)) = icells (uptoL k) ++ [.int .i64 k] := by simp [icells, uptoL, List.range_succ]
   have hI := hI (k + 1) ⟨[.int .i64 m, .nils, .sl 0 0 (k + 1) (k + 1) 1 false, .int .i64 ((k : Int) + 1)], [], none, none, _⟩ ⟨none, by rw [e]; rfl⟩
   simp only [List.set_cons_zero] at hap
   generalize icells (uptoL k) = cs at *
   simp [hlt', hap, w1, fill, chunks, slotOf]
   exact ⟨hlt, hI⟩
  ·obtain rfl : k = m := by omega
   have hfz := view_own (H := [.cells k 1 (icells (uptoL k))]) (b := 0) (n := k) (cs := icells (uptoL k)) rfl (by simp [uptoL]) (pure_ic _)
   have hQ := hQ _ [.gone] rfl
   simp only [List.set_cons_zero] at hfz
   generalize icells (uptoL k) = cs at *
   simp [hfz, slotOf]
   exact hQ
 obtain ⟨r, H', e, rfl⟩ := OptP.ex key
 refine ⟨_, ?_, (.sv false : IntsV (uptoL m) _)⟩
 simp only [PC, pcall, callee_func, List.append_nil, List.nil_append]
 rw [if_pos (show pureL [V.int .i64 m] = true from rfl), e]
 rfl
abbrev f79 : V := .func (.func 79) [] []
abbrev EqP (N : Nat) : Prop := ∀ (x y : Tr), x.nodes ≤ N → x.Ok → y.Ok → ∀ H, ∃ b, CC 79 [.agg x.cs, .agg y.cs] H (.ret (.bool b)) H ∧ (b = true ↔ x.vl = y.vl)
theorem eqf_q {N : Nat} (ih : EqP N) (l m : List Tr) (v w : V) (hv : SlV (l.map Tr.cs) v) (hw : SlV (m.map Tr.cs) w) (hl : ∀ x ∈ l, x.Ok) (hm : ∀ x ∈ m, x.Ok) (hn : ∀ x ∈ l, x.nodes ≤ N) (hlen : l.length < 2 ^ 50) (H : Heap) :
  ∃ b, CC 78 [v, w, f79] H (.ret (.bool b)) H ∧ (b = true ↔ l.map Tr.vl = m.map Tr.vl) := by
 have lv := len_tr hv
 have lw := len_tr hw
 have vc := SlV.cell hv
 have wc := SlV.cell hw
 have key : CallP gl Trnx.aprog 78 [v, w, f79] H (fun r H' => ∃ b, r = .ret (.bool b) ∧ H' = H ∧ (b = true ↔ l.map Tr.vl = m.map Tr.vl)) := by
  refine call_ofQ (af := Trnx.a78) rfl rfl fun Q hQ => ?_
  simp only [Trnx.a78]
  by_cases he : l.length = m.length
  case neg =>
   have hne := ne_true (show (l.length : Int) ≠ m.length by omega)
   simp [lv, lw, hne, slotOf]
   refine hQ _ _ ⟨false, rfl, rfl, ?_⟩
   simp only [Bool.false_eq_true, false_iff]
   intro h
   have := congrArg List.length h
   simp at this
   exact he this
  have hne : ((l.length : Int) != (m.length : Int)) = false := by simp [he]
  simp [lv, lw, hne, slotOf]
  refine loop_nQ l.length (fun i c => ∃ s4 s5 s6 fl, c = ⟨[v, w, f79, .bool false, s4, s5, s6, v, .int .i64 l.length, .int .i64 i], [], fl, none, H⟩ ∧ (l.take i).map Tr.vl = (m.take i).map Tr.vl) ?_ ⟨.undef, .undef, .undef, none, rfl, by simp⟩
  rintro I hI i c hi ⟨s4, s5, s6, fl, rfl, hz⟩
  by_cases hlt : i < l.length
  ·have hlt' : (i : Int) < l.length := by omega
   have hlm : i < m.length := by omega
   have w1 : IntKind.i64.wrap ((i : Int) + 1) = (i : Int) + 1 := wrap64 (by omega) (by omega)
   have a1 := idx_tr hv hlt
   have a2 := idx_tr hw hlm
   have c1 := cells_tr (hl _ (List.getElem_mem hlt))
   have c2 := cells_tr (hm _ (List.getElem_mem hlm))
   obtain ⟨b, hb, hbb⟩ := ih l[i] m[i] (hn _ (List.getElem_mem hlt)) (hl _ (List.getElem_mem hlt)) (hm _ (List.getElem_mem hlm)) H
   have hti := vl_take_iff hlt hlm
   have hmap : l.map Tr.vl = m.map Tr.vl → l[i].vl = m[i].vl := fun h => by
    have := congrArg (·[i]?) h
    simpa [hlt, hlm] using this
   generalize l[i] = x at *
   generalize m[i] = y at *
   cases b with
   | true =>
    simp [hlt', a1, a2, hb, w1, c1, c2, slotOf, -List.all_eq_true]
    exact ⟨hlt, hI _ _ ⟨_, _, _, _, rfl, hti.2 ⟨hz, hbb.1 rfl⟩⟩⟩
   | false =>
    simp [hlt', a1, a2, hb, c1, c2, slotOf, -List.all_eq_true]
    refine hQ _ _ ⟨false, rfl, rfl, ?_⟩
    simp only [Bool.false_eq_true, false_iff]
    intro h
    have := hbb.2 (hmap h)
    cases this
  ·obtain rfl : i = l.length := by omega
   simp [slotOf]
   refine hQ _ _ ⟨true, rfl, rfl, ?_⟩
   rw [List.take_length, he, List.take_length] at hz
   simp [hz]
 obtain ⟨r, H', e, b, rfl, rfl, hb⟩ := OptP.ex key
 exact ⟨b, e, hb⟩
theorem eq79_q : ∀ N : Nat, N < 2 ^ 50 → EqP N
 | 0, _, .mk .., y, h, _, _, _ => by simp [Tr.nodes] at h
 | N + 1, hN2, .mk k n v l, .mk k' n' v' l', hN, hx, hy, H => by
  have sx : SlV (l.map Tr.cs) v := hx.sl
  have sy : SlV (l'.map Tr.cs) v' := hy.sl
  have kx : ∀ t ∈ l, t.Ok := hx.kids
  have ky : ∀ t ∈ l', t.Ok := hy.kids
  have hnl : Tr.nodesL l ≤ N := by simp only [Tr.nodes] at hN; omega
  have hlen := Tr.nodesL_length l
  have cvx := SlV.cell sx
  have cvy := SlV.cell sy
  obtain ⟨b, hb, hbb⟩ := eqf_q (eq79_q N (by omega)) l l' v v' sx sy kx ky (fun x hx => by have := Tr.nodesL_mem hx; omega) (by omega) H
  have key : CallP gl Trnx.aprog 79 [.agg (Tr.mk k n v l).cs, .agg (Tr.mk k' n' v' l').cs] H (fun r H' => ∃ b, r = .ret (.bool b) ∧ H' = H ∧ (b = true ↔ (Tr.mk k n v l).vl = (Tr.mk k' n' v' l').vl)) := by
   refine call_ofQ (af := Trnx.a79) rfl rfl fun Q hQ => ?_
   simp only [Trnx.a79, Tr.cs]
   by_cases e1 : k = k'
   case neg =>
    have h1 := ne_false e1
    simp [h1, cvx, cvy, slotOf]
    exact hQ _ _ ⟨false, rfl, rfl, by rw [vl_eq]; simp [e1]⟩
   by_cases e2 : n = n'
   case neg =>
    have h1 := ne_false e2
    simp [e1, h1, cvx, cvy, slotOf]
    exact hQ _ _ ⟨false, rfl, rfl, by rw [vl_eq]; simp [e2]⟩
   simp [e1, e2, hb, cvx, cvy, slotOf]
   exact hQ _ _ ⟨b, rfl, rfl, by rw [vl_eq, hbb]; simp [e1, e2]⟩
  obtain ⟨r, H', e, b2, rfl, rfl, hb2⟩ := OptP.ex key
  exact ⟨b2, e, hb2⟩
def sameE (τ : Ty) (n : Int) (A B : List (List Int)) : Int := if bldE τ n A = 0 then bldE τ n B else bldE τ n A
theorem same_p {A B : List (List Int)} {vA vB : V} (hA : ListsV A vA) (hB : ListsV B vB) (lA : ∀ r ∈ A, r.length < 2 ^ 39) (lB : ∀ r ∈ B, r.length < 2 ^ 39) (lA2 : A.length < 2 ^ 39) (lB2 : B.length < 2 ^ 39)
  {t : Tr} {τ : Ty} (hτ : IsTy t τ) (ho : t.Ok) (h1 : τ.size ≤ 60) (h2 : τ.deep ≤ 12) {n : Int} (hn : is64 n) :
  ∃ b, PC 34 [.agg t.cs, .int .i64 n, vA, vB] (.tup [.bool b, .int .i64 (sameE τ n A B)]) ∧ (b = true ↔ sameE τ n A B = 0 ∧ bldL τ n A = bldL τ n B) := by
 have hcc := cells_tr ho
 have hbs := τ.both_size
 have aH : AllC [] := allC_nil
 have hb := bldH [] τ
 obtain ⟨H2, hH2⟩ : ∃ H2, H2 = [] ++ [.cells 1 1 [.int .i64 0]] ++ layL (([] : Heap).length + 1) τ := ⟨_, rfl⟩
 have hc := asked_ecf hτ ho h1 h2 ([] ++ [.cells 1 1 [.int .i64 0]])
 simp only [List.length_append, List.length_singleton] at hc
 rw [← hH2] at hc hb
 have hcl := hb.cell
 have hla := hb.lay
 simp only [List.length_nil, Nat.zero_add, List.nil_append] at hc hcl hla
 have vac := hA.cell
 have vacs := hA.cells
 have vbc := hB.cell
 have vbcs := hB.cells
 have pa : pureL [.agg t.cs, .int .i64 n, vA, vB] = true := by simp [pureL, pureV, pure_tr ho, hA.pure, hB.pure]
 have key : CallP gl Trnx.aprog 34 [.agg t.cs, .int .i64 n, vA, vB] [] (fun r H' => ∃ b, r = .ret (.tup [.bool b, .int .i64 (sameE τ n A B)]) ∧ (b = true ↔ sameE τ n A B = 0 ∧ bldL τ n A = bldL τ n B)) := by
  refine call_ofQ (af := Trnx.a34) rfl rfl fun Q hQ => ?_
  simp only [Trnx.a34]
  rcases built_use (hb.allC aH) (hb.closed closed_nil) (below_pure _ vA hA.pure) (hA.regs H2) hla (by omega) lA2 lA hn with ⟨eA, uA, tA, cA, a1, a2, a3⟩ | ⟨eA, G, cA, gl1⟩
  case inr =>
   obtain ⟨X, hX, oX⟩ := set_err hb aH gl1 (bldE τ n A)
   have d1 := caught_wrong 0 (bldE τ n A) 0 G (gl1 _ _ _ _ hb.cell)
   simp only [List.length_nil] at hX oX
   rw [hX] at oX
   simp only [List.nil_append] at hX oX
   have hE : sameE τ n A B = bldE τ n A := by simp only [sameE]; rw [if_neg eA]
   rw [hE] at hQ
   generalize bldE τ n A = q at *
   simp [hcc, hc, cA, d1, oX, hX, storeV, vac, vacs, vbc, vbcs, slotOf, forget, AOper.writes, -ecallF, -List.all_eq_true]
   exact hQ _ _ ⟨false, rfl, by simp [eA]⟩
  have hE : sameE τ n A B = bldE τ n B := by simp only [sameE]; rw [if_pos eA]
  rw [hE] at hQ
  rcases built_use (hb.allC aH) (hb.closed closed_nil) (below_pure _ vB hB.pure) (hB.regs H2) hla (by omega) lB2 lB hn with ⟨eB, uB, tB, cB, b1, b2, b3⟩ | ⟨eB, G, cB, gl1⟩
  case inr =>
   obtain ⟨X, hX, oX⟩ := set_err hb aH gl1 (bldE τ n B)
   have d1 := caught_wrong 0 (bldE τ n B) 0 G (gl1 _ _ _ _ hb.cell)
   simp only [List.length_nil] at hX oX
   rw [hX] at oX
   simp only [List.nil_append] at hX oX
   generalize bldE τ n B = q at *
   simp [hcc, hc, cA, cB, d1, oX, hX, storeV, vac, vacs, vbc, vbcs, slotOf, forget, AOper.writes, -ecallF, -List.all_eq_true]
   exact hQ _ _ ⟨false, rfl, by simp [eB]⟩
  obtain ⟨k1, k2, k3⟩ := bld_ok eA a3
  have hlen := Tr.nodesL_length tA
  obtain ⟨b, hbq, hbb⟩ := eqf_q (eq79_q (2 ^ 49) (by omega)) tA tB uA uB a1 b1 a2 b2 (fun x hx => by have := Tr.nodesL_mem hx; omega) (by omega) H2
  have hbq := ecf_ret hbq
  have z1 := hcl
  have zs : storeV H2 (.ref 0 0 1) (.int .i64 0) 1 = some H2 := by
   have := set_same z1
   simp only [storeV, objCells_of z1]
   simp [this]
  have zl := load_cell z1
  have d0 := caught_none 0 H2
  have uac := SlV.cell a1
  have uacs := SlV.cells a1
  have ubc := SlV.cell b1
  have ubcs := SlV.cells b1
  simp [hcc, hc, cA, cB, hbq, zs, zl, d0, vac, vacs, vbc, vbcs, slotOf, -ecallF, -loadV, -List.all_eq_true]
  exact hQ _ _ ⟨b, by rw [eB], by rw [hbb, a3, b3]; simp [eB]⟩
 obtain ⟨r, H', e, b, rfl, hw⟩ := OptP.ex key
 refine ⟨b, ?_, hw⟩
 simp only [PC, pcall, callee_func, List.append_nil, List.nil_append]
 rw [if_pos pa, e]
 rfl
end Go.Proofs.Nst
set_option linter.unusedVariables false
set_option linter.unusedSimpArgs false
namespace Go.Proofs.Nst
open Go Go.Am
theorem zipA_get {A B : List (List Int)} {j : Nat} (h1 : j < A.length) (h2 : j < B.length) : (zipA A B).getD j [] = A.getD j [] ++ B.getD j [] := by
 simp [zipA, List.getD_eq_getElem?_getD, List.getElem?_zipWith, h1, h2]
abbrev joinR (τ : Ty) (A B : List (List Int)) : List (List Int) := shS A B τ 0 τ.own (zipA A B)
theorem joinR_cut {τ : Ty} {A B : List (List Int)} (hA : A.length = τ.own + τ.data) (hB : B.length = τ.own + τ.data) :
  (joinR τ A B).length = τ.own + τ.data ∧ (joinR τ A B).take τ.own = (jn τ (A.take τ.own) (A.drop τ.own) (B.take τ.own) (B.drop τ.own)).1 ∧ (joinR τ A B).drop τ.own = (jn τ (A.take τ.own) (A.drop τ.own) (B.take τ.own) (B.drop τ.own)).2 := by
 have hZ : (zipA A B).length = τ.own + τ.data := by simp [zipA]; omega
 obtain ⟨_, k1, k2⟩ := shS_jn A B τ 0 τ.own (zipA A B) (by omega) (by omega) (fun j hj => zipA_get (by simp only [inR] at hj; omega) (by simp only [inR] at hj; omega))
 have hl := (shS_len A B τ 0 τ.own (zipA A B)).1
 have jl := jn_len τ (A.take τ.own) (A.drop τ.own) (B.take τ.own) (B.drop τ.own)
 have cA : cut A τ.own τ.data = A.drop τ.own := List.take_of_length_le (by simp; omega)
 have cB : cut B τ.own τ.data = B.drop τ.own := List.take_of_length_le (by simp; omega)
 have cA0 : cut A 0 τ.own = A.take τ.own := by rw [cut, List.drop_zero]
 have cB0 : cut B 0 τ.own = B.take τ.own := by rw [cut, List.drop_zero]
 have hJn : Jn A B τ 0 τ.own = jn τ (A.take τ.own) (A.drop τ.own) (B.take τ.own) (B.drop τ.own) := by simp only [Jn, cA, cB, cA0, cB0]
 have hlj : (joinR τ A B).length = τ.own + τ.data := by rw [joinR, hl, hZ]
 rw [hJn] at k1 k2
 have hext : ∀ {X Y : List (List Int)}, X.length = Y.length → (∀ j, j < X.length → X.getD j [] = Y.getD j []) → X = Y := fun {X Y} h1 h2 => by
  refine List.ext_getElem h1 fun j a b => ?_
  have := h2 j a
  simpa [List.getD_eq_getElem?_getD, a, b] using this
 refine ⟨by omega, hext (by rw [jl.1, List.length_take]; omega) fun j hj => ?_, hext (by rw [jl.2, List.length_drop]; omega) fun j hj => ?_⟩
 ·have hj1 : j < τ.own := by rw [List.length_take] at hj; omega
  rw [← k1 j hj1, List.getD_eq_getElem?_getD, List.getElem?_take, if_pos hj1, ← List.getD_eq_getElem?_getD, Nat.zero_add]
 ·rw [List.length_drop] at hj
  rw [← k2 j (by omega), List.getD_eq_getElem?_getD, List.getElem?_drop, ← List.getD_eq_getElem?_getD]
theorem wide_of {n : Nat} {A : List (List Int)} (h : A.all (fun r => (r.length : Int) == (n : Int)) = true) : Wide n A := fun r hr => by
 have := List.all_eq_true.1 h r hr
 simp at this
 omega
theorem bld_join {τ : Ty} {n m : Nat} {A B : List (List Int)} (eA : bldE τ n A = 0) (eB : bldE τ m B = 0) (lA : ∀ r ∈ A, r.length < 2 ^ 40) (lB : ∀ r ∈ B, r.length < 2 ^ 40) (hnm : n + m ≤ 20000) (hN : Vl.nodesL (bldL τ n A) + Vl.nodesL (bldL τ m B) ≤ 20000) :
  bldE τ ((n + m : Nat) : Int) (joinR τ A B) = 0 ∧ bldL τ ((n + m : Nat) : Int) (joinR τ A B) = bldL τ n A ++ bldL τ m B := by
 obtain ⟨a1, a2, a3, a4, a5, a6⟩ := bld_all eA
 obtain ⟨b1, b2, b3, b4, b5, b6⟩ := bld_all eB
 obtain ⟨c1, c2, c3⟩ := joinR_cut a2 b2
 have wA := wide_of a3
 have wB := wide_of b3
 have hlA : (A.take τ.own).length = τ.own := by simp; omega
 have hlB : (B.take τ.own).length = τ.own := by simp; omega
 have hdA : (A.drop τ.own).length = τ.data := by simp; omega
 have hdB : (B.drop τ.own).length = τ.data := by simp; omega
 obtain ⟨r1, r2⟩ := rd_join τ (A.take τ.own) (A.drop τ.own) (B.take τ.own) (B.drop τ.own) n m hlA hlB hdA hdB wA wB a4 b4 (fun r hr => lA r (List.mem_of_mem_drop hr)) (fun r hr => lB r (List.mem_of_mem_drop hr))
 have wJ := jn_own τ (A.take τ.own) (A.drop τ.own) (B.take τ.own) (B.drop τ.own) n m hlA hlB wA wB
 rw [Int.toNat_natCast] at a5 b5
 obtain ⟨la, ga⟩ := rdAll_get a5
 obtain ⟨lb, gb⟩ := rdAll_get b5
 refine bld_of (by omega) c1 ?_ ?_ ?_ (by rw [Vl.nodesL_append]; exact hN)
 ·rw [c2, List.all_eq_true]
  intro r hr
  rw [wJ r hr]
  simp
 ·rw [c3]
  exact jn_shp τ _ _ _ _ hlA hlB hdA hdB a4 b4
 ·rw [c2, c3, Int.toNat_natCast]
  refine rdAll_of (List.ext_getElem (by simp; omega) fun i h1 h2 => ?_)
  simp at h1
  simp only [List.getElem_map, List.getElem_range]
  by_cases hi : i < n
  ·obtain ⟨x, hx, hg⟩ := ga i hi
   rw [r1 i x hi hx]
   rw [List.getElem_append_left (by omega)]
   have := List.getElem?_eq_getElem (l := bldL τ n A) (i := i) (by omega)
   rw [this] at hg
   exact hg.symm ▸ rfl
  ·obtain ⟨x, hx, hg⟩ := gb (i - n) (by omega)
   have := r2 (i - n) x (by omega) hx
   rw [show n + (i - n) = i by omega] at this
   rw [this, List.getElem_append_right (by omega)]
   have h3 := List.getElem?_eq_getElem (l := bldL τ m B) (i := i - n) (by omega)
   rw [h3] at hg
   simp only [la]
   exact hg.symm ▸ rfl
theorem bld_pick {τ : Ty} {n : Nat} {R : List (List Int)} (e : bldE τ n R = 0) {p : List Int} (hp : ∀ x ∈ p, 0 ≤ x ∧ x < n) (hpl : p.length ≤ 20000) :
  bldE τ p.length (pickS τ.own p R) = sumE (some (p.map fun x => (bldL τ n R).getD x.toNat default)) ∧ bldL τ p.length (pickS τ.own p R) = p.map fun x => (bldL τ n R).getD x.toNat default := by
 obtain ⟨a1, a2, a3, a4, a5, a6⟩ := bld_all e
 have wA := wide_of a3
 rw [Int.toNat_natCast] at a5
 obtain ⟨la, ga⟩ := rdAll_get a5
 have hto : ((R.take τ.own).map fun r => p.map fun x => r.getD x.toNat 0).length = τ.own := by simp; omega
 have ht : (pickS τ.own p R).take τ.own = (R.take τ.own).map fun r => p.map fun x => r.getD x.toNat 0 := by rw [pickS, List.take_left' hto]
 have hd : (pickS τ.own p R).drop τ.own = R.drop τ.own := by rw [pickS, List.drop_left' hto]
 have hall : rdAll τ ((pickS τ.own p R).take τ.own) ((pickS τ.own p R).drop τ.own) p.length = some (p.map fun x => (bldL τ n R).getD x.toNat default) := by
  refine rdAll_of (List.ext_getElem (by simp) fun i h1 h2 => ?_)
  simp at h1
  simp only [List.getElem_map, List.getElem_range]
  obtain ⟨q1, q2⟩ := hp _ (List.getElem_mem h1)
  obtain ⟨x, hx, hg⟩ := ga p[i].toNat (by omega)
  rw [List.getD_eq_getElem?_getD, hg, Option.getD_some, ← hx, ht, hd]
  refine rd_at τ _ _ _ _ _ fun j hj => ?_
  simp only [rg, List.getD_eq_getElem?_getD, List.getElem?_map]
  have hjR : j < (R.take τ.own).length := by simp; omega
  rw [List.getElem?_eq_getElem hjR]
  simp [h1]
 have hw : ((pickS τ.own p R).take τ.own).all (fun r => (r.length : Int) == (p.length : Int)) = true := by
  rw [ht, List.all_eq_true]
  intro r hr
  obtain ⟨r', _, rfl⟩ := List.mem_map.1 hr
  simp
 constructor
 ·simp only [bldE]
  rw [if_neg (by omega), if_neg (fun h => h ⟨by rw [pickS_len]; exact a2, hw, by rw [hd]; exact a4⟩), Int.toNat_natCast, hall]
 ·simp only [bldL]
  rw [Int.toNat_natCast, hall]
  rfl
end Go.Proofs.Nst
set_option linter.unusedVariables false
set_option linter.unusedSimpArgs false
namespace Go.Proofs.Nst
open Go Go.Am
theorem flat3 (l : List Tr) : (l.map Tr.cs).flatten.length = l.length * 3 := flat3_len l
theorem pickS_data {own : Nat} {p : List Int} {R : List (List Int)} {k : Nat} (h1 : own ≤ k) (h2 : k < R.length) : (pickS own p R)[k]'(by rw [pickS_len]; exact h2) = R[k] := by
 have := pickS_get (own := own) (p := p) (R := R) (j := k) h2
 rw [List.getElem?_eq_getElem (by rw [pickS_len]; exact h2)] at this
 have := Option.some.inj this
 rw [this]
 unfold pkRow
 rw [if_neg (by omega)]
theorem law_contexts (t : Tr) (ht : t.Ok) (l : List Tr) (v : V) (hl : ∀ x ∈ l, x.Ok) (hv : SlV (l.map Tr.cs) v) (m : List Tr) (w : V) (hm : ∀ x ∈ m, x.Ok) (hw : SlV (m.map Tr.cs) w)
  (p : List Int) (u : V) (hp : ∀ x ∈ p, is64 x) (hu' : SlV (p.map fun x => [.int .i64 x]) u) (hn : t.nodes < 2 ^ 50) (hnl : Tr.nodesL l < 2 ^ 50) (hnm : Tr.nodesL m < 2 ^ 50) (hpl : p.length < 2 ^ 40) : ∃ h', (lim gl Trnx.aprog).call 6 [.agg t.cs, v, w, u] [] = some (.ret (.bool true), h') := by
 have hu : IntsV p u := by
  have e : (p.map fun x => [V.int .i64 x]) = (icells p).map fun x => [x] := by simp
  rw [e] at hu'
  exact hu'
 have key : CallP gl Trnx.aprog 6 [.agg t.cs, v, w, u] [] (fun r h' => r = .ret (.bool true)) := by
  have hh := held_q
  have ct := cells_tr ht
  obtain ⟨b1, f1, k1⟩ := fine_q t ht l v hv hl hn hnl
  obtain ⟨b2, f2, k2⟩ := fine_q t ht m w hw hm hn hnm
  rw [PC] at hh f1 f2
  have uc := SlV.cell hu
  have ucs := SlV.cells hu
  refine call_ofQ (af := Trnx.a6) rfl rfl fun Q hQ => ?_
  simp only [Trnx.a6]
  cases b1 with
  | false =>
   simp [ct, f1, hh, slotOf, -pcall, -List.all_eq_true]
   exact hQ _ _ rfl
  | true =>
  cases b2 with
  | false =>
   simp [ct, f1, f2, hh, slotOf, -pcall, -List.all_eq_true]
   exact hQ _ _ rfl
  | true =>
  obtain ⟨τ, hτ, s1, s2, vl, sl, n4⟩ := k1 rfl
  obtain ⟨τ', hτ', _, _, vm, sm, m4⟩ := k2 rfl
  obtain rfl := hτ.unique hτ'
  have hbs := τ.both_size
  have hlen := Tr.nodesL_length l
  have hmen := Tr.nodesL_length m
  have al : ∀ x ∈ l, x.Ok ∧ isV τ x = true := fun x hx => ⟨hl x hx, vl x hx⟩
  have am : ∀ x ∈ m, x.Ok ∧ isV τ x = true := fun x hx => ⟨hm x hx, vm x hx⟩
  obtain ⟨o1, _⟩ := own_ok hτ ht s1 s2
  obtain ⟨u1, q1, z1⟩ := flatten_q hτ ht s1 s2 l v hv hl (by omega)
  obtain ⟨u2, q2, z2⟩ := flatten_q hτ ht s1 s2 m w hw hm (by omega)
  rw [(flat_fine vl sl).1] at q1
  rw [(flat_fine vl sl).2] at z1
  rw [(flat_fine vm sm).1] at q2
  rw [(flat_fine vm sm).2] at z2
  have lcA := canonS_len τ l
  have lcB := canonS_len τ m
  have lA : ∀ r ∈ canonS τ l, r.length ≤ 400 := fun r hr => by have := canonS_bound τ l r hr; omega
  have lB : ∀ r ∈ canonS τ m, r.length ≤ 400 := fun r hr => by have := canonS_bound τ m r hr; omega
  obtain ⟨eA, vA⟩ := bld_canon al sl
  obtain ⟨eB, vB⟩ := bld_canon am sm
  generalize canonS τ l = A at *
  generalize canonS τ m = B at *
  have n64 : is64 (l.length : Int) := by unfold is64; omega
  have m64 : is64 (m.length : Int) := by unfold is64; omega
  have nm64 : is64 ((l.length + m.length : Nat) : Int) := by unfold is64; omega
  -- Join
  obtain ⟨uJ, qJ, zJ⟩ := join_q z1 z2 (fun r hr => by have := lA r hr; omega) (fun r hr => by have := lB r hr; omega) (by omega) (by omega) hτ ht s1 s2 n64 m64
  have hjE : joinE τ l.length A m.length B = 0 := by simp only [joinE]; rw [if_pos eA]; exact eB
  rw [hjE] at qJ
  rw [if_pos hjE] at zJ
  change ListsV (joinR τ A B) uJ at zJ
  have hVl : Vl.nodesL (l.map Tr.vl) = Tr.nodesL l := by rw [← Tr.vlL_eq, vlL_nodes]
  have hVm : Vl.nodesL (m.map Tr.vl) = Tr.nodesL m := by rw [← Tr.vlL_eq, vlL_nodes]
  obtain ⟨eJ, vJ⟩ := bld_join eA eB (fun r hr => by have := lA r hr; omega) (fun r hr => by have := lB r hr; omega) (by omega) (by rw [vA, vB, hVl, hVm]; omega)
  have lJ := (joinR_cut (τ := τ) (by omega : A.length = τ.own + τ.data) (by omega : B.length = τ.own + τ.data)).1
  have lJr : ∀ r ∈ joinR τ A B, r.length ≤ 800 := fun r hr => by
   obtain ⟨j, hj, rfl⟩ := List.mem_iff_getElem.1 hr
   have h1 : ((joinR τ A B).getD j []).length = ((zipA A B).getD j []).length := (shS_len A B τ 0 τ.own (zipA A B)).2 j
   rw [zipA_get (by omega) (by omega)] at h1
   have h2 := lA _ (List.getElem_mem (show j < A.length by omega))
   have h3 := lB _ (List.getElem_mem (show j < B.length by omega))
   have e1 : (joinR τ A B).getD j [] = (joinR τ A B)[j] := by simp [hj]
   have e2 : A.getD j [] = A[j] := by simp [show j < A.length by omega]
   have e3 : B.getD j [] = B[j] := by simp [show j < B.length by omega]
   rw [e2, e3, List.length_append] at h1
   rw [← e1]
   omega
  generalize joinR τ A B = J at *
  rw [vA, vB] at vJ
  -- Build of what is joined
  obtain ⟨u14, ts, q14, x1, x2, x3⟩ := build_p zJ (by omega) (fun r hr => by have := lJr r hr; omega) hτ ht s1 s2 nm64
  rw [eJ] at q14
  have x3 := (x3 eJ).trans vJ
  have hts : ts.length = l.length + m.length := by
   have := congrArg List.length x3
   simpa using this
  have hlm : SlV ((l ++ m).map Tr.cs) (.sv ((l ++ m).map Tr.cs) false) := .sv false
  have olm : ∀ x ∈ l ++ m, x.Ok := fun x hx => by
   rcases List.mem_append.1 hx with hx | hx
   ·exact hl x hx
   ·exact hm x hx
  have hnt : Tr.nodesL ts = Tr.nodesL l + Tr.nodesL m := by
   rw [← vlL_nodes, Tr.vlL_eq, x3, Vl.nodesL_append, hVl, hVm]
  obtain ⟨b5, q15, i15⟩ := sames_q ts (l ++ m) u14 (.sv ((l ++ m).map Tr.cs) false) x1 hlm x2 olm (by omega)
  obtain rfl : b5 = true := i15.2 (by rw [x3, List.map_append])
  rw [PC] at o1 q1 q2 qJ q14 q15
  have hlv := len_tr hv
  have hlw := len_tr hw
  have hroom : room = 140737488355328 := by simp [room]
  have ap1 := appV_own (h := [.cells 0 3 []]) (o := 0) (n := 0) (sz := 3) (bytes := 40) (k := l.length) (cs := []) (y := v) (ys := (l.map Tr.cs).flatten) rfl (by rw [SlV.slen hv]; simp) (SlV.scells hv _) (flat3 l) (by omega)
  simp only [List.set_cons_zero, Nat.zero_add, List.nil_append] at ap1
  have ap2 := appV_own (h := [.cells l.length 3 (l.map Tr.cs).flatten]) (o := 0) (n := l.length) (sz := 3) (bytes := 40) (k := m.length) (cs := (l.map Tr.cs).flatten) (y := w) (ys := (m.map Tr.cs).flatten) rfl (by rw [SlV.slen hw]; simp) (SlV.scells hw _) (flat3 m) (by omega)
  simp only [List.set_cons_zero] at ap2
  have fz1 : frzV [.cells (l.length + m.length) 3 ((l.map Tr.cs).flatten ++ (m.map Tr.cs).flatten)] (.sl 0 0 (l.length + m.length) (l.length + m.length) 3 false) = some (.sv ((l ++ m).map Tr.cs) false, [.gone]) := by
   have hp1 := pure_cells (l ++ m) olm
   have hch := chunks_map Tr.cs 3 (l ++ m) fun x _ => x.cs_length
   rw [List.map_append, List.flatten_append] at hp1 hch
   simp only [List.length_append] at hch
   have ho : objCells [Am.Obj.cells (l.length + m.length) 3 ((l.map Tr.cs).flatten ++ (m.map Tr.cs).flatten)] 0 = some (l.length + m.length, 3, (l.map Tr.cs).flatten ++ (m.map Tr.cs).flatten) := rfl
   simp [frzV, viewV, ho, hp1, hch, List.map_append]
  simp only [List.map_append] at q15 fz1
  have w01 : IntKind.i64.wrap ((l.length : Int) + m.length) = ((l.length + m.length : Nat) : Int) := by rw [wrap64 (by omega) (by omega)]; rfl
  simp [ct, f1, f2, q1, q2, qJ, q14, q15, ap1, ap2, fz1, hlv, hlw, w01, uc, ucs, fill, slotOf, -pcall, -List.all_eq_true, -Int.natCast_add]
  obtain ⟨N, hN⟩ : ∃ N : Nat, N = l.length + m.length := ⟨_, rfl⟩
  rw [← hN] at hts w01 eJ vJ nm64
  have lup := hu.len'
  let vs : List Int → List Tr := fun P => P.map fun x => ts.getD x.toNat t
  refine loop_nQ p.length (fun i c => ∃ (P : List Int) (s19 : V) (fl : Option (Nat × V)), c = ⟨[.agg t.cs, v, w, u, .agg t.cs, .bool false, .int .i64 l.length, .int .i64 m.length, u1, .int .i64 0, u2, .int .i64 0, uJ, .int .i64 0, u14, .int .i64 0, .sl 1 0 i i 1 false, .sl 2 0 i i 3 false, .int .i64 i, s19, .undef, .undef, .undef, .undef, .undef, .undef, .undef, .undef], [], fl, none, [.gone, .cells i 1 (icells P), .cells i 3 ((vs P).map Tr.cs).flatten]⟩ ∧ P.length = i ∧ i ≤ 40 ∧ ∀ x ∈ P, 0 ≤ x ∧ x < (N : Int)) ?_ ⟨[], .undef, none, rfl, rfl, by omega, by simp⟩
  rintro I hI i c hi ⟨P, s19, fl, rfl, hPl, h40, hP⟩
  by_cases hgo : i < p.length ∧ i < 40 ∧ 0 < N
  ·obtain ⟨g1, g2, g3⟩ := hgo
   have g1' : (i : Int) < p.length := by omega
   have g2' : (i : Int) < 40 := by omega
   have g3' : (0 : Int) < (N : Int) := by omega
   have w1 : IntKind.i64.wrap ((i : Int) + 1) = (i : Int) + 1 := wrap64 (by omega) (by omega)
   have a1 := hu.idx' g1
   have tq := turn30_q p[i] N (hp _ (List.getElem_mem g1)) (by omega) (by omega)
   have m1 := Int.emod_lt_of_pos p[i] g3'
   have m2 := Int.emod_nonneg p[i] (show (N : Int) ≠ 0 by omega)
   obtain ⟨k, hk⟩ : ∃ k : Nat, p[i] % (N : Int) = k := ⟨(p[i] % (N : Int)).toNat, by omega⟩
   rw [hk, PC] at tq
   have hkt : k < ts.length := by omega
   have x4 := idx_tr x1 hkt
   have hgk : ts.getD k t = ts[k] := by simp [hkt]
   have ok := x2 _ (List.getElem_mem hkt)
   obtain ⟨z, hz⟩ : ∃ z, z = ts[k] := ⟨_, rfl⟩
   rw [← hz] at x4 hgk ok
   rw [z.cs_eq] at x4
   have zc := SlV.cell ok.sl
   have zp := SlV.pure ok.sl
   have zeq : eqV (.agg [.int .i64 z.k, .int .i64 z.n, z.v]) (.agg [.int .i64 z.k, .int .i64 z.n, z.v]) = true := by
    have := (eqV_tr z ok).2
    rw [z.cs_eq] at this
    simpa [eqV] using this
   have e1 : icells (P ++ [(k : Int)]) = icells P ++ [.int .i64 k] := by simp [icells]
   have e2 : ((vs (P ++ [(k : Int)])).map Tr.cs).flatten = ((vs P).map Tr.cs).flatten ++ [.int .i64 z.k, .int .i64 z.n, z.v] := by
    simp only [vs, List.map_append, List.map_cons, List.map_nil, Int.toNat_natCast, hgk, List.flatten_append]
    simp [z.cs_eq]
   have lvs : ((vs P).map Tr.cs).flatten.length = i * 3 := by rw [flat3]; simp [vs, hPl]
   have ap3 := appV_own (h := [.gone, .cells i 1 (icells P), .cells i 3 ((vs P).map Tr.cs).flatten]) (o := 1) (n := i) (sz := 1) (bytes := 8) (k := 1) (cs := icells P) (y := .sv [[.int .i64 k]] true) (ys := [.int .i64 k]) rfl rfl (by simp [sliceCells]) rfl (by omega)
   have ap4 := appV_own (h := [.gone, .cells (i + 1) 1 (icells P ++ [.int .i64 k]), .cells i 3 ((vs P).map Tr.cs).flatten]) (o := 2) (n := i) (sz := 3) (bytes := 40) (k := 1) (cs := ((vs P).map Tr.cs).flatten) (y := .sv [[.int .i64 z.k, .int .i64 z.n, z.v]] true) (ys := [.int .i64 z.k, .int .i64 z.n, z.v]) rfl rfl (by simp [sliceCells]) rfl (by omega)
   simp only [List.set_cons_zero, List.set_cons_succ] at ap3 ap4
   have hI := hI (i + 1) ⟨[.agg t.cs, v, w, u, .agg t.cs, .bool false, .int .i64 l.length, .int .i64 m.length, u1, .int .i64 0, u2, .int .i64 0, uJ, .int .i64 0, u14, .int .i64 0, .sl 1 0 (i + 1) (i + 1) 1 false, .sl 2 0 (i + 1) (i + 1) 3 false, .int .i64 ((i : Int) + 1), .int .i64 k, .undef, .undef, .undef, .undef, .undef, .undef, .undef, .undef], [], none, none, [.gone, .cells (i + 1) 1 (icells P ++ [.int .i64 k]), .cells (i + 1) 3 (((vs P).map Tr.cs).flatten ++ [.int .i64 z.k, .int .i64 z.n, z.v])]⟩ ⟨P ++ [(k : Int)], _, none, by rw [e1, e2]; rfl, by simp [hPl], by omega, fun x hx => by
    rcases List.mem_append.1 hx with hx | hx
    ·exact hP x hx
    ·rw [List.mem_singleton.1 hx]; omega⟩
   generalize p[i] = y at *
   generalize icells P = c1 at *
   generalize ((vs P).map Tr.cs).flatten = c2 at *
   simp [lup, g1', g2', g3, g3', w01, a1, tq, x4, ap3, ap4, w1, zc, zp, zeq, fill, chunks, slotOf, -pcall, -Int.natCast_add]
   exact ⟨g1, hI⟩
  ·simp only [WX_seq]
   refine WX_last _ _ (c' := ⟨[.agg t.cs, v, w, u, .agg t.cs, .bool false, .int .i64 l.length, .int .i64 m.length, u1, .int .i64 0, u2, .int .i64 0, uJ, .int .i64 0, u14, .int .i64 0, .sl 1 0 i i 1 false, .sl 2 0 i i 3 false, .int .i64 i, s19, .undef, .undef, .undef, .undef, .undef, .undef, .undef, .undef], [], some (115, .bool false), none, [.gone, .cells i 1 (icells P), .cells i 3 ((vs P).map Tr.cs).flatten]⟩) ?_ ?_
   ·by_cases g1 : i < p.length
    ·by_cases g2 : i < 40
     ·have g3 : ¬ 0 < N := fun h => hgo ⟨g1, g2, h⟩
      have g1' : (i : Int) < p.length := by omega
      have g2' : (i : Int) < 40 := by omega
      have g3' : N = 0 := by omega
      subst g3'
      simp [lup, g1, g1', g2, g2', w01, slotOf, -Int.natCast_add]
     ·have g1' : (i : Int) < p.length := by omega
      have g2' : ¬ (i : Int) < 40 := by omega
      simp [lup, g1, g1', g2, g2', slotOf]
    ·have g1' : ¬ (i : Int) < p.length := by omega
     simp [lup, g1, g1', slotOf]
   simp only [seqQ_norm, WX_seq, WX_ite]
   clear hI hgo
   have ovs : ∀ x ∈ vs P, x.Ok := fun x hx => by
    obtain ⟨y, _, rfl⟩ := List.mem_map.1 hx
    by_cases hy : y.toNat < ts.length
    ·have : ts.getD y.toNat t = ts[y.toNat] := by simp [hy]
     rw [this]; exact x2 _ (List.getElem_mem hy)
    ·have : ts.getD y.toNat t = t := by simp [hy]
     rw [this]; exact ht
   have lvs : (vs P).length = i := by simp [vs, hPl]
   have fz17 : frzV [.gone, .cells i 1 (icells P), .cells i 3 ((vs P).map Tr.cs).flatten] (.sl 2 0 i i 3 false) = some (.sv ((vs P).map Tr.cs) false, [.gone, .cells i 1 (icells P), .gone]) := by
    have hp1 := pure_cells (vs P) ovs
    have hch := chunks_map Tr.cs 3 (vs P) fun x _ => x.cs_length
    rw [lvs] at hch
    have ho : objCells [.gone, .cells i 1 (icells P), Am.Obj.cells i 3 ((vs P).map Tr.cs).flatten] 2 = some (i, 3, ((vs P).map Tr.cs).flatten) := rfl
    generalize ((vs P).map Tr.cs).flatten = F at *
    simp [frzV, viewV, ho, hp1, hch]
   have fz16 := view_own (H := [.gone, .cells i 1 (icells P), .gone]) (b := 1) (n := i) (cs := icells P) rfl (by simp [hPl]) (pure_ic P)
   simp only [List.set_cons_zero, List.set_cons_succ] at fz16
   have IP : IntsV P (.sv ((icells P).map fun x => [x]) false) := .sv false
   have SV : SlV ((vs P).map Tr.cs) (.sv ((vs P).map Tr.cs) false) := .sv false
   have lJr' : ∀ r ∈ J, r.length < 2 ^ 39 := fun r hr => by have := lJr r hr; omega
   obtain ⟨uK, q31, zK⟩ := pick_q zJ lJr' (by omega) IP (by omega) hτ ht s1 s2 nm64
   have pE : pickE τ N J P = 0 := by
    simp only [pickE]
    rw [if_pos eJ, if_pos ⟨by omega, List.any_eq_false.2 fun x hx => by have := hP x hx; simp [badP]; omega⟩]
   rw [pE] at q31
   rw [if_pos pE] at zK
   obtain ⟨uU, q32, zU⟩ := upto32_q l.length (by omega)
   have lup' : (uptoL l.length).length = l.length := by simp [uptoL]
   have hUin : ∀ x ∈ uptoL l.length, 0 ≤ x ∧ x < (N : Int) := fun x hx => by
    simp [uptoL] at hx
    obtain ⟨a, ha, rfl⟩ := hx
    omega
   obtain ⟨uL, q31', zL⟩ := pick_q zJ lJr' (by omega) zU (by omega) hτ ht s1 s2 nm64
   have pE' : pickE τ N J (uptoL l.length) = 0 := by
    simp only [pickE]
    rw [if_pos eJ, if_pos ⟨by omega, List.any_eq_false.2 fun x hx => by have := hUin x hx; simp [badP]; omega⟩]
   rw [pE'] at q31'
   rw [if_pos pE'] at zL
   rw [PC] at q31 q32 q31'
   have lK := zK.len
   rw [pickS_len] at lK
   have lJv := zJ.len
   have V16p := SlV.pure IP
   generalize hV16 : V.sv ((icells P).map fun x => [x]) false = V16 at *
   have c16 : isCell V16 = true := by rw [← hV16]; rfl
   have cs16 : cellsV V16 = [V16] := by rw [← hV16]; rfl
   have l16 := IP.len'
   generalize hV17 : V.sv ((vs P).map Tr.cs) false = V17 at *
   have c17 : isCell V17 = true := by rw [← hV17]; rfl
   have cs17 : cellsV V17 = [V17] := by rw [← hV17]; rfl
   have l17 := len_tr SV
   rw [lvs] at l17
   rw [hPl] at l16
   simp [fz17, fz16, WX_frz, nthV_eq, ct, w01, q31, q32, q31', lK, lJv, c16, cs16, c17, cs17, l17, l16, slotOf, -pcall, -List.all_eq_true, -Int.natCast_add]
   -- the values that are picked
   have hlm4 : ∀ k (hk : k < ts.length), ts[k].nodes ≤ 400 := fun k hk => by
    have hk2 : k < (l ++ m).length := by rw [List.length_append]; omega
    have h1 : ts.map Tr.vl = (l ++ m).map Tr.vl := by rw [x3, List.map_append]
    have h2 : (l ++ m)[k].vl = ts[k].vl := by
     have h3 := List.getElem_of_eq h1 (i := k) (by simpa using hk)
     rw [List.getElem_map, List.getElem_map] at h3
     exact h3.symm
    have h4 : ts[k].nodes = (l ++ m)[k].nodes := by rw [← vl_nodes, ← h2, vl_nodes]
    rw [h4]
    rcases List.mem_append.1 (List.getElem_mem hk2) with h | h
    ·have := Tr.nodesL_mem h; omega
    ·have := Tr.nodesL_mem h; omega
   have hgen : ∀ P : List Int, (∀ x ∈ P, 0 ≤ x ∧ x < (N : Int)) → Tr.nodesL (vs P) ≤ 400 * P.length ∧ (vs P).map Tr.vl = P.map fun x => (bldL τ N J).getD x.toNat default := by
    intro P
    induction P with
    | nil => intro _; exact ⟨by simp [vs, Tr.nodesL], rfl⟩
    | cons y P ih =>
     intro h
     obtain ⟨i1, i2⟩ := ih fun x hx => h x (by simp [hx])
     have hy := h y (by simp)
     have hyt : y.toNat < ts.length := by omega
     have e1 : ts.getD y.toNat t = ts[y.toNat] := by simp [hyt]
     have h4 := hlm4 y.toNat hyt
     have e2 : (bldL τ N J).getD y.toNat default = ts[y.toNat].vl := by rw [vJ, ← x3]; simp [hyt]
     simp only [vs] at i1 i2 ⊢
     simp only [List.map_cons, Tr.nodesL, List.length_cons, e1, e2, i2]
     exact ⟨by omega, trivial⟩
   obtain ⟨hT, hvv⟩ := hgen P hP
   obtain ⟨bp1, bp2⟩ := bld_pick (R := J) eJ hP (by omega)
   obtain ⟨bu1, bu2⟩ := bld_pick (R := J) eJ hUin (by omega)
   rw [← hvv] at bp1 bp2
   have hup : ((uptoL l.length).map fun x => (bldL τ N J).getD x.toNat default) = l.map Tr.vl := by
    rw [vJ]
    refine List.ext_getElem (by simp [uptoL]) fun k a b => ?_
    simp at b
    simp [uptoL, List.getD_eq_getElem?_getD]
    rw [List.getElem?_append_left (by simpa using b)]
    simp [b]
   rw [hup] at bu1 bu2
   have sv0 : sumE (some ((vs P).map Tr.vl)) = 0 := by
    simp only [sumE]
    rw [← Tr.vlL_eq, vlL_nodes, if_pos (by omega)]
   have sl0 : sumE (some (l.map Tr.vl)) = 0 := by
    simp only [sumE]
    rw [hVl, if_pos (by omega)]
   rw [sv0, hPl] at bp1
   rw [hPl] at bp2
   rw [sl0, lup'] at bu1
   rw [lup'] at bu2
   have i64' : is64 (i : Int) := by unfold is64; omega
   have lpr : ∀ (q : List Int), q.length ≤ 800 → ∀ r ∈ pickS τ.own q J, r.length < 2 ^ 39 := fun q hq r hr => by
    simp only [pickS, List.mem_append, List.mem_map] at hr
    rcases hr with ⟨r', _, rfl⟩ | hr
    ·simp; omega
    ·exact lJr' r (List.mem_of_mem_drop hr)
   obtain ⟨u24, tk, q24, y1, y2, y3⟩ := build_p zK (by rw [pickS_len]; omega) (lpr P (by omega)) hτ ht s1 s2 i64'
   rw [bp1] at q24
   have y3 := (y3 bp1).trans bp2
   obtain ⟨b6, q28, i28⟩ := sames_q tk (vs P) u24 V17 y1 SV y2 ovs (by rw [← vlL_nodes, Tr.vlL_eq, y3, ← Tr.vlL_eq, vlL_nodes]; omega)
   obtain rfl : b6 = true := i28.2 y3
   obtain ⟨b7, q34, i34⟩ := same_p zL z1 (lpr _ (by omega)) (fun r hr => by have := lA r hr; omega) (by rw [pickS_len]; omega) (by omega) hτ ht s1 s2 n64
   have sE : sameE τ l.length (pickS τ.own (uptoL l.length) J) A = 0 := by simp only [sameE]; rw [if_pos bu1]; exact eA
   obtain rfl : b7 = true := i34.2 ⟨sE, bu2.trans vA.symm⟩
   rw [sE] at q34
   rw [PC] at q24 q28 q34
   refine loop_nQ i (fun k c => ∃ fl, c = ⟨[.agg t.cs, v, w, u, .agg t.cs, .bool false, .int .i64 l.length, .int .i64 m.length, u1, .int .i64 0, u2, .int .i64 0, uJ, .int .i64 0, u14, .int .i64 0, V16, V17, .int .i64 i, s19, uK, uL, .int .i64 (Tr.nodesL ((vs P).take k)), .int .i64 k, .undef, .undef, .undef, .undef], [], fl, none, [.gone, .gone, .gone]⟩) ?_ ⟨_, by simp [Tr.nodesL]; rfl⟩
   rintro J2 hJ2 k c hk ⟨fl, rfl⟩
   by_cases hlt : k < i
   ·have hlt' : (k : Int) < i := by omega
    have w1 : IntKind.i64.wrap ((k : Int) + 1) = (k : Int) + 1 := wrap64 (by omega) (by omega)
    have hki : k < (vs P).length := by omega
    have a1 := idx_tr SV hki
    have oz := ovs _ (List.getElem_mem hki)
    have hs := sizeOf_q (vs P)[k] oz (by have := Tr.nodesL_mem (List.getElem_mem hki); omega)
    have htn := Tr.nodesL_take hki
    have hle := Tr.nodesL_take_le (l := vs P) (k + 1)
    have cz := cells_tr oz
    rw [PC] at hs
    generalize (vs P)[k] = z at *
    have w2 : IntKind.i64.wrap ((Tr.nodesL ((vs P).take k) : Int) + z.nodes) = Tr.nodesL ((vs P).take (k + 1)) := by rw [wrap64 (by omega) (by omega)]; omega
    simp [l17, hlt', a1, hs, cz, w1, w2, slotOf, -pcall, -List.all_eq_true]
    exact ⟨hlt, hJ2 _ _ ⟨_, rfl⟩⟩
   ·obtain hki : k = i := by omega
    subst hki
    rw [show (vs P).take k = vs P by rw [← lvs, List.take_length]]
    have hT' : (Tr.nodesL (vs P) : Int) ≤ 20000 := by omega
    generalize Tr.nodesL (vs P) = T at *
    have hT2 : T ≤ 20000 := by omega
    simp [l17, l16, ct, q24, q34, q28, o1, hT', hT2, slotOf, -pcall, -List.all_eq_true]
    refine loop_nQ τ.data (fun j c => ∃ (e : Nat) (fl : Option (Nat × V)), e = τ.own + j ∧ c = ⟨[.agg t.cs, v, w, u, .agg t.cs, .bool false, .int .i64 l.length, .int .i64 m.length, u1, .int .i64 0, u2, .int .i64 0, uJ, .int .i64 0, u14, .int .i64 0, V16, V17, .int .i64 k, s19, uK, uL, .int .i64 T, .int .i64 k, u24, .bool true, .int .i64 τ.own, .int .i64 e], [], fl, none, [.gone, .gone, .gone]⟩) ?_ ⟨τ.own, none, rfl, rfl⟩
    rintro J3 hJ3 j c hj ⟨e, fl, he, rfl⟩
    by_cases hlt3 : e < J.length
    ·have hlt3' : (e : Int) < J.length := by omega
     have w1 : IntKind.i64.wrap ((e : Int) + 1) = (e : Int) + 1 := wrap64 (by omega) (by omega)
     obtain ⟨wk, a1, b1⟩ := zK.idx (i := e) (by rw [pickS_len]; exact hlt3)
     obtain ⟨wj, a2, b2⟩ := zJ.idx (i := e) hlt3
     rw [pickS_data (by omega) hlt3] at b1
     have qe := equal_q _ _ wk wj b1 b2 (by have := lJr _ (List.getElem_mem hlt3); omega)
     rw [decide_eq_true rfl, PC] at qe
     have hJ3 := hJ3 (j + 1) ⟨[.agg t.cs, v, w, u, .agg t.cs, .bool false, .int .i64 l.length, .int .i64 m.length, u1, .int .i64 0, u2, .int .i64 0, uJ, .int .i64 0, u14, .int .i64 0, V16, V17, .int .i64 k, s19, uK, uL, .int .i64 T, .int .i64 k, u24, .bool true, .int .i64 τ.own, .int .i64 ((e : Int) + 1)], [], none, none, [.gone, .gone, .gone]⟩ ⟨e + 1, none, by omega, rfl⟩
     simp [lJv, hlt3, hlt3', a1, a2, qe, w1, slotOf, -pcall]
     exact ⟨by omega, hJ3⟩
    ·have hlt3' : ¬ (e : Int) < J.length := by omega
     simp [lJv, hlt3, hlt3', hh, slotOf, -pcall]
     exact hQ _ _ rfl
 obtain ⟨r, h', e, rfl⟩ := OptP.ex key
 exact ⟨h', e⟩
end Go.Proofs.Nst
