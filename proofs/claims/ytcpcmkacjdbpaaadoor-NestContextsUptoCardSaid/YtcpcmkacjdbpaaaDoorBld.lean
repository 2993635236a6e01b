/- A part of the law's proof: Bld. -/
import Derived.Test.YtcpcmkacjdbpaaaDoorRd
set_option linter.unusedVariables false
set_option linter.unusedSimpArgs false
namespace Go.Am
theorem WX_range (rec : Rec) (gl : Nat → List V) (f : Opd) (y : Nat) (cap : List Nat) (p : List Bool) (sl : List V) (ds : List (V × List V)) (fl : Option (Nat × V)) (h : Heap) (Q : Out → Cfg → Prop) :
  WX rec gl (.range f y cap p) ⟨sl, ds, fl, none, h⟩ Q = match callee (ev gl [] sl f) [.yf h.length] with
   | some (n, as) => match rec.call n as (h ++ [.loop y (cap.map fun s => nthV sl s) .ready none]) with
    | some (.pan v, h') => Q (.pan v) ⟨sl, (.undef, []) :: ds, none, none, h'⟩
    | some (.ret _, h') => match h'[h.length]? with
     | some (.loop y' fi st pd) => if st = .busy then False else Q (match pd with | none => .norm | some none => .ret | some (some i) => .exit i) ⟨sl, (.undef, []) :: ds, none, none, h'.set h.length (.loop y' fi .exhausted pd)⟩
     | _ => False
    | none => False
   | none => False := by
 have e : (cap.map fun s => sl.getD s .undef) = cap.map fun s => nthV sl s := List.map_congr_left fun s _ => nthV_eq _ _
 simp only [WX, exec, Option.isSome_none, Bool.false_eq_true, if_false, e]
 cases callee (ev gl [] sl f) [.yf h.length] with
 | none => rfl
 | some q =>
  obtain ⟨n, as⟩ := q
  simp only
  cases rec.call n as (h ++ [.loop y (cap.map fun s => nthV sl s) .ready none]) with
  | none => rfl
  | some r =>
   obtain ⟨r, h'⟩ := r
   cases r with
   | pan v => rfl
   | ret v =>
    simp only
    cases h'[h.length]? with
    | none => rfl
    | some o =>
     cases o with
     | loop y' fi st pd =>
      simp only
      by_cases hb : st = .busy
      ·simp [hb]
      ·simp only [hb, if_false]
       cases pd with
       | none => rfl
       | some j => cases j <;> rfl
     | _ => rfl
end Go.Am
namespace Go.Proofs.Nst
open Go Go.Am
theorem p92_q {H : Heap} {w : V} {r : List V} {c : Nat} {n : Int} (hw : Sh H w r) (hc : H[c]? = some (.cells 1 1 [.int .i64 n])) : CC 92 [w, .ref c 0 1] H (.ret (.bool ((r.length : Int) != n))) H := by
 have hl := hw.len
 have oc := objCells_of hc
 refine CallP.eq (call_ofQ (af := Trnx.a92) rfl rfl fun Q hQ => ?_)
 simp only [Trnx.a92]
 simp [hl, oc, slotOf]
 exact hQ _ _ ⟨rfl, rfl⟩
theorem any91_q {H : Heap} {v : V} {R : List (List Int)} {c : Nat} {n : Int} (hv : RegsH H v R) (hc : H[c]? = some (.cells 1 1 [.int .i64 n])) (hl : R.length < 2 ^ 40) :
  CC 91 [v, .func (.func 92) [] [.ref c 0 1]] H (.ret (.bool (!R.all fun r => (r.length : Int) == n))) H := by
 have hlv := hv.len
 have key : CallP gl Trnx.aprog 108 [v, .func (.func 92) [] [.ref c 0 1]] H (fun r h' => ∃ i : Int, r = .ret (.int .i64 i) ∧ h' = H ∧ (0 ≤ i ↔ (R.all fun r => (r.length : Int) == n) = false)) := by
  refine call_ofQ (af := Trnx.a108) rfl rfl fun Q hQ => ?_
  simp only [Trnx.a108]
  simp [hlv, slotOf]
  refine loop_nQ R.length (fun i c' => (∀ r ∈ R.take i, (r.length : Int) = n) ∧ ∃ x fl, c' = ⟨[v, .func (.func 92) [] [.ref c 0 1], .int .i64 0, x, .int .i64 R.length, .int .i64 i], [], fl, none, H⟩) ?_ ⟨by simp, _, _, rfl⟩
  rintro I hI i c' hi ⟨hall, x, fl, rfl⟩
  by_cases hlt : i < R.length
  ·have hlt' : (i : Int) < R.length := by omega
   have hw2 : IntKind.i64.wrap ((i : Int) + 1) = (i : Int) + 1 := wrap64 (by omega) (by omega)
   obtain ⟨a, w, e1, e2, e3⟩ := hv.get hlt
   have hc9 := p92_q e3 hc
   have hm := List.getElem_mem hlt
   have htk : ∀ r ∈ R.take (i + 1), r ∈ R.take i ∨ r = R[i] := fun r hr => mem_take_succ hlt hr
   rw [List.length_map] at hc9
   generalize R[i] = r at *
   by_cases hr : (r.length : Int) = n
   ·have hne : ((r.length : Int) != n) = false := by simp [hr]
    rw [hne] at hc9
    simp [hlt', e1, e2, hc9, hw2, slotOf, -loadV]
    refine ⟨hlt, hI _ _ ⟨?_, _, _, rfl⟩⟩
    intro r' hr'
    rcases htk r' hr' with hr' | rfl
    ·exact hall r' hr'
    ·exact hr
   ·rw [ne_true hr] at hc9
    simp [hlt', e1, e2, hc9, slotOf, -loadV]
    refine hQ _ _ ⟨i, rfl, rfl, ?_⟩
    simp only [Int.natCast_nonneg, true_iff]
    rw [Bool.eq_false_iff]
    intro h
    have := List.all_eq_true.1 h r hm
    exact hr (by simpa using this)
  ·obtain rfl : i = R.length := by omega
   simp [slotOf]
   refine hQ _ _ ⟨-1, rfl, rfl, ?_⟩
   rw [List.take_length] at hall
   have : (R.all fun r => (r.length : Int) == n) = true := List.all_eq_true.2 fun r hr => by simpa using hall r hr
   simp [this]
 obtain ⟨r, h', e, i, rfl, rfl, hi⟩ := OptP.ex key
 refine CallP.eq (call_ofQ (af := Trnx.a91) rfl rfl fun Q hQ => ?_)
 simp only [Trnx.a91]
 simp [e, slotOf]
 refine hQ _ _ ⟨?_, rfl⟩
 have : decide (0 ≤ i) = !R.all fun r => (r.length : Int) == n := by
  rw [Bool.eq_iff_iff]
  simp only [decide_eq_true_eq, hi, Bool.not_eq_true']
 rw [this]
theorem pools109_q {H : Heap} {B c4 cs : Nat} {v : V} {R : List (List Int)} {b o d : Nat} {τ : Ty} (hB : H[B]? = some (.loop 10690 [.ref c4 0 1] .ready none)) (hc : H[c4]? = some (.cells 1 1 [v])) (hR : RegsH H v R) (hs : H[cs]? = some (.cells 1 3 [.ref b 0 1, .int .i64 o, .int .i64 d]))
  (hL : LayD H b τ) (lR : R.length < 2 ^ 39) (ll : ∀ r ∈ R, r.length < 2 ^ 60) (hd : d + τ.data ≤ R.length) (ho : o + 2 * τ.size < 2 ^ 40) (hz : τ.size < 2 ^ 20) :
  ∃ u X, (lim gl Trnx.aprog).call 109 [.yf B, .ref cs 0 1] H = some (if shpA R τ d then (.ret u, H ++ X) else (.pan (wrong 8), (H ++ X).set B (busy c4))) ∧ X = [.cells 1 1 [.yf B], .cells 1 1 [clo110 H.length (H.length + 1)]] := by
 obtain ⟨G, hG⟩ : ∃ G, G = H ++ [.cells 1 1 [.yf B], .cells 1 1 [clo110 H.length (H.length + 1)]] := ⟨_, rfl⟩
 have hLe : Le H G := by rw [hG]; exact (Le.refl H).app _
 have hW : WalkH G B c4 H.length (H.length + 1) v R := ⟨by rw [hG]; exact get_app hB, hLe _ _ _ _ hc, hR.le hLe, by rw [hG]; simp, by rw [hG]; simp, lR, ll⟩
 have hw := walk_q hW τ b o d (hL.le hLe) hd ho hz
 have os := objCells_of (hLe _ _ _ _ hs)
 have ow := objCells_of hW.hw
 have hst : storeV (H ++ [.cells 1 1 [.yf B], .cells 1 1 [.nilf]]) (.ref (H.length + 1) 0 1) (clo110 H.length (H.length + 1)) 1 = some G := by
  have : objCells (H ++ [.cells 1 1 [.yf B], .cells 1 1 [.nilf]]) (H.length + 1) = some (1, 1, [.nilf]) := by simp [objCells]
  rw [hG]
  simp [storeV, this]
 have key : CallP gl Trnx.aprog 109 [.yf B, .ref cs 0 1] H (fun r h' => if shpA R τ d then r = .ret (.tup []) ∧ h' = G else r = .pan (wrong 8) ∧ h' = G.set B (busy c4)) := by
  refine call_ofQ (af := Trnx.a109) rfl rfl fun Q hQ => ?_
  simp only [Trnx.a109]
  cases e : shpA R τ d
  ·rw [e, wres, if_neg (by simp)] at hw
   simp [hst, slotOf]
   simp [ow, os, hw, slotOf]
   exact hQ _ _ (by simp [e])
  ·rw [e, wres, if_pos rfl] at hw
   simp [hst, slotOf]
   simp [ow, os, hw, slotOf]
   exact hQ _ _ (by simp [e])
 obtain ⟨r, h', e, hq⟩ := OptP.ex key
 refine ⟨.tup [], _, ?_, rfl⟩
 rw [e, ← hG]
 split
 ·rename_i h; rw [if_pos h] at hq; rw [hq.1, hq.2]
 ·rename_i h; rw [if_neg h] at hq; rw [hq.1, hq.2]
theorem pools93_q (H : Heap) (b o d : Nat) : CC 93 [spotV b o d] H (.ret (.func (.func 109) [] [.ref H.length 0 1])) (H ++ [.cells 1 3 [.ref b 0 1, .int .i64 o, .int .i64 d]]) := by
 refine CallP.eq (call_ofQ (af := Trnx.a93) rfl rfl fun Q hQ => ?_)
 simp only [Trnx.a93]
 simp [slotOf]
 exact hQ _ _ ⟨rfl, rfl⟩
end Go.Proofs.Nst
set_option linter.unusedVariables false
set_option linter.unusedSimpArgs false
namespace Go.Proofs.Nst
open Go Go.Am
def AllC (H : Heap) : Prop := ∀ o ∈ H, ∃ n sz cs, o = Am.Obj.cells n sz cs
theorem AllC.ext {H G : Heap} (h : AllC H) (hl : Le H G) (hn : H.length ≤ G.length) : ∃ X, G = H ++ X := ext_of hn fun j hj => by
 obtain ⟨n, sz, cs, e⟩ := h H[j] (List.getElem_mem hj)
 have : H[j]? = some (.cells n sz cs) := by rw [List.getElem?_eq_getElem hj, e]
 rw [this]
 exact hl _ _ _ _ this
theorem okO_one (n : Nat) {v : V} (h : belowV n v = true) (a b : Nat) : okO n (.cells a b [v]) = true := by simp [okO, h]
theorem rdAll_get {τ : Ty} {own data : List (List Int)} {n : Nat} {l : List Vl} (h : rdAll τ own data n = some l) : l.length = n ∧ ∀ (i : Nat) (hi : i < n), ∃ x, rd τ own data i = some x ∧ l[i]? = some x := by
 have h1 := allO_some.1 h
 have hlen : l.length = n := by
  have := congrArg List.length h1
  simpa using this.symm
 refine ⟨hlen, fun i hi => ?_⟩
 have := congrArg (·[i]?) h1
 simp [hi, show i < l.length by omega] at this
 exact ⟨_, this, by simp [show i < l.length by omega]⟩
theorem rdAll_none {τ : Ty} {own data : List (List Int)} {n i : Nat} (hi : i < n) (h : rd τ own data i = none) : rdAll τ own data n = none := by
 rw [rdAll, allO_none, List.mem_map]
 exact ⟨i, List.mem_range.2 hi, h⟩
theorem rdAll_of {τ : Ty} {own data : List (List Int)} {n : Nat} {l : List Vl} (h : (List.range n).map (fun i => rd τ own data i) = l.map some) : rdAll τ own data n = some l := allO_some.2 h
def BldP (H : Heap) (b : Nat) (n : Int) (v : V) (R : List (List Int)) (τ : Ty) : Prop :=
 (bldE τ n R = 0 ∧ ∃ (w : V) (ts : List Tr) (X : Heap), CC 69 [.ref b 0 1, .int .i64 n, v] H (.ret w) (H ++ X) ∧ SlV (ts.map Tr.cs) w ∧ (∀ t ∈ ts, t.Ok) ∧ ts.map Tr.vl = bldL τ n R) ∨
 (bldE τ n R ≠ 0 ∧ ∃ G, CC 69 [.ref b 0 1, .int .i64 n, v] H (.pan (wrong (bldE τ n R))) G ∧ Le H G)
theorem built_q {H : Heap} {b : Nat} {n : Int} {v : V} {R : List (List Int)} {τ : Ty} (hA : AllC H) (hC : Closed H) (hv : belowV H.length v = true) (hR : RegsH H v R) (hL : LayD H b τ) (hz : τ.size < 2 ^ 20) (lR : R.length < 2 ^ 39) (ll : ∀ r ∈ R, r.length < 2 ^ 39) (hn64 : is64 n) : BldP H b n v R τ := by
 obtain ⟨H0, hH0⟩ : ∃ H0, H0 = H ++ [.cells 1 1 [.int .i64 n], .cells 1 1 [v]] := ⟨_, rfl⟩
 have le0 : Le H H0 := by rw [hH0]; exact (Le.refl H).app _
 have len0 : H0.length = H.length + 2 := by simp [hH0]
 have g3 : H0[H.length]? = some (.cells 1 1 [.int .i64 n]) := by simp [hH0]
 have g4 : H0[H.length + 1]? = some (.cells 1 1 [v]) := by simp [hH0]
 have o3 := objCells_of g3
 have o4 := objCells_of g4
 have hR0 := hR.le le0
 have hL0 := hL.le le0
 have r74 := ro74_q hL0
 have r90 := ro90_q hL0
 have r75 := ro75_q hL0
 rw [RO] at r74 r90 r75
 have m2 := must_t 2
 have m3 := must_t 3
 have m8 := must_t 8
 have f2 := must_f 2
 have f3 := must_f 3
 have f8 := must_f 8
 rw [PC] at m2 m3 m8
 have hbs := τ.both_size
 have hlv := hR0.len
 have wod : IntKind.i64.wrap ((τ.own : Int) + τ.data) = ((τ.own + τ.data : Nat) : Int) := by rw [wrap64 (by omega) (by omega)]; rfl
 have key : CallP gl Trnx.aprog 69 [.ref b 0 1, .int .i64 n, v] H (fun r H' => (bldE τ n R = 0 ∧ ∃ (w : V) (ts : List Tr) (X : Heap), r = .ret w ∧ H' = H ++ X ∧ SlV (ts.map Tr.cs) w ∧ (∀ t ∈ ts, t.Ok) ∧ ts.map Tr.vl = bldL τ n R) ∨ (bldE τ n R ≠ 0 ∧ r = .pan (wrong (bldE τ n R)) ∧ Le H H')) := by
  refine call_ofQ (af := Trnx.a69) rfl rfl fun Q hQ => ?_
  have hpan : ∀ (e : Int) (G : Heap), bldE τ n R = e → e ≠ 0 → Le H G → Q (.pan (wrong e)) G := fun e G h1 h2 h3 => hQ _ _ (.inr ⟨by rw [h1]; exact h2, by rw [h1], h3⟩)
  simp only [Trnx.a69, WX_seq]
  refine WX_last _ _ (c' := ⟨[.ref b 0 1, .int .i64 n, v, .ref H.length 0 1, .ref (H.length + 1) 0 1, .nils, .undef, .undef, .undef, .undef, .undef, .undef, .undef, .undef, .undef, .undef], [], none, none, H0⟩) ?_ ?_
  ·rw [hH0]; simp [hR.cell, hR.cells, slotOf]
  simp only [seqQ_norm, WX_seq, WX_scope]
  by_cases n1 : 0 ≤ n ∧ n ≤ 20000
  case neg =>
   have he : bldE τ n R = 2 := by simp only [bldE]; rw [if_pos n1]
   by_cases n2 : 0 ≤ n
   ·have n3 : ¬ n ≤ 20000 := by omega
    simp [o3, n2, n3, f2, slotOf, -pcall]
    exact hpan 2 _ he (by omega) le0
   ·simp [o3, n2, f2, slotOf, -pcall]
    exact hpan 2 _ he (by omega) le0
  obtain ⟨n2, n3⟩ := n1
  obtain ⟨m, rfl⟩ : ∃ m : Nat, n = m := ⟨n.toNat, by omega⟩
  refine WX_last _ _ (c' := ⟨[.ref b 0 1, .int .i64 m, v, .ref H.length 0 1, .ref (H.length + 1) 0 1, .nils, .undef, .undef, .undef, .undef, .undef, .undef, .undef, .undef, .undef, .undef], [], none, none, H0⟩) ?_ ?_
  ·simp [o3, n3, m2, slotOf, -pcall]
  simp only [seqQ_norm, WX_seq]
  by_cases c1 : R.length = τ.own + τ.data
  case neg =>
   have he : bldE τ m R = 8 := by simp only [bldE]; rw [if_neg (by omega), if_pos (fun h => c1 h.1)]
   have hne : ((R.length : Int) == ((τ.own + τ.data : Nat) : Int)) = false := ne_false (by omega)
   simp [o4, hlv, r74, r90, wod, hne, f8, slotOf, forget, AOper.writes, -pcall, -Int.natCast_add]
   exact hpan 8 _ he (by omega) le0
  have heq : ((R.length : Int) == ((τ.own + τ.data : Nat) : Int)) = true := by rw [c1]; simp
  refine WX_last _ _ (c' := ⟨[.ref b 0 1, .int .i64 m, v, .ref H.length 0 1, .ref (H.length + 1) 0 1, .nils, .undef, .undef, .undef, .undef, .undef, .undef, .undef, .undef, .undef, .undef], [], none, none, H0⟩) ?_ ?_
  ·simp [o4, hlv, r74, r90, wod, heq, m8, slotOf, -pcall, -Int.natCast_add]
  simp only [seqQ_norm, WX_seq]
  obtain ⟨vs, sh1, sh2⟩ := id hR0
  obtain ⟨w0, hw0, shw⟩ := sh1.slc0 (hi := τ.own) (by rw [← sh2.length]; omega)
  have hany := any91_q (v := w0) (R := R.take τ.own) (n := (m : Int)) ⟨_, shw, sh2.take τ.own⟩ g3 (by simp; omega)
  cases c2 : (R.take τ.own).all (fun r => (r.length : Int) == (m : Int))
  case false =>
   have he : bldE τ m R = 8 := by simp only [bldE]; rw [if_neg (by omega), if_pos (fun h => by rw [c2] at h; cases h.2.1)]
   rw [c2] at hany
   simp [o4, r74, hw0, hany, f8, slotOf, forget, AOper.writes, -pcall]
   exact hpan 8 _ he (by omega) le0
  rw [c2] at hany
  refine WX_last _ _ (c' := ⟨[.ref b 0 1, .int .i64 m, v, .ref H.length 0 1, .ref (H.length + 1) 0 1, .nils, .undef, .undef, .undef, .undef, .undef, .undef, .undef, .undef, .undef, .undef], [], none, none, H0⟩) ?_ ?_
  ·simp [o4, r74, hw0, hany, m8, slotOf, -pcall]
  simp only [seqQ_norm, WX_seq, WX_skip]
  have ownl : ∀ j, j < τ.own → (R.getD j []).length = m := fun j hj => by
   have hjR : j < R.length := by omega
   have hm : R[j] ∈ R.take τ.own := by
    rw [List.mem_iff_getElem?]
    exact ⟨j, by rw [List.getElem?_take, if_pos hj]; simp [hjR]⟩
   have := List.all_eq_true.1 c2 _ hm
   simp at this
   simp [hjR]
   omega
  -- the function of the pools
  obtain ⟨H1, hH1⟩ : ∃ H1, H1 = H0 ++ [.cells 1 3 [.ref b 0 1, .int .i64 (0 : Nat), .int .i64 τ.own]] := ⟨_, rfl⟩
  have c93 := pools93_q H0 b 0 τ.own
  rw [← hH1] at c93
  have len1 : H1.length = H.length + 3 := by simp [hH1, len0]
  have le1 : Le H0 H1 := by rw [hH1]; exact (Le.refl H0).app _
  refine WX_last _ _ (c' := ⟨[.ref b 0 1, .int .i64 m, v, .ref H.length 0 1, .ref (H.length + 1) 0 1, .nils, .undef, .undef, .undef, .undef, .undef, .func (.func 109) [] [.ref H0.length 0 1], .undef, .undef, .undef, .undef], [], none, none, H1⟩) ?_ ?_
  ·simp [r75, c93, slotOf]
  simp only [seqQ_norm, WX_seq, WX_block]
  obtain ⟨H2, hH2⟩ : ∃ H2, H2 = H1 ++ [.loop 10690 [.ref (H.length + 1) 0 1] .ready none] := ⟨_, rfl⟩
  have le2 : Le H1 H2 := by rw [hH2]; exact (Le.refl H1).app _
  have len2 : H2.length = H.length + 4 := by simp [hH2, len1]
  have gB : H2[H1.length]? = some (.loop 10690 [.ref (H.length + 1) 0 1] .ready none) := by simp [hH2]
  obtain ⟨ur, X3, c109, hX3⟩ := pools109_q (H := H2) (B := H1.length) (c4 := H.length + 1) (cs := H0.length) (v := v) (R := R) (b := b) (o := 0) (d := τ.own) (τ := τ) gB (le2 _ _ _ _ (le1 _ _ _ _ g4)) (hR0.le (le1.trans le2)) (le2 _ _ _ _ (by simp [hH1])) (hL0.le (le1.trans le2)) lR (fun r hr => by have := ll r hr; omega) (by omega) (by omega) hz
  obtain ⟨G3, hG3⟩ : ∃ G3, G3 = H2 ++ X3 := ⟨_, rfl⟩
  rw [← hG3] at c109
  rw [hH2] at c109
  have le02 := (le0.trans le1).trans le2
  cases c3 : shpA R τ τ.own
  case false =>
   have hsc : shp τ (R.drop τ.own) = false := by
    rw [shp_cut] at c3
    rw [← c3]
    congr 1
    rw [List.take_of_length_le (by simp; omega)]
   have he : bldE τ m R = 8 := by simp only [bldE]; rw [if_neg (by omega), if_pos (fun h => by rw [hsc] at h; cases h.2.2)]
   rw [c3, if_neg (by simp)] at c109
   simp only [WX_range]
   simp [c109]
   refine hpan 8 _ he (by omega) ?_
   rw [hG3]
   refine (le02.app X3).set (fun a b c h => ?_) _
   have := le02 _ _ _ _ h
   rw [gB] at this
   cases this
  have hsc : shp τ (R.drop τ.own) = true := by
   rw [shp_cut] at c3
   rw [← c3]
   congr 1
   rw [List.take_of_length_le (by simp; omega)]
  rw [c3, if_pos rfl] at c109
  have hbld : bldE τ m R = sumE (rdAll τ (R.take τ.own) (R.drop τ.own) m) := by
   simp only [bldE]
   rw [if_neg (by omega), if_neg (fun h => h ⟨c1, c2, hsc⟩), Int.toNat_natCast]
  have hrdA : ∀ i, rdA R τ 0 τ.own i = rd τ (R.take τ.own) (R.drop τ.own) i := fun i => by
   rw [rd_cut, List.drop_zero]
   congr 1
   rw [List.take_of_length_le (by simp; omega)]
  -- behind the range
  obtain ⟨H4, hH4⟩ : ∃ H4, H4 = G3.set H1.length (.loop 10690 [.ref (H.length + 1) 0 1] .exhausted none) := ⟨_, rfl⟩
  have gB3 : G3[H1.length]? = some (.loop 10690 [.ref (H.length + 1) 0 1] .ready none) := by rw [hG3]; exact get_app gB
  have len4 : H4.length = H.length + 6 := by simp [hH4, hG3, hX3, len2]
  have le4 : Le H0 H4 := by
   rw [hH4, hG3]
   refine ((le1.trans le2).app X3).set (fun a b c h => ?_) _
   have := (le1.trans le2) _ _ _ _ h
   rw [gB] at this
   cases this
  have cl4 : Closed H4 := by
   have cl0 : Closed H0 := by
    rw [hH0]
    refine hC.app fun o ho => ?_
    simp only [List.mem_cons, List.not_mem_nil, or_false] at ho
    rcases ho with rfl | rfl
    ·exact okO_ints _ _ _ [_]
    ·exact okO_one _ (belowV_mono (by simp) v hv) _ _
   have cl1 : Closed H1 := by
    rw [hH1]
    refine cl0.app fun o ho => ?_
    rw [List.mem_singleton.1 ho]
    have := hL0.lt
    simp [okO, belowV]
    omega
   have cl2 : Closed H2 := by
    rw [hH2]
    refine cl1.app fun o ho => ?_
    rw [List.mem_singleton.1 ho]
    simp [okO, belowV]
    omega
   have cl3 : Closed (H2 ++ X3) := by
    refine cl2.app fun o ho => ?_
    rw [hX3] at ho ⊢
    simp only [List.mem_cons, List.not_mem_nil, or_false] at ho
    rcases ho with rfl | rfl
    ·simp [okO, belowV]; omega
    ·simp [okO, belowV, belowL]
   rw [hH4, hG3]
   refine cl3.set _ ?_
   simp [okO, belowV, hX3]
   omega
  simp only [WX_range]
  simp [c109, gB3]
  rw [← hH4]
  -- the holder
  obtain ⟨H6, hH6⟩ : ∃ H6, H6 = H4 ++ [.map [], .cells 1 2 [v, .map H4.length]] := ⟨_, rfl⟩
  have le6 : Le H0 H6 := by rw [hH6]; exact le4.app _
  have o44 := objCells_of (le4 _ _ _ _ g4)
  have hHold : HoldH H6 (H4.length + 1) H4.length v R (sp b τ 0 τ.own) [] := by
   refine ⟨by simp [hH6], by simp [hH6], hR0.le le6, ?_, by simp [MemoOK], ?_⟩
   ·intro e he
    have hLb := hL0.le le6
    clear hQ hpan
    have gen : ∀ (τ : Ty) (b o d : Nat), LayD H6 b τ → ∀ e ∈ sp b τ o d, LayD H6 e.1 e.2.1 := by
     intro τ
     induction τ with
     | unit => intro b o d h e he; simp [sp] at he; subst he; exact h
     | int => intro b o d h e he; simp [sp] at he; subst he; exact h
     | pair x y ih1 ih2 =>
      intro b o d h e he
      simp only [sp, List.mem_cons, List.mem_append] at he
      rcases he with rfl | he | he
      ·exact h
      ·exact ih1 _ _ _ h.2.2.1 e he
      ·exact ih2 _ _ _ h.2.2.2 e he
     | sum x y ih1 ih2 =>
      intro b o d h e he
      simp only [sp, List.mem_cons, List.mem_append] at he
      rcases he with rfl | he | he
      ·exact h
      ·exact ih1 _ _ _ h.2.2.1 e he
      ·exact ih2 _ _ _ h.2.2.2 e he
     | seq x ih =>
      intro b o d h e he
      simp only [sp, List.mem_cons] at he
      rcases he with rfl | he
      ·exact h
      ·exact ih _ _ _ h.2.2 e he
    exact gen τ b 0 τ.own hLb e he
   ·rw [hH6]
    refine cl4.app fun o ho => ?_
    simp only [List.mem_cons, List.not_mem_nil, or_false] at ho
    rcases ho with rfl | rfl
    ·rfl
    ·have : belowV (H4 ++ [Am.Obj.map [], .cells 1 2 [v, .map H4.length]]).length v = true := belowV_mono (by simp; omega) v hv
     simp only [okO, List.all_cons, List.all_nil, Bool.and_true, this, Bool.true_and]
     simp [belowV]
  have henv : Env R (sp b τ 0 τ.own) := ⟨lR, ll, fun b' s s' h1 h2 => sp_fun τ b 0 τ.own h1 h2⟩
  have hrng : ∀ i, i < m → Rng R τ 0 τ.own i := fun i hi => ⟨fun j hj => ⟨by omega, by rw [Nat.zero_add, ownl j hj]; exact hi⟩, by omega, c3, by omega, hz⟩
  have hroom : room = 140737488355328 := by simp [room]
  have o63 : objCells (H4 ++ [.map [], .cells 1 2 [v, .map H4.length]]) H.length = some (1, 1, [.int .i64 m]) := by rw [← hH6]; exact objCells_of (le6 _ _ _ _ g3)
  have hvc := hR.cell
  have hvcs := hR.cells
  simp [o44, o63, hvc, hvcs, fill, slotOf]
  rw [← hH6]
  have hpanic : ∀ (e : Int) (G : Heap), bldE τ m R = e → e ≠ 0 → Le H6 G → Q (.pan (wrong e)) G := fun e G h1 h2 h3 => hpan e G h1 h2 ((le0.trans le6).trans h3)
  refine loop_nQ m (fun i c => ∃ (l : List Vl) (G : Heap) (es : List (V × V)) (s8 : V) (fl : Option (Nat × V)), c = ⟨[.ref b 0 1, .int .i64 m, v, .ref H.length 0 1, .ref (H.length + 1) 0 1, .nils, .ref (H4.length + 1) 0 1, .int .i64 (min 20001 (Vl.nodesL l) : Nat), s8, .undef, .undef, .func (.func 109) [] [.ref H0.length 0 1], .int .i64 m, .int .i64 i, .undef, .undef], [(.undef, [])], fl, none, G⟩ ∧
   (List.range i).map (fun i => rd τ (R.take τ.own) (R.drop τ.own) i) = l.map some ∧ Dyn H6 G H4.length R (sp b τ 0 τ.own) es) ?_ ⟨[], H6, [], .undef, none, rfl, rfl, hHold.self⟩
  rintro I hI i c hi ⟨l, G, es, s8, fl, rfl, hl, hD⟩
  have hHG := hHold.dyn hD
  have hLG := hHG.hS _ (sp_self b τ 0 τ.own)
  have r75G := ro75_q hLG
  rw [RO] at r75G
  by_cases hlt : i < m
  ·have wk1 : IntKind.i64.wrap ((i : Int) + 1) = (i : Int) + 1 := wrap64 (by omega) (by omega)
   have hr := reach_q henv τ b 0 τ.own i hHG (fun e he => he) (hrng i hlt)
   unfold ReachP at hr
   rw [hrdA] at hr
   cases hx : rd τ (R.take τ.own) (R.drop τ.own) i with
   | none =>
    rw [hx] at hr
    obtain ⟨G1, c1, l1⟩ := hr
    simp [hlt, r75G, c1, slotOf]
    exact hpanic 8 _ (by rw [hbld, rdAll_none hlt hx]; rfl) (by omega) (hD.le.trans l1)
   | some x =>
    rw [hx] at hr
    obtain ⟨es1, G1, c1, d1⟩ := hr
    have hsx := sat_le x
    have wm : IntKind.i64.wrap (((min 20001 (Vl.nodesL l) : Nat) : Int) + (sat x : Nat)) = ((min 20001 (Vl.nodesL l) + sat x : Nat) : Int) := by rw [wrap64 (by omega) (by omega)]; rfl
    have emin : (if ((min 20001 (Vl.nodesL l) + sat x : Nat) : Int) < 20001 then ((min 20001 (Vl.nodesL l) + sat x : Nat) : Int) else 20001) = ((min 20001 (Vl.nodesL (l ++ [x])) : Nat) : Int) := by
     rw [Vl.nodesL_append]
     simp only [Vl.nodesL]
     have hs : sat x = min 20001 x.nodes := rfl
     by_cases hh : ((min 20001 (Vl.nodesL l) + sat x : Nat) : Int) < 20001
     ·rw [if_pos hh]; omega
     ·rw [if_neg hh]; omega
    have hI := hI (i + 1) ⟨[.ref b 0 1, .int .i64 m, v, .ref H.length 0 1, .ref (H.length + 1) 0 1, .nils, .ref (H4.length + 1) 0 1, .int .i64 (min 20001 (Vl.nodesL (l ++ [x])) : Nat), .int .i64 i, .undef, .undef, .func (.func 109) [] [.ref H0.length 0 1], .int .i64 m, .int .i64 ((i : Int) + 1), .undef, .undef], [(.undef, [])], none, none, G1⟩
     ⟨l ++ [x], G1, es1, _, _, rfl, by rw [List.range_succ, List.map_append, hl, List.map_append, List.map_cons, List.map_nil, hx]; rfl, hD.trans d1⟩
    generalize min 20001 (Vl.nodesL l) = q at *
    generalize min 20001 (Vl.nodesL (l ++ [x])) = q2 at *
    simp [hlt, r75G, c1, wm, emin, wk1, slotOf, -Int.natCast_add]
    exact hI
  ·obtain rfl : i = m := by omega
   have hall := rdAll_of hl
   by_cases hle : Vl.nodesL l ≤ 20000
   case neg =>
    have hq : ¬ ((min 20001 (Vl.nodesL l) : Nat) : Int) ≤ 20000 := by omega
    generalize min 20001 (Vl.nodesL l) = q at *
    have hq' : ¬ q ≤ 20000 := by omega
    simp [hq, hq', f3, slotOf, -pcall]
    exact hpanic 3 _ (by rw [hbld, hall]; simp only [sumE]; rw [if_neg hle]) (by omega) hD.le
   have hE : bldE τ i R = 0 := by rw [hbld, hall]; simp only [sumE]; rw [if_pos hle]
   have hL : bldL τ i R = l := by simp only [bldL]; rw [Int.toNat_natCast, hall]; rfl
   have hq : ((min 20001 (Vl.nodesL l) : Nat) : Int) ≤ 20000 := by omega
   have hlen : l.length = i := by
    have := congrArg List.length hl
    simpa using this.symm
   have oG3 := objCells_of (hD.le _ _ _ _ (le6 _ _ _ _ g3))
   have oG3' : ∀ X, objCells (G ++ X) H.length = some (1, 1, [.int .i64 i]) := fun X => objCells_of (get_app (hD.le _ _ _ _ (le6 _ _ _ _ g3)))
   generalize min 20001 (Vl.nodesL l) = q at *
   have hq' : q ≤ 20000 := by omega
   simp [hq, hq', m3, oG3', slotOf, -pcall]
   refine loop_nQ i (fun k c => ∃ (ts : List Tr) (s10 : V) (fl : Option (Nat × V)), c = ⟨[.ref b 0 1, .int .i64 i, v, .ref H.length 0 1, .ref (H.length + 1) 0 1, .nils, .ref (H4.length + 1) 0 1, .int .i64 q, s8, .sl G.length 0 k k 3 false, s10, .func (.func 109) [] [.ref H0.length 0 1], .int .i64 i, .int .i64 i, .int .i64 i, .int .i64 k], [(.undef, [])], fl, none, G ++ [.cells k 3 (ts.map Tr.cs).flatten]⟩ ∧
    (∀ t ∈ ts, t.Ok) ∧ ts.map Tr.vl = l.take k ∧ ts.length = k) ?_ ⟨[], _, _, rfl, by simp, by simp, rfl⟩
   rintro J hJ k c hk ⟨ts, s10, fl, rfl, hok, hvl, htl⟩
   by_cases hkt : k < i
   ·have wk1 : IntKind.i64.wrap ((k : Int) + 1) = (k : Int) + 1 := wrap64 (by omega) (by omega)
    have hHR : HoldR (G ++ [.cells k 3 (ts.map Tr.cs).flatten]) (H4.length + 1) H4.length v R := HoldR.app ⟨hHG.hh, hHG.hR, hHG.cl⟩ _ _ (pure_cells ts hok)
    have hLG' := hLG.le ((Le.refl G).app [.cells k 3 (ts.map Tr.cs).flatten])
    simp only at hLG'
    have r75' := ro75_q hLG'
    rw [RO] at r75'
    have hxk : rd τ (R.take τ.own) (R.drop τ.own) k = some (l[k]'(by omega)) := by
     have := congrArg (·[k]?) hl
     simpa [hkt, show k < l.length by omega] using this
    obtain ⟨t1, o1, v1, c1⟩ := (value_q lR ll τ b 0 τ.own k _ hHR hLG' (hrng k hkt) (by rw [hrdA]; exact hxk)).use hHR.cl
    have hap := appV_own (h := G ++ [.cells k 3 (ts.map Tr.cs).flatten]) (o := G.length) (n := k) (sz := 3) (bytes := 40) (cs := (ts.map Tr.cs).flatten) (y := .sv [[.int .i64 t1.k, .int .i64 t1.n, t1.v]] true) (k := 1) (ys := [.int .i64 t1.k, .int .i64 t1.n, t1.v]) (by simp) rfl rfl rfl (by omega)
    rw [set_last] at hap
    have hJ := hJ (k + 1) ⟨[.ref b 0 1, .int .i64 i, v, .ref H.length 0 1, .ref (H.length + 1) 0 1, .nils, .ref (H4.length + 1) 0 1, .int .i64 q, s8, .sl G.length 0 (k + 1) (k + 1) 3 false, .int .i64 k, .func (.func 109) [] [.ref H0.length 0 1], .int .i64 i, .int .i64 i, .int .i64 i, .int .i64 ((k : Int) + 1)], [(.undef, [])], none, none, G ++ [.cells (k + 1) 3 ((ts.map Tr.cs).flatten ++ [.int .i64 t1.k, .int .i64 t1.n, t1.v])]⟩
     ⟨ts ++ [t1], .int .i64 k, none, by simp [t1.cs_eq], by
      intro t ht
      rcases List.mem_append.1 ht with ht | ht
      ·exact hok t ht
      ·rw [List.mem_singleton.1 ht]; exact o1, by
      rw [List.map_append, hvl, ← List.take_append_getElem (show k < l.length by omega), List.map_cons, List.map_nil, v1], by simp [htl]⟩
    have cc1 := SlV.cell o1.sl
    have pc1 := SlV.pure o1.sl
    rw [t1.cs_eq] at c1
    generalize (ts.map Tr.cs).flatten = C at *
    simp [hkt, r75', c1, hap, wk1, cc1, pc1, fill, chunks, slotOf, -ecallF]
    exact hJ
   ·obtain rfl : k = i := by omega
    have hfz : frzV (G ++ [.cells k 3 (ts.map Tr.cs).flatten]) (.sl G.length 0 k k 3 false) = some (.sv (ts.map Tr.cs) false, G ++ [.gone]) := by
     have hp := pure_cells ts hok
     have hch := chunks_map Tr.cs 3 ts fun x _ => x.cs_length
     rw [htl] at hch
     have ho : objCells (G ++ [.cells k 3 (ts.map Tr.cs).flatten]) G.length = some (k, 3, (ts.map Tr.cs).flatten) := by simp [objCells]
     simp [frzV, viewV, ho, hp, hch]
    obtain ⟨Y, hY⟩ := hA.ext (((le0.trans le6).trans hD.le).app [.gone]) (by
     have := hD.len
     simp [hH6, len4] at this ⊢
     omega)
    generalize (ts.map Tr.cs).flatten = C at *
    simp [hfz, slotOf]
    refine hQ _ _ (.inl ⟨hE, .sv (ts.map Tr.cs) false, ts, Y, rfl, hY, .sv false, hok, ?_⟩)
    rw [hvl, hL, List.take_of_length_le (by omega)]
 obtain ⟨r, H', e, hq⟩ := OptP.ex key
 rcases hq with ⟨h0, w, ts, X, rfl, rfl, h1, h2, h3⟩ | ⟨h0, rfl, h1⟩
 ·exact .inl ⟨h0, w, ts, X, e, h1, h2, h3⟩
 ·exact .inr ⟨h0, H', e, h1⟩
end Go.Proofs.Nst
set_option linter.unusedVariables false
set_option linter.unusedSimpArgs false
namespace Go.Proofs.Nst
open Go Go.Am
def NoLong (l : List (Option Tr)) : Prop := ∀ t, some t ∈ l → t.long = false
theorem long_kids {t : Tr} (h : t.long = false) : ∀ x ∈ t.l, x.long = false := by
 obtain ⟨k, n, v, l⟩ := t
 simp only [Tr.long, Bool.or_eq_false_iff] at h
 intro x hx
 rw [Bool.eq_false_iff]
 intro e
 have : Tr.longL l = true := Tr.longL_iff.2 ⟨x, hx, e⟩
 rw [this] at h
 cases h.2
theorem NoLong.map {l : List (Option Tr)} (h : NoLong l) (f : Option Tr → Option Tr) (h0 : f none = none) (hf : ∀ t u, f (some t) = some u → u ∈ t.l) : NoLong (l.map f) := by
 intro t ht
 obtain ⟨o, ho, he⟩ := List.mem_map.1 ht
 cases o with
 | none => rw [h0] at he; cases he
 | some u => exact long_kids (h u ho) t (hf u t he)
theorem NoLong.pool {l : List (Option Tr)} (h : NoLong l) : NoLong ((poolS l).map some) := by
 intro t ht
 obtain ⟨x, hx, he⟩ := List.mem_map.1 ht
 cases he
 simp only [poolS, List.mem_flatten, List.mem_map] at hx
 obtain ⟨_, ⟨o, ho, rfl⟩, hx⟩ := hx
 cases o with
 | none => simp [kidsO] at hx
 | some u => exact long_kids (h u ho) _ hx
theorem NoLong.partP {l : List (Option Tr)} (h : NoLong l) (k : Nat) : NoLong (l.map (partP k)) := h.map _ rfl fun t u e => List.mem_of_getElem? e
theorem NoLong.partU {l : List (Option Tr)} (h : NoLong l) (k : Int) : NoLong (l.map (partU k)) := h.map _ rfl fun t u e => by
 simp only [Nst.partU] at e
 split at e
 ·exact List.mem_of_getElem? e
 ·cases e
theorem rg_nth {own : List (List Int)} {j i : Nat} {r : List Int} {x : Int} (h1 : own[j]? = some r) (h2 : r[i]? = some x) : rg own j i = x := by
 simp [rg, List.getD_eq_getElem?_getD, h1, h2]
theorem nth_map {α β : Type} (f : α → β) {l : List α} {i : Nat} {x : α} (h : l[i]? = some x) : (l.map f)[i]? = some (f x) := by simp [h]
theorem poolS_nth {l : List (Option Tr)} {i : Nat} {t : Tr} (h : l[i]? = some (some t)) {k : Nat} (hk : k < t.l.length) : (poolS l)[(poolS (l.take i)).length + k]? = some t.l[k] ∧ (poolS (l.take i)).length + t.l.length ≤ (poolS l).length := by
 obtain ⟨hi, e⟩ := List.getElem?_eq_some_iff.1 h
 have h1 := poolS_take hi
 rw [e] at h1
 have h2 : poolS l = poolS (l.take (i + 1)) ++ poolS (l.drop (i + 1)) := by
  simp only [poolS]
  rw [← List.flatten_append, ← List.map_append, List.take_append_drop]
 rw [h2, h1]
 constructor
 ·rw [List.append_assoc, List.getElem?_append_right (by omega), Nat.add_sub_cancel_left, List.getElem?_append_left (by simpa [kidsO] using hk)]
  simp [kidsO, hk]
 ·simp only [List.length_append, kidsO]; omega
theorem head_own {x : Ty} {l : List (Option Tr)} (h : x.own ≠ 0) (r : List (List Int)) : ((((flatS x l).1 ++ r).headD []).length) = l.length := by
 have hl := (flatS_len x l).1
 cases e : (flatS x l).1 with
 | nil => rw [e] at hl; simp at hl; omega
 | cons y ys =>
  have := flatS_own x l y (by rw [e]; simp)
  simpa using this
theorem rd_flat : ∀ (τ : Ty) (l : List (Option Tr)), AllV τ l → NoLong l → ∀ (i : Nat) (t : Tr), l[i]? = some (some t) → rd τ (flatS τ l).1 (flatS τ l).2 i = some t.vl
 | .unit, l, h, h', i, t, hi => by
  have := (h _ (List.mem_of_getElem? hi)).2
  obtain ⟨k, n, v, l'⟩ := t
  simp [isV] at this
  obtain ⟨⟨rfl, rfl⟩, rfl⟩ := this
  rfl
 | .int, l, h, h', i, t, hi => by
  have := (h _ (List.mem_of_getElem? hi)).2
  have h2 : rg [l.map num] 0 i = t.n := rg_nth rfl (nth_map num hi)
  obtain ⟨k, n, v, l'⟩ := t
  simp [isV] at this
  obtain ⟨⟨rfl, h3⟩, rfl⟩ := this
  simp only [rd, flatS, h2]
  simp [Tr.n, h3, Tr.vl, Tr.vlL]
 | .pair a b, l, h, h', i, t, hi => by
  have hv := (h _ (List.mem_of_getElem? hi)).2
  obtain ⟨x, y, e, h1, h2⟩ := isV_pair hv
  have l1 := flatS_len a (l.map (partP 0))
  have i1 := rd_flat a _ h.fst (h'.partP 0) i x (by rw [nth_map _ hi]; simp [partP, e])
  have i2 := rd_flat b _ h.snd (h'.partP 1) i y (by rw [nth_map _ hi]; simp [partP, e])
  simp only [rd, flatS]
  rw [List.take_left' l1.1, List.take_left' l1.2, List.drop_left' l1.1, List.drop_left' l1.2, i1, i2]
  obtain ⟨k, n, v, l'⟩ := t
  simp only [Tr.l] at e
  subst e
  simp [isV] at hv
  obtain ⟨⟨rfl, rfl⟩, _⟩ := hv
  rfl
 | .sum a b, l, h, h', i, t, hi => by
  have hv := (h _ (List.mem_of_getElem? hi)).2
  obtain ⟨x, e, h1⟩ := isV_sum hv
  have l1 := flatS_len a (l.map (partU 0))
  have hg : ∀ X, rg (l.map num :: X) 0 i = t.n := fun X => rg_nth rfl (nth_map num hi)
  simp only [rd, flatS, hg, List.drop_succ_cons, List.drop_zero]
  rw [List.take_left' l1.1, List.take_left' l1.2, List.drop_left' l1.1, List.drop_left' l1.2]
  have hvl : t.vl = .mk 3 t.n [x.vl] := by
   obtain ⟨k, n, v, l'⟩ := t
   simp only [Tr.l] at e
   subst e
   simp [isV] at hv
   obtain ⟨rfl, _⟩ := hv
   rfl
  rw [hvl]
  rcases h1 with ⟨hn, h1⟩ | ⟨hn, h1⟩
  ·have i1 := rd_flat a _ h.left (h'.partU 0) i x (by rw [nth_map _ hi]; simp [partU, hn, e])
   rw [hn, if_pos rfl, i1]
   rfl
  ·have i2 := rd_flat b _ h.right (h'.partU 1) i x (by rw [nth_map _ hi]; simp [partU, hn, e])
   rw [hn, if_neg (by omega), if_pos rfl, i2]
   rfl
 | .seq a, l, h, h', i, t, hi => by
  have hv := (h _ (List.mem_of_getElem? hi)).2
  have hlg := h' _ (List.mem_of_getElem? hi)
  have h1 : ∀ X, rg (X :: [l.map lenO]) 1 i = (t.l.length : Nat) := fun X => rg_nth rfl (nth_map lenO hi)
  have h0 : ∀ X, rg (startsS 0 l :: X) 0 i = ((poolS (l.take i)).length : Nat) := fun X => rg_nth rfl (by have := (startsS_get 0 l i).1 t hi; rw [Nat.zero_add] at this; exact this)
  have hb : t.k = 4 ∧ t.n = 0 ∧ t.l.length ≤ 4096 := by
   obtain ⟨k, n, v, l'⟩ := t
   simp [isV] at hv
   obtain ⟨⟨rfl, rfl⟩, _⟩ := hv
   simp [Tr.long] at hlg
   exact ⟨rfl, rfl, hlg.1⟩
  obtain ⟨hk, hn, hb⟩ := hb
  have hvl : t.vl = .mk 4 0 (t.l.map Tr.vl) := by
   obtain ⟨k, n, v, l'⟩ := t
   cases hk
   cases hn
   simp only [Tr.vl, Tr.vlL_eq, Tr.l]
   rfl
  simp only [rd, flatS, h1, h0]
  rw [if_neg (by omega), hvl]
  by_cases hz : t.l.length = 0
  ·rw [if_pos (by omega), List.length_eq_zero_iff.1 hz]
   rfl
  rw [if_neg (by omega)]
  have hp := poolS_nth hi (k := 0) (by omega)
  have l1 := flatS_len a ((poolS l).map some)
  rw [List.take_left' l1.1, List.drop_left' l1.1, if_neg (by
   rintro (e | ⟨e1, e2⟩)
   ·omega
   ·rw [head_own e1, List.length_map] at e2
    omega)]
  rw [show allO ((List.range (t.l.length : Int).toNat).map fun k => rd a (flatS a ((poolS l).map some)).1 (flatS a ((poolS l).map some)).2 (if a.own = 0 then 0 else ((poolS (l.take i)).length : Int).toNat + k)) = some (t.l.map Tr.vl) from by
   rw [allO_some]
   refine List.ext_getElem (by simp) fun k hk1 hk2 => ?_
   simp at hk1
   have hp := poolS_nth hi hk1
   have ih := rd_flat a ((poolS l).map some) h.pool h'.pool _ _ (nth_map some hp.1)
   simp only [List.getElem_map, List.getElem_range]
   rw [← ih]
   by_cases e : a.own = 0
   ·rw [rd_unit a e, rd_unit a e]
   ·rw [if_neg e, Int.toNat_natCast]]
  rfl
theorem shp_flat : ∀ (τ : Ty) (l : List (Option Tr)), shp τ (flatS τ l).2 = true
 | .unit, l => rfl
 | .int, l => rfl
 | .pair a b, l => by
  have l1 := flatS_len a (l.map (partP 0))
  simp only [shp, flatS]
  rw [List.take_left' l1.2, List.drop_left' l1.2, shp_flat a, shp_flat b]
  rfl
 | .sum a b, l => by
  have l1 := flatS_len a (l.map (partU 0))
  simp only [shp, flatS]
  rw [List.take_left' l1.2, List.drop_left' l1.2, shp_flat a, shp_flat b]
  rfl
 | .seq a, l => by
  have l1 := flatS_len a ((poolS l).map some)
  simp only [shp, flatS]
  rw [List.take_left' l1.1, List.drop_left' l1.1, shp_flat a, Bool.and_true, List.all_eq_true]
  intro x hx
  have h1 := flatS_own a _ x hx
  have hne : a.own ≠ 0 := by
   intro e
   rw [e] at l1
   rw [List.length_eq_zero_iff.1 l1.1] at hx
   cases hx
  rw [head_own hne, h1]
  simp
theorem bld_canon {τ : Ty} {l : List Tr} (hV : ∀ t ∈ l, t.Ok ∧ isV τ t = true) (hs : sizedL l = true) : bldE τ l.length (canonS τ l) = 0 ∧ bldL τ l.length (canonS τ l) = l.map Tr.vl := by
 simp only [sizedL, Bool.and_eq_true, decide_eq_true_eq, Bool.not_eq_true'] at hs
 have hn := Tr.nodesL_length l
 have hA : AllV τ (l.map some) := by
  intro t ht
  obtain ⟨x, hx, e⟩ := List.mem_map.1 ht
  cases e
  exact hV _ hx
 have hN : NoLong (l.map some) := by
  intro t ht
  obtain ⟨x, hx, e⟩ := List.mem_map.1 ht
  cases e
  rw [Bool.eq_false_iff]
  intro e
  rw [Tr.longL_iff.2 ⟨_, hx, e⟩] at hs
  cases hs.2
 have l1 := flatS_len τ (l.map some)
 have hall : rdAll τ ((canonS τ l).take τ.own) ((canonS τ l).drop τ.own) l.length = some (l.map Tr.vl) := by
  refine rdAll_of (List.ext_getElem (by simp) fun k hk1 hk2 => ?_)
  simp at hk1
  simp only [List.getElem_map, List.getElem_range, canonS]
  rw [List.take_left' l1.1, List.drop_left' l1.1]
  exact rd_flat τ _ hA hN k l[k] (by simp [hk1])
 have hsum : sumE (some (l.map Tr.vl)) = 0 := by
  simp only [sumE]
  rw [← Tr.vlL_eq, vlL_nodes, if_pos hs.1]
 have ha : ((canonS τ l).take τ.own).all (fun r => (r.length : Int) == (l.length : Int)) = true := by
  rw [canonS, List.take_left' l1.1, List.all_eq_true]
  intro x hx
  have := flatS_own τ _ x hx
  simp [this]
 have hb : shp τ ((canonS τ l).drop τ.own) = true := by
  rw [canonS, List.drop_left' l1.1]
  exact shp_flat τ _
 constructor
 ·simp only [bldE]
  rw [if_neg (by omega), if_neg (fun h => h ⟨canonS_len τ l, ha, hb⟩), Int.toNat_natCast, hall, hsum]
 ·simp only [bldL]
  rw [Int.toNat_natCast, hall]
  rfl
theorem rd_isV : ∀ (τ : Ty) (own data : List (List Int)) (i : Nat) (t : Tr), rd τ own data i = some t.vl → isV τ t = true
 | .unit, own, data, i, t, h => by
  obtain ⟨k, n, v, l⟩ := t
  simp [rd, Tr.vl, Tr.vlL_eq] at h
  obtain ⟨rfl, rfl, rfl⟩ := h
  rfl
 | .int, own, data, i, t, h => by
  obtain ⟨k, n, v, l⟩ := t
  simp only [rd] at h
  split at h
  ·rename_i hw
   simp [Tr.vl, Tr.vlL_eq] at h
   obtain ⟨rfl, rfl, rfl⟩ := h
   simp [isV, hw]
  ·cases h
 | .pair a b, own, data, i, t, h => by
  obtain ⟨k, n, v, l⟩ := t
  simp only [rd] at h
  cases e1 : rd a (own.take a.own) (data.take a.data) i with
  | none => rw [e1] at h; cases h
  | some x =>
   cases e2 : rd b (own.drop a.own) (data.drop a.data) i with
   | none => rw [e1, e2] at h; cases h
   | some y =>
    rw [e1, e2] at h
    simp [pairO, Tr.vl, Tr.vlL_eq] at h
    obtain ⟨rfl, rfl, h3⟩ := h
    match l, h3 with
    | [p, q], h3 =>
     simp at h3
     obtain ⟨rfl, rfl⟩ := h3
     have i1 := rd_isV a _ _ _ p e1
     have i2 := rd_isV b _ _ _ q e2
     simp [isV, i1, i2]
 | .sum a b, own, data, i, t, h => by
  obtain ⟨k, n, v, l⟩ := t
  simp only [rd] at h
  split at h
  ·cases e1 : rd a ((own.drop 1).take a.own) (data.take a.data) i with
   | none => rw [e1] at h; cases h
   | some x =>
    rw [e1] at h
    simp [Tr.vl, Tr.vlL_eq] at h
    obtain ⟨rfl, rfl, h3⟩ := h
    match l, h3 with
    | [p], h3 =>
     simp at h3
     subst h3
     have i1 := rd_isV a _ _ _ p e1
     simp [isV, i1]
  ·split at h
   ·cases e1 : rd b ((own.drop 1).drop a.own) (data.drop a.data) i with
    | none => rw [e1] at h; cases h
    | some x =>
     rw [e1] at h
     simp [Tr.vl, Tr.vlL_eq] at h
     obtain ⟨rfl, rfl, h3⟩ := h
     match l, h3 with
     | [p], h3 =>
      simp at h3
      subst h3
      have i1 := rd_isV b _ _ _ p e1
      simp [isV, i1]
   ·cases h
 | .seq a, own, data, i, t, h => by
  obtain ⟨k, n, v, l⟩ := t
  simp only [rd] at h
  split at h
  ·cases h
  split at h
  ·simp [Tr.vl, Tr.vlL_eq] at h
   obtain ⟨rfl, rfl, rfl⟩ := h
   rfl
  split at h
  ·cases h
  rename_i hz hc
  cases e1 : allO ((List.range (rg own 1 i).toNat).map fun k => rd a (data.take a.own) (data.drop a.own) (if a.own = 0 then 0 else (rg own 0 i).toNat + k)) with
  | none => rw [e1] at h; cases h
  | some xs =>
   rw [e1] at h
   simp [Tr.vl, Tr.vlL_eq] at h
   obtain ⟨rfl, rfl, rfl⟩ := h
   have h1 := allO_some.1 e1
   simp only [isV, beq_self_eq_true, Bool.true_and, Bool.and_true, List.all_eq_true]
   intro x hx
   obtain ⟨j, hj, rfl⟩ := List.mem_iff_getElem.1 hx
   have := congrArg (·[j]?) h1
   simp [hj] at this
   obtain ⟨j', h2, h3⟩ := this
   exact rd_isV a _ _ _ _ h3
def Vl.n : Vl → Int
 | .mk _ n _ => n
def Vl.l : Vl → List Vl
 | .mk _ _ l => l
end Go.Proofs.Nst
set_option linter.unusedVariables false
set_option linter.unusedSimpArgs false
namespace Go.Proofs.Nst
open Go Go.Am
theorem ecf_ret {n : Nat} {args : List V} {H H' : Heap} {v : V} (h : CC n args H (.ret v) H') : ecallF (lim gl Trnx.aprog) H false (.func (.func n) [] []) args = some (.val v H') := by
 simp only [ecallF, callee_func, List.nil_append, List.append_nil, h]
 simp
theorem ecf_pan {n : Nat} {args : List V} {H H' : Heap} {v : V} (h : CC n args H (.pan v) H') (b : Bool) : ecallF (lim gl Trnx.aprog) H b (.func (.func n) [] []) args = some (.pan v H') := by
 simp only [ecallF, callee_func, List.nil_append, List.append_nil, h]
theorem ecf_cut {n : Nat} {args : List V} {H X : Heap} {v u : V} (hc : Closed H) (h : CC n args H (.ret v) (H ++ X)) (hv : viewW H.length (H ++ X) v = some u) : ecallF (lim gl Trnx.aprog) H true (.func (.func n) [] []) args = some (.val u H) := by
 simp only [ecallF, callee_func, List.nil_append, List.append_nil, h, if_true, hc.to X, hv]
 simp
def Fine (t : Tr) (l : List Tr) : Prop := ∃ τ, IsTy t τ ∧ τ.size ≤ 60 ∧ τ.deep ≤ 12 ∧ (∀ x ∈ l, isV τ x = true) ∧ sizedL l = true ∧ Tr.nodesL l ≤ 400
theorem fine_q (t : Tr) (ht : t.Ok) (l : List Tr) (v : V) (hv : SlV (l.map Tr.cs) v) (hl : ∀ x ∈ l, x.Ok) (hn : t.nodes < 2 ^ 50) (hm : Tr.nodesL l < 2 ^ 50) : ∃ b, PC 25 [.agg t.cs, v] (.bool b) ∧ (b = true → Fine t l) := by
 have ct := cells_tr ht
 have hlv := len_tr hv
 have hlen := Tr.nodesL_length l
 have h1 := isType_q t ht (by omega)
 have h2 := great_q l v hv hl (by omega)
 rw [PC] at h1 h2
 have pa : pureL [.agg t.cs, v] = true := by simp [pureL, pureV, pure_tr ht, hv.pure]
 rcases tyErr_cases t with ⟨e, he, hte⟩ | ⟨τ, hτ, s1, s2, hte⟩
 ·rw [hte] at h1
  have hne : (e != 0) = true := by rcases he with rfl | rfl <;> rfl
  refine ⟨false, pc_of pa (fun h => rfl) ?_, by simp⟩
  refine call_ofQ (af := Trnx.a25) rfl rfl fun Q hQ => ?_
  simp only [Trnx.a25]
  simp [ct, h1, hne, slotOf, -pcall, -List.all_eq_true]
  exact hQ _ _ rfl
 rw [hte] at h1
 by_cases hg : 400 < Tr.nodesL l
 ·rw [decide_eq_true hg] at h2
  refine ⟨false, pc_of pa (fun h => rfl) ?_, by simp⟩
  refine call_ofQ (af := Trnx.a25) rfl rfl fun Q hQ => ?_
  simp only [Trnx.a25]
  simp [ct, h1, h2, slotOf, -pcall, -List.all_eq_true]
  exact hQ _ _ rfl
 rw [decide_eq_false hg] at h2
 have key : CallP gl Trnx.aprog 25 [.agg t.cs, v] [] (fun r h' => ∃ b, r = .ret (.bool b) ∧ (b = true → ∀ x ∈ l, x.sized = true ∧ isV τ x = true)) := by
  refine call_ofQ (af := Trnx.a25) rfl rfl fun Q hQ => ?_
  simp only [Trnx.a25]
  simp [ct, h1, h2, slotOf, -pcall, -List.all_eq_true]
  refine loop_nQ l.length (fun i c => (∀ x ∈ l.take i, x.sized = true ∧ isV τ x = true) ∧ ∃ fl, c = ⟨[.agg t.cs, v, .agg t.cs, .bool false, .int .i64 i], [], fl, none, []⟩) ?_ ⟨by simp, _, rfl⟩
  rintro I hI i c hi ⟨hz, fl, rfl⟩
  by_cases hlt : i < l.length
  ·have hlt' : (i : Int) < l.length := by omega
   have hw2 : IntKind.i64.wrap ((i : Int) + 1) = (i : Int) + 1 := wrap64 (by omega) (by omega)
   have hi1 := idx_tr hv hlt
   have hm := List.getElem_mem hlt
   have hc := rcheck_q hτ ht s1 s2 l[i] (hl _ hm) (by have := Tr.nodesL_mem hm; omega)
   have hcw := cells_tr (hl _ hm)
   have htk : ∀ z ∈ l.take (i + 1), z ∈ l.take i ∨ z = l[i] := fun z hz => mem_take_succ hlt hz
   rw [PC] at hc
   generalize l[i] = w at *
   by_cases hk : chkE τ w = 0
   ·rw [hk] at hc
    simp [hlv, hlt', hi1, hcw, ct, hc, hw2, slotOf, -pcall, -List.all_eq_true]
    refine ⟨hlt, hI _ _ ⟨fun z hz2 => ?_, _, rfl⟩⟩
    rcases htk z hz2 with hz2 | rfl
    ·exact hz z hz2
    ·simp only [chkE] at hk
     split at hk
     ·rename_i a
      split at hk
      ·rename_i b; exact ⟨a, b⟩
      ·cases hk
     ·cases hk
   ·have hne := ne_true hk
    generalize chkE τ w = e at *
    simp [hlv, hlt', hi1, hcw, ct, hc, hne, slotOf, -pcall, -List.all_eq_true]
    exact hQ _ _ ⟨false, rfl, by simp⟩
  ·obtain rfl : i = l.length := by omega
   rw [List.take_length] at hz
   simp [hlv, slotOf]
   exact hQ _ _ ⟨true, rfl, fun _ => hz⟩
 obtain ⟨r, h', e, b, rfl, hb⟩ := OptP.ex key
 refine ⟨b, ?_, fun e => ?_⟩
 ·simp only [PC, pcall, callee_func, List.append_nil, List.nil_append]
  rw [if_pos pa, e]
  rfl
 ·have hb := hb e
  refine ⟨τ, hτ, s1, s2, fun x hx => (hb x hx).2, ?_, by omega⟩
  simp only [sizedL, Bool.and_eq_true, decide_eq_true_eq, Bool.not_eq_true']
  refine ⟨by omega, ?_⟩
  rw [Bool.eq_false_iff]
  intro h
  obtain ⟨x, hx, hxl⟩ := Tr.longL_iff.1 h
  have := (hb x hx).1
  simp [Tr.sized, hxl] at this
theorem layL_cells : ∀ (τ : Ty) (b : Nat), ∀ o ∈ layL b τ, ∃ n sz cs, o = Am.Obj.cells n sz cs
 | .unit, b, o, h => by simp [layL] at h; exact ⟨_, _, _, h⟩
 | .int, b, o, h => by simp [layL] at h; exact ⟨_, _, _, h⟩
 | .pair x y, b, o, h => by
  simp only [layL, List.mem_cons, List.mem_append] at h
  rcases h with rfl | h | rfl | h
  ·exact ⟨_, _, _, rfl⟩
  ·exact layL_cells x _ o h
  ·exact ⟨_, _, _, rfl⟩
  ·exact layL_cells y _ o h
 | .sum x y, b, o, h => by
  simp only [layL, List.mem_cons, List.mem_append] at h
  rcases h with rfl | h | rfl | h
  ·exact ⟨_, _, _, rfl⟩
  ·exact layL_cells x _ o h
  ·exact ⟨_, _, _, rfl⟩
  ·exact layL_cells y _ o h
 | .seq x, b, o, h => by
  simp only [layL, List.mem_cons, List.mem_append, List.not_mem_nil, or_false] at h
  rcases h with rfl | h | rfl
  ·exact ⟨_, _, _, rfl⟩
  ·exact layL_cells x _ o h
  ·exact ⟨_, _, _, rfl⟩
theorem layL_ok : ∀ (τ : Ty) (b m : Nat), b + objs τ ≤ m → ∀ o ∈ layL b τ, okO m o = true
 | .unit, b, m, hm, o, h => by simp [layL] at h; subst h; simp [okO, belowV]
 | .int, b, m, hm, o, h => by simp [layL] at h; subst h; simp [okO, belowV]
 | .pair x y, b, m, hm, o, h => by
  simp only [objs] at hm
  have := objs_pos y
  simp only [layL, List.mem_cons, List.mem_append] at h
  rcases h with rfl | h | rfl | h
  ·simp [okO, belowV]; omega
  ·exact layL_ok x _ m (by omega) o h
  ·simp [okO, belowV]; omega
  ·exact layL_ok y _ m (by omega) o h
 | .sum x y, b, m, hm, o, h => by
  simp only [objs] at hm
  have := objs_pos y
  simp only [layL, List.mem_cons, List.mem_append] at h
  rcases h with rfl | h | rfl | h
  ·simp [okO, belowV]; omega
  ·exact layL_ok x _ m (by omega) o h
  ·simp [okO, belowV]; omega
  ·exact layL_ok y _ m (by omega) o h
 | .seq x, b, m, hm, o, h => by
  simp only [objs] at hm
  have := objs_pos x
  simp only [layL, List.mem_cons, List.mem_append, List.not_mem_nil, or_false] at h
  rcases h with rfl | h | rfl
  ·simp [okO, belowV]; omega
  ·exact layL_ok x _ m (by omega) o h
  ·simp [okO, belowV]; omega
theorem AllC.app {H X : Heap} (h : AllC H) (hx : AllC X) : AllC (H ++ X) := fun o ho => by
 rcases List.mem_append.1 ho with ho | ho
 ·exact h o ho
 ·exact hx o ho
def BL (τ : Ty) (n : Int) (R : List (List Int)) (ts : List Tr) (u : V) : Prop := SlV (ts.map Tr.cs) u ∧ (∀ t ∈ ts, t.Ok) ∧ ts.map Tr.vl = bldL τ n R
theorem view_sl {cs : List (List V)} {u : V} (h : SlV cs u) (hp : pureV u = true) (lo : Nat) (G : Heap) : viewW lo G u = some u ∧ ∀ e, viewW lo G (.tup [u, .int .i64 e]) = some (.tup [u, .int .i64 e]) := by
 cases h <;> exact ⟨rfl, fun _ => rfl⟩
theorem built_use {H : Heap} {b : Nat} {n : Int} {v : V} {R : List (List Int)} {τ : Ty} (hA : AllC H) (hC : Closed H) (hv : belowV H.length v = true) (hR : RegsH H v R) (hL : LayD H b τ) (hz : τ.size < 2 ^ 20) (lR : R.length < 2 ^ 39) (ll : ∀ r ∈ R, r.length < 2 ^ 39) (hn64 : is64 n) :
  (bldE τ n R = 0 ∧ ∃ u ts, ecallF (lim gl Trnx.aprog) H true (.func (.func 69) [] []) [.ref b 0 1, .int .i64 n, v] = some (.val u H) ∧ BL τ n R ts u) ∨
  (bldE τ n R ≠ 0 ∧ ∃ G, ecallF (lim gl Trnx.aprog) H true (.func (.func 69) [] []) [.ref b 0 1, .int .i64 n, v] = some (.pan (wrong (bldE τ n R)) G) ∧ Le H G) := by
 rcases built_q hA hC hv hR hL hz lR ll hn64 with ⟨h0, w, ts, X, e, h1, h2, h3⟩ | ⟨h0, G, e, h1⟩
 ·exact .inl ⟨h0, w, ts, ecf_cut hC e (view_sl h1 (h1.pure) _ _).1, h1, h2, h3⟩
 ·exact .inr ⟨h0, G, ecf_pan e true, h1⟩
end Go.Proofs.Nst
set_option linter.unusedVariables false
set_option linter.unusedSimpArgs false
namespace Go.Proofs.Nst
open Go Go.Am
theorem asked_ecf {t : Tr} {τ : Ty} (hτ : IsTy t τ) (ho : t.Ok) (h1 : τ.size ≤ 60) (h2 : τ.deep ≤ 12) (H : Heap) : ecallF (lim gl Trnx.aprog) H false (.func (.func 53) [] []) [.agg t.cs] = some (.val (.ref H.length 0 1) (H ++ layL H.length τ)) := ecf_ret (asked_q hτ ho h1 h2 H)
structure BldH (H H2 : Heap) (τ : Ty) : Prop where
 eq : H2 = H ++ [.cells 1 1 [.int .i64 0]] ++ layL (H.length + 1) τ
 cell : H2[H.length]? = some (.cells 1 1 [.int .i64 0])
 lay : LayD H2 (H.length + 1) τ
 len : H.length + 1 < H2.length
 le : Le H H2
theorem bldH (H : Heap) (τ : Ty) : BldH H (H ++ [.cells 1 1 [.int .i64 0]] ++ layL (H.length + 1) τ) τ := by
 have h1 := layD_of τ (H ++ [.cells 1 1 [.int .i64 0]]) []
 simp only [List.append_nil, List.length_append, List.length_singleton] at h1
 refine ⟨rfl, by simp, h1, ?_, ((Le.refl H).app _).app _⟩
 have := objs_pos τ
 simp [layL_length]
 omega
theorem BldH.allC {H H2 : Heap} {τ : Ty} (h : BldH H H2 τ) (hA : AllC H) : AllC H2 := by
 rw [h.eq]
 exact (hA.app fun o ho => ⟨_, _, _, List.mem_singleton.1 ho⟩).app (layL_cells τ _)
theorem BldH.closed {H H2 : Heap} {τ : Ty} (h : BldH H H2 τ) (hC : Closed H) : Closed H2 := by
 rw [h.eq]
 refine (hC.app fun o ho => ?_).app fun o ho => layL_ok τ _ _ (by simp [layL_length]; omega) o ho
 rw [List.mem_singleton.1 ho]
 exact okO_ints _ _ _ [_]
theorem set_err {H G H2 : Heap} {τ : Ty} (hb : BldH H H2 τ) (hA : AllC H) (hl : Le H2 G) (e : Int) : ∃ X, G.set H.length (.cells 1 1 [.int .i64 e]) = H ++ X ∧ objCells (G.set H.length (.cells 1 1 [.int .i64 e])) H.length = some (1, 1, [.int .i64 e]) := by
 have hg := hl _ _ _ _ hb.cell
 obtain ⟨X, hX⟩ := hA.ext ((hb.le.trans hl).set_new (b := H.length) (Nat.le_refl _) (.cells 1 1 [.int .i64 e])) (by
  have := (List.getElem?_eq_some_iff.1 hg).1
  simp; omega)
 exact ⟨X, hX, objCells_set hg 1 1 _⟩
theorem build_q {H : Heap} {v : V} {R : List (List Int)} (hA : AllC H) (hC : Closed H) (hv : belowV H.length v = true) (hR : RegsH H v R) (lR : R.length < 2 ^ 39) (ll : ∀ r ∈ R, r.length < 2 ^ 39) {t : Tr} {τ : Ty} (hτ : IsTy t τ) (ho : t.Ok) (h1 : τ.size ≤ 60) (h2 : τ.deep ≤ 12) {n : Int} (hn : is64 n) :
  ∃ (u : V) (X : Heap) (ts : List Tr), CC 26 [.agg t.cs, .int .i64 n, v] H (.ret (.tup [u, .int .i64 (bldE τ n R)])) (H ++ X) ∧ SlV (ts.map Tr.cs) u ∧ (∀ t ∈ ts, t.Ok) ∧ (bldE τ n R = 0 → ts.map Tr.vl = bldL τ n R) := by
 have hcc := cells_tr ho
 have hb := bldH H τ
 obtain ⟨H2, hH2⟩ : ∃ H2, H2 = H ++ [.cells 1 1 [.int .i64 0]] ++ layL (H.length + 1) τ := ⟨_, rfl⟩
 have hc := asked_ecf hτ ho h1 h2 (H ++ [.cells 1 1 [.int .i64 0]])
 simp only [List.length_append, List.length_singleton] at hc
 rw [← hH2] at hc hb
 have hvc := hR.cell
 have hvcs := hR.cells
 have key : CallP gl Trnx.aprog 26 [.agg t.cs, .int .i64 n, v] H (fun r h' => ∃ (u : V) (X : Heap) (ts : List Tr), r = .ret (.tup [u, .int .i64 (bldE τ n R)]) ∧ h' = H ++ X ∧ SlV (ts.map Tr.cs) u ∧ (∀ t ∈ ts, t.Ok) ∧ (bldE τ n R = 0 → ts.map Tr.vl = bldL τ n R)) := by
  refine call_ofQ (af := Trnx.a26) rfl rfl fun Q hQ => ?_
  simp only [Trnx.a26]
  rcases built_use (hb.allC hA) (hb.closed hC) (belowV_mono (by have := hb.len; omega) v hv) (hR.le hb.le) hb.lay (by omega) lR ll hn with ⟨e0, u, ts, e, q1, q2, q3⟩ | ⟨e0, G, e, hl⟩
  ·have d0 := caught_none H.length H2
   have o2 := objCells_of hb.cell
   have s2 : H2.set H.length (.cells 1 1 [.int .i64 0]) = H2 := by
    refine List.ext_getElem? fun j => ?_
    by_cases hj : H.length = j
    ·subst hj; rw [hb.cell]; simp [show H.length < H2.length by have := hb.len; omega]
    ·rw [List.getElem?_set_ne hj]
   have uc := SlV.cell q1
   have ucs := SlV.cells q1
   simp [hcc, hc, e, d0, o2, s2, storeV, hvc, hvcs, slotOf, -ecallF, -List.all_eq_true]
   exact hQ _ _ ⟨u, _, ts, by rw [e0], by rw [hH2, List.append_assoc], q1, q2, fun _ => q3⟩
  ·obtain ⟨X, hX, oX⟩ := set_err hb hA hl (bldE τ n R)
   have d1 := caught_wrong H.length (bldE τ n R) 0 G (hl _ _ _ _ hb.cell)
   rw [hX] at oX
   generalize bldE τ n R = q at *
   simp [hcc, hc, e, d1, oX, hX, storeV, hvc, hvcs, slotOf, forget, AOper.writes, -ecallF, -List.all_eq_true]
   exact hQ _ _ ⟨.nils, X, [], rfl, rfl, .nil rfl, by simp, fun h => absurd h e0⟩
 obtain ⟨r, H', e, u, X, ts, rfl, rfl, q1, q2, q3⟩ := OptP.ex key
 exact ⟨u, X, ts, e, q1, q2, q3⟩
theorem bld_ok {τ : Ty} {n : Int} {R : List (List Int)} {ts : List Tr} (h0 : bldE τ n R = 0) (h : ts.map Tr.vl = bldL τ n R) : (∀ t ∈ ts, isV τ t = true) ∧ Tr.nodesL ts ≤ 20000 ∧ (ts.length : Int) = n := by
 simp only [bldE] at h0
 split at h0
 ·cases h0
 split at h0
 ·cases h0
 simp only [bldL] at h
 cases e : rdAll τ (R.take τ.own) (R.drop τ.own) n.toNat with
 | none => rw [e] at h0; cases h0
 | some l =>
  rw [e] at h h0
  simp only [Option.getD_some] at h
  obtain ⟨h1, h2⟩ := rdAll_get e
  have hln : ts.length = l.length := by rw [← h]; simp
  refine ⟨fun t ht => ?_, ?_, by omega⟩
  ·obtain ⟨i, hi, rfl⟩ := List.mem_iff_getElem.1 ht
   obtain ⟨x, h3, h4⟩ := h2 i (by omega)
   have : ts[i].vl = x := by
    have := congrArg (·[i]?) h
    simp [hi] at this
    rw [h4] at this
    simpa using this
   exact rd_isV τ _ _ _ _ (by rw [h3, this])
  ·simp only [sumE] at h0
   split at h0
   ·rename_i hle
    rw [← h, ← Tr.vlL_eq, vlL_nodes] at hle
    exact hle
   ·cases h0
end Go.Proofs.Nst
set_option linter.unusedVariables false
set_option linter.unusedSimpArgs false
namespace Go.Proofs.Nst
open Go Go.Am
theorem vl_take_iff {l m : List Tr} {i : Nat} (h1 : i < l.length) (h2 : i < m.length) : (l.take (i + 1)).map Tr.vl = (m.take (i + 1)).map Tr.vl ↔ (l.take i).map Tr.vl = (m.take i).map Tr.vl ∧ l[i].vl = m[i].vl := by
 have := take_succ_iff (l := l.map Tr.vl) (m := m.map Tr.vl) (i := i) (by simpa using h1) (by simpa using h2)
 simpa [List.map_take] using this
theorem vl_eq {k n k' n' : Int} {v v' : V} {l l' : List Tr} : (Tr.mk k n v l).vl = (Tr.mk k' n' v' l').vl ↔ k = k' ∧ n = n' ∧ l.map Tr.vl = l'.map Tr.vl := by
 simp [Tr.vl, Tr.vlL_eq]
theorem same_q : ∀ (N : Nat) (x y : Tr), x.nodes ≤ N → N < 2 ^ 60 → x.Ok → y.Ok → ∃ b, PC 70 [.agg x.cs, .agg y.cs] (.bool b) ∧ (b = true ↔ x.vl = y.vl)
 | 0, .mk .., y, h, _, _, _ => by simp [Tr.nodes] at h
 | N + 1, .mk k n v l, .mk k' n' v' l', hN, hN2, hx, hy => by
  have cx := cells_tr hx
  have cy := cells_tr hy
  have px := pure_tr hx
  have py := pure_tr hy
  have sx : SlV (l.map Tr.cs) v := hx.sl
  have sy : SlV (l'.map Tr.cs) v' := hy.sl
  have lx := len_tr sx
  have ly := len_tr sy
  have kx : ∀ t ∈ l, t.Ok := hx.kids
  have ky : ∀ t ∈ l', t.Ok := hy.kids
  have hnl : Tr.nodesL l ≤ N := by simp only [Tr.nodes] at hN; omega
  have hlen := Tr.nodesL_length l
  have cvx := SlV.cell sx
  have cvy := SlV.cell sy
  have pa : pureL [.agg (Tr.mk k n v l).cs, .agg (Tr.mk k' n' v' l').cs] = true := by simp [pureL, pureV, px, py]
  have key : CallP gl Trnx.aprog 70 [.agg (Tr.mk k n v l).cs, .agg (Tr.mk k' n' v' l').cs] [] (fun r h' => ∃ b, r = .ret (.bool b) ∧ (b = true ↔ (Tr.mk k n v l).vl = (Tr.mk k' n' v' l').vl)) := by
   refine call_ofQ (af := Trnx.a70) rfl rfl fun Q hQ => ?_
   simp only [Trnx.a70, Tr.cs] at *
   obtain ⟨b0, hb0⟩ : ∃ b0, b0 = decide (k = k' ∧ n = n' ∧ l.length = l'.length) := ⟨_, rfl⟩
   simp only [WX_seq]
   refine WX_last _ _ (c' := ⟨[.agg [.int .i64 k, .int .i64 n, v], .agg [.int .i64 k', .int .i64 n', v'], .agg [.int .i64 k, .int .i64 n, v], .agg [.int .i64 k', .int .i64 n', v'], .bool false, .undef, .undef], [], none, none, []⟩) ?_ ?_
   ·simp [cvx, cvy, slotOf]
   simp only [seqQ_norm, WX_seq]
   refine WX_last _ _ (c' := ⟨[.agg [.int .i64 k, .int .i64 n, v], .agg [.int .i64 k', .int .i64 n', v'], .agg [.int .i64 k, .int .i64 n, v], .agg [.int .i64 k', .int .i64 n', v'], .bool false, .bool b0, .undef], [], none, none, []⟩) ?_ ?_
   ·by_cases e1 : k = k'
    case neg =>
     have h1 := ne_false e1
     simp [h1, cvx, cvy, lx, ly, slotOf]
     rw [hb0, decide_eq_false (by rintro ⟨a, _⟩; exact e1 a)]
    by_cases e2 : n = n'
    case neg =>
     have h1 := ne_false e2
     simp [e1, h1, cvx, cvy, lx, ly, slotOf]
     rw [hb0, decide_eq_false (by rintro ⟨_, a, _⟩; exact e2 a)]
    by_cases e3 : l.length = l'.length
    case neg =>
     have h1 := len_false e3
     simp [e1, e2, h1, cvx, cvy, lx, ly, slotOf]
     rw [hb0, decide_eq_false (by rintro ⟨_, _, a⟩; exact e3 a)]
    simp [e1, e2, e3, cvx, cvy, lx, ly, slotOf]
    rw [hb0, decide_eq_true ⟨e1, e2, e3⟩]
   simp only [seqQ_norm, WX_seq]
   simp [slotOf]
   refine loop_nQ l.length (fun i c => ∃ b fl, c = ⟨[.agg [.int .i64 k, .int .i64 n, v], .agg [.int .i64 k', .int .i64 n', v'], .agg [.int .i64 k, .int .i64 n, v], .agg [.int .i64 k', .int .i64 n', v'], .bool false, .bool b, .int .i64 i], [], fl, none, []⟩ ∧ (b = true ↔ (k = k' ∧ n = n' ∧ l.length = l'.length) ∧ (l.take i).map Tr.vl = (l'.take i).map Tr.vl)) ?_ ⟨_, _, rfl, by rw [hb0]; simp⟩
   rintro I hI i c hi ⟨b, fl, rfl, hb⟩
   cases b with
   | false =>
    simp [cvx, cvy, lx, ly, slotOf]
    refine hQ _ _ ⟨false, rfl, ?_⟩
    simp only [Bool.false_eq_true, false_iff]
    rw [vl_eq]
    rintro ⟨a, b, c⟩
    have hcl := congrArg List.length c
    simp at hcl
    have := hb.2 ⟨⟨a, b, hcl⟩, by rw [List.map_take, List.map_take, c]⟩
    cases this
   | true =>
    obtain ⟨⟨h1, h2, h3⟩, h4⟩ := hb.1 rfl
    by_cases hlt : i < l.length
    ·have hlt' : (i : Int) < l.length := by omega
     have hlm : i < l'.length := by omega
     have hw2 : IntKind.i64.wrap ((i : Int) + 1) = (i : Int) + 1 := wrap64 (by omega) (by omega)
     have a1 := idx_tr sx hlt
     have a2 := idx_tr sy hlm
     obtain ⟨b, hc, hbb⟩ := same_q N l[i] l'[i] (by have := Tr.nodesL_mem (List.getElem_mem hlt); omega) (by omega) (kx _ (List.getElem_mem hlt)) (ky _ (List.getElem_mem hlm))
     have hti := vl_take_iff hlt hlm
     rw [PC] at hc
     generalize l[i] = w at *
     generalize l'[i] = w' at *
     simp [cvx, cvy, lx, ly, hlt', a1, a2, hc, hw2, slotOf, -pcall]
     refine ⟨hlt, hI _ _ ⟨_, _, rfl, ?_⟩⟩
     rw [hti, hbb]
     exact ⟨fun h => ⟨⟨h1, h2, h3⟩, h4, h⟩, fun h => h.2.2⟩
    ·obtain rfl : i = l.length := by omega
     simp [cvx, cvy, lx, ly, slotOf]
     refine hQ _ _ ⟨true, rfl, ?_⟩
     simp only [true_iff]
     rw [vl_eq]
     rw [List.take_length, h3, List.take_length] at h4
     exact ⟨h1, h2, h4⟩
  obtain ⟨r, h', e, b, rfl, hb⟩ := OptP.ex key
  refine ⟨b, ?_, hb⟩
  simp only [PC, pcall, callee_func, List.append_nil, List.nil_append]
  rw [if_pos pa, e]
  rfl
theorem sames_q (l m : List Tr) (v w : V) (hv : SlV (l.map Tr.cs) v) (hw : SlV (m.map Tr.cs) w) (hl : ∀ x ∈ l, x.Ok) (hm : ∀ x ∈ m, x.Ok) (hn : Tr.nodesL l < 2 ^ 50) : ∃ b, PC 28 [v, w] (.bool b) ∧ (b = true ↔ l.map Tr.vl = m.map Tr.vl) := by
 have lv := len_tr hv
 have lw := len_tr hw
 have hlen := Tr.nodesL_length l
 have pa : pureL [v, w] = true := by simp [pureL, hv.pure, hw.pure]
 have key : CallP gl Trnx.aprog 28 [v, w] [] (fun r h' => ∃ b, r = .ret (.bool b) ∧ (b = true ↔ l.map Tr.vl = m.map Tr.vl)) := by
  refine call_ofQ (af := Trnx.a28) rfl rfl fun Q hQ => ?_
  simp only [Trnx.a28]
  simp [lv, lw, slotOf]
  refine loop_nQ l.length (fun i c => ∃ b fl, c = ⟨[v, w, .bool false, .bool b, .int .i64 i], [], fl, none, []⟩ ∧ (b = true ↔ l.length = m.length ∧ (l.take i).map Tr.vl = (m.take i).map Tr.vl)) ?_ ⟨_, _, rfl, by simp; omega⟩
  rintro I hI i c hi ⟨b, fl, rfl, hb⟩
  cases b with
  | false =>
   simp [lv, lw, slotOf]
   refine hQ _ _ ⟨false, rfl, ?_⟩
   simp only [Bool.false_eq_true, false_iff]
   intro c
   have hcl := congrArg List.length c
   simp at hcl
   have := hb.2 ⟨hcl, by rw [List.map_take, List.map_take, c]⟩
   cases this
  | true =>
   obtain ⟨h3, h4⟩ := hb.1 rfl
   by_cases hlt : i < l.length
   ·have hlt' : (i : Int) < l.length := by omega
    have hlm : i < m.length := by omega
    have hw2 : IntKind.i64.wrap ((i : Int) + 1) = (i : Int) + 1 := wrap64 (by omega) (by omega)
    have a1 := idx_tr hv hlt
    have a2 := idx_tr hw hlm
    have c1 := cells_tr (hl _ (List.getElem_mem hlt))
    have c2 := cells_tr (hm _ (List.getElem_mem hlm))
    obtain ⟨b, hc, hbb⟩ := same_q (2 ^ 50) l[i] m[i] (by have := Tr.nodesL_mem (List.getElem_mem hlt); omega) (by omega) (hl _ (List.getElem_mem hlt)) (hm _ (List.getElem_mem hlm))
    have hti := vl_take_iff hlt hlm
    rw [PC] at hc
    generalize l[i] = x at *
    generalize m[i] = x' at *
    simp [lv, lw, hlt', a1, a2, hc, hw2, slotOf, -pcall]
    refine ⟨hlt, hI _ _ ⟨_, _, rfl, ?_⟩⟩
    rw [hti, hbb]
    exact ⟨fun h => ⟨h3, h4, h⟩, fun h => h.2.2⟩
   ·obtain rfl : i = l.length := by omega
    simp [lv, lw, slotOf]
    refine hQ _ _ ⟨true, rfl, ?_⟩
    simp only [true_iff]
    rw [List.take_length, h3, List.take_length] at h4
    exact h4
 obtain ⟨r, h', e, b, rfl, hb⟩ := OptP.ex key
 refine ⟨b, ?_, hb⟩
 simp only [PC, pcall, callee_func, List.append_nil, List.nil_append]
 rw [if_pos pa, e]
 rfl
end Go.Proofs.Nst
