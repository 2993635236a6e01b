/- A part of the law's proof: Types. -/
import Derived.Test.YtcpcmkacjdbpaaaDoorVal
import Derived.Test.YtcpcmkacjdbpaaaDoorHeld
/- Nest: Check by the program and by the reference; the law NestTypes over the machine. -/
set_option linter.unusedVariables false
set_option linter.unusedSimpArgs false
namespace Go.Proofs.Nst
open Go Go.Am

/-- how Check ends with a data type -/
def chkE (τ : Ty) (w : Tr) : Int := if w.sized then (if isV τ w then 0 else 1) else 3

theorem check_q {t : Tr} {τ : Ty} (hτ : IsTy t τ) (ho : t.Ok) (h1 : τ.size ≤ 60) (h2 : τ.deep ≤ 12) (w : Tr) (hw : w.Ok) (hn : w.nodes < 2 ^ 60) : PC 18 [.agg w.cs, .agg t.cs] (.int .i64 (chkE τ w)) := by
  have hcc := cells_tr ho
  have hcw := cells_tr hw
  have hc := asked_q hτ ho h1 h2 [.cells 1 1 [.int .i64 0]]
  obtain ⟨m, hs, hm⟩ := size_q w hw hn
  have hlay : Lay ([Am.Obj.cells 1 1 [.int .i64 0]] ++ layL 1 τ) 1 τ := by
    have := lay_of τ [Am.Obj.cells 1 1 [.int .i64 0]] []
    simpa using this
  have hh := has_q hlay w hw hn
  have m3 := must_t 3
  have m1 := must_t 1
  have f3 := must_f 3
  have f1 := must_f 1
  have d0 := caught_none 0 ([Am.Obj.cells 1 1 [.int .i64 0]] ++ layL 1 τ)
  have d3 := caught_wrong 0 3 0 ([Am.Obj.cells 1 1 [.int .i64 0]] ++ layL 1 τ) rfl
  have d1 := caught_wrong 0 1 0 ([Am.Obj.cells 1 1 [.int .i64 0]] ++ layL 1 τ) rfl
  have e0 : objCells ([Am.Obj.cells 1 1 [.int .i64 0]] ++ layL 1 τ) 0 = some (1, 1, [.int .i64 0]) := rfl
  have es : ∀ x, objCells (([Am.Obj.cells 1 1 [.int .i64 0]] ++ layL 1 τ).set 0 (Am.Obj.cells 1 1 [.int .i64 x])) 0 = some (1, 1, [.int .i64 x]) := fun _ => rfl
  have s0 : ([Am.Obj.cells 1 1 [.int .i64 0]] ++ layL 1 τ).set 0 (Am.Obj.cells 1 1 [.int .i64 0]) = [Am.Obj.cells 1 1 [.int .i64 0]] ++ layL 1 τ := rfl
  simp only [List.length_singleton] at hc
  rw [PC] at hs m3 m1
  generalize hH : [Am.Obj.cells 1 1 [V.int .i64 0]] ++ layL 1 τ = H at *
  refine pc_of (by simp [pureL, pureV, pure_tr ho, pure_tr hw]) (fun h => rfl) ?_
  refine call_ofQ (af := Trnx.a18) rfl rfl fun Q hQ => ?_
  simp only [Trnx.a18]
  cases e : w.sized
  · rw [e] at hs
    simp [hcc, hcw, hc, hs, f3, d3, es, slotOf, forget, AOper.writes, -pcall, -List.all_eq_true]
    refine hQ _ _ ?_
    simp [chkE, e]
  rw [e] at hs
  cases e2 : isV τ w
  · rw [e2] at hh
    simp [hcc, hcw, hc, hs, m3, hh, f1, d1, es, slotOf, forget, AOper.writes, -pcall, -List.all_eq_true]
    refine hQ _ _ ?_
    simp [chkE, e, e2]
  · rw [e2] at hh
    simp [hcc, hcw, hc, hs, m3, hh, m1, e0, s0, d0, storeV, slotOf, -pcall, -List.all_eq_true]
    refine hQ _ _ ?_
    simp [chkE, e, e2]
theorem check_bad (t : Tr) (ho : t.Ok) (hnt : t.nodes < 2 ^ 50) {e : Int} (he : e = 3 ∨ e = 15) (ht : tyErr t = e) (w : Tr) (hw : w.Ok) : PC 18 [.agg w.cs, .agg t.cs] (.int .i64 e) := by
  have hcc := cells_tr ho
  have hcw := cells_tr hw
  obtain ⟨X, hc⟩ := asked_bad t ho hnt he ht [.cells 1 1 [.int .i64 0]]
  have hd := caught_wrong 0 e 0 ([Am.Obj.cells 1 1 [.int .i64 0]] ++ X) rfl
  refine pc_of (by simp [pureL, pureV, pure_tr ho, pure_tr hw]) (fun h => rfl) ?_
  refine call_ofQ (af := Trnx.a18) rfl rfl fun Q hQ => ?_
  simp only [Trnx.a18]
  simp at hc hd
  simp [hcc, hcw, hc, hd, objCells, slotOf, forget, AOper.writes, -pcall, -List.all_eq_true]
  exact hQ _ _ rfl

theorem rcheck_q {t : Tr} {τ : Ty} (hτ : IsTy t τ) (ho : t.Ok) (h1 : τ.size ≤ 60) (h2 : τ.deep ≤ 12) (w : Tr) (hw : w.Ok) (hn : w.nodes < 2 ^ 60) : PC 19 [.agg w.cs, .agg t.cs] (.int .i64 (chkE τ w)) := by
  have hcc := cells_tr ho
  have hcw := cells_tr hw
  have ht := isType_q t ho (by rw [hτ.nodes]; omega)
  rw [tyErr_ok hτ h1 h2] at ht
  have hs := sizeOf_q w hw hn
  have hl := long_q w hw hn
  have hi := is_q hτ ho w hw hn
  rw [PC] at ht hs hl hi
  refine pc_of (by simp [pureL, pureV, pure_tr ho, pure_tr hw]) (fun h => rfl) ?_
  refine call_ofQ (af := Trnx.a19) rfl rfl fun Q hQ => ?_
  simp only [Trnx.a19]
  by_cases a : w.nodes ≤ 20000
  · have a' : ¬ (20000 : Int) < w.nodes := by omega
    cases b : w.long
    · rw [b] at hl
      cases e2 : isV τ w
      · rw [e2] at hi
        simp [hcc, hcw, ht, hs, hl, hi, a', slotOf, -pcall, -List.all_eq_true]
        refine hQ _ _ ?_
        simp [chkE, Tr.sized, a, b, e2]
      · rw [e2] at hi
        simp [hcc, hcw, ht, hs, hl, hi, a', slotOf, -pcall, -List.all_eq_true]
        refine hQ _ _ ?_
        simp [chkE, Tr.sized, a, b, e2]
    · rw [b] at hl
      simp [hcc, hcw, ht, hs, hl, a', slotOf, -pcall, -List.all_eq_true]
      refine hQ _ _ ?_
      simp [chkE, Tr.sized, a, b]
  · have a' : (20000 : Int) < w.nodes := by omega
    simp [hcc, hcw, ht, hs, a', slotOf, -pcall, -List.all_eq_true]
    refine hQ _ _ ?_
    simp [chkE, Tr.sized, a]
theorem rcheck_bad (t : Tr) (ho : t.Ok) (hnt : t.nodes < 2 ^ 50) {e : Int} (he : e = 3 ∨ e = 15) (hte : tyErr t = e) (w : Tr) (hw : w.Ok) : PC 19 [.agg w.cs, .agg t.cs] (.int .i64 e) := by
  have hcc := cells_tr ho
  have hcw := cells_tr hw
  have ht := isType_q t ho (by omega)
  rw [hte, PC] at ht
  have hne : (e != 0) = true := by rcases he with rfl | rfl <;> rfl
  refine pc_of (by simp [pureL, pureV, pure_tr ho, pure_tr hw]) (fun h => rfl) ?_
  refine call_ofQ (af := Trnx.a19) rfl rfl fun Q hQ => ?_
  simp only [Trnx.a19]
  simp [hcc, hcw, ht, hne, slotOf, -pcall, -List.all_eq_true]
  exact hQ _ _ rfl

theorem great_q (l : List Tr) (v : V) (hv : SlV (l.map Tr.cs) v) (hl : ∀ x ∈ l, x.Ok) (hn : Tr.nodesL l < 2 ^ 60) : PC 10 [v] (.bool (decide (400 < Tr.nodesL l))) := by
  have hlv := len_tr hv
  have hlen := Tr.nodesL_length l
  refine pc_of (by simp [pureL, hv.pure]) (fun h => rfl) ?_
  refine call_ofQ (af := Trnx.a10) rfl rfl fun Q hQ => ?_
  simp only [Trnx.a10]
  simp [slotOf]
  refine loop_nQ l.length (fun i c => c = ⟨[v, .bool false, .int .i64 (Tr.nodesL (l.take i)), .int .i64 i], [], none, none, []⟩) ?_ (by simp [Tr.nodesL])
  rintro I hI i c hi rfl
  have hle := Tr.nodesL_take_le (l := l) i
  by_cases hlt : i < l.length
  · have hlt' : (i : Int) < l.length := by omega
    by_cases h4 : Tr.nodesL (l.take i) ≤ 400
    · have h4' : (Tr.nodesL (l.take i) : Int) ≤ 400 := by omega
      have hm := List.getElem_mem hlt
      have hi1 := idx_tr hv hlt
      have hc := sizeOf_q l[i] (hl _ hm) (by have := Tr.nodesL_mem hm; omega)
      have cq := cells_tr (hl _ hm)
      have htn := Tr.nodesL_take hlt
      have hmm := Tr.nodesL_mem hm
      have hw2 : IntKind.i64.wrap ((i : Int) + 1) = (i : Int) + 1 := wrap64 (by omega) (by omega)
      rw [PC] at hc
      generalize l[i] = z at *
      have hw3 : IntKind.i64.wrap ((Tr.nodesL (l.take i) : Int) + z.nodes) = Tr.nodesL (l.take (i + 1)) := by rw [wrap64 (by omega) (by omega)]; omega
      simp [hlv, hlt', h4', hi1, hc, hw2, hw3, cq, slotOf, -pcall, -List.all_eq_true]
      exact ⟨hlt, hI _ _ rfl⟩
    · have h4' : ¬ (Tr.nodesL (l.take i) : Int) ≤ 400 := by omega
      simp [hlv, hlt', h4', slotOf]
      refine hQ _ _ ?_
      have a : (400 : Int) < Tr.nodesL (l.take i) := by omega
      have b : 400 < Tr.nodesL l := by omega
      rw [decide_eq_true a, decide_eq_true b]
  · obtain rfl : i = l.length := by omega
    simp [hlv, slotOf]
    refine hQ _ _ ?_
    have e : decide ((400 : Int) < Tr.nodesL l) = decide (400 < Tr.nodesL l) := decide_eq_decide.2 (by omega)
    rw [e]

theorem law_types (t w : Tr) (ht : t.Ok) (hw : w.Ok) (hn : t.nodes < 2 ^ 50) (hm : w.nodes < 2 ^ 50) : ∃ h', (lim gl Trnx.aprog).call 3 [.agg t.cs, .agg w.cs] [] = some (.ret (.bool true), h') := by
  have key : CallP gl Trnx.aprog 3 [.agg t.cs, .agg w.cs] [] (fun r h' => r = .ret (.bool true)) := by
    have hh := held_q
    have g1 := great_q [w] (.sv [w.cs] true) (.sv true) (by simp [hw]) (by simp [Tr.nodesL]; omega)
    have z1 := psize_q w hw (by omega)
    have z2 := rsize_q w hw (by omega)
    have v1 := valid_q w hw (by omega)
    have v2 := rvalid_q w hw (by omega)
    obtain ⟨s, se, zz1, zz2⟩ : ∃ s se : Int, PC 16 [.agg w.cs] (.tup [.int .i64 s, .int .i64 se]) ∧ PC 17 [.agg w.cs] (.tup [.int .i64 s, .int .i64 se]) := by
      cases e : w.sized <;> rw [e] at z1 z2
      · exact ⟨_, _, z1, z2⟩
      · exact ⟨_, _, z1, z2⟩
    obtain ⟨o, oe, d, de, c, o1, o2, d1, d2, c1, c2⟩ : ∃ o oe d de c : Int, PC 12 [.agg t.cs] (.tup [.int .i64 o, .int .i64 oe]) ∧ PC 13 [.agg t.cs] (.tup [.int .i64 o, .int .i64 oe]) ∧
        PC 14 [.agg t.cs] (.tup [.int .i64 d, .int .i64 de]) ∧ PC 15 [.agg t.cs] (.tup [.int .i64 d, .int .i64 de]) ∧ PC 18 [.agg w.cs, .agg t.cs] (.int .i64 c) ∧ PC 19 [.agg w.cs, .agg t.cs] (.int .i64 c) := by
      rcases tyErr_cases t with ⟨e, he, hte⟩ | ⟨x, hx, hx1, hx2, hte⟩
      · obtain ⟨a1, a2⟩ := own_bad t ht (by omega) he hte
        obtain ⟨a3, a4⟩ := rown_q ht (by omega) he hte
        exact ⟨_, _, _, _, _, a1, a3, a2, a4, check_bad t ht (by omega) he hte w hw, rcheck_bad t ht (by omega) he hte w hw⟩
      · obtain ⟨a1, a2⟩ := own_ok hx ht hx1 hx2
        obtain ⟨a3, a4⟩ := rown_ok ht hx hx1 hx2
        exact ⟨_, _, _, _, _, a1, a3, a2, a4, check_q hx ht hx1 hx2 w hw (by omega), rcheck_q hx ht hx1 hx2 w hw (by omega)⟩
    rw [PC] at hh g1 v1 v2 zz1 zz2 o1 o2 d1 d2 c1 c2
    have hpw := pure_tr hw
    have ct := cells_tr ht
    have ecs : w.cs = [.int .i64 w.k, .int .i64 w.n, w.v] := w.cs_eq
    have hwv : isCell w.v = true := by
      have := List.all_eq_true.1 (cells_tr hw) w.v (by rw [w.cs_eq]; simp)
      exact this
    have hwp : pureV w.v = true := by
      rw [w.cs_eq] at hpw
      simpa [pureL, pureV] using hpw
    rw [ecs] at g1 zz1 zz2 c1 c2 v1 v2 ⊢
    refine call_ofQ (af := Trnx.a3) rfl rfl fun Q hQ => ?_
    simp only [Trnx.a3]
    cases hg : decide (400 < Tr.nodesL [w])
    · rw [hg] at g1
      simp [ct, hwv, hwp, fill, chunks, g1, o1, o2, d1, d2, zz1, zz2, c1, c2, v1, v2, hh, slotOf, -pcall, -List.all_eq_true]
      exact hQ _ _ rfl
    · rw [hg] at g1
      simp [ct, hwv, hwp, fill, chunks, g1, hh, slotOf, -pcall, -List.all_eq_true]
      exact hQ _ _ rfl
  obtain ⟨r, h', e, rfl⟩ := OptP.ex key
  exact ⟨h', e⟩
end Go.Proofs.Nst
