/- The law over the abstract machine. -/
import Derived.Test.YtncbmdeinohnbaaDoorFileR
import Derived.KernelRfl
/- filed(): what is said of single files, by the kernel. -/
set_option linter.unusedVariables false
set_option linter.unusedSimpArgs false
namespace Go.Proofs.FileA
open Go Go.Am

def gl0 : Nat → List V := fun _ => glTab

def retTrue : Option (R × Heap) → Bool
  | some (.ret (.bool true), _) => true
  | _ => false
theorem retTrue_ex {o : Option (R × Heap)} (h : retTrue o = true) : ∃ h', o = some (.ret (.bool true), h') := by
  match o, h with
  | some (.ret (.bool true), h'), _ => exact ⟨h', rfl⟩
theorem filed_run : retTrue ((run gl0 Tryd.aprog 2000).call 21 [] []) = true := by kernel_rfl
theorem filed_pc : pcall (lim gl0 Tryd.aprog) (.func (.func 21) [] []) [] = some (.val (.bool true)) := by
  obtain ⟨h', e⟩ := retTrue_ex filed_run
  exact pcall_of (run_lim gl0 Tryd.aprog e) rfl (by simp [viewV])

end Go.Proofs.FileA
/- The law FileWrites over the abstract machine. -/
set_option linter.unusedVariables false
set_option linter.unusedSimpArgs false
namespace Go.Proofs.FileA
open Go Go.Am
variable {gl : Nat → List V}

theorem asBytes_bytesC (l : List UInt8) : asBytes (bytesC l) = some l := by
  induction l with
  | nil => rfl
  | cons b l ih =>
    have : UInt8.ofNat ((b.toNat : Int)).toNat = b := by simp
    simp only [bytesC, List.map_cons, asBytes] at ih ⊢
    rw [ih, this]
    rfl
theorem b2s_ok {l : List UInt8} {v : V} (hv : SlV (bytesV l) v) (h : Heap) (rec : Rec) (f : Opd → V) (x : Opd) (hx : f x = v) : lopV rec h f (.b2s x) = some (.val (.str ⟨l.toArray⟩)) := by
  have h1 := hv.slen
  have h2 := hv.scells h
  rw [bytesV_flat] at h2
  simp only [lopV, hx, h1, h2]
  cases hv <;> simp [asBytes_bytesC, bytesV]

theorem equalBytes_pc {l m : List UInt8} {v w : V} (hv : SlV (bytesV l) v) (hw : SlV (bytesV m) w) : PureV 14 [v, w] (.bool (decide (l = m))) := by
  refine pureV_of (by simp [pureL, hv.pure, hw.pure]) (fun h => by simp [viewV]) fun gl => ?_
  refine call_ofQ (af := Tryd.a14) rfl rfl fun Q hQ => ?_
  simp only [Tryd.a14]
  have h1 := fun h f x hx => b2s_ok hv h (lim gl Tryd.aprog) f x hx
  have h2 := fun h f x hx => b2s_ok hw h (lim gl Tryd.aprog) f x hx
  simp [-lopV, h1, h2, strBin]
  refine hQ _ _ ?_
  by_cases hlm : l = m
  · subst hlm; simp
  · simp [hlm]

/-- Sum of the program, Sum of the reference -/
theorem sum_nil (h : Heap) : (lim gl Tryd.aprog).call 19 [.nils] h = some (.ret (.int .i64 1), h) := by
  refine CallP.eq (call_ofQ (af := Tryd.a19) rfl rfl fun Q hQ => ?_)
  simp only [Tryd.a19]
  simp
  refine loop_round ?_
  simp [roundQ, IntKind.bits]
  exact hQ _ _ ⟨by rfl, rfl⟩
theorem rsum_nil (h : Heap) : (lim gl Tryd.aprog).call 20 [.nils] h = some (.ret (.int .i64 1), h) := by
  refine CallP.eq (call_ofQ (af := Tryd.a20) rfl rfl fun Q hQ => ?_)
  simp only [Tryd.a20]
  simp
  refine loop_round ?_
  simp [roundQ, IntKind.bits]
  exact hQ _ _ ⟨by rfl, rfl⟩
theorem sum_sl {l : List UInt8} {v : V} (hv : SlV (bytesV l) v) (hl : l.length < 2 ^ 62) (h : Heap) : (lim gl Tryd.aprog).call 19 [v] h = some (.ret (.int .i64 (sumOf l)), h) := by
  cases hv with
  | nil h0 =>
    have : l = [] := by simpa [bytesV] using h0
    subst this
    exact sum_nil h
  | sv ex =>
    have := sum_ok (gl := gl) l hl ex h
    rw [sumV_eq, (sumN_eq l).1] at this
    exact this
theorem rsum_sl {l : List UInt8} {v : V} (hv : SlV (bytesV l) v) (hl : l.length < 2 ^ 62) (h : Heap) : (lim gl Tryd.aprog).call 20 [v] h = some (.ret (.int .i64 (sumOf l)), h) := by
  cases hv with
  | nil h0 =>
    have : l = [] := by simpa [bytesV] using h0
    subst this
    exact rsum_nil h
  | sv ex =>
    have := rsum_ok (gl := gl) l hl ex h
    rw [sumV_eq, (sumN_eq l).1] at this
    exact this
theorem bcall_sum {l : List UInt8} {v : V} (hv : SlV (bytesV l) v) (hl : l.length < 2 ^ 62) (h : Heap) : bcall (lim gl Tryd.aprog) h (.func (.func 19) [] []) [v] = some (.val (.int .i64 (sumOf l))) := by
  simp [bcall, callee, viewL, hv.view, sum_sl hv hl, plainV]
theorem bcall_rsum {l : List UInt8} {v : V} (hv : SlV (bytesV l) v) (hl : l.length < 2 ^ 62) (h : Heap) : bcall (lim gl Tryd.aprog) h (.func (.func 20) [] []) [v] = some (.val (.int .i64 (sumOf l))) := by
  simp [bcall, callee, viewL, hv.view, rsum_sl hv hl, plainV]

/-- the bytes that a Put returns -/
theorem putR_bytes (d : Nat) (k : UInt8) (c : List UInt8) (hc : c.length ≤ 2 ^ 46) : ∃ v n l, putR d k c = .tup [v, .int .i64 n] ∧ SlV (bytesV l) v ∧ l.length < 2 ^ 62 := by
  have hl := fileOf_length k c
  unfold putR
  split
  · exact ⟨_, _, [], rfl, .nil rfl, by simp⟩
  · split
    · exact ⟨_, _, [], rfl, .nil rfl, by simp⟩
    · exact ⟨_, _, _, rfl, .sv _, by omega⟩

theorem pPutValue {x : T} {cs : List V} (hx : IsT 2 0 x cs) (hgl : gl 0 = glTab) : pcall (lim gl Tryd.aprog) (.func (.func 10) [] []) [.agg cs] = some (.val (putR (depth x) 0 (content x))) :=
  pcall_of (put_value hx hgl []) (by simpa [pureL, pureV] using isT_pure hx) (putR_view _ _ _ _)
theorem pPutProg {x : ProgT} {cs : List V} (hx : IsProg x cs) (hgl : gl 0 = glTab) : pcall (lim gl Tryd.aprog) (.func (.func 12) [] []) [.agg cs] = some (.val (putR (progDepth x) 1 (progB x))) :=
  pcall_of (put_prog hx hgl []) (by obtain ⟨⟨v, es, rfl, hv, _⟩, _, _⟩ := hx; simp [hv.pure, pureL, pureV]) (putR_view _ _ _ _)
theorem pPutVec {x : VecT} {cs : List V} (hx : IsVec x cs) (hgl : gl 0 = glTab) : pcall (lim gl Tryd.aprog) (.func (.func 15) [] []) [.agg cs] = some (.val (putR (vecDepth x) 2 (vecB x))) :=
  pcall_of (put_vec hx hgl []) (by obtain ⟨⟨v, es, rfl, hv, _⟩, _, _⟩ := hx; simp [hv.pure, pureL, pureV]) (putR_view _ _ _ _)
theorem pPutLog {x : LogT} {cs : List V} (hx : IsLog x cs) (hgl : gl 0 = glTab) : pcall (lim gl Tryd.aprog) (.func (.func 17) [] []) [.agg cs] = some (.val (putR 0 3 (logB x))) := by
  obtain ⟨r, h', e, hE⟩ := OptP.ex (put_log (gl := gl) hx hgl [])
  obtain ⟨v, rfl, hv⟩ := putEnd_view hE
  exact pcall_of e (by obtain ⟨⟨v, w, rfl, hv, hw⟩, _⟩ := hx; simp [pureL, pureV, hv.sl.pure, hw.sl.pure]) hv

theorem isProg_cells {p : ProgT} {cs : List V} (h : IsProg p cs) : cs.length = 2 ∧ cs.all isCell = true := by
  obtain ⟨⟨v, es, rfl, hv, _⟩, _, _⟩ := h; simp [hv.cell]
theorem isVec_cells {p : VecT} {cs : List V} (h : IsVec p cs) : cs.length = 2 ∧ cs.all isCell = true := by
  obtain ⟨⟨v, es, rfl, hv, _⟩, _, _⟩ := h; simp [hv.cell]
theorem isLog_cells {p : LogT} {cs : List V} (h : IsLog p cs) : cs.length = 3 ∧ cs.all isCell = true := by
  obtain ⟨⟨v, w, rfl, hv, hw⟩, _⟩ := h; simp [hv.sl.cell, hw.sl.cell]

theorem law_writes {x : T} {p : ProgT} {q : VecT} {l : LogT} {c1 c2 c3 c4 : List V} (hx : IsT 2 0 x c1) (hp : IsProg p c2) (hq : IsVec q c3) (hl : IsLog l c4) (sx : (content x).length ≤ 2 ^ 46) (sp : (progB p).length ≤ 2 ^ 46) (sq : (vecB q).length ≤ 2 ^ 46) (sl : (logB l).length ≤ 2 ^ 46) :
    ∃ h', (lim gl0 Tryd.aprog).call 3 [.agg c1, .agg c2, .agg c3, .agg c4] [] = some (.ret (.bool true), h') := by
  have key : CallP gl0 Tryd.aprog 3 [.agg c1, .agg c2, .agg c3, .agg c4] [] (fun r h' => r = .ret (.bool true)) := by
    obtain ⟨n1, a1⟩ := isT_cells hx
    obtain ⟨n2, a2⟩ := isProg_cells hp
    obtain ⟨n3, a3⟩ := isVec_cells hq
    obtain ⟨n4, a4⟩ := isLog_cells hl
    have t1 : c1.take 3 = c1 := List.take_of_length_le (by omega)
    have t2 : c2.take 2 = c2 := List.take_of_length_le (by omega)
    have t3 : c3.take 2 = c3 := List.take_of_length_le (by omega)
    have t4 : c4.take 3 = c4 := List.take_of_length_le (by omega)
    have e1 := pPutValue (gl := gl0) hx rfl
    have e2 := rPutValue hx sx gl0
    have e3 := pPutProg (gl := gl0) hp rfl
    have e4 := rPutProg hp sp gl0
    have e5 := pPutVec (gl := gl0) hq rfl
    have e6 := rPutVec hq sq gl0
    have e7 := pPutLog (gl := gl0) hl rfl
    have e8 := rPutLog hl sl gl0
    obtain ⟨v1, k1, l1, r1, s1, z1⟩ := putR_bytes (depth x) 0 (content x) sx
    obtain ⟨v2, k2, l2, r2, s2, z2⟩ := putR_bytes (progDepth p) 1 (progB p) sp
    obtain ⟨v3, k3, l3, r3, s3, z3⟩ := putR_bytes (vecDepth q) 2 (vecB q) sq
    obtain ⟨v4, k4, l4, r4, s4, z4⟩ := putR_bytes 0 3 (logB l) sl
    rw [r1] at e1 e2
    rw [r2] at e3 e4
    rw [r3] at e5 e6
    rw [r4] at e7 e8
    have q1 : pcall (lim gl0 Tryd.aprog) (.func (.func 14) [] []) [v1, v1] = some (.val (.bool true)) := by have := equalBytes_pc s1 s1 gl0; rw [decide_eq_true rfl] at this; exact this
    have q2 : pcall (lim gl0 Tryd.aprog) (.func (.func 14) [] []) [v2, v2] = some (.val (.bool true)) := by have := equalBytes_pc s2 s2 gl0; rw [decide_eq_true rfl] at this; exact this
    have q3 : pcall (lim gl0 Tryd.aprog) (.func (.func 14) [] []) [v3, v3] = some (.val (.bool true)) := by have := equalBytes_pc s3 s3 gl0; rw [decide_eq_true rfl] at this; exact this
    have q4 : pcall (lim gl0 Tryd.aprog) (.func (.func 14) [] []) [v4, v4] = some (.val (.bool true)) := by have := equalBytes_pc s4 s4 gl0; rw [decide_eq_true rfl] at this; exact this
    have b1 := fun h => bcall_sum (gl := gl0) s3 z3 h
    have b2 := fun h => bcall_rsum (gl := gl0) s3 z3 h
    have hf := filed_pc
    refine call_ofQ (af := Tryd.a3) rfl rfl fun Q hQ => ?_
    simp only [Tryd.a3]
    refine WX_step _ _ (by simp [a1, a2, a3, a4, -List.all_eq_true]; rfl) ?_
    refine WX_step _ _ (by simp [n1, t1, e1, -pcall]; rfl) ?_
    refine WX_step _ _ (by simp [n1, t1, e2, -pcall]; rfl) ?_
    refine WX_step _ _ (by simp [n2, t2, e3, -pcall]; rfl) ?_
    refine WX_step _ _ (by simp [n2, t2, e4, -pcall]; rfl) ?_
    rw [WX_assoc]
    refine WX_step _ _ (by simp [q1, q2, slotOf, -pcall]; rfl) ?_
    rw [WX_ite_seq]
    simp only [Bool.false_eq_true, if_false, WX_skip_seq]
    refine WX_step _ _ (by simp [n3, t3, e5, -pcall]; rfl) ?_
    refine WX_step _ _ (by simp [n3, t3, e6, -pcall]; rfl) ?_
    refine WX_step _ _ (by simp [n4, t4, e7, -pcall]; rfl) ?_
    refine WX_step _ _ (by simp [n4, t4, e8, -pcall]; rfl) ?_
    refine WX_step _ _ (by simp [q3, q4, b1, b2, hf, slotOf, -pcall]; rfl) ?_
    rw [WX_ret]
    simp
    exact hQ _ _ rfl
  obtain ⟨r, h', e, rfl⟩ := OptP.ex key
  exact ⟨h', e⟩
end Go.Proofs.FileA
