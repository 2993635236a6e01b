/- One of each kind is read. -/
import Derived.Test.YtncbmdeinohnbaaDoorFileBoth
import Derived.Test.YtncbmdeinohnbaaDoorFileLOthers
/- One of each kind: get. -/
set_option linter.unusedVariables false
set_option linter.unusedSimpArgs false
namespace Go.Proofs.FileA
open Go Go.Am

/-- what is read of bytes as each of the kinds, and the errors -/
def readX (b : L) : ThingsT := ⟨(readOf sumOf 0 (decT 2 0 60) b).1.getD zT, (readOf sumOf 1 decProg b).1.getD zP, (readOf sumOf 2 decVec b).1.getD zQ, (readOf sumOf 3 decLog b).1.getD zL⟩
def readE (b : L) : Nat → Int
  | 0 => (readOf sumOf 0 (decT 2 0 60) b).2
  | 1 => (readOf sumOf 1 decProg b).2
  | 2 => (readOf sumOf 2 decVec b).2
  | _ => (readOf sumOf 3 decLog b).2

theorem GetEnd.one {α : Type} {R : α → List V → Prop} {sz : Nat} {zero : List V} {o : Option α × Int} {x : V} (hx : GetEnd R sz zero o x) {z : α} (hz : R z zero) : ∃ c, x = .tup [.agg c, .int .i64 o.2] ∧ R (o.1.getD z) c := by
  obtain ⟨c1, rfl, h1, n1, s1⟩ := hx.ex
  cases ho : o.1 with
  | none => exact ⟨c1, rfl, by rw [n1 ho]; exact hz⟩
  | some a => exact ⟨c1, rfl, s1 a ho⟩

theorem get_q (gl : Nat → List V) {b : L} {v : V} (hv : SlV (bytesV b) v) : ∃ cs, pcall (lim gl Tryd.aprog) (.func (.func 38) [] []) [v] = some (.val (.tup [.agg cs, .agg [.int .i64 (readE b 0), .int .i64 (readE b 1), .int .i64 (readE b 2), .int .i64 (readE b 3)]])) ∧ IsThings (readX b) cs := by
  obtain ⟨x1, e1, g1⟩ := pget25 hv gl
  obtain ⟨x2, e2, g2⟩ := pget28 hv gl
  obtain ⟨x3, e3, g3⟩ := pget30 hv gl
  obtain ⟨x4, e4, g4⟩ := pget32 hv gl
  obtain ⟨ca, rfl, h1⟩ := g1.one zero_value
  obtain ⟨cb, rfl, h2⟩ := g2.one zero_prog
  obtain ⟨cc, rfl, h3⟩ := g3.one zero_vec
  obtain ⟨cd, rfl, h4⟩ := g4.one zero_log
  have hX : IsThings (readX b) (ca ++ cb ++ cc ++ cd) := IsThings.make (X := readX b) h1 h2 h3 h4
  have l1 := (isT_cells h1).1
  have l2 := (isProg_cells h2).1
  have l3 := (isVec_cells h3).1
  have l4 := (isLog_cells h4).1
  clear h1 h2 h3 h4 g1 g2 g3 g4
  match ca, cb, cc, cd, l1, l2, l3, l4 with
  | [a0, a1, a2], [b0, b1], [c0, c1], [d0, d1, d2], _, _, _, _ =>
    obtain ⟨_, _, _, _, _, _, _, _, _, _, hcs, _, _, _, _, ⟨f1, f2, f3⟩, ⟨f4, f5⟩, ⟨f6, f7⟩, ⟨f8, f9, f10⟩, hp⟩ := hX.facts
    simp only [List.cons_append, List.nil_append, List.cons.injEq, and_true] at hcs
    obtain ⟨rfl, rfl, rfl, rfl, rfl, rfl, rfl, rfl, rfl, rfl⟩ := hcs
    have key : CallP gl Tryd.aprog 38 [v] [] (fun r h' => r = .ret (.tup [.agg [a0, a1, a2, b0, b1, c0, c1, d0, d1, d2], .agg [.int .i64 (readE b 0), .int .i64 (readE b 1), .int .i64 (readE b 2), .int .i64 (readE b 3)]])) := by
      refine call_ofQ (af := Tryd.a38) rfl rfl fun Q hQ => ?_
      simp only [Tryd.a38]
      simp only [readE] at hQ
      simp [e1, e2, e3, e4, f1, f2, f3, f4, f5, f6, f7, f8, f9, f10, fill, -pcall]
      exact hQ _ _ rfl
    obtain ⟨r, h', e, rfl⟩ := OptP.ex key
    refine ⟨_, pcall_of e (by simp [pureL, hv.pure]) (viewV_pure _ _ ?_), hX⟩
    simpa [pureL, pureV] using hp

theorem okT_depth {a b : Nat} : ∀ (d : Nat) (t : T), OkT a b d t → depth t ≤ d
  | 0, _, h => h.elim
  | d + 1, ⟨ns, ls, ks⟩, h => by
    rw [depth_kids]
    have := depths_le.2 (fun k hk => okT_depth d k (h.2.2.1 k hk))
    simp only [T.kids]
    omega

/-- what was put is read as it was, by the Get of its kind alone -/
theorem read_back {X : ThingsT} {cs : List V} (hX : IsThings X cs) (k : Nat) (hk : k < 4) (hd : depthK X k ≤ 60) (hl : (contentK X k).length + 7 ≤ 200000) :
    readX (fileOf (UInt8.ofNat k) (contentK X k)) = onlyX X k ∧ ∀ i, i < 4 → readE (fileOf (UInt8.ofNat k) (contentK X k)) i = if i = k then 0 else 15 := by
  obtain ⟨a0, a1, a2, b0, b1, c0, c1, d0, d1, d2, rfl, x1, x2, x3, x4⟩ := hX.ex
  obtain rfl | rfl | rfl | rfl : k = 0 ∨ k = 1 ∨ k = 2 ∨ k = 3 := by omega
  · simp only [depthK, contentK, onlyX] at *
    have r0 := readOf_there (codec_T 2 0 60) (okT_of 60 _ _ x1 hd) 0 hl
    have r1 := readOf_other (dec := decProg) 0 (content X.x) hl 1 (by decide)
    have r2 := readOf_other (dec := decVec) 0 (content X.x) hl 2 (by decide)
    have r3 := readOf_other (dec := decLog) 0 (content X.x) hl 3 (by decide)
    replace r0 : readOf sumOf 0 (decT 2 0 60) (fileOf (UInt8.ofNat 0) (content X.x)) = (some X.x, 0) := r0
    refine ⟨by unfold readX; rw [r0]; simp only [show (UInt8.ofNat 0) = 0 from rfl, r1, r2, r3]; rfl, fun i hi => ?_⟩
    obtain rfl | rfl | rfl | rfl : i = 0 ∨ i = 1 ∨ i = 2 ∨ i = 3 := by omega
    · simp only [readE]; rw [r0]; rfl
    · simp only [readE]; exact congrArg Prod.snd r1
    · simp only [readE]; exact congrArg Prod.snd r2
    · simp only [readE]; exact congrArg Prod.snd r3
  · simp only [depthK, contentK, onlyX] at *
    have r1 := readOf_there codec_prog (okProg_of x2 hd) 1 hl
    have r0 := readOf_other (dec := decT 2 0 60) 1 (progB X.p) hl 0 (by decide)
    have r2 := readOf_other (dec := decVec) 1 (progB X.p) hl 2 (by decide)
    have r3 := readOf_other (dec := decLog) 1 (progB X.p) hl 3 (by decide)
    replace r1 : readOf sumOf 1 decProg (fileOf 1 (progB X.p)) = (some X.p, 0) := r1
    refine ⟨by unfold readX; simp only [show (UInt8.ofNat 1) = 1 from rfl, r0, r1, r2, r3]; rfl, fun i hi => ?_⟩
    obtain rfl | rfl | rfl | rfl : i = 0 ∨ i = 1 ∨ i = 2 ∨ i = 3 := by omega
    · simp only [readE]; exact congrArg Prod.snd r0
    · simp only [readE]; exact congrArg Prod.snd r1
    · simp only [readE]; exact congrArg Prod.snd r2
    · simp only [readE]; exact congrArg Prod.snd r3
  · simp only [depthK, contentK, onlyX] at *
    have r2 := readOf_there codec_vec (okVec_of x3 hd) 2 hl
    have r0 := readOf_other (dec := decT 2 0 60) 2 (vecB X.q) hl 0 (by decide)
    have r1 := readOf_other (dec := decProg) 2 (vecB X.q) hl 1 (by decide)
    have r3 := readOf_other (dec := decLog) 2 (vecB X.q) hl 3 (by decide)
    replace r2 : readOf sumOf 2 decVec (fileOf 2 (vecB X.q)) = (some X.q, 0) := r2
    refine ⟨by unfold readX; simp only [show (UInt8.ofNat 2) = 2 from rfl, r0, r1, r2, r3]; rfl, fun i hi => ?_⟩
    obtain rfl | rfl | rfl | rfl : i = 0 ∨ i = 1 ∨ i = 2 ∨ i = 3 := by omega
    · simp only [readE]; exact congrArg Prod.snd r0
    · simp only [readE]; exact congrArg Prod.snd r1
    · simp only [readE]; exact congrArg Prod.snd r2
    · simp only [readE]; exact congrArg Prod.snd r3
  · simp only [depthK, contentK, onlyX] at *
    have r3 := readOf_there codec_log (okLog_of x4) 3 hl
    have r0 := readOf_other (dec := decT 2 0 60) 3 (logB X.l) hl 0 (by decide)
    have r1 := readOf_other (dec := decProg) 3 (logB X.l) hl 1 (by decide)
    have r2 := readOf_other (dec := decVec) 3 (logB X.l) hl 2 (by decide)
    replace r3 : readOf sumOf 3 decLog (fileOf 3 (logB X.l)) = (some X.l, 0) := r3
    refine ⟨by unfold readX; simp only [show (UInt8.ofNat 3) = 3 from rfl, r0, r1, r2, r3]; rfl, fun i hi => ?_⟩
    obtain rfl | rfl | rfl | rfl : i = 0 ∨ i = 1 ∨ i = 2 ∨ i = 3 := by omega
    · simp only [readE]; exact congrArg Prod.snd r0
    · simp only [readE]; exact congrArg Prod.snd r1
    · simp only [readE]; exact congrArg Prod.snd r2
    · simp only [readE]; exact congrArg Prod.snd r3
end Go.Proofs.FileA
