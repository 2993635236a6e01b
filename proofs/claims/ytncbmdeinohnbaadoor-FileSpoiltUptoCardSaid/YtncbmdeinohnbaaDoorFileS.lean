/- The check of some bytes. -/
import Derived.Test.YtncbmdeinohnbaaDoorAmCoreC
import Derived.Test.YtncbmdeinohnbaaDoorFileFnB
/- A first contract over the abstract machine: file.Sum (a trial of the road). -/
set_option linter.unusedVariables false
set_option linter.unusedSimpArgs false
namespace Go.Proofs.FileA
open Go Go.Am
variable {A : Nat → Option AFunc} {gl : Nat → List V}

def bsV (l : List UInt8) : List (List V) := l.map fun b => [.int .u8 b.toNat]

def fstS (f : Int) (b : UInt8) : Int := (IntKind.i64.wrap (f + IntKind.i64.wrap b.toNat)).tmod 65521
def sndS (s f : Int) : Int := (IntKind.i64.wrap (s + f)).tmod 65521
def sumS (f s : Int) : List UInt8 → Int × Int
  | [] => (f, s)
  | b :: l => sumS (fstS f b) (sndS s (fstS f b)) l

def body19 : ACode := match Tryd.a19.body with
  | .seq _ (.seq _ (.seq (.seq _ (.block _ (.loop b))) _)) => b
  | _ => .skip

theorem wrap_i64 {n : Int} (h0 : 0 ≤ n) (h1 : n < 2 ^ 63) : IntKind.i64.wrap n = n := by
  simp only [IntKind.wrap, IntKind.bits, IntKind.signed, Bool.true_and]
  have : n % (2 ^ 64 : Int) = n := by omega
  simp only [this]
  split
  · rename_i h; simp at h; omega
  · rfl

theorem sum_round (l : List UInt8) (hl : l.length < 2 ^ 62) (ex : Bool) (i : Nat) (b : UInt8) (hb : l[i]? = some b) (x y : V) (f s : Int) (c4 : V) (fl : Option (Nat × V)) (h : Heap) :
    exec (lim gl A) gl body19 { slots := [x, y, .int .i64 f, .int .i64 s, c4, .sv (bsV l) ex, .int .i64 l.length, .int .i64 i], h := h, flag := fl } =
      some (.norm, { slots := [x, y, .int .i64 (fstS f b), .int .i64 (sndS s (fstS f b)), .int .u8 b.toNat, .sv (bsV l) ex, .int .i64 l.length, .int .i64 (i + 1 : Nat)], h := h, flag := none }) := by
  have hlt : i < l.length := (List.getElem?_eq_some_iff.1 hb).1
  have hlt' : (i : Int) < l.length := by omega
  have hge : (0 : Int) ≤ i := by omega
  have hg : (bsV l)[i]? = some [.int .u8 b.toNat] := by simp [bsV, hb]
  have hw : IntKind.i64.wrap ((i : Int) + 1) = ((i + 1 : Nat) : Int) := by rw [wrap_i64 (by omega) (by omega)]; omega
  simp [body19, Tryd.a19, exec, regA, runOps, wanted, stepOp, popV, lopV, loadV, ev, binV, intBin, putSlot, ofRef, setSlot, pushD, hlt', hg, mkV, hw, fstS, sndS]

theorem sum_end (l : List UInt8) (ex : Bool) (x y : V) (f s : Int) (c4 : V) (fl : Option (Nat × V)) (h : Heap) :
    exec (lim gl A) gl body19 { slots := [x, y, .int .i64 f, .int .i64 s, c4, .sv (bsV l) ex, .int .i64 l.length, .int .i64 l.length], h := h, flag := fl } =
      some (.exit 0, { slots := [x, y, .int .i64 f, .int .i64 s, c4, .sv (bsV l) ex, .int .i64 l.length, .int .i64 l.length], h := h, flag := none }) := by
  simp [body19, Tryd.a19, exec, regA, runOps, wanted, stepOp, popV, lopV, loadV, ev, binV, intBin, putSlot, ofRef, setSlot, pushD, mkV]

theorem sum_loop (l : List UInt8) (hl : l.length < 2 ^ 62) (ex : Bool) (x y : V) (h : Heap) : ∀ (k i : Nat) (f s : Int) (c4 : V) (fl : Option (Nat × V)), i + k = l.length →
    ∃ c4', (lim gl A).loop body19 { slots := [x, y, .int .i64 f, .int .i64 s, c4, .sv (bsV l) ex, .int .i64 l.length, .int .i64 i], h := h, flag := fl } =
      some (.exit 0, { slots := [x, y, .int .i64 (sumS f s (l.drop i)).1, .int .i64 (sumS f s (l.drop i)).2, c4', .sv (bsV l) ex, .int .i64 l.length, .int .i64 l.length], h := h, flag := none }) := by
  intro k
  induction k with
  | zero =>
    intro i f s c4 fl hi
    obtain rfl : i = l.length := by omega
    refine ⟨c4, ?_⟩
    rw [lim_loop, loopF, sum_end]
    simp [sumS]
  | succ k ih =>
    intro i f s c4 fl hi
    have hlt : i < l.length := by omega
    obtain ⟨b, hb⟩ : ∃ b, l[i]? = some b := ⟨_, List.getElem?_eq_getElem hlt⟩
    obtain ⟨c4', hc⟩ := ih (i + 1) (fstS f b) (sndS s (fstS f b)) (.int .u8 b.toNat) none (by omega)
    refine ⟨c4', ?_⟩
    rw [lim_loop, loopF, sum_round l hl ex i b hb]
    simp only
    rw [hc]
    have hd : l.drop i = b :: l.drop (i + 1) := by
      rw [List.drop_eq_getElem_cons hlt]
      have := List.getElem?_eq_getElem hlt
      rw [hb] at this
      rw [Option.some.inj this]
    rw [hd, sumS]

def sumV (l : List UInt8) : V :=
  .int .i64 (IntKind.i64.wrap ((IntKind.i64.wrap ((sumS 1 0 l).2 * 65536) % 18446744073709551616).toNat ||| ((sumS 1 0 l).1 % 18446744073709551616).toNat : Nat))

theorem or64 (a b : Int) : (BitVec.ofInt 64 a ||| BitVec.ofInt 64 b).toNat = (a % 18446744073709551616).toNat ||| (b % 18446744073709551616).toNat := by
  simp [BitVec.toNat_or, BitVec.toNat_ofInt]

theorem sum_ok (l : List UInt8) (hl : l.length < 2 ^ 62) (ex : Bool) (h : Heap) : (lim gl Tryd.aprog).call 19 [.sv (bsV l) ex] h = some (.ret (sumV l), h) := by
  obtain ⟨c4', hc⟩ := sum_loop (A := Tryd.aprog) (gl := gl) l hl ex (.sv (bsV l) ex) (.int .i64 0) h l.length 0 1 0 .undef none (by omega)
  have hbl : (bsV l).length = l.length := by simp [bsV]
  rw [lim_call]
  have hbody : body19 = body19 := rfl
  simp only [callF, show Tryd.aprog 19 = some Tryd.a19 from rfl]
  simp only [body19, Tryd.a19] at hc
  simp [Tryd.a19, initSlots, exec, regA, runOps, wanted, stepOp, popV, ev, putSlot, setSlot, pushD, hbl]
  simp at hc
  simp [hc, binV, intBin, shiftV, putSlot, setSlot, pushD, leave, resultV, resL, resV, sumV, IntKind.bits]
  exact congrArg (fun n : Nat => IntKind.i64.wrap (n : Int)) (or64 _ _)
end Go.Proofs.FileA
/- ref.Sum over the abstract machine, and that it is file.Sum. -/
set_option linter.unusedVariables false
set_option linter.unusedSimpArgs false
namespace Go.Proofs.FileA
open Go Go.Am
variable {A : Nat → Option AFunc} {gl : Nat → List V}

def body20 : ACode := match Tryd.a20.body with
  | .seq _ (.seq _ (.seq (.seq _ (.block _ (.loop b))) _)) => b
  | _ => .skip

theorem rsum_round (l : List UInt8) (hl : l.length < 2 ^ 62) (ex : Bool) (i : Nat) (b : UInt8) (hb : l[i]? = some b) (y : V) (f s : Int) (fl : Option (Nat × V)) (h : Heap) :
    exec (lim gl A) gl body20 { slots := [.sv (bsV l) ex, y, .int .i64 f, .int .i64 s, .int .i64 i], h := h, flag := fl } =
      some (.norm, { slots := [.sv (bsV l) ex, y, .int .i64 (fstS f b), .int .i64 (sndS s (fstS f b)), .int .i64 (i + 1 : Nat)], h := h, flag := none }) := by
  have hlt : i < l.length := (List.getElem?_eq_some_iff.1 hb).1
  have hbl : (bsV l).length = l.length := by simp [bsV]
  have hlt' : (i : Int) < l.length := by omega
  have hge : (0 : Int) ≤ i := by omega
  have hg : (bsV l)[i]? = some [.int .u8 b.toNat] := by simp [bsV, hb]
  have hw : IntKind.i64.wrap ((i : Int) + 1) = ((i + 1 : Nat) : Int) := by rw [wrap_i64 (by omega) (by omega)]; omega
  simp [body20, Tryd.a20, exec, regA, runOps, wanted, stepOp, popV, lopV, loadV, ev, binV, intBin, putSlot, ofRef, setSlot, pushD, hbl, hlt', hg, mkV, hw, fstS, sndS]

theorem rsum_end (l : List UInt8) (ex : Bool) (y : V) (f s : Int) (fl : Option (Nat × V)) (h : Heap) :
    exec (lim gl A) gl body20 { slots := [.sv (bsV l) ex, y, .int .i64 f, .int .i64 s, .int .i64 l.length], h := h, flag := fl } =
      some (.exit 0, { slots := [.sv (bsV l) ex, y, .int .i64 f, .int .i64 s, .int .i64 l.length], h := h, flag := none }) := by
  have hbl : (bsV l).length = l.length := by simp [bsV]
  simp [body20, Tryd.a20, exec, regA, runOps, wanted, stepOp, popV, lopV, loadV, ev, binV, intBin, putSlot, ofRef, setSlot, pushD, mkV, hbl]

theorem rsum_loop (l : List UInt8) (hl : l.length < 2 ^ 62) (ex : Bool) (y : V) (h : Heap) : ∀ (k i : Nat) (f s : Int) (fl : Option (Nat × V)), i + k = l.length →
    (lim gl A).loop body20 { slots := [.sv (bsV l) ex, y, .int .i64 f, .int .i64 s, .int .i64 i], h := h, flag := fl } =
      some (.exit 0, { slots := [.sv (bsV l) ex, y, .int .i64 (sumS f s (l.drop i)).1, .int .i64 (sumS f s (l.drop i)).2, .int .i64 l.length], h := h, flag := none }) := by
  intro k
  induction k with
  | zero =>
    intro i f s fl hi
    obtain rfl : i = l.length := by omega
    rw [lim_loop, loopF, rsum_end]
    simp [sumS]
  | succ k ih =>
    intro i f s fl hi
    have hlt : i < l.length := by omega
    obtain ⟨b, hb⟩ : ∃ b, l[i]? = some b := ⟨_, List.getElem?_eq_getElem hlt⟩
    have hc := ih (i + 1) (fstS f b) (sndS s (fstS f b)) none (by omega)
    rw [lim_loop, loopF, rsum_round l hl ex i b hb]
    simp only
    rw [hc]
    have hd : l.drop i = b :: l.drop (i + 1) := by
      rw [List.drop_eq_getElem_cons hlt]
      have := List.getElem?_eq_getElem hlt
      rw [hb] at this
      rw [Option.some.inj this]
    rw [hd, sumS]

theorem fstS_range (f : Int) (b : UInt8) (h0 : 0 ≤ f) (h1 : f < 65521) : 0 ≤ fstS f b ∧ fstS f b < 65521 := by
  have hb : b.toNat < 256 := b.toNat_lt
  unfold fstS
  rw [wrap_i64 (n := (b.toNat : Int)) (by omega) (by omega), wrap_i64 (by omega) (by omega), Int.tmod_eq_emod_of_nonneg (by omega)]
  omega
theorem sndS_range (s f : Int) (h0 : 0 ≤ s) (h1 : s < 65521) (h2 : 0 ≤ f) (h3 : f < 65521) : 0 ≤ sndS s f ∧ sndS s f < 65521 := by
  unfold sndS
  rw [wrap_i64 (by omega) (by omega), Int.tmod_eq_emod_of_nonneg (by omega)]
  omega
theorem sumS_range : ∀ (l : List UInt8) (f s : Int), 0 ≤ f → f < 65521 → 0 ≤ s → s < 65521 → (0 ≤ (sumS f s l).1 ∧ (sumS f s l).1 < 65521) ∧ (0 ≤ (sumS f s l).2 ∧ (sumS f s l).2 < 65521)
  | [], f, s, h0, h1, h2, h3 => ⟨⟨h0, h1⟩, ⟨h2, h3⟩⟩
  | b :: l, f, s, h0, h1, h2, h3 => by
    obtain ⟨a1, a2⟩ := fstS_range f b h0 h1
    obtain ⟨a3, a4⟩ := sndS_range s (fstS f b) h2 h3 a1 a2
    exact sumS_range l _ _ a1 a2 a3 a4

/-- the number itself -/
def sumN (l : List UInt8) : Int := (sumS 1 0 l).2 * 65536 + (sumS 1 0 l).1

theorem sumV_eq (l : List UInt8) : sumV l = .int .i64 (sumN l) := by
  obtain ⟨⟨a1, a2⟩, ⟨a3, a4⟩⟩ := sumS_range l 1 0 (by omega) (by omega) (by omega) (by omega)
  unfold sumV sumN
  generalize (sumS 1 0 l).1 = f at *
  generalize (sumS 1 0 l).2 = s at *
  obtain ⟨F, rfl⟩ := Int.eq_ofNat_of_zero_le a1
  obtain ⟨S, rfl⟩ := Int.eq_ofNat_of_zero_le a3
  congr 1
  rw [wrap_i64 (n := (S : Int) * 65536) (by omega) (by omega)]
  have e1 : ((S : Int) * 65536 % 18446744073709551616).toNat = S <<< 16 := by
    rw [Nat.shiftLeft_eq]
    omega
  have e2 : ((F : Int) % 18446744073709551616).toNat = F := by omega
  rw [e1, e2, ← Nat.shiftLeft_add_eq_or_of_lt (show F < 2 ^ 16 by omega) S, Nat.shiftLeft_eq, wrap_i64 (by omega) (by omega)]
  omega

theorem rsum_ok (l : List UInt8) (hl : l.length < 2 ^ 62) (ex : Bool) (h : Heap) : (lim gl Tryd.aprog).call 20 [.sv (bsV l) ex] h = some (.ret (sumV l), h) := by
  have hc := rsum_loop (A := Tryd.aprog) (gl := gl) l hl ex (.int .i64 0) h l.length 0 1 0 none (by omega)
  obtain ⟨⟨a1, a2⟩, ⟨a3, a4⟩⟩ := sumS_range l 1 0 (by omega) (by omega) (by omega) (by omega)
  rw [lim_call, sumV_eq]
  simp only [callF, show Tryd.aprog 20 = some Tryd.a20 from rfl]
  simp only [body20, Tryd.a20] at hc
  simp [Tryd.a20, initSlots, exec, regA, runOps, wanted, stepOp, popV, ev, putSlot, setSlot, pushD]
  simp at hc
  simp [hc, binV, intBin, putSlot, setSlot, pushD, leave, resultV, resL, resV, sumN]
  rw [wrap_i64 (n := 65536 * (sumS 1 0 l).2) (by omega) (by omega), wrap_i64 (by omega) (by omega)]
  omega
end Go.Proofs.FileA
