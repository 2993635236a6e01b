/- What the program's writer does. -/
import Derived.Test.YtncbmdeinohnbaaDoorAmCoreD
import Derived.Test.YtncbmdeinohnbaaDoorFileFnB
import Derived.Test.YtncbmdeinohnbaaDoorFileS
/- File: what a number is as bytes; what is written behind what. Plain lists and numbers. -/
set_option linter.unusedVariables false
namespace Go.Proofs.FileA

/-- how many bytes a number needs -/
def wid (n : Nat) : Nat := if h : n < 256 then 1 else wid (n / 256) + 1
termination_by n
decreasing_by omega

theorem wid_pos (n : Nat) : 1 ≤ wid n := by
  unfold wid; split <;> omega

theorem wid_le : ∀ (k n : Nat), n < 256 ^ (k + 1) → wid n ≤ k + 1
  | 0, n, h => by unfold wid; rw [dif_pos (by omega)]; omega
  | k + 1, n, h => by
    unfold wid
    split
    · omega
    · have := wid_le k (n / 256) (by rw [Nat.pow_succ] at h; omega)
      omega

theorem wid_lt : ∀ (k n : Nat), 1 ≤ k → (k < wid n ↔ 256 ^ k ≤ n)
  | 0, n, h => by omega
  | 1, n, _ => by
    unfold wid
    split
    · omega
    · have := wid_pos (n / 256); omega
  | k + 2, n, _ => by
    unfold wid
    split
    · rename_i h
      have : 256 ≤ 256 ^ (k + 2) := by
        rw [Nat.pow_succ]
        have : 0 < 256 ^ (k + 1) := Nat.pow_pos (by omega)
        omega
      omega
    · have := wid_lt (k + 1) (n / 256) (by omega)
      rw [Nat.pow_succ 256 (k + 1)]
      omega

/-- k bytes, the most significant first -/
def be (k n : Nat) : List UInt8 := (List.range k).map fun i => UInt8.ofNat (n / 256 ^ (k - 1 - i))

@[simp] theorem be_length (k n : Nat) : (be k n).length = k := by simp [be]

/-- a number as it is written -/
def numB (n : Int) : List UInt8 :=
  if 0 ≤ n ∧ n < 240 then [UInt8.ofNat n.toNat]
  else if 0 ≤ n then UInt8.ofNat (239 + wid n.toNat) :: be (wid n.toNat) n.toNat
  else UInt8.ofNat (247 + wid (-1 - n).toNat) :: be (wid (-1 - n).toNat) (-1 - n).toNat

theorem numB_pos (n : Int) : 1 ≤ (numB n).length := by
  unfold numB
  split
  · simp
  · split <;> simp

theorem take_flatMap {α : Type} (f : α → List UInt8) {l : List α} {i : Nat} (h : i < l.length) : (l.take (i + 1)).flatMap f = (l.take i).flatMap f ++ f l[i] := by
  rw [← List.take_append_getElem h, List.flatMap_append]
  simp

/-- what is written: behind the others, if there is room for it -/
def Put (c out out' : List UInt8) : Prop := (out.length + c.length ≤ 200000 → out' = out ++ c) ∧ (200000 < out.length + c.length → 200000 < out'.length) ∧ (out.length ≤ 2 ^ 47 → out'.length ≤ 2 ^ 47)

theorem Put.nil (out : List UInt8) : Put [] out out := ⟨fun _ => by simp, fun h => by simpa using h, id⟩
theorem Put.append {c d out o1 o2 : List UInt8} (h : Put c out o1) (h' : Put d o1 o2) : Put (c ++ d) out o2 := by
  refine ⟨fun hl => ?_, fun hl => ?_, fun hl => h'.2.2 (h.2.2 hl)⟩
  · simp only [List.length_append] at hl
    have h1 := h.1 (by omega)
    subst h1
    have := h'.1 (by simp; omega)
    rw [this, List.append_assoc]
  · simp only [List.length_append] at hl
    by_cases h0 : out.length + c.length ≤ 200000
    · have h1 := h.1 h0
      subst h1
      exact h'.2.1 (by simp; omega)
    · exact h'.2.1 (by have := h.2.1 (by omega); omega)
/-- one chunk -/
theorem Put.chunk (c out : List UInt8) (hc : c.length < 2 ^ 46) : Put c out (if out.length ≤ 200000 then out ++ c else out) := by
  refine ⟨fun hl => ?_, fun hl => ?_, fun hl => ?_⟩
  · rw [if_pos (by omega)]
  · split
    · simp; omega
    · omega
  · split
    · simp; omega
    · omega

/-- a value, an expression, an instruction: numbers, lists of numbers, parts -/
inductive T where
  | mk (ns : List Int) (ls : List (List Int)) (ks : List T)
  deriving Inhabited

def listB (l : List Int) : List UInt8 := numB l.length ++ l.flatMap numB

mutual
def content : T → List UInt8
  | ⟨ns, ls, ks⟩ => ns.flatMap numB ++ ls.flatMap listB ++ (numB ks.length ++ contents ks)
def contents : List T → List UInt8
  | [] => []
  | t :: ts => content t ++ contents ts
end
theorem contents_eq (ts : List T) : contents ts = (ts.map content).flatten := by
  induction ts with
  | nil => simp [contents]
  | cons t ts ih => simp [contents, ih]

mutual
/-- how deep something is -/
def depth : T → Nat
  | ⟨_, _, ks⟩ => depths ks + 1
def depths : List T → Nat
  | [] => 0
  | t :: ts => max (depth t) (depths ts)
end

structure FunT where
  name : List UInt8
  param : Int
  body : T
structure ProgT where
  funs : List FunT
  main : Int
structure VecFunT where
  params : Int
  code : List T
  outs : List Int
  ats : List Int
structure VecT where
  funs : List VecFunT
  main : Int
structure LogT where
  kind : Int
  choices : List Int
  marks : List Int

def textB (s : List UInt8) : List UInt8 := numB s.length ++ s
def funB (f : FunT) : List UInt8 := textB f.name ++ numB f.param ++ content f.body
def progB (p : ProgT) : List UInt8 := numB p.funs.length ++ (p.funs.map funB).flatten ++ numB p.main
def codeB (l : List T) : List UInt8 := numB l.length ++ contents l
def vecFunB (f : VecFunT) : List UInt8 := numB f.params ++ codeB f.code ++ listB f.outs ++ listB f.ats
def vecB (p : VecT) : List UInt8 := numB p.funs.length ++ (p.funs.map vecFunB).flatten ++ numB p.main
def logB (l : LogT) : List UInt8 := numB l.kind ++ listB l.choices ++ listB l.marks

def progDepth (p : ProgT) : Nat := depths (p.funs.map (·.body))
def vecDepth (p : VecT) : Nat := (p.funs.map fun f => depths f.code).foldr max 0
end Go.Proofs.FileA
/- The writer: bytes. -/
set_option linter.unusedVariables false
set_option linter.unusedSimpArgs false
namespace Go.Proofs.FileA
open Go Go.Am
variable {gl : Nat → List V}

def bytesC (l : List UInt8) : List V := l.map fun b => .int .u8 b.toNat
theorem bytesV_flat (l : List UInt8) : (bytesV l).flatten = bytesC l := by
  induction l with
  | nil => rfl
  | cons b l ih => simp only [bytesV, bytesC, List.map_cons, List.flatten_cons] at ih ⊢; rw [ih]; rfl
@[simp] theorem bytesC_append (l m : List UInt8) : bytesC (l ++ m) = bytesC l ++ bytesC m := by simp [bytesC]
@[simp] theorem bytesC_length (l : List UInt8) : (bytesC l).length = l.length := by simp [bytesC]
@[simp] theorem bytesV_length (l : List UInt8) : (bytesV l).length = l.length := by simp [bytesV]

/-- a writer that has written something: where it lies, and its bytes -/
structure WSt (w o : Nat) (out : List UInt8) (h : Heap) : Prop where
  ne : w ≠ o
  w : h[w]? = some (.cells 1 1 [.sl o 0 out.length out.length 1 false])
  o : h[o]? = some (.cells out.length 1 (bytesC out))

/-- the heap but for two objects -/
structure Fr2 (w o : Nat) (h h' : Heap) : Prop where
  len : h'.length = h.length
  get : ∀ b : Nat, b ≠ w → b ≠ o → h'[b]? = h[b]?
theorem Fr2.refl (w o : Nat) (h : Heap) : Fr2 w o h h := ⟨rfl, fun _ _ _ => rfl⟩
theorem Fr2.trans {w o : Nat} {h h' h'' : Heap} (a : Fr2 w o h h') (b : Fr2 w o h' h'') : Fr2 w o h h'' := ⟨b.len.trans a.len, fun i x y => (b.get i x y).trans (a.get i x y)⟩

theorem bytes_ok {w o : Nat} {out : List UInt8} {h : Heap} (hs : WSt w o out h) {v : V} {l : List UInt8} (hv : SlV (bytesV l) v) (hl : l.length < 2 ^ 46) :
    CallP gl Tryd.aprog 71 [.ref w 0 1, v] h (fun r h' => r = .ret (.tup []) ∧ WSt w o (if out.length ≤ 200000 then out ++ l else out) h' ∧ Fr2 w o h h') := by
  refine call_ofQ (af := Tryd.a71) rfl rfl fun Q hQ => ?_
  obtain ⟨hne, hw, ho⟩ := hs
  simp only [Tryd.a71]
  simp [objCells, hw, lenV]
  by_cases hle : out.length ≤ 200000
  · have h1 : (out.length : Int) ≤ 200000 := by omega
    have hlt := (List.getElem?_eq_some_iff.1 hw).1
    have hlo := (List.getElem?_eq_some_iff.1 ho).1
    have ha := appV_own (bytes := 1) ho hv.slen (hv.scells h) (by rw [bytesV_flat]; simp) (by unfold room; simp; omega)
    simp [h1, ha, storeV, objCells, List.getElem?_set_ne (Ne.symm hne), hw, bytesV_flat]
    refine hQ _ _ ⟨rfl, ?_⟩
    rw [if_pos hle]
    refine ⟨⟨hne, ?_, ?_⟩, ⟨by simp, fun b h1 h2 => ?_⟩⟩
    · simp [List.getElem?_set_self, hlt]
    · rw [List.getElem?_set_ne hne, List.getElem?_set_self hlo]; simp
    · rw [List.getElem?_set_ne (Ne.symm h1), List.getElem?_set_ne (Ne.symm h2)]
  · have h1 : ¬ (out.length : Int) ≤ 200000 := by omega
    simp [h1]
    refine hQ _ _ ⟨rfl, ?_⟩
    rw [if_neg hle]
    exact ⟨⟨hne, hw, ho⟩, Fr2.refl _ _ _⟩
end Go.Proofs.FileA
/- The writer: numbers. -/
set_option linter.unusedVariables false
set_option linter.unusedSimpArgs false
namespace Go.Proofs.FileA
open Go Go.Am
variable {gl : Nat → List V}

/-- a function that writes -/
def Wr (f : Nat) (args : List V) (c : List UInt8) : Prop := ∀ (gl : Nat → List V) (w o : Nat) (out : List UInt8) (h : Heap), WSt w o out h →
  CallP gl Tryd.aprog f (.ref w 0 1 :: args) h (fun r h' => r = .ret (.tup []) ∧ ∃ out', WSt w o out' h' ∧ Put c out out' ∧ Fr2 w o h h')

theorem wr_bytes {v : V} {l : List UInt8} (hv : SlV (bytesV l) v) (hl : l.length < 2 ^ 46) : Wr 71 [v] l := fun gl w o out h hs =>
  (bytes_ok hs hv hl).mono fun r h' ⟨h1, h2, h3⟩ => ⟨h1, _, h2, Put.chunk l out hl, h3⟩

theorem u8_of {n : Int} (h : 0 ≤ n) : IntKind.u8.wrap n = ((UInt8.ofNat n.toNat).toNat : Int) := by
  rw [wrapu8_mod]
  simp
  omega

theorem wr_byte (n : Int) (h : 0 ≤ n) : Wr 71 [.sv [[.int .u8 (IntKind.u8.wrap n)]] true] [UInt8.ofNat n.toNat] :=
  wr_bytes (by rw [u8_of h]; exact .sv true) (by simp)

def intsV (l : List Int) : List (List V) := l.map fun n => [.int .i64 n]
def is64 (n : Int) : Prop := -9223372036854775808 ≤ n ∧ n ≤ 9223372036854775807

theorem shr_lt (m k : Nat) (h : 1 ≤ k) : (0 < (m : Int).fdiv (2 ^ (8 * k))) ↔ k < wid m := by
  rw [wid_lt k m h, Int.fdiv_eq_ediv_of_nonneg _ (by exact Int.pow_nonneg (by omega))]
  have e : (2 : Int) ^ (8 * k) = ((256 ^ k : Nat) : Int) := by rw [Int.pow_mul]; simp
  rw [e]
  have hp : 0 < 256 ^ k := Nat.pow_pos (by omega)
  norm_cast
  exact Nat.div_pos_iff.trans ⟨fun h => h.2, fun h => ⟨hp, h⟩⟩
theorem shr_eq (m k : Nat) : (m : Int).fdiv (2 ^ (8 * k)) = ((m / 256 ^ k : Nat) : Int) := by
  rw [Int.fdiv_eq_ediv_of_nonneg _ (by exact Int.pow_nonneg (by omega))]
  have e : (2 : Int) ^ (8 * k) = ((256 ^ k : Nat) : Int) := by rw [Int.pow_mul]; simp
  rw [e]
  norm_cast

theorem be_take (k n i : Nat) (h : i < k) : (be k n).take (i + 1) = (be k n).take i ++ [UInt8.ofNat (n / 256 ^ (k - 1 - i))] := by
  rw [List.take_add_one]
  simp [be, h]

theorem wr_numbers {v : V} {l : List Int} (hv : SlV (intsV l) v) (hl : l.length < 2 ^ 46) (hr : ∀ n ∈ l, is64 n) : Wr 138 [v] (l.flatMap numB) := by
  intro gl w o out h hs
  refine call_ofQ (af := Tryd.a138) rfl rfl fun Q hQ => ?_
  simp only [Tryd.a138]
  have hlen : lenV v = some (.int .i64 l.length) := by rw [hv.len]; simp [intsV]
  simp [hlen]
  refine loop_nQ l.length (fun i c => ∃ out' h' a2 a3 a4 a5 a9 a10, c = ⟨[.ref w 0 1, v, a2, a3, a4, a5, v, .int .i64 l.length, .int .i64 i, a9, a10], [], none, none, h'⟩ ∧
    WSt w o out' h' ∧ Put ((l.take i).flatMap numB) out out' ∧ Fr2 w o h h') ?_ ⟨out, h, _, _, _, _, _, _, rfl, hs, by simpa using Put.nil out, Fr2.refl _ _ _⟩
  rintro I hI i c hi ⟨out', h', a2, a3, a4, a5, a9, a10, rfl, hs', hp, hf⟩
  by_cases hlt : i < l.length
  · have hlt' : (i : Int) < l.length := by omega
    have hidx : idxV v i 1 = some (.pv [.int .i64 l[i]]) := by rw [hv.idx]; simp [intsV, hlt]
    have hn := hr l[i] (List.getElem_mem hlt)
    have htk := take_flatMap numB hlt
    have hw1 : IntKind.i64.wrap ((i : Int) + 1) = ((i + 1 : Nat) : Int) := by rw [wrap64 (by omega) (by omega)]; rfl
    have hI : ∀ out' h' a2 a3 a4 a5 a9 a10, WSt w o out' h' → Put ((l.take i).flatMap numB ++ numB l[i]) out out' → Fr2 w o h h' → I (i + 1) ⟨[.ref w 0 1, v, a2, a3, a4, a5, v, .int .i64 l.length, .int .i64 (i + 1), a9, a10], [], none, none, h'⟩ :=
      fun out' h' a2 a3 a4 a5 a9 a10 x1 x2 x3 => hI _ _ ⟨out', h', a2, a3, a4, a5, a9, a10, rfl, x1, by rw [htk]; exact x2, x3⟩
    clear htk
    generalize l[i] = n at hidx hn hI
    unfold is64 at hn
    by_cases hs0 : 0 ≤ n ∧ n < 240
    · obtain ⟨r, h1, e, rfl, out1, hs1, hp1, hf1⟩ := OptP.ex (wr_byte n hs0.1 gl w o out' h' hs')
      have hnb : numB n = [UInt8.ofNat n.toNat] := by unfold numB; rw [if_pos hs0]
      simp [hlt', hidx, hs0.1, hs0.2, slotOf, fill, chunks, e, hlt, hw1]
      exact hI _ _ _ _ _ _ _ _ hs1 (by rw [hnb]; exact hp.append hp1) (hf.trans hf1)
    · have hm : ∃ m : Nat, ∃ first : Nat, (n < 0 → n = -1 - m ∧ first = 247) ∧ (¬ n < 0 → n = m ∧ first = 239) ∧ numB n = UInt8.ofNat (first + wid m) :: be (wid m) m ∧ m < 2 ^ 63 := by
        by_cases h0 : n < 0
        · refine ⟨(-1 - n).toNat, 247, fun _ => ⟨by omega, rfl⟩, fun h => absurd h0 h, ?_, by omega⟩
          unfold numB; rw [if_neg hs0, if_neg (by omega)]
        · refine ⟨n.toNat, 239, fun h => absurd h h0, fun _ => ⟨by omega, rfl⟩, ?_, by omega⟩
          unfold numB; rw [if_neg hs0, if_pos (by omega)]
      obtain ⟨m, first, hm1, hm2, hnb, hmb⟩ := hm
      have hwid : wid m ≤ 8 := wid_le 7 m (by omega)
      have hfirst : first ≤ 247 := by by_cases h0 : n < 0; · have := (hm1 h0).2; omega
                                      · have := (hm2 h0).2; omega
      have hstep : ∀ k : Nat, k ≤ 8 → IntKind.i64.wrap (8 * (k : Int)) = ((8 * k : Nat) : Int) := fun k hk => by rw [wrap64 (by omega) (by omega)]; rfl
      by_cases h0 : n < 0
      case' pos =>
        obtain ⟨rfl, hfi⟩ := hm1 h0
        have h1 : ¬ (0 ≤ -1 - (m : Int)) := by omega
        have h2 : IntKind.i64.wrap (-1 - (-1 - (m : Int))) = m := by rw [wrap64 (by omega) (by omega)]; omega
        have h1' : ¬ ((m : Int) ≤ -1) := by omega
        simp [hlt', hidx, slotOf, h0, h1', h2]
        rw [show (247 : Int) = ((first : Nat) : Int) by omega]
      case' neg =>
        obtain ⟨rfl, hfi⟩ := hm2 h0
        have h240 : ¬ ((m : Int) < 240) := by omega
        simp [hlt', hidx, h240, slotOf, h0]
        rw [show (239 : Int) = ((first : Nat) : Int) by omega]
      all_goals
        clear hfi h0 hm1 hm2
        refine loop_nQ (wid m - 1) (fun j c => c = ⟨[.ref w 0 1, v, .int .i64 m, .int .i64 first, .int .i64 (1 + j : Nat), a5, v, .int .i64 l.length, .int .i64 i, a9, a10], [], none, none, h'⟩) ?_ rfl
        rintro J hJ j c hj rfl
        have hwp := wid_pos m
        by_cases hjl : 1 + j < wid m
        · have hk8 : ((1 + j : Nat) : Int) < 8 := by omega
          have h3 := (shr_lt m (1 + j) (by omega)).2 hjl
          have h5 := hstep (1 + j) (by omega)
          have h6 : min (8 * (1 + j)) 64 = 8 * (1 + j) := by omega
          have h7 : IntKind.i64.wrap (((1 + j : Nat) : Int) + 1) = ((1 + (j + 1) : Nat) : Int) := by rw [wrap64 (by omega) (by omega)]; omega
          generalize hk : (1 + j : Nat) = k at *
          have h8 : ¬ ((8 * k : Nat) : Int) < 0 := by omega
          simp only [WX_seq, WX_reg]
          simp [hk8, h5, h6, h3, slotOf, h7, h8, IntKind.bits, -Int.natCast_mul, -Int.natCast_add]
          exact ⟨by omega, hJ _ _ rfl⟩
        · have hjw : 1 + j = wid m := by omega
          rw [hjw]
          clear hjl
          generalize hk : wid m = k at *
          have h3 : ¬ (0 < (m : Int).fdiv (2 ^ (8 * k))) := fun h => by have := (shr_lt m k hwp).1 h; omega
          have h5 := hstep k hwid
          have h6 : min (8 * k) 64 = 8 * k := by omega
          have h8 : ¬ ((8 * k : Nat) : Int) < 0 := by omega
          have hfk : IntKind.i64.wrap ((first : Int) + (k : Int)) = ((first + k : Nat) : Int) := by rw [wrap64 (by omega) (by omega)]; rfl
          obtain ⟨r, h1, e, rfl, out1, hs1, hp1, hf1⟩ := OptP.ex (wr_byte ((first + k : Nat) : Int) (by omega) gl w o out' h' hs')
          have fin : ∀ a2 a3 a4 a5 a9 a10 h2 out2, WSt w o out2 h2 → Put (be k m) out1 out2 → Fr2 w o h1 h2 → I (i + 1) ⟨[.ref w 0 1, v, a2, a3, a4, a5, v, .int .i64 l.length, .int .i64 (i + 1), a9, a10], [], none, none, h2⟩ := by
            intro a2 a3 a4 a5 a9 a10 h2 out2 x1 x2 x3
            refine hI out2 h2 _ _ _ _ _ _ x1 ?_ (hf.trans (hf1.trans x3))
            rw [hnb]
            exact hp.append (Put.append (c := [_]) hp1 x2)
          by_cases hk8 : (k : Int) < 8
          all_goals
            simp only [WX_seq, WX_reg]
            simp [hk8, h5, h6, h3, slotOf, h8, IntKind.bits, hfk, fill, chunks, e, -Int.natCast_mul, -Int.natCast_add]
            refine loop_nQ k (fun j c => ∃ a5 h2 out2, c = ⟨[.ref w 0 1, v, .int .i64 m, .int .i64 first, .int .i64 k, a5, v, .int .i64 l.length, .int .i64 i, .int .i64 k, .int .i64 j], [], none, none, h2⟩ ∧ WSt w o out2 h2 ∧ Put ((be k m).take j) out1 out2 ∧ Fr2 w o h1 h2) ?_ ⟨_, _, _, rfl, hs1, Put.nil _, Fr2.refl _ _ _⟩
            rintro J hJ j c hj ⟨a5', h2, out2, rfl, hs2, hp2, hf2⟩
            by_cases hjk : j < k
            · have hjk' : (j : Int) < k := by omega
              have g1 : IntKind.i64.wrap ((k : Int) - 1) = ((k - 1 : Nat) : Int) := by rw [wrap64 (by omega) (by omega)]; omega
              have g2 : IntKind.i64.wrap (((k - 1 : Nat) : Int) - (j : Int)) = ((k - 1 - j : Nat) : Int) := by rw [wrap64 (by omega) (by omega)]; omega
              have g3 := hstep (k - 1 - j) (by omega)
              have g4 : min (8 * (k - 1 - j)) 64 = 8 * (k - 1 - j) := by omega
              have g5 : ¬ ((8 * (k - 1 - j) : Nat) : Int) < 0 := by omega
              have g6 := shr_eq m (k - 1 - j)
              have g7 : IntKind.i64.wrap ((j : Int) + 1) = ((j + 1 : Nat) : Int) := by rw [wrap64 (by omega) (by omega)]; rfl
              obtain ⟨r, h3, e3, rfl, out3, hs3, hp3, hf3⟩ := OptP.ex (wr_byte ((m / 256 ^ (k - 1 - j) : Nat) : Int) (Int.natCast_nonneg _) gl w o out2 h2 hs2)
              have g8 := be_take k m j hjk
              generalize m / 256 ^ (k - 1 - j) = q at *
              generalize k - 1 - j = z at *
              generalize hk1 : k - 1 = k1 at *
              simp [hjk', g1, g2, g3, g4, g5, g6, g7, IntKind.bits, fill, chunks, e3, -Int.natCast_mul, -Int.natCast_add, -Int.natCast_ediv]
              exact ⟨hjk, hJ _ _ ⟨_, _, _, rfl, hs3, by rw [g8]; exact hp2.append hp3, hf2.trans hf3⟩⟩
            · obtain rfl : j = k := by omega
              simp [hw1, hlt]
              exact fin _ _ _ _ _ _ _ _ hs2 (by rw [List.take_of_length_le (by simp)] at hp2; exact hp2) hf2
  · obtain rfl : i = l.length := by omega
    simp
    exact hQ _ _ ⟨rfl, _, hs', by simpa using hp, hf⟩
end Go.Proofs.FileA
/- The writer: lists. -/
set_option linter.unusedVariables false
set_option linter.unusedSimpArgs false
namespace Go.Proofs.FileA
open Go Go.Am

theorem wr_number (n : Int) (hn : is64 n) : Wr 122 [.int .i64 n] (numB n) := by
  intro gl w o out h hs
  obtain ⟨r, h1, e, rfl, out1, hs1, hp1, hf1⟩ := OptP.ex (wr_numbers (v := .sv [[.int .i64 n]] true) (l := [n]) (.sv true) (by simp) (by simpa using hn) gl w o out h hs)
  refine call_ofQ (af := Tryd.a122) rfl rfl fun Q hQ => ?_
  simp only [Tryd.a122]
  simp [fill, chunks, e]
  exact hQ _ _ ⟨rfl, _, hs1, by simpa using hp1, hf1⟩

theorem wr_text (s : ByteArray) (hl : s.size < 2 ^ 46) : Wr 147 [.str s] (numB s.size ++ s.data.toList) := by
  intro gl w o out h hs
  obtain ⟨r, h1, e, rfl, out1, hs1, hp1, hf1⟩ := OptP.ex (wr_number s.size (by unfold is64; omega) gl w o out h hs)
  obtain ⟨r, h2, e2, rfl, out2, hs2, hp2, hf2⟩ := OptP.ex (wr_bytes (v := s2bV s) (l := s.data.toList) (by unfold s2bV bytesV; exact .sv false) (by simpa using hl) gl w o out1 h1 hs1)
  refine call_ofQ (af := Tryd.a147) rfl rfl fun Q hQ => ?_
  simp only [Tryd.a147]
  simp [e, e2]
  exact hQ _ _ ⟨rfl, _, hs2, hp1.append hp2, hf1.trans hf2⟩

theorem flatten_take {α : Type} {cl : List (List α)} {i : Nat} (h : i < cl.length) : (cl.take (i + 1)).flatten = (cl.take i).flatten ++ cl[i] := by
  rw [← List.take_append_getElem h, List.flatten_append]
  simp

theorem wr_ints {v : V} {l : List Int} (hv : SlV (intsV l) v) (hl : l.length < 2 ^ 46) (hr : ∀ n ∈ l, is64 n) : Wr 137 [v, .func (.func 122) [] []] (numB l.length ++ l.flatMap numB) := by
  intro gl w o out h hs
  have hlen : lenV v = some (.int .i64 l.length) := by rw [hv.len]; simp [intsV]
  obtain ⟨r, h1, e, rfl, out1, hs1, hp1, hf1⟩ := OptP.ex (wr_number l.length (by unfold is64; omega) gl w o out h hs)
  refine call_ofQ (af := Tryd.a137) rfl rfl fun Q hQ => ?_
  simp only [Tryd.a137]
  simp [hlen, e]
  refine loop_nQ l.length (fun i c => ∃ a3 h2 out2, c = ⟨[.ref w 0 1, v, .func (.func 122) [] [], a3, v, .int .i64 l.length, .int .i64 i], [], none, none, h2⟩ ∧ WSt w o out2 h2 ∧ Put ((l.take i).flatMap numB) out1 out2 ∧ Fr2 w o h1 h2) ?_
    ⟨_, _, _, rfl, hs1, Put.nil _, Fr2.refl _ _ _⟩
  rintro I hI i c hi ⟨a3, h2, out2, rfl, hs2, hp2, hf2⟩
  by_cases hlt : i < l.length
  · have hlt' : (i : Int) < l.length := by omega
    have hidx : idxV v i 1 = some (.pv [.int .i64 l[i]]) := by rw [hv.idx]; simp [intsV, hlt]
    have hw1 : IntKind.i64.wrap ((i : Int) + 1) = ((i + 1 : Nat) : Int) := by rw [wrap64 (by omega) (by omega)]; rfl
    obtain ⟨r, h3, e3, rfl, out3, hs3, hp3, hf3⟩ := OptP.ex (wr_number l[i] (hr _ (List.getElem_mem hlt)) gl w o out2 h2 hs2)
    simp [hlt', hidx, e3, hw1]
    exact ⟨hlt, hI _ _ ⟨_, _, _, rfl, hs3, by rw [take_flatMap numB hlt]; exact hp2.append hp3, hf2.trans hf3⟩⟩
  · obtain rfl : i = l.length := by omega
    simp
    exact hQ _ _ ⟨rfl, _, hs2, hp1.append (by rw [List.take_of_length_le (Nat.le_refl _)] at hp2; exact hp2), hf1.trans hf2⟩

theorem wr_list140 {v : V} {es : List (List V)} {g : Nat} {cl : List (List UInt8)} (hv : SlV es v) (hl : es.length < 2 ^ 46) (he : ∀ e ∈ es, e.length = 3 ∧ e.all isCell = true) (hcl : cl.length = es.length)
    (hg : ∀ (i : Nat) e c, es[i]? = some e → cl[i]? = some c → Wr g [.agg e] c) : Wr 140 [v, .func (.func g) [] []] (numB es.length ++ cl.flatten) := by
  intro gl w o out h hs
  have hlen := hv.len
  obtain ⟨r, h1, e, rfl, out1, hs1, hp1, hf1⟩ := OptP.ex (wr_number es.length (by unfold is64; omega) gl w o out h hs)
  refine call_ofQ (af := Tryd.a140) rfl rfl fun Q hQ => ?_
  simp only [Tryd.a140]
  simp [hlen, e]
  refine loop_nQ es.length (fun i c => ∃ a3 h2 out2, c = ⟨[.ref w 0 1, v, .func (.func g) [] [], a3, v, .int .i64 es.length, .int .i64 i], [], none, none, h2⟩ ∧ WSt w o out2 h2 ∧ Put (cl.take i).flatten out1 out2 ∧ Fr2 w o h1 h2) ?_
    ⟨_, _, _, rfl, hs1, Put.nil _, Fr2.refl _ _ _⟩
  rintro I hI i c hi ⟨a3, h2, out2, rfl, hs2, hp2, hf2⟩
  by_cases hlt : i < es.length
  · have hlt' : (i : Int) < es.length := by omega
    obtain ⟨he1, he2⟩ := he es[i] (List.getElem_mem hlt)
    have hidx : idxV v i 3 = some (.pv es[i]) := by rw [hv.idx]; simp [hlt, he1]
    have hw1 : IntKind.i64.wrap ((i : Int) + 1) = ((i + 1 : Nat) : Int) := by rw [wrap64 (by omega) (by omega)]; rfl
    obtain ⟨r, h3, e3, rfl, out3, hs3, hp3, hf3⟩ := OptP.ex (hg i es[i] (cl[i]'(by omega)) (by simp [hlt]) (by simp [hcl, hlt]) gl w o out2 h2 hs2)
    have htk := flatten_take (cl := cl) (i := i) (by omega)
    generalize es[i] = el at *
    have he3 : el.take 3 = el := List.take_of_length_le (by omega)
    have he4 : el ++ [].drop el.length = el := by simp
    simp [hlt', hidx, e3, hw1, he1, he2, he3, -List.all_eq_true]
    exact ⟨hlt, hI _ _ ⟨_, _, _, rfl, hs3, by rw [htk]; exact hp2.append hp3, hf2.trans hf3⟩⟩
  · obtain rfl : i = es.length := by omega
    simp
    exact hQ _ _ ⟨rfl, _, hs2, hp1.append (by rw [List.take_of_length_le (by omega)] at hp2; exact hp2), hf1.trans hf2⟩

theorem wr_list142 {v : V} {es : List (List V)} {g : Nat} {cl : List (List UInt8)} (hv : SlV es v) (hl : es.length < 2 ^ 46) (he : ∀ e ∈ es, e.length = 6 ∧ e.all isCell = true) (hcl : cl.length = es.length)
    (hg : ∀ (i : Nat) e c, es[i]? = some e → cl[i]? = some c → Wr g [.agg e] c) : Wr 142 [v, .func (.func g) [] []] (numB es.length ++ cl.flatten) := by
  intro gl w o out h hs
  have hlen := hv.len
  obtain ⟨r, h1, e, rfl, out1, hs1, hp1, hf1⟩ := OptP.ex (wr_number es.length (by unfold is64; omega) gl w o out h hs)
  refine call_ofQ (af := Tryd.a142) rfl rfl fun Q hQ => ?_
  simp only [Tryd.a142]
  simp [hlen, e]
  refine loop_nQ es.length (fun i c => ∃ a3 h2 out2, c = ⟨[.ref w 0 1, v, .func (.func g) [] [], a3, v, .int .i64 es.length, .int .i64 i], [], none, none, h2⟩ ∧ WSt w o out2 h2 ∧ Put (cl.take i).flatten out1 out2 ∧ Fr2 w o h1 h2) ?_
    ⟨_, _, _, rfl, hs1, Put.nil _, Fr2.refl _ _ _⟩
  rintro I hI i c hi ⟨a3, h2, out2, rfl, hs2, hp2, hf2⟩
  by_cases hlt : i < es.length
  · have hlt' : (i : Int) < es.length := by omega
    obtain ⟨he1, he2⟩ := he es[i] (List.getElem_mem hlt)
    have hidx : idxV v i 6 = some (.pv es[i]) := by rw [hv.idx]; simp [hlt, he1]
    have hw1 : IntKind.i64.wrap ((i : Int) + 1) = ((i + 1 : Nat) : Int) := by rw [wrap64 (by omega) (by omega)]; rfl
    obtain ⟨r, h3, e3, rfl, out3, hs3, hp3, hf3⟩ := OptP.ex (hg i es[i] (cl[i]'(by omega)) (by simp [hlt]) (by simp [hcl, hlt]) gl w o out2 h2 hs2)
    have htk := flatten_take (cl := cl) (i := i) (by omega)
    generalize es[i] = el at *
    have he3 : el.take 6 = el := List.take_of_length_le (by omega)
    have he4 : el ++ [].drop el.length = el := by simp
    simp [hlt', hidx, e3, hw1, he1, he2, he3, -List.all_eq_true]
    exact ⟨hlt, hI _ _ ⟨_, _, _, rfl, hs3, by rw [htk]; exact hp2.append hp3, hf2.trans hf3⟩⟩
  · obtain rfl : i = es.length := by omega
    simp
    exact hQ _ _ ⟨rfl, _, hs2, hp1.append (by rw [List.take_of_length_le (by omega)] at hp2; exact hp2), hf1.trans hf2⟩

theorem wr_list145 {v : V} {es : List (List V)} {g : Nat} {cl : List (List UInt8)} (hv : SlV es v) (hl : es.length < 2 ^ 46) (he : ∀ e ∈ es, e.length = 4 ∧ e.all isCell = true) (hcl : cl.length = es.length)
    (hg : ∀ (i : Nat) e c, es[i]? = some e → cl[i]? = some c → Wr g [.agg e] c) : Wr 145 [v, .func (.func g) [] []] (numB es.length ++ cl.flatten) := by
  intro gl w o out h hs
  have hlen := hv.len
  obtain ⟨r, h1, e, rfl, out1, hs1, hp1, hf1⟩ := OptP.ex (wr_number es.length (by unfold is64; omega) gl w o out h hs)
  refine call_ofQ (af := Tryd.a145) rfl rfl fun Q hQ => ?_
  simp only [Tryd.a145]
  simp [hlen, e]
  refine loop_nQ es.length (fun i c => ∃ a3 h2 out2, c = ⟨[.ref w 0 1, v, .func (.func g) [] [], a3, v, .int .i64 es.length, .int .i64 i], [], none, none, h2⟩ ∧ WSt w o out2 h2 ∧ Put (cl.take i).flatten out1 out2 ∧ Fr2 w o h1 h2) ?_
    ⟨_, _, _, rfl, hs1, Put.nil _, Fr2.refl _ _ _⟩
  rintro I hI i c hi ⟨a3, h2, out2, rfl, hs2, hp2, hf2⟩
  by_cases hlt : i < es.length
  · have hlt' : (i : Int) < es.length := by omega
    obtain ⟨he1, he2⟩ := he es[i] (List.getElem_mem hlt)
    have hidx : idxV v i 4 = some (.pv es[i]) := by rw [hv.idx]; simp [hlt, he1]
    have hw1 : IntKind.i64.wrap ((i : Int) + 1) = ((i + 1 : Nat) : Int) := by rw [wrap64 (by omega) (by omega)]; rfl
    obtain ⟨r, h3, e3, rfl, out3, hs3, hp3, hf3⟩ := OptP.ex (hg i es[i] (cl[i]'(by omega)) (by simp [hlt]) (by simp [hcl, hlt]) gl w o out2 h2 hs2)
    have htk := flatten_take (cl := cl) (i := i) (by omega)
    generalize es[i] = el at *
    have he3 : el.take 4 = el := List.take_of_length_le (by omega)
    have he4 : el ++ [].drop el.length = el := by simp
    simp [hlt', hidx, e3, hw1, he1, he2, he3, -List.all_eq_true]
    exact ⟨hlt, hI _ _ ⟨_, _, _, rfl, hs3, by rw [htk]; exact hp2.append hp3, hf2.trans hf3⟩⟩
  · obtain rfl : i = es.length := by omega
    simp
    exact hQ _ _ ⟨rfl, _, hs2, hp1.append (by rw [List.take_of_length_le (by omega)] at hp2; exact hp2), hf1.trans hf2⟩

theorem wr_list149 {v : V} {es : List (List V)} {g : Nat} {cl : List (List UInt8)} (hv : SlV es v) (hl : es.length < 2 ^ 46) (he : ∀ e ∈ es, e.length = 5 ∧ e.all isCell = true) (hcl : cl.length = es.length)
    (hg : ∀ (i : Nat) e c, es[i]? = some e → cl[i]? = some c → Wr g [.agg e] c) : Wr 149 [v, .func (.func g) [] []] (numB es.length ++ cl.flatten) := by
  intro gl w o out h hs
  have hlen := hv.len
  obtain ⟨r, h1, e, rfl, out1, hs1, hp1, hf1⟩ := OptP.ex (wr_number es.length (by unfold is64; omega) gl w o out h hs)
  refine call_ofQ (af := Tryd.a149) rfl rfl fun Q hQ => ?_
  simp only [Tryd.a149]
  simp [hlen, e]
  refine loop_nQ es.length (fun i c => ∃ a3 h2 out2, c = ⟨[.ref w 0 1, v, .func (.func g) [] [], a3, v, .int .i64 es.length, .int .i64 i], [], none, none, h2⟩ ∧ WSt w o out2 h2 ∧ Put (cl.take i).flatten out1 out2 ∧ Fr2 w o h1 h2) ?_
    ⟨_, _, _, rfl, hs1, Put.nil _, Fr2.refl _ _ _⟩
  rintro I hI i c hi ⟨a3, h2, out2, rfl, hs2, hp2, hf2⟩
  by_cases hlt : i < es.length
  · have hlt' : (i : Int) < es.length := by omega
    obtain ⟨he1, he2⟩ := he es[i] (List.getElem_mem hlt)
    have hidx : idxV v i 5 = some (.pv es[i]) := by rw [hv.idx]; simp [hlt, he1]
    have hw1 : IntKind.i64.wrap ((i : Int) + 1) = ((i + 1 : Nat) : Int) := by rw [wrap64 (by omega) (by omega)]; rfl
    obtain ⟨r, h3, e3, rfl, out3, hs3, hp3, hf3⟩ := OptP.ex (hg i es[i] (cl[i]'(by omega)) (by simp [hlt]) (by simp [hcl, hlt]) gl w o out2 h2 hs2)
    have htk := flatten_take (cl := cl) (i := i) (by omega)
    generalize es[i] = el at *
    have he3 : el.take 5 = el := List.take_of_length_le (by omega)
    have he4 : el ++ [].drop el.length = el := by simp
    simp [hlt', hidx, e3, hw1, he1, he2, he3, -List.all_eq_true]
    exact ⟨hlt, hI _ _ ⟨_, _, _, rfl, hs3, by rw [htk]; exact hp2.append hp3, hf2.trans hf3⟩⟩
  · obtain rfl : i = es.length := by omega
    simp
    exact hQ _ _ ⟨rfl, _, hs2, hp1.append (by rw [List.take_of_length_le (by omega)] at hp2; exact hp2), hf1.trans hf2⟩

theorem wr_list151 {v : V} {es : List (List V)} {g : Nat} {cl : List (List UInt8)} (hv : SlV es v) (hl : es.length < 2 ^ 46) (he : ∀ e ∈ es, e.length = 4 ∧ e.all isCell = true) (hcl : cl.length = es.length)
    (hg : ∀ (i : Nat) e c, es[i]? = some e → cl[i]? = some c → Wr g [.agg e] c) : Wr 151 [v, .func (.func g) [] []] (numB es.length ++ cl.flatten) := by
  intro gl w o out h hs
  have hlen := hv.len
  obtain ⟨r, h1, e, rfl, out1, hs1, hp1, hf1⟩ := OptP.ex (wr_number es.length (by unfold is64; omega) gl w o out h hs)
  refine call_ofQ (af := Tryd.a151) rfl rfl fun Q hQ => ?_
  simp only [Tryd.a151]
  simp [hlen, e]
  refine loop_nQ es.length (fun i c => ∃ a3 h2 out2, c = ⟨[.ref w 0 1, v, .func (.func g) [] [], a3, v, .int .i64 es.length, .int .i64 i], [], none, none, h2⟩ ∧ WSt w o out2 h2 ∧ Put (cl.take i).flatten out1 out2 ∧ Fr2 w o h1 h2) ?_
    ⟨_, _, _, rfl, hs1, Put.nil _, Fr2.refl _ _ _⟩
  rintro I hI i c hi ⟨a3, h2, out2, rfl, hs2, hp2, hf2⟩
  by_cases hlt : i < es.length
  · have hlt' : (i : Int) < es.length := by omega
    obtain ⟨he1, he2⟩ := he es[i] (List.getElem_mem hlt)
    have hidx : idxV v i 4 = some (.pv es[i]) := by rw [hv.idx]; simp [hlt, he1]
    have hw1 : IntKind.i64.wrap ((i : Int) + 1) = ((i + 1 : Nat) : Int) := by rw [wrap64 (by omega) (by omega)]; rfl
    obtain ⟨r, h3, e3, rfl, out3, hs3, hp3, hf3⟩ := OptP.ex (hg i es[i] (cl[i]'(by omega)) (by simp [hlt]) (by simp [hcl, hlt]) gl w o out2 h2 hs2)
    have htk := flatten_take (cl := cl) (i := i) (by omega)
    generalize es[i] = el at *
    have he3 : el.take 4 = el := List.take_of_length_le (by omega)
    have he4 : el ++ [].drop el.length = el := by simp
    simp [hlt', hidx, e3, hw1, he1, he2, he3, -List.all_eq_true]
    exact ⟨hlt, hI _ _ ⟨_, _, _, rfl, hs3, by rw [htk]; exact hp2.append hp3, hf2.trans hf3⟩⟩
  · obtain rfl : i = es.length := by omega
    simp
    exact hQ _ _ ⟨rfl, _, hs2, hp1.append (by rw [List.take_of_length_le (by omega)] at hp2; exact hp2), hf1.trans hf2⟩
end Go.Proofs.FileA
/- What a struct's cells say; the writer: contents. -/
set_option linter.unusedVariables false
set_option linter.unusedSimpArgs false
namespace Go.Proofs.FileA
open Go Go.Am

def small (n : Nat) : Prop := n < 2 ^ 46
def All2 {α : Type} (R : α → List V → Prop) : List α → List (List V) → Prop
  | [], [] => True
  | a :: as, e :: es => R a e ∧ All2 R as es
  | _, _ => False
theorem All2.length {α : Type} {R : α → List V → Prop} : ∀ {as : List α} {es : List (List V)}, All2 R as es → as.length = es.length
  | [], [], _ => rfl
  | _ :: _, _ :: _, h => by simp [All2.length h.2]
theorem All2.get {α : Type} {R : α → List V → Prop} : ∀ {as : List α} {es : List (List V)}, All2 R as es → ∀ (i : Nat) a e, as[i]? = some a → es[i]? = some e → R a e
  | [], [], _, _, _, _, h, _ => by simp at h
  | a :: as, e :: es, h, 0, _, _, h1, h2 => by simp at h1 h2; subst h1; subst h2; exact h.1
  | a :: as, e :: es, h, i + 1, a', e', h1, h2 => All2.get h.2 i a' e' (by simpa using h1) (by simpa using h2)
theorem All2.mem {α : Type} {R : α → List V → Prop} : ∀ {as : List α} {es : List (List V)}, All2 R as es → ∀ e ∈ es, ∃ a ∈ as, R a e
  | [], [], _, _, h => by simp at h
  | a :: as, e :: es, h, e', h' => by
    rcases List.mem_cons.1 h' with rfl | h'
    · exact ⟨a, by simp, h.1⟩
    · obtain ⟨b, hb, hr⟩ := All2.mem h.2 e' h'
      exact ⟨b, by simp [hb], hr⟩

/-- a list of numbers -/
structure IsInts (l : List Int) (v : V) : Prop where
  sl : SlV (intsV l) v
  len : small l.length
  rng : ∀ n ∈ l, is64 n

def IsLists : List (List Int) → List V → Prop
  | [], vs => vs = []
  | l :: ls, vs => ∃ v vs', vs = v :: vs' ∧ IsInts l v ∧ IsLists ls vs'

mutual
/-- the cells of a tree of a form: so many numbers, so many lists of numbers -/
def IsT (a b : Nat) : T → List V → Prop
  | ⟨ns, ls, ks⟩, cs => ns.length = a ∧ ls.length = b ∧ (∀ n ∈ ns, is64 n) ∧ ∃ vs v es, cs = ns.map (V.int .i64 ·) ++ (vs ++ [v]) ∧ IsLists ls vs ∧ SlV es v ∧ small ks.length ∧ IsTs a b ks es
def IsTs (a b : Nat) : List T → List (List V) → Prop
  | [], es => es = []
  | t :: ts, es => ∃ e es', es = e :: es' ∧ IsT a b t e ∧ IsTs a b ts es'
end
theorem isTs_all {a b : Nat} : ∀ {ts : List T} {es : List (List V)}, IsTs a b ts es → All2 (IsT a b) ts es
  | [], es, h => by simp only [IsTs] at h; subst h; trivial
  | t :: ts, es, h => by
    simp only [IsTs] at h
    obtain ⟨e, es', rfl, h1, h2⟩ := h
    exact ⟨h1, isTs_all h2⟩
theorem isTs_of {a b : Nat} : ∀ {ts : List T} {es : List (List V)}, All2 (IsT a b) ts es → IsTs a b ts es
  | [], [], h => by simp [IsTs]
  | t :: ts, e :: es, h => by
    simp only [IsTs]
    exact ⟨e, es, rfl, h.1, isTs_of h.2⟩
theorem isLists_cells : ∀ {ls : List (List Int)} {vs : List V}, IsLists ls vs → vs.length = ls.length ∧ vs.all isCell = true
  | [], vs, h => by simp only [IsLists] at h; subst h; exact ⟨rfl, rfl⟩
  | l :: ls, vs, h => by
    simp only [IsLists] at h
    obtain ⟨v, vs', rfl, h1, h2⟩ := h
    obtain ⟨h3, h4⟩ := isLists_cells h2
    simp only [List.length_cons, h3, List.all_cons, h4, h1.sl.cell, Bool.and_self, and_self]
theorem isT_cells {a b : Nat} {t : T} {cs : List V} (h : IsT a b t cs) : cs.length = a + b + 1 ∧ cs.all isCell = true := by
  cases t with
  | mk ns ls ks =>
    simp only [IsT] at h
    obtain ⟨ha, hb, _, vs, v, es, rfl, h1, h2, _⟩ := h
    obtain ⟨h3, h4⟩ := isLists_cells h1
    refine ⟨by simp [ha, h3, hb]; omega, ?_⟩
    simp only [List.all_append, h4, List.all_cons, h2.cell, List.all_nil, Bool.and_self, Bool.and_true, List.all_map]
    simp

structure IsFun (f : FunT) (cs : List V) : Prop where
  ex : ∃ bc, cs = .str ⟨f.name.toArray⟩ :: .int .i64 f.param :: bc ∧ IsT 3 0 f.body bc
  rng : is64 f.param
  len : small f.name.length
structure IsProg (p : ProgT) (cs : List V) : Prop where
  ex : ∃ v es, cs = [v, .int .i64 p.main] ∧ SlV es v ∧ All2 IsFun p.funs es
  rng : is64 p.main
  len : small p.funs.length
structure IsVecFun (f : VecFunT) (cs : List V) : Prop where
  ex : ∃ vc vo va es, cs = [.int .i64 f.params, vc, vo, va] ∧ SlV es vc ∧ IsTs 2 2 f.code es ∧ IsInts f.outs vo ∧ IsInts f.ats va
  rng : is64 f.params
  len : small f.code.length
structure IsVec (p : VecT) (cs : List V) : Prop where
  ex : ∃ v es, cs = [v, .int .i64 p.main] ∧ SlV es v ∧ All2 IsVecFun p.funs es
  rng : is64 p.main
  len : small p.funs.length
structure IsLog (l : LogT) (cs : List V) : Prop where
  ex : ∃ vc vm, cs = [.int .i64 l.kind, vc, vm] ∧ IsInts l.choices vc ∧ IsInts l.marks vm
  rng : is64 l.kind

theorem wr_ints' {v : V} {l : List Int} (h : IsInts l v) : Wr 137 [v, .func (.func 122) [] []] (listB l) := wr_ints h.sl h.len h.rng

mutual
theorem wr_value : ∀ (t : T) (cs : List V), IsT 2 0 t cs → Wr 130 [.agg cs] (content t)
  | ⟨ns, ls, ks⟩, cs, ht => by
    have hcell := (isT_cells ht).2
    simp only [IsT] at ht
    obtain ⟨ha, hb, hn, vs, v, es, rfl, hls, hv, hkl, hts⟩ := ht
    match ns, ls, ha, hb with
    | [k, n], [], _, _ =>
      simp only [IsLists] at hls
      subst hls
      have hk := wr_values ks es hts
      have hl := (isTs_all hts).length
      intro gl w o out h hs
      obtain ⟨r, h1, e1, rfl, out1, hs1, hp1, hf1⟩ := OptP.ex (wr_numbers (v := .sv [[.int .i64 k], [.int .i64 n]] true) (l := [k, n]) (.sv true) (by simp) hn gl w o out h hs)
      obtain ⟨r, h2, e2, rfl, out2, hs2, hp2, hf2⟩ := OptP.ex (wr_list140 (g := 130) (cl := ks.map content) hv (by rw [← hl]; exact hkl)
        (fun e he => by obtain ⟨t, _, h⟩ := (isTs_all hts).mem e he; exact isT_cells h) (by simp [hl]) hk gl w o out1 h1 hs1)
      refine call_ofQ (af := Tryd.a130) rfl rfl fun Q hQ => ?_
      simp only [Tryd.a130]
      simp [fill, chunks, e1, e2, hv.cell, hv.pure]
      refine hQ _ _ ⟨rfl, _, hs2, ?_, hf1.trans hf2⟩
      rw [content, contents_eq, hl, List.flatMap_nil, List.append_nil]
      exact hp1.append hp2
theorem wr_values : ∀ (ks : List T) (es : List (List V)), IsTs 2 0 ks es → ∀ (i : Nat) e c, es[i]? = some e → (ks.map content)[i]? = some c → Wr 130 [.agg e] c
  | [], es, h, i, e, c, h1, h2 => by simp at h2
  | t :: ts, es, h, i, e, c, h1, h2 => by
    simp only [IsTs] at h
    obtain ⟨e', es', rfl, h3, h4⟩ := h
    cases i with
    | zero => simp at h1 h2; subst h1; subst h2; exact wr_value t e' h3
    | succ i => exact wr_values ts es' h4 i e c (by simpa using h1) (by simpa using h2)
end
end Go.Proofs.FileA
/- The writer: contents of all things. -/
set_option linter.unusedVariables false
set_option linter.unusedSimpArgs false
namespace Go.Proofs.FileA
open Go Go.Am

mutual
theorem wr_exp : ∀ (t : T) (cs : List V), IsT 3 0 t cs → Wr 148 [.agg cs] (content t)
  | ⟨ns, ls, ks⟩, cs, ht => by
    simp only [IsT] at ht
    obtain ⟨ha, hb, hn, vs, v, es, rfl, hls, hv, hkl, hts⟩ := ht
    match ns, ls, ha, hb with
    | [k, n, m], [], _, _ =>
      simp only [IsLists] at hls
      subst hls
      have hk := wr_exps ks es hts
      have hl := (isTs_all hts).length
      intro gl w o out h hs
      obtain ⟨r, h1, e1, rfl, out1, hs1, hp1, hf1⟩ := OptP.ex (wr_numbers (v := .sv [[.int .i64 k], [.int .i64 n], [.int .i64 m]] true) (l := [k, n, m]) (.sv true) (by simp) hn gl w o out h hs)
      obtain ⟨r, h2, e2, rfl, out2, hs2, hp2, hf2⟩ := OptP.ex (wr_list151 (g := 148) (cl := ks.map content) hv (by rw [← hl]; exact hkl)
        (fun e he => by obtain ⟨t, _, h⟩ := (isTs_all hts).mem e he; exact isT_cells h) (by simp [hl]) hk gl w o out1 h1 hs1)
      refine call_ofQ (af := Tryd.a148) rfl rfl fun Q hQ => ?_
      simp only [Tryd.a148]
      simp [fill, chunks, e1, e2, hv.cell, hv.pure]
      refine hQ _ _ ⟨rfl, _, hs2, ?_, hf1.trans hf2⟩
      rw [content, contents_eq, hl, List.flatMap_nil, List.append_nil]
      exact hp1.append hp2
theorem wr_exps : ∀ (ks : List T) (es : List (List V)), IsTs 3 0 ks es → ∀ (i : Nat) e c, es[i]? = some e → (ks.map content)[i]? = some c → Wr 148 [.agg e] c
  | [], es, h, i, e, c, h1, h2 => by simp at h2
  | t :: ts, es, h, i, e, c, h1, h2 => by
    simp only [IsTs] at h
    obtain ⟨e', es', rfl, h3, h4⟩ := h
    cases i with
    | zero => simp at h1 h2; subst h1; subst h2; exact wr_exp t e' h3
    | succ i => exact wr_exps ts es' h4 i e c (by simpa using h1) (by simpa using h2)
end

mutual
theorem wr_ins : ∀ (t : T) (cs : List V), IsT 2 2 t cs → Wr 150 [.agg cs] (content t)
  | ⟨ns, ls, ks⟩, cs, ht => by
    simp only [IsT] at ht
    obtain ⟨ha, hb, hn, vs, v, es, rfl, hls, hv, hkl, hts⟩ := ht
    match ns, ls, ha, hb with
    | [k, n], [l1, l2], _, _ =>
      simp only [IsLists] at hls
      obtain ⟨v1, _, rfl, hv1, v2, _, rfl, hv2, rfl⟩ := hls
      have hk := wr_inss ks es hts
      have hl := (isTs_all hts).length
      intro gl w o out h hs
      obtain ⟨r, h1, e1, rfl, out1, hs1, hp1, hf1⟩ := OptP.ex (wr_numbers (v := .sv [[.int .i64 k], [.int .i64 n]] true) (l := [k, n]) (.sv true) (by simp) hn gl w o out h hs)
      obtain ⟨r, h2, e2, rfl, out2, hs2, hp2, hf2⟩ := OptP.ex (wr_ints' hv1 gl w o out1 h1 hs1)
      obtain ⟨r, h3, e3, rfl, out3, hs3, hp3, hf3⟩ := OptP.ex (wr_ints' hv2 gl w o out2 h2 hs2)
      obtain ⟨r, h4, e4, rfl, out4, hs4, hp4, hf4⟩ := OptP.ex (wr_list149 (g := 150) (cl := ks.map content) hv (by rw [← hl]; exact hkl)
        (fun e he => by obtain ⟨t, _, h⟩ := (isTs_all hts).mem e he; exact isT_cells h) (by simp [hl]) hk gl w o out3 h3 hs3)
      refine call_ofQ (af := Tryd.a150) rfl rfl fun Q hQ => ?_
      simp only [Tryd.a150]
      simp [fill, chunks, e1, e2, e3, e4, hv.cell, hv.pure, hv1.sl.cell, hv2.sl.cell]
      refine hQ _ _ ⟨rfl, _, hs4, ?_, hf1.trans (hf2.trans (hf3.trans hf4))⟩
      rw [content, contents_eq, hl]
      simp only [List.flatMap_cons, List.flatMap_nil, List.append_nil, List.append_assoc] at hp1 ⊢
      have := hp1.append (hp2.append (hp3.append hp4))
      simpa only [List.append_assoc] using this
theorem wr_inss : ∀ (ks : List T) (es : List (List V)), IsTs 2 2 ks es → ∀ (i : Nat) e c, es[i]? = some e → (ks.map content)[i]? = some c → Wr 150 [.agg e] c
  | [], es, h, i, e, c, h1, h2 => by simp at h2
  | t :: ts, es, h, i, e, c, h1, h2 => by
    simp only [IsTs] at h
    obtain ⟨e', es', rfl, h3, h4⟩ := h
    cases i with
    | zero => simp at h1 h2; subst h1; subst h2; exact wr_ins t e' h3
    | succ i => exact wr_inss ts es' h4 i e c (by simpa using h1) (by simpa using h2)
end

theorem isFun_cells {f : FunT} {cs : List V} (h : IsFun f cs) : cs.length = 6 ∧ cs.all isCell = true := by
  obtain ⟨⟨bc, rfl, hb⟩, _, _⟩ := h
  obtain ⟨h1, h2⟩ := isT_cells hb
  simp only [List.length_cons, h1, List.all_cons, h2, isCell_str, isCell_int, Bool.and_self, and_self]

theorem wr_fun (f : FunT) (cs : List V) (hf : IsFun f cs) : Wr 143 [.agg cs] (funB f) := by
  have hfc := (isFun_cells hf).2
  obtain ⟨⟨bc, rfl, hb⟩, hr, hlen⟩ := hf
  obtain ⟨hbl, hbc⟩ := isT_cells hb
  intro gl w o out h hs
  obtain ⟨r, h1, e1, rfl, out1, hs1, hp1, hf1⟩ := OptP.ex (wr_text ⟨f.name.toArray⟩ (by simpa [ByteArray.size, small] using hlen) gl w o out h hs)
  obtain ⟨r, h2, e2, rfl, out2, hs2, hp2, hf2⟩ := OptP.ex (wr_number f.param hr gl w o out1 h1 hs1)
  obtain ⟨r, h3, e3, rfl, out3, hs3, hp3, hf3⟩ := OptP.ex (wr_exp f.body bc hb gl w o out2 h2 hs2)
  refine call_ofQ (af := Tryd.a143) rfl rfl fun Q hQ => ?_
  simp only [Tryd.a143]
  have hb3 : bc.take 4 = bc := List.take_of_length_le (by omega)
  simp [e1, e2, e3, hbl, hbc, hb3, -List.all_eq_true]
  refine hQ _ _ ⟨rfl, _, hs3, ?_, hf1.trans (hf2.trans hf3)⟩
  simp only [ByteArray.size, List.size_toArray, List.toList_toArray] at hp1
  unfold funB textB
  exact (hp1.append hp2).append hp3

theorem wr_prog (p : ProgT) (cs : List V) (hp : IsProg p cs) : Wr 133 [.agg cs] (progB p) := by
  obtain ⟨⟨v, es, rfl, hv, ha⟩, hr, hlen⟩ := hp
  have hl := ha.length
  intro gl w o out h hs
  obtain ⟨r, h1, e1, rfl, out1, hs1, hp1, hf1⟩ := OptP.ex (wr_list142 (g := 143) (cl := p.funs.map funB) hv (by rw [← hl]; exact hlen)
    (fun e he => by obtain ⟨t, _, h⟩ := ha.mem e he; exact isFun_cells h) (by simp [hl]) (fun i e c h1 h2 => by
      rw [List.getElem?_map, Option.map_eq_some_iff] at h2
      obtain ⟨f, hf, rfl⟩ := h2
      exact wr_fun f e (ha.get i f e hf h1)) gl w o out h hs)
  obtain ⟨r, h2, e2, rfl, out2, hs2, hp2, hf2⟩ := OptP.ex (wr_number p.main hr gl w o out1 h1 hs1)
  refine call_ofQ (af := Tryd.a133) rfl rfl fun Q hQ => ?_
  simp only [Tryd.a133]
  simp [e1, e2, hv.cell]
  refine hQ _ _ ⟨rfl, _, hs2, ?_, hf1.trans hf2⟩
  unfold progB
  rw [hl]
  exact hp1.append hp2

theorem isVecFun_cells {f : VecFunT} {cs : List V} (h : IsVecFun f cs) : cs.length = 4 ∧ cs.all isCell = true := by
  obtain ⟨⟨vc, vo, va, es, rfl, h1, h2, h3, h4⟩, _, _⟩ := h
  simp only [List.length_cons, List.length_nil, List.all_cons, List.all_nil, h1.cell, h3.sl.cell, h4.sl.cell, isCell_int, Bool.and_self, and_self]

theorem wr_vecFun (f : VecFunT) (cs : List V) (hf : IsVecFun f cs) : Wr 146 [.agg cs] (vecFunB f) := by
  obtain ⟨⟨vc, vo, va, es, rfl, hv, hts, ho, hat⟩, hr, hlen⟩ := hf
  have hl := (isTs_all hts).length
  intro gl w o out h hs
  obtain ⟨r, h1, e1, rfl, out1, hs1, hp1, hf1⟩ := OptP.ex (wr_number f.params hr gl w o out h hs)
  obtain ⟨r, h2, e2, rfl, out2, hs2, hp2, hf2⟩ := OptP.ex (wr_list149 (g := 150) (cl := f.code.map content) hv (by rw [← hl]; exact hlen)
        (fun e he => by obtain ⟨t, _, h⟩ := (isTs_all hts).mem e he; exact isT_cells h) (by simp [hl]) (wr_inss f.code es hts) gl w o out1 h1 hs1)
  obtain ⟨r, h3, e3, rfl, out3, hs3, hp3, hf3⟩ := OptP.ex (wr_ints' ho gl w o out2 h2 hs2)
  obtain ⟨r, h4, e4, rfl, out4, hs4, hp4, hf4⟩ := OptP.ex (wr_ints' hat gl w o out3 h3 hs3)
  refine call_ofQ (af := Tryd.a146) rfl rfl fun Q hQ => ?_
  simp only [Tryd.a146]
  simp [e1, e2, e3, e4, hv.cell, ho.sl.cell, hat.sl.cell]
  refine hQ _ _ ⟨rfl, _, hs4, ?_, hf1.trans (hf2.trans (hf3.trans hf4))⟩
  unfold vecFunB codeB
  rw [hl, contents_eq]
  exact ((hp1.append hp2).append hp3).append hp4

theorem wr_vec (p : VecT) (cs : List V) (hp : IsVec p cs) : Wr 136 [.agg cs] (vecB p) := by
  obtain ⟨⟨v, es, rfl, hv, ha⟩, hr, hlen⟩ := hp
  have hl := ha.length
  intro gl w o out h hs
  obtain ⟨r, h1, e1, rfl, out1, hs1, hp1, hf1⟩ := OptP.ex (wr_list145 (g := 146) (cl := p.funs.map vecFunB) hv (by rw [← hl]; exact hlen)
    (fun e he => by obtain ⟨t, _, h⟩ := ha.mem e he; exact isVecFun_cells h) (by simp [hl]) (fun i e c h1 h2 => by
      rw [List.getElem?_map, Option.map_eq_some_iff] at h2
      obtain ⟨f, hf, rfl⟩ := h2
      exact wr_vecFun f e (ha.get i f e hf h1)) gl w o out h hs)
  obtain ⟨r, h2, e2, rfl, out2, hs2, hp2, hf2⟩ := OptP.ex (wr_number p.main hr gl w o out1 h1 hs1)
  refine call_ofQ (af := Tryd.a136) rfl rfl fun Q hQ => ?_
  simp only [Tryd.a136]
  simp [e1, e2, hv.cell]
  refine hQ _ _ ⟨rfl, _, hs2, ?_, hf1.trans hf2⟩
  unfold vecB
  rw [hl]
  exact hp1.append hp2

theorem wr_log (l : LogT) (cs : List V) (hl : IsLog l cs) : Wr 127 [.agg cs] (logB l) := by
  obtain ⟨⟨vc, vm, rfl, hc, hm⟩, hr⟩ := hl
  intro gl w o out h hs
  obtain ⟨r, h1, e1, rfl, out1, hs1, hp1, hf1⟩ := OptP.ex (wr_number l.kind hr gl w o out h hs)
  obtain ⟨r, h3, e3, rfl, out3, hs3, hp3, hf3⟩ := OptP.ex (wr_ints' hc gl w o out1 h1 hs1)
  obtain ⟨r, h4, e4, rfl, out4, hs4, hp4, hf4⟩ := OptP.ex (wr_ints' hm gl w o out3 h3 hs3)
  refine call_ofQ (af := Tryd.a127) rfl rfl fun Q hQ => ?_
  simp only [Tryd.a127]
  simp [e1, e3, e4, hc.sl.cell, hm.sl.cell]
  refine hQ _ _ ⟨rfl, _, hs4, ?_, hf1.trans (hf3.trans hf4)⟩
  unfold logB
  exact (hp1.append hp3).append hp4
end Go.Proofs.FileA
/- What is too deep. -/
set_option linter.unusedVariables false
set_option linter.unusedSimpArgs false
namespace Go.Proofs.FileA
open Go Go.Am
variable {gl : Nat → List V}

def T.kids : T → List T
  | ⟨_, _, ks⟩ => ks
theorem depth_kids (t : T) : depth t = depths t.kids + 1 := by cases t; simp [depth, T.kids]
theorem depths_le {ts : List T} {n : Nat} : depths ts ≤ n ↔ ∀ t ∈ ts, depth t ≤ n := by
  induction ts with
  | nil => simp [depths]
  | cons t ts ih => simp [depths, Nat.max_le, ih]

theorem isLists_pure : ∀ {ls : List (List Int)} {vs : List V}, IsLists ls vs → pureL vs = true
  | [], vs, h => by simp only [IsLists] at h; subst h; rfl
  | l :: ls, vs, h => by
    simp only [IsLists] at h
    obtain ⟨v, vs', rfl, h1, h2⟩ := h
    simp only [pureL, h1.sl.pure, isLists_pure h2, Bool.and_self]
theorem pureL_append (a b : List V) : pureL (a ++ b) = (pureL a && pureL b) := by
  induction a with
  | nil => simp [pureL]
  | cons v vs ih => simp [pureL, ih, Bool.and_assoc]
theorem pureL_ints (ns : List Int) : pureL (ns.map (V.int .i64 ·)) = true := by
  induction ns with
  | nil => rfl
  | cons n ns ih => simp [pureL, pureV, ih]
theorem isT_pure {a b : Nat} {t : T} {cs : List V} (h : IsT a b t cs) : pureL cs = true := by
  cases t with
  | mk ns ls ks =>
    simp only [IsT] at h
    obtain ⟨ha, hb, _, vs, v, es, rfl, h1, h2, _⟩ := h
    simp only [pureL_append, pureL_ints, isLists_pure h1, pureL, h2.pure, Bool.and_self]

def errArg : V := .iface 169 (.agg [.int .i64 1])
def deepR (d left : Nat) : R := if d ≤ left then .ret (.tup []) else .pan errArg
theorem deepR_le {d n : Nat} (h : d ≤ n) : deepR d n = .ret (.tup []) := by unfold deepR; rw [if_pos h]
theorem deepR_gt {d n : Nat} (h : ¬ d ≤ n) : deepR d n = .pan errArg := by unfold deepR; rw [if_neg h]

theorem parts129 {t : T} {cs : List V} (ht : IsT 2 0 t cs) : ∃ v es, SlV es v ∧ IsTs 2 0 t.kids es ∧ small t.kids.length ∧ ∀ h, (lim gl Tryd.aprog).call 129 [.agg cs] h = some (.ret v, h) := by
  cases t with
  | mk ns ls ks =>
    simp only [IsT] at ht
    obtain ⟨ha, hb, hn, vs, v, es, rfl, hls, hv, hkl, hts⟩ := ht
    match ns, ls, ha, hb with
    | [x0, x1], [], _, _ =>
      simp only [IsLists] at hls
      subst hls
      refine ⟨v, es, hv, hts, hkl, fun h => CallP.eq ?_⟩
      refine call_ofQ (af := Tryd.a129) rfl rfl fun Q hQ => ?_
      simp only [Tryd.a129]
      simp [hv.cell, hv.cells]
      exact hQ _ _ ⟨rfl, rfl⟩

theorem walk139 (p q : Nat) (h : Heap) (hp : h[p]? = some (.cells 1 1 [.func (.func 129) [] []])) (hq : h[q]? = some (.cells 1 1 [.func (.func 139) [] [.ref p 0 1, .ref q 0 1]])) :
    ∀ (left : Nat) (t : T) (cs : List V), left < 1000 → IsT 2 0 t cs → (lim gl Tryd.aprog).call 139 [.agg cs, .int .i64 left, .ref p 0 1, .ref q 0 1] h = some (deepR (depth t) left, h) := by
  intro left
  induction left with
  | zero =>
    intro t cs _ ht
    have hc := isT_cells ht
    refine CallP.eq (call_ofQ (af := Tryd.a139) rfl rfl fun Q hQ => ?_)
    simp only [Tryd.a139]
    simp [hc.2, fill, -List.all_eq_true]
    rw [depth_kids, deepR_gt (by omega)] at hQ
    exact hQ _ _ ⟨rfl, rfl⟩
  | succ left ih =>
    intro t cs hleft ht
    have hc := isT_cells ht
    have hpu := isT_pure ht
    obtain ⟨v, es, hv, hts, hkl, hcall⟩ := parts129 (gl := gl) ht
    have hall := isTs_all hts
    have hl := hall.length
    have hlen := hv.len
    have hlv : lenV v = some (.int .i64 t.kids.length) := by rw [hlen, hl]
    refine CallP.eq (call_ofQ (af := Tryd.a139) rfl rfl fun Q hQ => ?_)
    simp only [Tryd.a139]
    have hcs : cs.take 3 = cs := List.take_of_length_le (by omega)
    have hne : ¬ ((left : Int) + 1 = 0) := by omega
    simp [hc.1, hc.2, hcs, hne, objCells, hp, hpu, hcall, hlv, hv.view, -List.all_eq_true]
    refine loop_nQ t.kids.length (fun i c => ∃ a5, c = ⟨[.agg cs, .int .i64 (left + 1 : Nat), .ref p 0 1, .ref q 0 1, .agg cs, a5, v, .int .i64 t.kids.length, .int .i64 i], [], none, none, h⟩ ∧ ∀ x ∈ t.kids.take i, depth x ≤ left) ?_ ⟨_, rfl, by simp⟩
    rintro I hI i c hi ⟨a5, rfl, hd⟩
    by_cases hlt : i < t.kids.length
    · have hlt' : (i : Int) < t.kids.length := by omega
      have hi1 : t.kids[i]? = some t.kids[i] := List.getElem?_eq_getElem hlt
      have hi2 : es[i]? = some (es[i]'(by omega)) := List.getElem?_eq_getElem (by omega)
      have hti := hall.get i _ _ hi1 hi2
      obtain ⟨he1, he2⟩ := isT_cells hti
      have hidx : idxV v i 3 = some (.pv (es[i]'(by omega))) := by rw [hv.idx]; simp only [Int.natCast_nonneg, if_true, Int.toNat_natCast, hi2, he1]
      have hw1 : IntKind.i64.wrap ((i : Int) + 1) = ((i + 1 : Nat) : Int) := by rw [wrap64 (by omega) (by unfold small at hkl; omega)]; rfl
      have hw2 : IntKind.i64.wrap ((left : Int) + 1 - 1) = (left : Int) := by rw [wrap64 (by omega) (by omega)]; omega
      have hw3 : IntKind.i64.wrap ((left : Int)) = (left : Int) := by rw [wrap64 (by omega) (by omega)]
      have hcl := ih _ _ (by omega) hti
      have htk : t.kids.take (i + 1) = t.kids.take i ++ [t.kids[i]] := (List.take_append_getElem hlt).symm
      have hmem : t.kids[i] ∈ t.kids := List.getElem_mem hlt
      generalize (es[i]'(by omega)) = el at *
      generalize hk : t.kids[i] = k at *
      have he3 : el.take 3 = el := List.take_of_length_le (by omega)
      by_cases hdk : depth k ≤ left
      · rw [deepR_le hdk] at hcl
        simp [hlt', hidx, he1, he2, he3, objCells, hq, hw1, hw2, hw3, hcl, -List.all_eq_true]
        refine ⟨hlt, hI _ _ ⟨_, rfl, ?_⟩⟩
        rw [htk]
        intro x hx
        rcases List.mem_append.1 hx with hx | hx
        · exact hd x hx
        · rw [List.mem_singleton.1 hx]; exact hdk
      · rw [deepR_gt hdk] at hcl
        simp [hlt', hidx, he1, he2, he3, objCells, hq, hw1, hw2, hw3, hcl, -List.all_eq_true]
        refine hQ _ _ ⟨?_, rfl⟩
        rw [depth_kids, deepR_gt]
        intro hle
        exact hdk (depths_le.1 (Nat.le_of_succ_le_succ hle) k hmem)
    · obtain rfl : i = t.kids.length := by omega
      simp
      refine hQ _ _ ⟨?_, rfl⟩
      rw [depth_kids, deepR_le]
      rw [List.take_of_length_le (Nat.le_refl _)] at hd
      exact Nat.succ_le_succ (depths_le.2 hd)

theorem shallow128 {t : T} {cs : List V} (ht : IsT 2 0 t cs) : ∃ h', (lim gl Tryd.aprog).call 128 [.agg cs, .func (.func 129) [] []] [] = some (deepR (depth t) 60, h') := by
  have hc := isT_cells ht
  have hcl := walk139 (gl := gl) 0 1 [.cells 1 1 [.func (.func 129) [] []], .cells 1 1 [.func (.func 139) [] [.ref 0 0 1, .ref 1 0 1]]] rfl rfl 60 t cs (by omega) ht
  refine ⟨[.cells 1 1 [.func (.func 129) [] []], .cells 1 1 [.func (.func 139) [] [.ref 0 0 1, .ref 1 0 1]]], CallP.eq (call_ofQ (af := Tryd.a128) rfl rfl fun Q hQ => ?_)⟩
  simp only [Tryd.a128]
  have hcs : cs.take 3 = cs := List.take_of_length_le (by omega)
  by_cases hd : depth t ≤ 60
  · rw [deepR_le hd] at hcl hQ
    simp at hcl
    simp [hc.1, hc.2, hcs, objCells, storeV, hcl, -List.all_eq_true]
    exact hQ _ _ ⟨rfl, rfl⟩
  · rw [deepR_gt hd] at hcl hQ
    simp at hcl
    simp [hc.1, hc.2, hcs, objCells, storeV, hcl, -List.all_eq_true]
    exact hQ _ _ ⟨rfl, rfl⟩

theorem parts132 {t : T} {cs : List V} (ht : IsT 3 0 t cs) : ∃ v es, SlV es v ∧ IsTs 3 0 t.kids es ∧ small t.kids.length ∧ ∀ h, (lim gl Tryd.aprog).call 132 [.agg cs] h = some (.ret v, h) := by
  cases t with
  | mk ns ls ks =>
    simp only [IsT] at ht
    obtain ⟨ha, hb, hn, vs, v, es, rfl, hls, hv, hkl, hts⟩ := ht
    match ns, ls, ha, hb with
    | [x0, x1, x2], [], _, _ =>
      simp only [IsLists] at hls
      subst hls
      refine ⟨v, es, hv, hts, hkl, fun h => CallP.eq ?_⟩
      refine call_ofQ (af := Tryd.a132) rfl rfl fun Q hQ => ?_
      simp only [Tryd.a132]
      simp [hv.cell, hv.cells]
      exact hQ _ _ ⟨rfl, rfl⟩

theorem walk141 (p q : Nat) (h : Heap) (hp : h[p]? = some (.cells 1 1 [.func (.func 132) [] []])) (hq : h[q]? = some (.cells 1 1 [.func (.func 141) [] [.ref p 0 1, .ref q 0 1]])) :
    ∀ (left : Nat) (t : T) (cs : List V), left < 1000 → IsT 3 0 t cs → (lim gl Tryd.aprog).call 141 [.agg cs, .int .i64 left, .ref p 0 1, .ref q 0 1] h = some (deepR (depth t) left, h) := by
  intro left
  induction left with
  | zero =>
    intro t cs _ ht
    have hc := isT_cells ht
    refine CallP.eq (call_ofQ (af := Tryd.a141) rfl rfl fun Q hQ => ?_)
    simp only [Tryd.a141]
    simp [hc.2, fill, -List.all_eq_true]
    rw [depth_kids, deepR_gt (by omega)] at hQ
    exact hQ _ _ ⟨rfl, rfl⟩
  | succ left ih =>
    intro t cs hleft ht
    have hc := isT_cells ht
    have hpu := isT_pure ht
    obtain ⟨v, es, hv, hts, hkl, hcall⟩ := parts132 (gl := gl) ht
    have hall := isTs_all hts
    have hl := hall.length
    have hlen := hv.len
    have hlv : lenV v = some (.int .i64 t.kids.length) := by rw [hlen, hl]
    refine CallP.eq (call_ofQ (af := Tryd.a141) rfl rfl fun Q hQ => ?_)
    simp only [Tryd.a141]
    have hcs : cs.take 4 = cs := List.take_of_length_le (by omega)
    have hne : ¬ ((left : Int) + 1 = 0) := by omega
    simp [hc.1, hc.2, hcs, hne, objCells, hp, hpu, hcall, hlv, hv.view, -List.all_eq_true]
    refine loop_nQ t.kids.length (fun i c => ∃ a5, c = ⟨[.agg cs, .int .i64 (left + 1 : Nat), .ref p 0 1, .ref q 0 1, .agg cs, a5, v, .int .i64 t.kids.length, .int .i64 i], [], none, none, h⟩ ∧ ∀ x ∈ t.kids.take i, depth x ≤ left) ?_ ⟨_, rfl, by simp⟩
    rintro I hI i c hi ⟨a5, rfl, hd⟩
    by_cases hlt : i < t.kids.length
    · have hlt' : (i : Int) < t.kids.length := by omega
      have hi1 : t.kids[i]? = some t.kids[i] := List.getElem?_eq_getElem hlt
      have hi2 : es[i]? = some (es[i]'(by omega)) := List.getElem?_eq_getElem (by omega)
      have hti := hall.get i _ _ hi1 hi2
      obtain ⟨he1, he2⟩ := isT_cells hti
      have hidx : idxV v i 4 = some (.pv (es[i]'(by omega))) := by rw [hv.idx]; simp only [Int.natCast_nonneg, if_true, Int.toNat_natCast, hi2, he1]
      have hw1 : IntKind.i64.wrap ((i : Int) + 1) = ((i + 1 : Nat) : Int) := by rw [wrap64 (by omega) (by unfold small at hkl; omega)]; rfl
      have hw2 : IntKind.i64.wrap ((left : Int) + 1 - 1) = (left : Int) := by rw [wrap64 (by omega) (by omega)]; omega
      have hw3 : IntKind.i64.wrap ((left : Int)) = (left : Int) := by rw [wrap64 (by omega) (by omega)]
      have hcl := ih _ _ (by omega) hti
      have htk : t.kids.take (i + 1) = t.kids.take i ++ [t.kids[i]] := (List.take_append_getElem hlt).symm
      have hmem : t.kids[i] ∈ t.kids := List.getElem_mem hlt
      generalize (es[i]'(by omega)) = el at *
      generalize hk : t.kids[i] = k at *
      have he3 : el.take 4 = el := List.take_of_length_le (by omega)
      by_cases hdk : depth k ≤ left
      · rw [deepR_le hdk] at hcl
        simp [hlt', hidx, he1, he2, he3, objCells, hq, hw1, hw2, hw3, hcl, -List.all_eq_true]
        refine ⟨hlt, hI _ _ ⟨_, rfl, ?_⟩⟩
        rw [htk]
        intro x hx
        rcases List.mem_append.1 hx with hx | hx
        · exact hd x hx
        · rw [List.mem_singleton.1 hx]; exact hdk
      · rw [deepR_gt hdk] at hcl
        simp [hlt', hidx, he1, he2, he3, objCells, hq, hw1, hw2, hw3, hcl, -List.all_eq_true]
        refine hQ _ _ ⟨?_, rfl⟩
        rw [depth_kids, deepR_gt]
        intro hle
        exact hdk (depths_le.1 (Nat.le_of_succ_le_succ hle) k hmem)
    · obtain rfl : i = t.kids.length := by omega
      simp
      refine hQ _ _ ⟨?_, rfl⟩
      rw [depth_kids, deepR_le]
      rw [List.take_of_length_le (Nat.le_refl _)] at hd
      exact Nat.succ_le_succ (depths_le.2 hd)

theorem shallow131 {t : T} {cs : List V} (ht : IsT 3 0 t cs) : ∃ h', (lim gl Tryd.aprog).call 131 [.agg cs, .func (.func 132) [] []] [] = some (deepR (depth t) 60, h') := by
  have hc := isT_cells ht
  have hcl := walk141 (gl := gl) 0 1 [.cells 1 1 [.func (.func 132) [] []], .cells 1 1 [.func (.func 141) [] [.ref 0 0 1, .ref 1 0 1]]] rfl rfl 60 t cs (by omega) ht
  refine ⟨[.cells 1 1 [.func (.func 132) [] []], .cells 1 1 [.func (.func 141) [] [.ref 0 0 1, .ref 1 0 1]]], CallP.eq (call_ofQ (af := Tryd.a131) rfl rfl fun Q hQ => ?_)⟩
  simp only [Tryd.a131]
  have hcs : cs.take 4 = cs := List.take_of_length_le (by omega)
  by_cases hd : depth t ≤ 60
  · rw [deepR_le hd] at hcl hQ
    simp at hcl
    simp [hc.1, hc.2, hcs, objCells, storeV, hcl, -List.all_eq_true]
    exact hQ _ _ ⟨rfl, rfl⟩
  · rw [deepR_gt hd] at hcl hQ
    simp at hcl
    simp [hc.1, hc.2, hcs, objCells, storeV, hcl, -List.all_eq_true]
    exact hQ _ _ ⟨rfl, rfl⟩

theorem parts135 {t : T} {cs : List V} (ht : IsT 2 2 t cs) : ∃ v es, SlV es v ∧ IsTs 2 2 t.kids es ∧ small t.kids.length ∧ ∀ h, (lim gl Tryd.aprog).call 135 [.agg cs] h = some (.ret v, h) := by
  cases t with
  | mk ns ls ks =>
    simp only [IsT] at ht
    obtain ⟨ha, hb, hn, vs, v, es, rfl, hls, hv, hkl, hts⟩ := ht
    match ns, ls, ha, hb with
    | [x0, x1], [l0, l1], _, _ =>
      simp only [IsLists] at hls
      obtain ⟨v1, _, rfl, hv1, v2, _, rfl, hv2, rfl⟩ := hls
      refine ⟨v, es, hv, hts, hkl, fun h => CallP.eq ?_⟩
      refine call_ofQ (af := Tryd.a135) rfl rfl fun Q hQ => ?_
      simp only [Tryd.a135]
      simp [hv.cell, hv.cells, hv1.sl.cell, hv2.sl.cell]
      exact hQ _ _ ⟨rfl, rfl⟩

theorem walk144 (p q : Nat) (h : Heap) (hp : h[p]? = some (.cells 1 1 [.func (.func 135) [] []])) (hq : h[q]? = some (.cells 1 1 [.func (.func 144) [] [.ref p 0 1, .ref q 0 1]])) :
    ∀ (left : Nat) (t : T) (cs : List V), left < 1000 → IsT 2 2 t cs → (lim gl Tryd.aprog).call 144 [.agg cs, .int .i64 left, .ref p 0 1, .ref q 0 1] h = some (deepR (depth t) left, h) := by
  intro left
  induction left with
  | zero =>
    intro t cs _ ht
    have hc := isT_cells ht
    refine CallP.eq (call_ofQ (af := Tryd.a144) rfl rfl fun Q hQ => ?_)
    simp only [Tryd.a144]
    simp [hc.2, fill, -List.all_eq_true]
    rw [depth_kids, deepR_gt (by omega)] at hQ
    exact hQ _ _ ⟨rfl, rfl⟩
  | succ left ih =>
    intro t cs hleft ht
    have hc := isT_cells ht
    have hpu := isT_pure ht
    obtain ⟨v, es, hv, hts, hkl, hcall⟩ := parts135 (gl := gl) ht
    have hall := isTs_all hts
    have hl := hall.length
    have hlen := hv.len
    have hlv : lenV v = some (.int .i64 t.kids.length) := by rw [hlen, hl]
    refine CallP.eq (call_ofQ (af := Tryd.a144) rfl rfl fun Q hQ => ?_)
    simp only [Tryd.a144]
    have hcs : cs.take 5 = cs := List.take_of_length_le (by omega)
    have hne : ¬ ((left : Int) + 1 = 0) := by omega
    simp [hc.1, hc.2, hcs, hne, objCells, hp, hpu, hcall, hlv, hv.view, -List.all_eq_true]
    refine loop_nQ t.kids.length (fun i c => ∃ a5, c = ⟨[.agg cs, .int .i64 (left + 1 : Nat), .ref p 0 1, .ref q 0 1, .agg cs, a5, v, .int .i64 t.kids.length, .int .i64 i], [], none, none, h⟩ ∧ ∀ x ∈ t.kids.take i, depth x ≤ left) ?_ ⟨_, rfl, by simp⟩
    rintro I hI i c hi ⟨a5, rfl, hd⟩
    by_cases hlt : i < t.kids.length
    · have hlt' : (i : Int) < t.kids.length := by omega
      have hi1 : t.kids[i]? = some t.kids[i] := List.getElem?_eq_getElem hlt
      have hi2 : es[i]? = some (es[i]'(by omega)) := List.getElem?_eq_getElem (by omega)
      have hti := hall.get i _ _ hi1 hi2
      obtain ⟨he1, he2⟩ := isT_cells hti
      have hidx : idxV v i 5 = some (.pv (es[i]'(by omega))) := by rw [hv.idx]; simp only [Int.natCast_nonneg, if_true, Int.toNat_natCast, hi2, he1]
      have hw1 : IntKind.i64.wrap ((i : Int) + 1) = ((i + 1 : Nat) : Int) := by rw [wrap64 (by omega) (by unfold small at hkl; omega)]; rfl
      have hw2 : IntKind.i64.wrap ((left : Int) + 1 - 1) = (left : Int) := by rw [wrap64 (by omega) (by omega)]; omega
      have hw3 : IntKind.i64.wrap ((left : Int)) = (left : Int) := by rw [wrap64 (by omega) (by omega)]
      have hcl := ih _ _ (by omega) hti
      have htk : t.kids.take (i + 1) = t.kids.take i ++ [t.kids[i]] := (List.take_append_getElem hlt).symm
      have hmem : t.kids[i] ∈ t.kids := List.getElem_mem hlt
      generalize (es[i]'(by omega)) = el at *
      generalize hk : t.kids[i] = k at *
      have he3 : el.take 5 = el := List.take_of_length_le (by omega)
      by_cases hdk : depth k ≤ left
      · rw [deepR_le hdk] at hcl
        simp [hlt', hidx, he1, he2, he3, objCells, hq, hw1, hw2, hw3, hcl, -List.all_eq_true]
        refine ⟨hlt, hI _ _ ⟨_, rfl, ?_⟩⟩
        rw [htk]
        intro x hx
        rcases List.mem_append.1 hx with hx | hx
        · exact hd x hx
        · rw [List.mem_singleton.1 hx]; exact hdk
      · rw [deepR_gt hdk] at hcl
        simp [hlt', hidx, he1, he2, he3, objCells, hq, hw1, hw2, hw3, hcl, -List.all_eq_true]
        refine hQ _ _ ⟨?_, rfl⟩
        rw [depth_kids, deepR_gt]
        intro hle
        exact hdk (depths_le.1 (Nat.le_of_succ_le_succ hle) k hmem)
    · obtain rfl : i = t.kids.length := by omega
      simp
      refine hQ _ _ ⟨?_, rfl⟩
      rw [depth_kids, deepR_le]
      rw [List.take_of_length_le (Nat.le_refl _)] at hd
      exact Nat.succ_le_succ (depths_le.2 hd)

theorem shallow134 {t : T} {cs : List V} (ht : IsT 2 2 t cs) : ∃ h', (lim gl Tryd.aprog).call 134 [.agg cs, .func (.func 135) [] []] [] = some (deepR (depth t) 60, h') := by
  have hc := isT_cells ht
  have hcl := walk144 (gl := gl) 0 1 [.cells 1 1 [.func (.func 135) [] []], .cells 1 1 [.func (.func 144) [] [.ref 0 0 1, .ref 1 0 1]]] rfl rfl 60 t cs (by omega) ht
  refine ⟨[.cells 1 1 [.func (.func 135) [] []], .cells 1 1 [.func (.func 144) [] [.ref 0 0 1, .ref 1 0 1]]], CallP.eq (call_ofQ (af := Tryd.a134) rfl rfl fun Q hQ => ?_)⟩
  simp only [Tryd.a134]
  have hcs : cs.take 5 = cs := List.take_of_length_le (by omega)
  by_cases hd : depth t ≤ 60
  · rw [deepR_le hd] at hcl hQ
    simp at hcl
    simp [hc.1, hc.2, hcs, objCells, storeV, hcl, -List.all_eq_true]
    exact hQ _ _ ⟨rfl, rfl⟩
  · rw [deepR_gt hd] at hcl hQ
    simp at hcl
    simp [hc.1, hc.2, hcs, objCells, storeV, hcl, -List.all_eq_true]
    exact hQ _ _ ⟨rfl, rfl⟩
end Go.Proofs.FileA
/- What catches a panic; how each kind is put. -/
set_option linter.unusedVariables false
set_option linter.unusedSimpArgs false
namespace Go.Proofs.FileA
open Go Go.Am
variable {gl : Nat → List V}

theorem caught_none (e : Nat) (h : Heap) : (lim gl Tryd.aprog).dcall 70 [.ref e 0 1] none h = some (none, h) := by
  refine dcall_of (af := Tryd.a70) rfl rfl ?_
  simp only [Tryd.a70]
  simp
theorem caught_arg (e : Nat) (h : Heap) (n : Int) (x : V) (he : h[e]? = some (.cells 1 1 [x])) : (lim gl Tryd.aprog).dcall 70 [.ref e 0 1] (some (.iface 169 (.agg [.int .i64 n]))) h = some (none, h.set e (.cells 1 1 [.int .i64 n])) := by
  refine dcall_of (af := Tryd.a70) rfl rfl ?_
  simp only [Tryd.a70]
  simp [storeV, objCells, he]
theorem caught_form (e : Nat) (h : Heap) (x : V) (he : h[e]? = some (.cells 1 1 [x])) : (lim gl Tryd.aprog).dcall 70 [.ref e 0 1] (some (.iface 145 (.agg []))) h = some (none, h.set e (.cells 1 1 [.int .i64 8])) := by
  refine dcall_of (af := Tryd.a70) rfl rfl ?_
  simp only [Tryd.a70]
  simp [storeV, objCells, he]

/-- what each kind puts -/
def PutK (f : Nat) (arg : V) (d : Nat) (c : List UInt8) : Prop := ∀ (gl : Nat → List V) (w o : Nat) (out : List UInt8) (h : Heap), WSt w o out h →
  CallP gl Tryd.aprog f [arg, .ref w 0 1] h (fun r h' => (d ≤ 60 → r = .ret (.tup []) ∧ ∃ out', WSt w o out' h' ∧ Put c out out' ∧ Fr2 w o h h') ∧ (60 < d → r = .pan errArg ∧ h' = h))

theorem putk_value {t : T} {cs : List V} (ht : IsT 2 0 t cs) : PutK 124 (.agg (cs ++ [.nils, .int .i64 0, .nils, .int .i64 0, .int .i64 0, .nils, .nils])) (depth t) (content t) := by
  intro gl w o out h hs
  have hc := isT_cells ht
  have hpu := isT_pure ht
  obtain ⟨h0, hsh⟩ := shallow128 (gl := gl) ht
  obtain ⟨r, h1, e1, rfl, out1, hs1, hp1, hf1⟩ := OptP.ex (wr_value t cs ht gl w o out h hs)
  refine call_ofQ (af := Tryd.a124) rfl rfl fun Q hQ => ?_
  simp only [Tryd.a124]
  have ht1 : ∀ l : List V, (cs ++ l).take 3 = cs := fun l => by rw [List.take_append_of_le_length (by omega), List.take_of_length_le (by omega)]
  have hln : cs.length = 3 := hc.1
  have hall : (cs ++ [V.nils, .int .i64 0, .nils, .int .i64 0, .int .i64 0, .nils, .nils]).all isCell = true := by rw [List.all_append, hc.2]; rfl
  by_cases hd : depth t ≤ 60
  · rw [deepR_le hd] at hsh
    simp [hall, ht1, hln, hpu, hsh, viewV, viewL, e1, -List.all_eq_true, -List.all_append]
    exact hQ _ _ ⟨fun _ => ⟨rfl, _, hs1, hp1, hf1⟩, fun h => by omega⟩
  · rw [deepR_gt hd] at hsh
    simp [hall, ht1, hln, hpu, hsh, errArg, -List.all_eq_true, -List.all_append]
    exact hQ _ _ ⟨fun h => by omega, fun _ => ⟨rfl, rfl⟩⟩

theorem putk_log {l : LogT} {cs : List V} (hl : IsLog l cs) : PutK 121 (.agg ([.int .i64 0, .int .i64 0, .nils, .nils, .int .i64 0, .nils, .int .i64 0] ++ cs)) 0 (logB l) := by
  intro gl w o out h hs
  obtain ⟨r, h1, e1, rfl, out1, hs1, hp1, hf1⟩ := OptP.ex (wr_log l cs hl gl w o out h hs)
  obtain ⟨⟨vc, vm, rfl, hvc, hvm⟩, _⟩ := hl
  refine call_ofQ (af := Tryd.a121) rfl rfl fun Q hQ => ?_
  simp only [Tryd.a121]
  simp [hvc.sl.cell, hvm.sl.cell, e1]
  exact hQ _ _ ⟨fun _ => ⟨rfl, _, hs1, hp1, hf1⟩, fun h => by omega⟩

theorem foldr_max_le {l : List Nat} {n : Nat} : l.foldr max 0 ≤ n ↔ ∀ x ∈ l, x ≤ n := by
  induction l with
  | nil => simp
  | cons a l ih => simp [Nat.max_le, ih]

theorem putk_prog {p : ProgT} {cs : List V} (hp : IsProg p cs) : PutK 125 (.agg ([.int .i64 0, .int .i64 0, .nils] ++ cs ++ [.nils, .int .i64 0, .int .i64 0, .nils, .nils])) (progDepth p) (progB p) := by
  intro gl w o out h hs
  obtain ⟨r, h1, e1, rfl, out1, hs1, hp1, hf1⟩ := OptP.ex (wr_prog p cs hp gl w o out h hs)
  obtain ⟨⟨v, es, rfl, hv, ha⟩, hr, hlen⟩ := hp
  have hl := ha.length
  have hlv : lenV v = some (.int .i64 p.funs.length) := by rw [hv.len, hl]
  refine call_ofQ (af := Tryd.a125) rfl rfl fun Q hQ => ?_
  simp only [Tryd.a125]
  simp [hv.cell, hlv]
  refine loop_nQ p.funs.length (fun i c => ∃ a3, c = ⟨[.agg [.int .i64 0, .int .i64 0, .nils, v, .int .i64 p.main, .nils, .int .i64 0, .int .i64 0, .nils, .nils], .ref w 0 1,
      .agg [.int .i64 0, .int .i64 0, .nils, v, .int .i64 p.main, .nils, .int .i64 0, .int .i64 0, .nils, .nils], a3, v, .int .i64 p.funs.length, .int .i64 i], [], none, none, h⟩ ∧ ∀ f ∈ p.funs.take i, depth f.body ≤ 60) ?_ ⟨_, rfl, by simp⟩
  rintro I hI i c hi ⟨a3, rfl, hd⟩
  by_cases hlt : i < p.funs.length
  · have hlt' : (i : Int) < p.funs.length := by omega
    have hi1 : p.funs[i]? = some p.funs[i] := List.getElem?_eq_getElem hlt
    have hi2 : es[i]? = some (es[i]'(by omega)) := List.getElem?_eq_getElem (by omega)
    have hfi := ha.get i _ _ hi1 hi2
    obtain ⟨he1, he2⟩ := isFun_cells hfi
    have hidx : idxV v i 6 = some (.pv (es[i]'(by omega))) := by rw [hv.idx]; simp only [Int.natCast_nonneg, if_true, Int.toNat_natCast, hi2, he1]
    have hw1 : IntKind.i64.wrap ((i : Int) + 1) = ((i + 1 : Nat) : Int) := by rw [wrap64 (by omega) (by unfold small at hlen; omega)]; rfl
    have htk : p.funs.take (i + 1) = p.funs.take i ++ [p.funs[i]] := (List.take_append_getElem hlt).symm
    have hmem : p.funs[i] ∈ p.funs := List.getElem_mem hlt
    generalize (es[i]'(by omega)) = el at *
    generalize hk : p.funs[i] = k at *
    obtain ⟨⟨bc, rfl, hb⟩, _, _⟩ := hfi
    obtain ⟨h0, hsh⟩ := shallow131 (gl := gl) hb
    have hpu := isT_pure hb
    have hbl := (isT_cells hb).1
    have hbc := (isT_cells hb).2
    have hb3 : bc.take 4 = bc := List.take_of_length_le (by omega)
    have hall : (V.str ⟨k.name.toArray⟩ :: V.int .i64 k.param :: bc).all isCell = true := he2
    by_cases hdk : depth k.body ≤ 60
    · rw [deepR_le hdk] at hsh
      simp [hlt', hidx, hbl, hbc, hb3, hpu, hsh, viewV, viewL, hw1, -List.all_eq_true]
      refine ⟨hlt, hI _ _ ⟨_, rfl, ?_⟩⟩
      rw [htk]
      intro x hx
      rcases List.mem_append.1 hx with hx | hx
      · exact hd x hx
      · rw [List.mem_singleton.1 hx]; exact hdk
    · rw [deepR_gt hdk] at hsh
      simp [hlt', hidx, hbl, hbc, hb3, hpu, hsh, errArg, -List.all_eq_true]
      refine hQ _ _ ⟨fun hle => ?_, fun _ => ⟨rfl, rfl⟩⟩
      exact absurd (depths_le.1 hle k.body (List.mem_map.2 ⟨k, hmem, rfl⟩)) hdk
  · obtain rfl : i = p.funs.length := by omega
    simp [e1]
    refine hQ _ _ ⟨fun _ => ⟨rfl, _, hs1, hp1, hf1⟩, fun h => ?_⟩
    rw [List.take_of_length_le (Nat.le_refl _)] at hd
    have : progDepth p ≤ 60 := depths_le.2 (fun t ht => by obtain ⟨f, hf, rfl⟩ := List.mem_map.1 ht; exact hd f hf)
    omega
end Go.Proofs.FileA
/- How a vector program is put; the file of each kind. -/
set_option linter.unusedVariables false
set_option linter.unusedSimpArgs false
namespace Go.Proofs.FileA
open Go Go.Am
variable {gl : Nat → List V}

theorem putk_vec {p : VecT} {cs : List V} (hp : IsVec p cs) : PutK 126 (.agg ([.int .i64 0, .int .i64 0, .nils, .nils, .int .i64 0] ++ cs ++ [.int .i64 0, .nils, .nils])) (vecDepth p) (vecB p) := by
  intro gl w o out h hs
  obtain ⟨r, h1, e1, rfl, out1, hs1, hp1, hf1⟩ := OptP.ex (wr_vec p cs hp gl w o out h hs)
  obtain ⟨⟨v, es, rfl, hv, ha⟩, hr, hlen⟩ := hp
  have hl := ha.length
  have hlv : lenV v = some (.int .i64 p.funs.length) := by rw [hv.len, hl]
  refine call_ofQ (af := Tryd.a126) rfl rfl fun Q hQ => ?_
  simp only [Tryd.a126]
  simp [hv.cell, hlv]
  refine loop_nQ p.funs.length (fun i c => ∃ a3 a4 a8 a9 a10, c = ⟨[.agg [.int .i64 0, .int .i64 0, .nils, .nils, .int .i64 0, v, .int .i64 p.main, .int .i64 0, .nils, .nils], .ref w 0 1,
      .agg [.int .i64 0, .int .i64 0, .nils, .nils, .int .i64 0, v, .int .i64 p.main, .int .i64 0, .nils, .nils], a3, a4, v, .int .i64 p.funs.length, .int .i64 i, a8, a9, a10], [], none, none, h⟩ ∧ ∀ f ∈ p.funs.take i, depths f.code ≤ 60) ?_ ⟨_, _, _, _, _, rfl, by simp⟩
  rintro I hI i c hi ⟨a3, a4, a8, a9, a10, rfl, hd⟩
  by_cases hlt : i < p.funs.length
  · have hlt' : (i : Int) < p.funs.length := by omega
    have hi1 : p.funs[i]? = some p.funs[i] := List.getElem?_eq_getElem hlt
    have hi2 : es[i]? = some (es[i]'(by omega)) := List.getElem?_eq_getElem (by omega)
    have hfi := ha.get i _ _ hi1 hi2
    obtain ⟨he1, he2⟩ := isVecFun_cells hfi
    have hidx : idxV v i 4 = some (.pv (es[i]'(by omega))) := by rw [hv.idx]; simp only [Int.natCast_nonneg, if_true, Int.toNat_natCast, hi2, he1]
    have hw1 : IntKind.i64.wrap ((i : Int) + 1) = ((i + 1 : Nat) : Int) := by rw [wrap64 (by omega) (by unfold small at hlen; omega)]; rfl
    have htk : p.funs.take (i + 1) = p.funs.take i ++ [p.funs[i]] := (List.take_append_getElem hlt).symm
    have hmem : p.funs[i] ∈ p.funs := List.getElem_mem hlt
    generalize (es[i]'(by omega)) = el at *
    generalize hk : p.funs[i] = k at *
    obtain ⟨⟨vc, vo, va, es2, rfl, hvc, hts, hvo, hva⟩, _, hkl⟩ := hfi
    have hall2 := isTs_all hts
    have hl2 := hall2.length
    have hlv2 : lenV vc = some (.int .i64 k.code.length) := by rw [hvc.len, hl2]
    simp [hlt', hidx, hvc.cell, hvo.sl.cell, hva.sl.cell, hlv2]
    refine loop_nQ k.code.length (fun j c => ∃ a4, c = ⟨[.agg [.int .i64 0, .int .i64 0, .nils, .nils, .int .i64 0, v, .int .i64 p.main, .int .i64 0, .nils, .nils], .ref w 0 1,
      .agg [.int .i64 0, .int .i64 0, .nils, .nils, .int .i64 0, v, .int .i64 p.main, .int .i64 0, .nils, .nils], .agg [.int .i64 k.params, vc, vo, va], a4, v, .int .i64 p.funs.length, .int .i64 i, vc, .int .i64 k.code.length, .int .i64 j], [], none, none, h⟩ ∧ ∀ t ∈ k.code.take j, depth t ≤ 60) ?_ ⟨_, rfl, by simp⟩
    rintro J hJ j c hj ⟨a4, rfl, hd2⟩
    by_cases hjt : j < k.code.length
    · have hjt' : (j : Int) < k.code.length := by omega
      have hj1 : k.code[j]? = some k.code[j] := List.getElem?_eq_getElem hjt
      have hj2 : es2[j]? = some (es2[j]'(by omega)) := List.getElem?_eq_getElem (by omega)
      have hti := hall2.get j _ _ hj1 hj2
      obtain ⟨he3, he4⟩ := isT_cells hti
      have hidx2 : idxV vc j 5 = some (.pv (es2[j]'(by omega))) := by rw [hvc.idx]; simp only [Int.natCast_nonneg, if_true, Int.toNat_natCast, hj2, he3]
      have hw2 : IntKind.i64.wrap ((j : Int) + 1) = ((j + 1 : Nat) : Int) := by rw [wrap64 (by omega) (by unfold small at hkl; omega)]; rfl
      have htk2 : k.code.take (j + 1) = k.code.take j ++ [k.code[j]] := (List.take_append_getElem hjt).symm
      have hmem2 : k.code[j] ∈ k.code := List.getElem_mem hjt
      generalize (es2[j]'(by omega)) = bc at *
      generalize hk2 : k.code[j] = t at *
      obtain ⟨h0, hsh⟩ := shallow134 (gl := gl) hti
      have hpu := isT_pure hti
      have hb3 : bc.take 5 = bc := List.take_of_length_le (by omega)
      by_cases hdk : depth t ≤ 60
      · rw [deepR_le hdk] at hsh
        simp [hjt', hidx2, he3, he4, hb3, hpu, hsh, viewV, viewL, hw2, -List.all_eq_true]
        refine ⟨hjt, hJ _ _ ⟨_, rfl, ?_⟩⟩
        rw [htk2]
        intro x hx
        rcases List.mem_append.1 hx with hx | hx
        · exact hd2 x hx
        · rw [List.mem_singleton.1 hx]; exact hdk
      · rw [deepR_gt hdk] at hsh
        simp [hjt', hidx2, he3, he4, hb3, hpu, hsh, errArg, -List.all_eq_true]
        refine hQ _ _ ⟨fun hle => ?_, fun _ => ⟨rfl, rfl⟩⟩
        have h1 := foldr_max_le.1 hle (depths k.code) (List.mem_map.2 ⟨k, hmem, rfl⟩)
        exact absurd (depths_le.1 h1 t hmem2) hdk
    · obtain rfl : j = k.code.length := by omega
      simp [hw1]
      refine ⟨hlt, hI _ _ ⟨_, _, _, _, _, rfl, ?_⟩⟩
      rw [htk]
      intro x hx
      rcases List.mem_append.1 hx with hx | hx
      · exact hd x hx
      · rw [List.mem_singleton.1 hx]
        rw [List.take_of_length_le (Nat.le_refl _)] at hd2
        exact depths_le.2 hd2
  · obtain rfl : i = p.funs.length := by omega
    simp [e1]
    refine hQ _ _ ⟨fun _ => ⟨rfl, _, hs1, hp1, hf1⟩, fun h => ?_⟩
    rw [List.take_of_length_le (Nat.le_refl _)] at hd
    have : vecDepth p ≤ 60 := foldr_max_le.2 (fun n hn => by obtain ⟨f, hf, rfl⟩ := List.mem_map.1 hn; exact hd f hf)
    omega

/-! ### the file -/

def sumOf (l : List UInt8) : Nat := (sumN l).toNat
theorem sumN_eq (l : List UInt8) : sumN l = (sumOf l : Int) ∧ sumOf l < 2 ^ 32 := by
  obtain ⟨⟨a1, a2⟩, ⟨a3, a4⟩⟩ := sumS_range l 1 0 (by omega) (by omega) (by omega) (by omega)
  unfold sumOf sumN
  omega
/-- a file: a kind and a content -/
def fileOf (k : UInt8) (c : List UInt8) : List UInt8 := ([83, 119, k] ++ c) ++ be 4 (sumOf ([83, 119, k] ++ c))

theorem bytes_nil {w : Nat} {h : Heap} (hw : h[w]? = some (.cells 1 1 [.nils])) {l : List UInt8} {ex : Bool} (hl : l.length < 2 ^ 46) (h0 : l ≠ []) :
    CallP gl Tryd.aprog 71 [.ref w 0 1, .sv (bytesV l) ex] h (fun r h' => r = .ret (.tup []) ∧ WSt w h.length l h' ∧ h'.length = h.length + 1 ∧ ∀ b : Nat, b ≠ w → b < h.length → h'[b]? = h[b]?) := by
  refine call_ofQ (af := Tryd.a71) rfl rfl fun Q hQ => ?_
  have hlt := (List.getElem?_eq_some_iff.1 hw).1
  have hne : l.length ≠ 0 := fun h => h0 (List.length_eq_zero_iff.1 h)
  simp only [Tryd.a71]
  have hap : appV h .nils (.sv (bytesV l) ex) 1 1 = some (.sl h.length 0 l.length l.length 1 false, h ++ [.cells l.length 1 (bytesC l)]) := by
    simp only [appV, sliceLen, sliceCells, bytesV_flat, bytesV_length, bytesC_length, Nat.mul_one]
    rw [if_pos trivial, if_pos (by unfold room; omega), if_neg hne]
  have hg : (h ++ [Am.Obj.cells l.length 1 (bytesC l)])[w]? = some (.cells 1 1 [.nils]) := by rw [List.getElem?_append_left hlt]; exact hw
  simp [objCells, hw, hap, storeV, hg]
  refine hQ _ _ ⟨rfl, ⟨by omega, ?_, ?_⟩, by simp, fun b hb hbl => ?_⟩
  · rw [List.getElem?_set_self (by simp; omega)]
  · rw [List.getElem?_set_ne (by omega)]
    simp
  · rw [List.getElem?_set_ne (Ne.symm hb), List.getElem?_append_left hbl]
end Go.Proofs.FileA
/- The file of each kind. -/
set_option linter.unusedVariables false
set_option linter.unusedSimpArgs false
namespace Go.Proofs.FileA
open Go Go.Am
variable {gl : Nat → List V}

theorem pureL_bytesC (l : List UInt8) : pureL (bytesC l) = true := by
  induction l with
  | nil => rfl
  | cons b l ih => simp only [bytesC, List.map_cons, pureL, pureV, Bool.true_and] at ih ⊢; exact ih
theorem chunks_bytesC (l : List UInt8) : chunks 1 l.length (bytesC l) = bytesV l := by
  induction l with
  | nil => rfl
  | cons b l ih => simp only [bytesC, bytesV, List.map_cons, List.length_cons, chunks, List.take_succ_cons, List.take_zero, List.drop_succ_cons, List.drop_zero] at ih ⊢; rw [ih]
theorem view_bytes {h : Heap} {o : Nat} {l : List UInt8} (ho : h[o]? = some (.cells l.length 1 (bytesC l))) : viewV 0 h (.sl o 0 l.length l.length 1 false) = some (.sv (bytesV l) false) := by
  simp only [viewV, objCells, ho, Nat.zero_mul, List.drop_zero, pureL_bytesC, chunks_bytesC]
  simp

def glTab : List V := [.func (.func 124) [] [], .func (.func 125) [] [], .func (.func 126) [] [], .func (.func 121) [] []]

/-- the four bytes of a check -/
theorem be4 (n : Nat) : be 4 n = [UInt8.ofNat (n / 256 ^ 3), UInt8.ofNat (n / 256 ^ 2), UInt8.ofNat (n / 256 ^ 1), UInt8.ofNat (n / 256 ^ 0)] := rfl

structure PutEnd (d : Nat) (k : UInt8) (c : List UInt8) (h : Heap) (r : R) (h' : Heap) : Prop where
  deep : 60 < d → r = .ret (.tup [.nils, .int .i64 1])
  long : d ≤ 60 → 200000 < c.length + 7 → r = .ret (.tup [.nils, .int .i64 3])
  ok : d ≤ 60 → c.length + 7 ≤ 200000 → ∃ o, h.length ≤ o ∧ r = .ret (.tup [.sl o 0 (fileOf k c).length (fileOf k c).length 1 false, .int .i64 0]) ∧ h'[o]? = some (.cells (fileOf k c).length 1 (bytesC (fileOf k c)))
  len : h.length ≤ h'.length
  old : ∀ b : Nat, b < h.length → h'[b]? = h[b]?

theorem fileOf_length (k : UInt8) (c : List UInt8) : (fileOf k c).length = c.length + 7 := by simp [fileOf]

theorem put_0 {tc : List V} {d : Nat} {c : List UInt8} (hp : PutK 124 (.agg tc) d c) (htl : tc.length = 10) (htc : tc.all isCell = true) (hgl : gl 0 = glTab) (h : Heap) :
    CallP gl Tryd.aprog 44 [.int .i64 0, .agg tc] h (PutEnd d 0 c h) := by
  have h2a : (h ++ [Am.Obj.cells 1 1 [V.int .i64 0], Am.Obj.cells 1 1 [V.nils]])[h.length + 1]? = some (.cells 1 1 [.nils]) := by
    rw [List.getElem?_append_right (by omega)]; simp
  have h2e : (h ++ [Am.Obj.cells 1 1 [V.int .i64 0], Am.Obj.cells 1 1 [V.nils]])[h.length]? = some (.cells 1 1 [.int .i64 0]) := by
    rw [List.getElem?_append_right (by omega)]; simp
  have h2o : ∀ b : Nat, b < h.length → (h ++ [Am.Obj.cells 1 1 [V.int .i64 0], Am.Obj.cells 1 1 [V.nils]])[b]? = h[b]? := fun b hb => List.getElem?_append_left hb
  have h2l : (h ++ [Am.Obj.cells 1 1 [V.int .i64 0], Am.Obj.cells 1 1 [V.nils]]).length = h.length + 2 := by simp
  obtain ⟨r, h3, e3, rfl, hs3, hl3, ho3⟩ := OptP.ex (bytes_nil (gl := gl) (ex := true) (l := [83, 119, 0]) h2a (by simp) (by simp))
  rw [h2l] at hs3 hl3 ho3
  have h3e : h3[h.length]? = some (.cells 1 1 [.int .i64 0]) := by rw [ho3 _ (by omega) (by omega), h2e]
  have ht10 : tc.take 10 = tc := List.take_of_length_le (by omega)
  have hk8 : IntKind.u8.wrap 0 = 0 := by decide
  obtain ⟨r4, h4, e4, hA, hB⟩ := OptP.ex (hp gl _ _ _ h3 hs3)
  have e3' : (lim gl Tryd.aprog).call 71 [V.ref (h.length + 1) 0 1, V.sv [[V.int .u8 83], [V.int .u8 119], [V.int .u8 0]] true] (h ++ [Am.Obj.cells 1 1 [V.int .i64 0], Am.Obj.cells 1 1 [V.nils]]) = some (.ret (.tup []), h3) := e3
  refine call_ofQ (af := Tryd.a44) rfl rfl fun Q hQ => ?_
  simp only [Tryd.a44]
  by_cases hd : d ≤ 60
  · obtain ⟨rfl, out4, hs4, hp4, hf4⟩ := hA hd
    have hle4 : out4.length ≤ 2 ^ 47 := hp4.2.2 (by simp)
    have hsum : (lim gl Tryd.aprog).call 19 [.sv (bytesV out4) false] [] = some (.ret (.int .i64 (sumOf out4)), []) := by
      have := sum_ok (gl := gl) out4 (by omega) false []
      rw [sumV_eq, (sumN_eq out4).1] at this
      exact this
    have hsb := (sumN_eq out4).2
    have hvb := view_bytes hs4.o
    have hch : (be 4 (sumOf out4)).length < 2 ^ 46 := by simp
    obtain ⟨r5, h5, e5, rfl, out5, hs5, hp5, hf5⟩ := OptP.ex (wr_bytes (v := .sv (bytesV (be 4 (sumOf out4))) true) (.sv true) hch gl _ _ _ h4 hs4)
    have h5e : h5[h.length]? = some (.cells 1 1 [.int .i64 0]) := by rw [hf5.get _ (by omega) (by omega), hf4.get _ (by omega) (by omega), h3e]
    have hb : ∀ j, ((UInt8.ofNat (sumOf out4 / 256 ^ j)).toNat : Int) = IntKind.u8.wrap ((sumOf out4 : Int).fdiv (2 ^ (8 * j))) := fun j => by rw [shr_eq, u8_of (Int.natCast_nonneg _), Int.toNat_natCast]
    have e5' : (lim gl Tryd.aprog).call 71 [V.ref (h.length + 1) 0 1, V.sv [[V.int .u8 (IntKind.u8.wrap ((sumOf out4 : Int).fdiv 16777216))], [V.int .u8 (IntKind.u8.wrap ((sumOf out4 : Int).fdiv 65536))], [V.int .u8 (IntKind.u8.wrap ((sumOf out4 : Int).fdiv 256))], [V.int .u8 (IntKind.u8.wrap (sumOf out4 : Int))]] true] h4 = some (.ret (.tup []), h5) := by
      rw [be4] at e5
      simp only [bytesV, List.map_cons, List.map_nil, hb] at e5
      simpa using e5
    have hl5 : h5.length = h.length + 3 := by rw [hf5.len, hf4.len, hl3]
    have hse : ∀ x, (h5.set h.length x)[h.length]? = some x := fun x => List.getElem?_set_self (by omega)
    have hcn := fun hh => caught_none (gl := gl) h.length hh
    have hold : ∀ b : Nat, b < h.length → h5[b]? = h[b]? := fun b hb => by rw [hf5.get _ (by omega) (by omega), hf4.get _ (by omega) (by omega), ho3 _ (by omega) (by omega), h2o _ hb]
    have hpa := hp4.append hp5
    have hfl := fileOf_length 0 c
    by_cases hlong : 200000 < out5.length
    · have hlong' : (200000 : Int) < out5.length := by omega
      simp [htl, htc, e3', hk8, hgl, glTab, ht10, e4, hvb, viewL, bcall, plainV, hsum, hs4.w, objCells, slotOf, fill, chunks, e5', hs5.w, IntKind.bits, hlong', storeV, h5e, hcn, hse, -List.all_eq_true]
      refine hQ _ _ ?_
      refine ⟨fun h => by omega, fun _ _ => rfl, fun _ hle => ?_, by simp [hl5], fun b hb => by rw [List.getElem?_set_ne (by omega)]; exact hold b hb⟩
      have := hpa.1 (by simp; omega)
      rw [this] at hlong
      simp at hlong
      omega
    · have hlong' : ¬ ((200000 : Int) < out5.length) := by omega
      simp [htl, htc, e3', hk8, hgl, glTab, ht10, e4, hvb, viewL, bcall, plainV, hsum, hs4.w, objCells, slotOf, fill, chunks, e5', hs5.w, IntKind.bits, hlong', storeV, h5e, hcn, hse, -List.all_eq_true]
      refine hQ _ _ ?_
      refine ⟨fun h => by omega, fun _ hgt => absurd (hpa.2.1 (by simp; omega)) hlong, fun _ hle => ?_, by simp [hl5], fun b hb => by rw [List.getElem?_set_ne (by omega)]; exact hold b hb⟩
      have h4 := hp4.1 (by simp; omega)
      have h5' := hp5.1 (by rw [h4]; simp; omega)
      have hfo : out5 = fileOf 0 c := by rw [h5', h4]; rfl
      refine ⟨h.length + 2, by omega, by rw [← hfo], ?_⟩
      rw [List.getElem?_set_ne (by omega), ← hfo]
      exact hs5.o
  · obtain ⟨rfl, h43⟩ := hB (by omega)
    rw [h43] at e4
    have hse : ∀ x, (h3.set h.length x)[h.length]? = some x := fun x => List.getElem?_set_self (by omega)
    have hca := caught_arg (gl := gl) h.length h3 1 _ h3e
    simp [htl, htc, e3', hk8, hgl, glTab, ht10, e4, errArg, hca, objCells, slotOf, fill, chunks, forget, AOper.writes, hse, -List.all_eq_true]
    refine hQ _ _ ?_
    exact ⟨fun _ => rfl, fun h => absurd h hd, fun h => absurd h hd, by simp [hl3]; omega, fun b hb => by rw [List.getElem?_set_ne (by omega), ho3 _ (by omega) (by omega), h2o _ hb]⟩

theorem put_1 {tc : List V} {d : Nat} {c : List UInt8} (hp : PutK 125 (.agg tc) d c) (htl : tc.length = 10) (htc : tc.all isCell = true) (hgl : gl 0 = glTab) (h : Heap) :
    CallP gl Tryd.aprog 44 [.int .i64 1, .agg tc] h (PutEnd d 1 c h) := by
  have h2a : (h ++ [Am.Obj.cells 1 1 [V.int .i64 0], Am.Obj.cells 1 1 [V.nils]])[h.length + 1]? = some (.cells 1 1 [.nils]) := by
    rw [List.getElem?_append_right (by omega)]; simp
  have h2e : (h ++ [Am.Obj.cells 1 1 [V.int .i64 0], Am.Obj.cells 1 1 [V.nils]])[h.length]? = some (.cells 1 1 [.int .i64 0]) := by
    rw [List.getElem?_append_right (by omega)]; simp
  have h2o : ∀ b : Nat, b < h.length → (h ++ [Am.Obj.cells 1 1 [V.int .i64 0], Am.Obj.cells 1 1 [V.nils]])[b]? = h[b]? := fun b hb => List.getElem?_append_left hb
  have h2l : (h ++ [Am.Obj.cells 1 1 [V.int .i64 0], Am.Obj.cells 1 1 [V.nils]]).length = h.length + 2 := by simp
  obtain ⟨r, h3, e3, rfl, hs3, hl3, ho3⟩ := OptP.ex (bytes_nil (gl := gl) (ex := true) (l := [83, 119, 1]) h2a (by simp) (by simp))
  rw [h2l] at hs3 hl3 ho3
  have h3e : h3[h.length]? = some (.cells 1 1 [.int .i64 0]) := by rw [ho3 _ (by omega) (by omega), h2e]
  have ht10 : tc.take 10 = tc := List.take_of_length_le (by omega)
  have hk8 : IntKind.u8.wrap 1 = 1 := by decide
  obtain ⟨r4, h4, e4, hA, hB⟩ := OptP.ex (hp gl _ _ _ h3 hs3)
  have e3' : (lim gl Tryd.aprog).call 71 [V.ref (h.length + 1) 0 1, V.sv [[V.int .u8 83], [V.int .u8 119], [V.int .u8 1]] true] (h ++ [Am.Obj.cells 1 1 [V.int .i64 0], Am.Obj.cells 1 1 [V.nils]]) = some (.ret (.tup []), h3) := e3
  refine call_ofQ (af := Tryd.a44) rfl rfl fun Q hQ => ?_
  simp only [Tryd.a44]
  by_cases hd : d ≤ 60
  · obtain ⟨rfl, out4, hs4, hp4, hf4⟩ := hA hd
    have hle4 : out4.length ≤ 2 ^ 47 := hp4.2.2 (by simp)
    have hsum : (lim gl Tryd.aprog).call 19 [.sv (bytesV out4) false] [] = some (.ret (.int .i64 (sumOf out4)), []) := by
      have := sum_ok (gl := gl) out4 (by omega) false []
      rw [sumV_eq, (sumN_eq out4).1] at this
      exact this
    have hsb := (sumN_eq out4).2
    have hvb := view_bytes hs4.o
    have hch : (be 4 (sumOf out4)).length < 2 ^ 46 := by simp
    obtain ⟨r5, h5, e5, rfl, out5, hs5, hp5, hf5⟩ := OptP.ex (wr_bytes (v := .sv (bytesV (be 4 (sumOf out4))) true) (.sv true) hch gl _ _ _ h4 hs4)
    have h5e : h5[h.length]? = some (.cells 1 1 [.int .i64 0]) := by rw [hf5.get _ (by omega) (by omega), hf4.get _ (by omega) (by omega), h3e]
    have hb : ∀ j, ((UInt8.ofNat (sumOf out4 / 256 ^ j)).toNat : Int) = IntKind.u8.wrap ((sumOf out4 : Int).fdiv (2 ^ (8 * j))) := fun j => by rw [shr_eq, u8_of (Int.natCast_nonneg _), Int.toNat_natCast]
    have e5' : (lim gl Tryd.aprog).call 71 [V.ref (h.length + 1) 0 1, V.sv [[V.int .u8 (IntKind.u8.wrap ((sumOf out4 : Int).fdiv 16777216))], [V.int .u8 (IntKind.u8.wrap ((sumOf out4 : Int).fdiv 65536))], [V.int .u8 (IntKind.u8.wrap ((sumOf out4 : Int).fdiv 256))], [V.int .u8 (IntKind.u8.wrap (sumOf out4 : Int))]] true] h4 = some (.ret (.tup []), h5) := by
      rw [be4] at e5
      simp only [bytesV, List.map_cons, List.map_nil, hb] at e5
      simpa using e5
    have hl5 : h5.length = h.length + 3 := by rw [hf5.len, hf4.len, hl3]
    have hse : ∀ x, (h5.set h.length x)[h.length]? = some x := fun x => List.getElem?_set_self (by omega)
    have hcn := fun hh => caught_none (gl := gl) h.length hh
    have hold : ∀ b : Nat, b < h.length → h5[b]? = h[b]? := fun b hb => by rw [hf5.get _ (by omega) (by omega), hf4.get _ (by omega) (by omega), ho3 _ (by omega) (by omega), h2o _ hb]
    have hpa := hp4.append hp5
    have hfl := fileOf_length 1 c
    by_cases hlong : 200000 < out5.length
    · have hlong' : (200000 : Int) < out5.length := by omega
      simp [htl, htc, e3', hk8, hgl, glTab, ht10, e4, hvb, viewL, bcall, plainV, hsum, hs4.w, objCells, slotOf, fill, chunks, e5', hs5.w, IntKind.bits, hlong', storeV, h5e, hcn, hse, -List.all_eq_true]
      refine hQ _ _ ?_
      refine ⟨fun h => by omega, fun _ _ => rfl, fun _ hle => ?_, by simp [hl5], fun b hb => by rw [List.getElem?_set_ne (by omega)]; exact hold b hb⟩
      have := hpa.1 (by simp; omega)
      rw [this] at hlong
      simp at hlong
      omega
    · have hlong' : ¬ ((200000 : Int) < out5.length) := by omega
      simp [htl, htc, e3', hk8, hgl, glTab, ht10, e4, hvb, viewL, bcall, plainV, hsum, hs4.w, objCells, slotOf, fill, chunks, e5', hs5.w, IntKind.bits, hlong', storeV, h5e, hcn, hse, -List.all_eq_true]
      refine hQ _ _ ?_
      refine ⟨fun h => by omega, fun _ hgt => absurd (hpa.2.1 (by simp; omega)) hlong, fun _ hle => ?_, by simp [hl5], fun b hb => by rw [List.getElem?_set_ne (by omega)]; exact hold b hb⟩
      have h4 := hp4.1 (by simp; omega)
      have h5' := hp5.1 (by rw [h4]; simp; omega)
      have hfo : out5 = fileOf 1 c := by rw [h5', h4]; rfl
      refine ⟨h.length + 2, by omega, by rw [← hfo], ?_⟩
      rw [List.getElem?_set_ne (by omega), ← hfo]
      exact hs5.o
  · obtain ⟨rfl, h43⟩ := hB (by omega)
    rw [h43] at e4
    have hse : ∀ x, (h3.set h.length x)[h.length]? = some x := fun x => List.getElem?_set_self (by omega)
    have hca := caught_arg (gl := gl) h.length h3 1 _ h3e
    simp [htl, htc, e3', hk8, hgl, glTab, ht10, e4, errArg, hca, objCells, slotOf, fill, chunks, forget, AOper.writes, hse, -List.all_eq_true]
    refine hQ _ _ ?_
    exact ⟨fun _ => rfl, fun h => absurd h hd, fun h => absurd h hd, by simp [hl3]; omega, fun b hb => by rw [List.getElem?_set_ne (by omega), ho3 _ (by omega) (by omega), h2o _ hb]⟩

theorem put_2 {tc : List V} {d : Nat} {c : List UInt8} (hp : PutK 126 (.agg tc) d c) (htl : tc.length = 10) (htc : tc.all isCell = true) (hgl : gl 0 = glTab) (h : Heap) :
    CallP gl Tryd.aprog 44 [.int .i64 2, .agg tc] h (PutEnd d 2 c h) := by
  have h2a : (h ++ [Am.Obj.cells 1 1 [V.int .i64 0], Am.Obj.cells 1 1 [V.nils]])[h.length + 1]? = some (.cells 1 1 [.nils]) := by
    rw [List.getElem?_append_right (by omega)]; simp
  have h2e : (h ++ [Am.Obj.cells 1 1 [V.int .i64 0], Am.Obj.cells 1 1 [V.nils]])[h.length]? = some (.cells 1 1 [.int .i64 0]) := by
    rw [List.getElem?_append_right (by omega)]; simp
  have h2o : ∀ b : Nat, b < h.length → (h ++ [Am.Obj.cells 1 1 [V.int .i64 0], Am.Obj.cells 1 1 [V.nils]])[b]? = h[b]? := fun b hb => List.getElem?_append_left hb
  have h2l : (h ++ [Am.Obj.cells 1 1 [V.int .i64 0], Am.Obj.cells 1 1 [V.nils]]).length = h.length + 2 := by simp
  obtain ⟨r, h3, e3, rfl, hs3, hl3, ho3⟩ := OptP.ex (bytes_nil (gl := gl) (ex := true) (l := [83, 119, 2]) h2a (by simp) (by simp))
  rw [h2l] at hs3 hl3 ho3
  have h3e : h3[h.length]? = some (.cells 1 1 [.int .i64 0]) := by rw [ho3 _ (by omega) (by omega), h2e]
  have ht10 : tc.take 10 = tc := List.take_of_length_le (by omega)
  have hk8 : IntKind.u8.wrap 2 = 2 := by decide
  obtain ⟨r4, h4, e4, hA, hB⟩ := OptP.ex (hp gl _ _ _ h3 hs3)
  have e3' : (lim gl Tryd.aprog).call 71 [V.ref (h.length + 1) 0 1, V.sv [[V.int .u8 83], [V.int .u8 119], [V.int .u8 2]] true] (h ++ [Am.Obj.cells 1 1 [V.int .i64 0], Am.Obj.cells 1 1 [V.nils]]) = some (.ret (.tup []), h3) := e3
  refine call_ofQ (af := Tryd.a44) rfl rfl fun Q hQ => ?_
  simp only [Tryd.a44]
  by_cases hd : d ≤ 60
  · obtain ⟨rfl, out4, hs4, hp4, hf4⟩ := hA hd
    have hle4 : out4.length ≤ 2 ^ 47 := hp4.2.2 (by simp)
    have hsum : (lim gl Tryd.aprog).call 19 [.sv (bytesV out4) false] [] = some (.ret (.int .i64 (sumOf out4)), []) := by
      have := sum_ok (gl := gl) out4 (by omega) false []
      rw [sumV_eq, (sumN_eq out4).1] at this
      exact this
    have hsb := (sumN_eq out4).2
    have hvb := view_bytes hs4.o
    have hch : (be 4 (sumOf out4)).length < 2 ^ 46 := by simp
    obtain ⟨r5, h5, e5, rfl, out5, hs5, hp5, hf5⟩ := OptP.ex (wr_bytes (v := .sv (bytesV (be 4 (sumOf out4))) true) (.sv true) hch gl _ _ _ h4 hs4)
    have h5e : h5[h.length]? = some (.cells 1 1 [.int .i64 0]) := by rw [hf5.get _ (by omega) (by omega), hf4.get _ (by omega) (by omega), h3e]
    have hb : ∀ j, ((UInt8.ofNat (sumOf out4 / 256 ^ j)).toNat : Int) = IntKind.u8.wrap ((sumOf out4 : Int).fdiv (2 ^ (8 * j))) := fun j => by rw [shr_eq, u8_of (Int.natCast_nonneg _), Int.toNat_natCast]
    have e5' : (lim gl Tryd.aprog).call 71 [V.ref (h.length + 1) 0 1, V.sv [[V.int .u8 (IntKind.u8.wrap ((sumOf out4 : Int).fdiv 16777216))], [V.int .u8 (IntKind.u8.wrap ((sumOf out4 : Int).fdiv 65536))], [V.int .u8 (IntKind.u8.wrap ((sumOf out4 : Int).fdiv 256))], [V.int .u8 (IntKind.u8.wrap (sumOf out4 : Int))]] true] h4 = some (.ret (.tup []), h5) := by
      rw [be4] at e5
      simp only [bytesV, List.map_cons, List.map_nil, hb] at e5
      simpa using e5
    have hl5 : h5.length = h.length + 3 := by rw [hf5.len, hf4.len, hl3]
    have hse : ∀ x, (h5.set h.length x)[h.length]? = some x := fun x => List.getElem?_set_self (by omega)
    have hcn := fun hh => caught_none (gl := gl) h.length hh
    have hold : ∀ b : Nat, b < h.length → h5[b]? = h[b]? := fun b hb => by rw [hf5.get _ (by omega) (by omega), hf4.get _ (by omega) (by omega), ho3 _ (by omega) (by omega), h2o _ hb]
    have hpa := hp4.append hp5
    have hfl := fileOf_length 2 c
    by_cases hlong : 200000 < out5.length
    · have hlong' : (200000 : Int) < out5.length := by omega
      simp [htl, htc, e3', hk8, hgl, glTab, ht10, e4, hvb, viewL, bcall, plainV, hsum, hs4.w, objCells, slotOf, fill, chunks, e5', hs5.w, IntKind.bits, hlong', storeV, h5e, hcn, hse, -List.all_eq_true]
      refine hQ _ _ ?_
      refine ⟨fun h => by omega, fun _ _ => rfl, fun _ hle => ?_, by simp [hl5], fun b hb => by rw [List.getElem?_set_ne (by omega)]; exact hold b hb⟩
      have := hpa.1 (by simp; omega)
      rw [this] at hlong
      simp at hlong
      omega
    · have hlong' : ¬ ((200000 : Int) < out5.length) := by omega
      simp [htl, htc, e3', hk8, hgl, glTab, ht10, e4, hvb, viewL, bcall, plainV, hsum, hs4.w, objCells, slotOf, fill, chunks, e5', hs5.w, IntKind.bits, hlong', storeV, h5e, hcn, hse, -List.all_eq_true]
      refine hQ _ _ ?_
      refine ⟨fun h => by omega, fun _ hgt => absurd (hpa.2.1 (by simp; omega)) hlong, fun _ hle => ?_, by simp [hl5], fun b hb => by rw [List.getElem?_set_ne (by omega)]; exact hold b hb⟩
      have h4 := hp4.1 (by simp; omega)
      have h5' := hp5.1 (by rw [h4]; simp; omega)
      have hfo : out5 = fileOf 2 c := by rw [h5', h4]; rfl
      refine ⟨h.length + 2, by omega, by rw [← hfo], ?_⟩
      rw [List.getElem?_set_ne (by omega), ← hfo]
      exact hs5.o
  · obtain ⟨rfl, h43⟩ := hB (by omega)
    rw [h43] at e4
    have hse : ∀ x, (h3.set h.length x)[h.length]? = some x := fun x => List.getElem?_set_self (by omega)
    have hca := caught_arg (gl := gl) h.length h3 1 _ h3e
    simp [htl, htc, e3', hk8, hgl, glTab, ht10, e4, errArg, hca, objCells, slotOf, fill, chunks, forget, AOper.writes, hse, -List.all_eq_true]
    refine hQ _ _ ?_
    exact ⟨fun _ => rfl, fun h => absurd h hd, fun h => absurd h hd, by simp [hl3]; omega, fun b hb => by rw [List.getElem?_set_ne (by omega), ho3 _ (by omega) (by omega), h2o _ hb]⟩

theorem put_3 {tc : List V} {d : Nat} {c : List UInt8} (hp : PutK 121 (.agg tc) d c) (htl : tc.length = 10) (htc : tc.all isCell = true) (hgl : gl 0 = glTab) (h : Heap) :
    CallP gl Tryd.aprog 44 [.int .i64 3, .agg tc] h (PutEnd d 3 c h) := by
  have h2a : (h ++ [Am.Obj.cells 1 1 [V.int .i64 0], Am.Obj.cells 1 1 [V.nils]])[h.length + 1]? = some (.cells 1 1 [.nils]) := by
    rw [List.getElem?_append_right (by omega)]; simp
  have h2e : (h ++ [Am.Obj.cells 1 1 [V.int .i64 0], Am.Obj.cells 1 1 [V.nils]])[h.length]? = some (.cells 1 1 [.int .i64 0]) := by
    rw [List.getElem?_append_right (by omega)]; simp
  have h2o : ∀ b : Nat, b < h.length → (h ++ [Am.Obj.cells 1 1 [V.int .i64 0], Am.Obj.cells 1 1 [V.nils]])[b]? = h[b]? := fun b hb => List.getElem?_append_left hb
  have h2l : (h ++ [Am.Obj.cells 1 1 [V.int .i64 0], Am.Obj.cells 1 1 [V.nils]]).length = h.length + 2 := by simp
  obtain ⟨r, h3, e3, rfl, hs3, hl3, ho3⟩ := OptP.ex (bytes_nil (gl := gl) (ex := true) (l := [83, 119, 3]) h2a (by simp) (by simp))
  rw [h2l] at hs3 hl3 ho3
  have h3e : h3[h.length]? = some (.cells 1 1 [.int .i64 0]) := by rw [ho3 _ (by omega) (by omega), h2e]
  have ht10 : tc.take 10 = tc := List.take_of_length_le (by omega)
  have hk8 : IntKind.u8.wrap 3 = 3 := by decide
  obtain ⟨r4, h4, e4, hA, hB⟩ := OptP.ex (hp gl _ _ _ h3 hs3)
  have e3' : (lim gl Tryd.aprog).call 71 [V.ref (h.length + 1) 0 1, V.sv [[V.int .u8 83], [V.int .u8 119], [V.int .u8 3]] true] (h ++ [Am.Obj.cells 1 1 [V.int .i64 0], Am.Obj.cells 1 1 [V.nils]]) = some (.ret (.tup []), h3) := e3
  refine call_ofQ (af := Tryd.a44) rfl rfl fun Q hQ => ?_
  simp only [Tryd.a44]
  by_cases hd : d ≤ 60
  · obtain ⟨rfl, out4, hs4, hp4, hf4⟩ := hA hd
    have hle4 : out4.length ≤ 2 ^ 47 := hp4.2.2 (by simp)
    have hsum : (lim gl Tryd.aprog).call 19 [.sv (bytesV out4) false] [] = some (.ret (.int .i64 (sumOf out4)), []) := by
      have := sum_ok (gl := gl) out4 (by omega) false []
      rw [sumV_eq, (sumN_eq out4).1] at this
      exact this
    have hsb := (sumN_eq out4).2
    have hvb := view_bytes hs4.o
    have hch : (be 4 (sumOf out4)).length < 2 ^ 46 := by simp
    obtain ⟨r5, h5, e5, rfl, out5, hs5, hp5, hf5⟩ := OptP.ex (wr_bytes (v := .sv (bytesV (be 4 (sumOf out4))) true) (.sv true) hch gl _ _ _ h4 hs4)
    have h5e : h5[h.length]? = some (.cells 1 1 [.int .i64 0]) := by rw [hf5.get _ (by omega) (by omega), hf4.get _ (by omega) (by omega), h3e]
    have hb : ∀ j, ((UInt8.ofNat (sumOf out4 / 256 ^ j)).toNat : Int) = IntKind.u8.wrap ((sumOf out4 : Int).fdiv (2 ^ (8 * j))) := fun j => by rw [shr_eq, u8_of (Int.natCast_nonneg _), Int.toNat_natCast]
    have e5' : (lim gl Tryd.aprog).call 71 [V.ref (h.length + 1) 0 1, V.sv [[V.int .u8 (IntKind.u8.wrap ((sumOf out4 : Int).fdiv 16777216))], [V.int .u8 (IntKind.u8.wrap ((sumOf out4 : Int).fdiv 65536))], [V.int .u8 (IntKind.u8.wrap ((sumOf out4 : Int).fdiv 256))], [V.int .u8 (IntKind.u8.wrap (sumOf out4 : Int))]] true] h4 = some (.ret (.tup []), h5) := by
      rw [be4] at e5
      simp only [bytesV, List.map_cons, List.map_nil, hb] at e5
      simpa using e5
    have hl5 : h5.length = h.length + 3 := by rw [hf5.len, hf4.len, hl3]
    have hse : ∀ x, (h5.set h.length x)[h.length]? = some x := fun x => List.getElem?_set_self (by omega)
    have hcn := fun hh => caught_none (gl := gl) h.length hh
    have hold : ∀ b : Nat, b < h.length → h5[b]? = h[b]? := fun b hb => by rw [hf5.get _ (by omega) (by omega), hf4.get _ (by omega) (by omega), ho3 _ (by omega) (by omega), h2o _ hb]
    have hpa := hp4.append hp5
    have hfl := fileOf_length 3 c
    by_cases hlong : 200000 < out5.length
    · have hlong' : (200000 : Int) < out5.length := by omega
      simp [htl, htc, e3', hk8, hgl, glTab, ht10, e4, hvb, viewL, bcall, plainV, hsum, hs4.w, objCells, slotOf, fill, chunks, e5', hs5.w, IntKind.bits, hlong', storeV, h5e, hcn, hse, -List.all_eq_true]
      refine hQ _ _ ?_
      refine ⟨fun h => by omega, fun _ _ => rfl, fun _ hle => ?_, by simp [hl5], fun b hb => by rw [List.getElem?_set_ne (by omega)]; exact hold b hb⟩
      have := hpa.1 (by simp; omega)
      rw [this] at hlong
      simp at hlong
      omega
    · have hlong' : ¬ ((200000 : Int) < out5.length) := by omega
      simp [htl, htc, e3', hk8, hgl, glTab, ht10, e4, hvb, viewL, bcall, plainV, hsum, hs4.w, objCells, slotOf, fill, chunks, e5', hs5.w, IntKind.bits, hlong', storeV, h5e, hcn, hse, -List.all_eq_true]
      refine hQ _ _ ?_
      refine ⟨fun h => by omega, fun _ hgt => absurd (hpa.2.1 (by simp; omega)) hlong, fun _ hle => ?_, by simp [hl5], fun b hb => by rw [List.getElem?_set_ne (by omega)]; exact hold b hb⟩
      have h4 := hp4.1 (by simp; omega)
      have h5' := hp5.1 (by rw [h4]; simp; omega)
      have hfo : out5 = fileOf 3 c := by rw [h5', h4]; rfl
      refine ⟨h.length + 2, by omega, by rw [← hfo], ?_⟩
      rw [List.getElem?_set_ne (by omega), ← hfo]
      exact hs5.o
  · obtain ⟨rfl, h43⟩ := hB (by omega)
    rw [h43] at e4
    have hse : ∀ x, (h3.set h.length x)[h.length]? = some x := fun x => List.getElem?_set_self (by omega)
    have hca := caught_arg (gl := gl) h.length h3 1 _ h3e
    simp [htl, htc, e3', hk8, hgl, glTab, ht10, e4, errArg, hca, objCells, slotOf, fill, chunks, forget, AOper.writes, hse, -List.all_eq_true]
    refine hQ _ _ ?_
    exact ⟨fun _ => rfl, fun h => absurd h hd, fun h => absurd h hd, by simp [hl3]; omega, fun b hb => by rw [List.getElem?_set_ne (by omega), ho3 _ (by omega) (by omega), h2o _ hb]⟩
end Go.Proofs.FileA
/- Put of each kind. -/
set_option linter.unusedVariables false
set_option linter.unusedSimpArgs false
namespace Go.Proofs.FileA
open Go Go.Am
variable {gl : Nat → List V}

/-- what a Put returns -/
def putR (d : Nat) (k : UInt8) (c : List UInt8) : V :=
  if 60 < d then .tup [.nils, .int .i64 1] else if 200000 < c.length + 7 then .tup [.nils, .int .i64 3] else .tup [.sv (bytesV (fileOf k c)) false, .int .i64 0]

/-- the end of put in a heap of its own -/
theorem putEnd_view {d : Nat} {k : UInt8} {c : List UInt8} {r : R} {h' : Heap} (h : PutEnd d k c [] r h') : ∃ v, r = .ret v ∧ viewV 0 h' v = some (putR d k c) := by
  unfold putR
  by_cases hd : 60 < d
  · rw [if_pos hd]; exact ⟨_, h.deep hd, by simp [viewV, viewL]⟩
  · rw [if_neg hd]
    by_cases hl : 200000 < c.length + 7
    · rw [if_pos hl]; exact ⟨_, h.long (by omega) hl, by simp [viewV, viewL]⟩
    · rw [if_neg hl]
      obtain ⟨o, _, h1, h2⟩ := h.ok (by omega) (by omega)
      refine ⟨_, h1, ?_⟩
      have := view_bytes h2
      show Option.map V.tup (viewL 0 h' [_, _]) = _
      unfold viewL
      rw [this]
      simp [viewL, viewV]
theorem pureL_isFun {f : FunT} {cs : List V} (h : IsFun f cs) : pureL cs = true := by
  obtain ⟨⟨bc, rfl, hb⟩, _, _⟩ := h
  simp [pureL, pureV, isT_pure hb]

theorem put_value {x : T} {cs : List V} (hx : IsT 2 0 x cs) (hgl : gl 0 = glTab) (h : Heap) : (lim gl Tryd.aprog).call 10 [.agg cs] h = some (.ret (putR (depth x) 0 (content x)), h) := by
  have hck := hx
  have hall := (isT_cells hck).2
  have hpu := isT_pure hck
  have hln : cs.length = 3 := (isT_cells hck).1
  have htl : ((cs ++ [.nils, .int .i64 0, .nils, .int .i64 0, .int .i64 0, .nils, .nils]) : List V).length = 10 := by simp [hln]
  have htc : ((cs ++ [.nils, .int .i64 0, .nils, .int .i64 0, .int .i64 0, .nils, .nils]) : List V).all isCell = true := by simp only [List.all_append, hall]; rfl
  obtain ⟨r, h1, e1, hE⟩ := OptP.ex (put_0 (gl := gl) (putk_value hx) htl htc hgl [])
  obtain ⟨v, rfl, hv⟩ := putEnd_view hE
  have hnil : ∃ a b, putR (depth x) 0 (content x) = .tup [a, b] := by unfold putR; split; exact ⟨_, _, rfl⟩; split <;> exact ⟨_, _, rfl⟩
  obtain ⟨a, b, hab⟩ := hnil
  rw [hab] at hv ⊢
  refine CallP.eq (call_ofQ (af := Tryd.a10) rfl rfl fun Q hQ => ?_)
  simp only [Tryd.a10]
  have hcs : cs.take 3 = cs := List.take_of_length_le (by omega)
  try simp only [List.cons_append, List.nil_append] at e1
  have hpa : pureL (cs ++ [.nils, .int .i64 0, .nils, .int .i64 0, .int .i64 0, .nils, .nils]) = true := by simp only [pureL_append, hpu]; rfl
  simp [hall, hln, hcs, fill, hpu, hpa, e1, hv, -List.all_eq_true]
  exact hQ _ _ ⟨rfl, rfl⟩

theorem put_prog {x : ProgT} {cs : List V} (hx : IsProg x cs) (hgl : gl 0 = glTab) (h : Heap) : (lim gl Tryd.aprog).call 12 [.agg cs] h = some (.ret (putR (progDepth x) 1 (progB x)), h) := by
  have hck := hx
  have hall : cs.all isCell = true := by obtain ⟨⟨v, es, rfl, hv, _⟩, _, _⟩ := hck; simp [hv.cell]
  have hpu : pureL cs = true := by obtain ⟨⟨v, es, rfl, hv, _⟩, _, _⟩ := hck; simp [hv.pure, pureL, pureV]
  have hln : cs.length = 2 := by obtain ⟨⟨v, es, rfl, hv, _⟩, _, _⟩ := hck; rfl
  have htl : (([.int .i64 0, .int .i64 0, .nils] ++ cs ++ [.nils, .int .i64 0, .int .i64 0, .nils, .nils]) : List V).length = 10 := by simp [hln]
  have htc : (([.int .i64 0, .int .i64 0, .nils] ++ cs ++ [.nils, .int .i64 0, .int .i64 0, .nils, .nils]) : List V).all isCell = true := by simp only [List.all_append, hall]; rfl
  obtain ⟨r, h1, e1, hE⟩ := OptP.ex (put_1 (gl := gl) (putk_prog hx) htl htc hgl [])
  obtain ⟨v, rfl, hv⟩ := putEnd_view hE
  have hnil : ∃ a b, putR (progDepth x) 1 (progB x) = .tup [a, b] := by unfold putR; split; exact ⟨_, _, rfl⟩; split <;> exact ⟨_, _, rfl⟩
  obtain ⟨a, b, hab⟩ := hnil
  rw [hab] at hv ⊢
  refine CallP.eq (call_ofQ (af := Tryd.a12) rfl rfl fun Q hQ => ?_)
  simp only [Tryd.a12]
  have hcs : cs.take 2 = cs := List.take_of_length_le (by omega)
  try simp only [List.cons_append, List.nil_append] at e1
  have hpa : pureL (cs ++ [.nils, .int .i64 0, .int .i64 0, .nils, .nils]) = true := by simp only [pureL_append, hpu]; rfl
  simp [hall, hln, hcs, fill, hpu, hpa, e1, hv, -List.all_eq_true]
  exact hQ _ _ ⟨rfl, rfl⟩

theorem put_vec {x : VecT} {cs : List V} (hx : IsVec x cs) (hgl : gl 0 = glTab) (h : Heap) : (lim gl Tryd.aprog).call 15 [.agg cs] h = some (.ret (putR (vecDepth x) 2 (vecB x)), h) := by
  have hck := hx
  have hall : cs.all isCell = true := by obtain ⟨⟨v, es, rfl, hv, _⟩, _, _⟩ := hck; simp [hv.cell]
  have hpu : pureL cs = true := by obtain ⟨⟨v, es, rfl, hv, _⟩, _, _⟩ := hck; simp [hv.pure, pureL, pureV]
  have hln : cs.length = 2 := by obtain ⟨⟨v, es, rfl, hv, _⟩, _, _⟩ := hck; rfl
  have htl : (([.int .i64 0, .int .i64 0, .nils, .nils, .int .i64 0] ++ cs ++ [.int .i64 0, .nils, .nils]) : List V).length = 10 := by simp [hln]
  have htc : (([.int .i64 0, .int .i64 0, .nils, .nils, .int .i64 0] ++ cs ++ [.int .i64 0, .nils, .nils]) : List V).all isCell = true := by simp only [List.all_append, hall]; rfl
  obtain ⟨r, h1, e1, hE⟩ := OptP.ex (put_2 (gl := gl) (putk_vec hx) htl htc hgl [])
  obtain ⟨v, rfl, hv⟩ := putEnd_view hE
  have hnil : ∃ a b, putR (vecDepth x) 2 (vecB x) = .tup [a, b] := by unfold putR; split; exact ⟨_, _, rfl⟩; split <;> exact ⟨_, _, rfl⟩
  obtain ⟨a, b, hab⟩ := hnil
  rw [hab] at hv ⊢
  refine CallP.eq (call_ofQ (af := Tryd.a15) rfl rfl fun Q hQ => ?_)
  simp only [Tryd.a15]
  have hcs : cs.take 2 = cs := List.take_of_length_le (by omega)
  try simp only [List.cons_append, List.nil_append] at e1
  have hpa : pureL (cs ++ [.int .i64 0, .nils, .nils]) = true := by simp only [pureL_append, hpu]; rfl
  simp [hall, hln, hcs, fill, hpu, hpa, e1, hv, -List.all_eq_true]
  exact hQ _ _ ⟨rfl, rfl⟩

theorem put_log {x : LogT} {cs : List V} (hx : IsLog x cs) (hgl : gl 0 = glTab) (h : Heap) : CallP gl Tryd.aprog 17 [.agg cs] h (PutEnd 0 3 (logB x) h) := by
  have hck := hx
  have hall : cs.all isCell = true := by obtain ⟨⟨v, w, rfl, hv, hw⟩, _⟩ := hck; simp [hv.sl.cell, hw.sl.cell]
  have hln : cs.length = 3 := by obtain ⟨⟨v, w, rfl, hv, hw⟩, _⟩ := hck; rfl
  have htl : ([.int .i64 0, .int .i64 0, .nils, .nils, .int .i64 0, .nils, .int .i64 0] ++ cs : List V).length = 10 := by simp [hln]
  have htc : ([.int .i64 0, .int .i64 0, .nils, .nils, .int .i64 0, .nils, .int .i64 0] ++ cs : List V).all isCell = true := by simp only [List.all_append, hall]; rfl
  obtain ⟨r, h1, e1, hE⟩ := OptP.ex (put_3 (gl := gl) (putk_log hx) htl htc hgl h)
  have hr : ∃ a b, r = .ret (.tup [a, b]) := by
    by_cases hl : 200000 < (logB x).length + 7
    · exact ⟨_, _, hE.long (by omega) hl⟩
    · obtain ⟨o, _, h1, _⟩ := hE.ok (by omega) (by omega)
      exact ⟨_, _, h1⟩
  obtain ⟨a, b, rfl⟩ := hr
  refine call_ofQ (af := Tryd.a17) rfl rfl fun Q hQ => ?_
  simp only [Tryd.a17]
  have hcs : cs.take 3 = cs := List.take_of_length_le (by omega)
  try simp only [List.cons_append, List.nil_append] at e1
  simp [hall, hln, hcs, fill, e1, -List.all_eq_true]
  exact hQ _ _ hE
end Go.Proofs.FileA
