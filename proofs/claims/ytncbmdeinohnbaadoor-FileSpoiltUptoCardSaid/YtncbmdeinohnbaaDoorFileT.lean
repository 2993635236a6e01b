/- What the program's reader does. -/
import Derived.Test.YtncbmdeinohnbaaDoorFileW
import Derived.Test.YtncbmdeinohnbaaDoorFileL
/- File: how things are read. Plain lists and numbers. -/
set_option linter.unusedVariables false
namespace Go.Proofs.FileA

abbrev L := List UInt8

/-- the number that bytes are, the most significant first -/
def beVal (l : L) : Nat := l.foldl (fun n b => n * 256 + b.toNat) 0

/-- of a first byte of a longer number: how many bytes follow -/
def decK (first : Nat) : Nat := if 247 < first then first - 247 else first - 239
/-- the first byte is not 0 -/
def headPos : L → Bool
  | b :: _ => decide (0 < b.toNat)
  | [] => false
/-- the number that follows is written with the least bytes -/
def decLeast (first : Nat) (bs : L) : Bool := if 1 < decK first then headPos bs else decide (247 < first ∨ 239 < beVal bs)

def decNum : L → Option (Int × L)
  | [] => none
  | b :: r =>
    if b.toNat < 240 then some ((b.toNat : Int), r)
    else if r.length < decK b.toNat then none
    else if decLeast b.toNat (r.take (decK b.toNat)) = true ∧ beVal (r.take (decK b.toNat)) < 2 ^ 63 then
      some (if 247 < b.toNat then -1 - (beVal (r.take (decK b.toNat)) : Int) else (beVal (r.take (decK b.toNat)) : Int), r.drop (decK b.toNat))
    else none

def decCount (l : L) : Option (Nat × L) := (decNum l).bind fun x => if x.1 < 0 ∨ (x.2.length : Int) < x.1 then none else some (x.1.toNat, x.2)

def decMany {α : Type} (f : L → Option (α × L)) : Nat → L → Option (List α × L)
  | 0, l => some ([], l)
  | k + 1, l => (f l).bind fun x => (decMany f k x.2).map fun y => (x.1 :: y.1, y.2)

/-- a list of things -/
def decAll {α : Type} (f : L → Option (α × L)) (l : L) : Option (List α × L) := (decCount l).bind fun x => decMany f x.1 x.2
def decList (l : L) : Option (List Int × L) := decAll decNum l
def decText (l : L) : Option (L × L) := (decCount l).map fun x => (x.2.take x.1, x.2.drop x.1)

/-- a tree of so many numbers, so many lists -/
def decT (a b : Nat) : Nat → L → Option (T × L)
  | 0, _ => none
  | d + 1, l => (decMany decNum a l).bind fun x => (decMany decList b x.2).bind fun y => (decAll (decT a b d) y.2).map fun w => (.mk x.1 y.1 w.1, w.2)
def decCode (d : Nat) (l : L) : Option (List T × L) := decAll (decT 2 2 d) l

def decFun (l : L) : Option (FunT × L) := (decText l).bind fun x => (decNum x.2).bind fun y => (decT 3 0 60 y.2).map fun z => (⟨x.1, y.1, z.1⟩, z.2)
def decProg (l : L) : Option (ProgT × L) := (decAll decFun l).bind fun y => (decNum y.2).map fun z => (⟨y.1, z.1⟩, z.2)
def decVecFun (l : L) : Option (VecFunT × L) := (decNum l).bind fun x => (decCode 60 x.2).bind fun y => (decList y.2).bind fun z => (decList z.2).map fun w => (⟨x.1, y.1, z.1, w.1⟩, w.2)
def decVec (l : L) : Option (VecT × L) := (decAll decVecFun l).bind fun y => (decNum y.2).map fun z => (⟨y.1, z.1⟩, z.2)
def decLog (l : L) : Option (LogT × L) := (decNum l).bind fun x => (decList x.2).bind fun y => (decList y.2).map fun z => (⟨x.1, y.1, z.1⟩, z.2)

/-- what is left is part of what there was -/
def Shrinks {α : Type} (f : L → Option (α × L)) : Prop := ∀ l x, f l = some x → x.2.length ≤ l.length
theorem Shrinks.many {α : Type} {f : L → Option (α × L)} (h : Shrinks f) : ∀ k, Shrinks (decMany f k)
  | 0 => fun l x e => by simp [decMany] at e; subst e; simp
  | k + 1 => fun l x e => by
    simp only [decMany, Option.bind_eq_some_iff, Option.map_eq_some_iff] at e
    obtain ⟨y, h1, z, h2, rfl⟩ := e
    have := h l y h1
    have := Shrinks.many h k y.2 z h2
    simp only
    omega
theorem shrinks_num : Shrinks decNum := fun l x e => by
  cases l with
  | nil => simp [decNum] at e
  | cons b r =>
    simp only [decNum] at e
    split at e
    · simp at e; subst e; simp
    · split at e
      · cases e
      · split at e
        · simp at e; subst e; simp; omega
        · cases e
theorem shrinks_count : Shrinks decCount := fun l x e => by
  simp only [decCount, Option.bind_eq_some_iff] at e
  obtain ⟨y, h1, h2⟩ := e
  have := shrinks_num l y h1
  split at h2
  · cases h2
  · simp at h2; subst h2; exact this
theorem decCount_le {l : L} {x : Nat × L} (e : decCount l = some x) : x.1 ≤ x.2.length := by
  simp only [decCount, Option.bind_eq_some_iff] at e
  obtain ⟨y, h1, h2⟩ := e
  split at h2
  · cases h2
  · simp at h2; subst h2; simp only; omega

theorem decMany_len {α : Type} {f : L → Option (α × L)} : ∀ (k : Nat) (l : L) (x : List α × L), decMany f k l = some x → x.1.length = k
  | 0, l, x, h => by simp [decMany] at h; subst h; rfl
  | k + 1, l, x, h => by
    simp only [decMany, Option.bind_eq_some_iff, Option.map_eq_some_iff] at h
    obtain ⟨y, _, z, h2, rfl⟩ := h
    have := decMany_len k y.2 z h2
    simp only [List.length_cons]; omega
theorem decNum_range {l : L} {x : Int × L} (h : decNum l = some x) : -9223372036854775808 ≤ x.1 ∧ x.1 ≤ 9223372036854775807 := by
  cases l with
  | nil => simp [decNum] at h
  | cons b r =>
    have hb := b.toNat_lt
    simp only [decNum] at h
    split at h
    · simp at h; subst h; simp only; omega
    · split at h
      · cases h
      · split at h
        · rename_i h1
          simp at h; subst h
          have := h1.2
          simp only
          split <;> omega
        · cases h
theorem decAll_len {α : Type} {f : L → Option (α × L)} {l : L} {x : List α × L} (h : decAll f l = some x) : x.1.length ≤ l.length := by
  simp only [decAll, Option.bind_eq_some_iff] at h
  obtain ⟨y, h1, h2⟩ := h
  have := decMany_len _ _ _ h2
  have := decCount_le h1
  have := shrinks_count l y h1
  omega

theorem decText_len {l : L} {x : L × L} (h : decText l = some x) : x.1.length ≤ l.length := by
  simp only [decText, Option.map_eq_some_iff] at h
  obtain ⟨y, h1, rfl⟩ := h
  have := shrinks_count l y h1
  simp only [List.length_take]
  omega

/-! ### the kind of a file, what it holds -/
section
variable (sum : L → Nat)
/-- the kind and the error -/
def kindOf (b : L) : Nat × Int :=
  if 200000 < b.length then (0, 3)
  else if b.length < 7 ∨ b[0]? ≠ some 83 ∨ b[1]? ≠ some 119 then (0, 8)
  else if b.drop (b.length - 4) ≠ be 4 (sum (b.take (b.length - 4))) then (0, 10)
  else ((b[2]?.getD 0).toNat, 0)
/-- what a file of a kind is read as: nothing with an error, or something -/
def readOf {α : Type} (k : Nat) (dec : L → Option (α × L)) (b : L) : Option α × Int :=
  if (kindOf sum b).2 ≠ 0 then (none, (kindOf sum b).2)
  else if (kindOf sum b).1 ≠ k then (none, 15)
  else match dec ((b.take (b.length - 4)).drop 3) with
    | some (a, []) => (some a, 0)
    | _ => (none, 8)
end
end Go.Proofs.FileA
/- How things are read: one read behind the other. Plain lists. -/
set_option linter.unusedVariables false
set_option linter.unusedSimpArgs false
namespace Go.Proofs.FileA

theorem numB_ne (n : Int) : numB n ≠ [] := by
  unfold numB
  split
  · simp
  · split <;> simp

/-- what is left behind a read -/
def st {α : Type} (dec : L → Option (α × L)) (o : Option L) : Option L := (o.bind dec).map (·.2)

/-- one read behind the other -/
def sq {α β : Type} (f : L → Option (α × L)) (g : L → Option (β × L)) (l : L) : Option ((α × β) × L) := (f l).bind fun x => (g x.2).map fun y => ((x.1, y.1), y.2)
def mapD {α β : Type} (h : α → β) (f : L → Option (α × L)) (l : L) : Option (β × L) := (f l).map fun x => (h x.1, x.2)
theorem st_sq {α β : Type} (f : L → Option (α × L)) (g : L → Option (β × L)) (o : Option L) : st (sq f g) o = st g (st f o) := by
  cases o with
  | none => rfl
  | some l =>
    simp only [st, sq, Option.bind_some]
    cases f l with
    | none => rfl
    | some x =>
      simp only [Option.bind_some, Option.map_some]
      cases g x.2 <;> rfl
theorem st_mapD {α β : Type} (h : α → β) (f : L → Option (α × L)) (o : Option L) : st (mapD h f) o = st f o := by
  cases o with
  | none => rfl
  | some l =>
    simp only [st, mapD, Option.bind_some]
    cases f l <;> rfl
theorem bind_sq {α β : Type} {f : L → Option (α × L)} {g : L → Option (β × L)} {o : Option L} {p : α × β} {l' : L} (h : o.bind (sq f g) = some (p, l')) :
    ∃ l1, o.bind f = some (p.1, l1) ∧ (st f o).bind g = some (p.2, l') := by
  cases o with
  | none => cases h
  | some l =>
    simp only [sq, st, Option.bind_some, Option.bind_eq_some_iff, Option.map_eq_some_iff] at h ⊢
    obtain ⟨x, h1, y, h2, h3⟩ := h
    cases h3
    exact ⟨x.2, h1, x.2, ⟨x, h1, rfl⟩, h2⟩
theorem bind_mapD {α β : Type} {h : α → β} {f : L → Option (α × L)} {o : Option L} {b : β} {l' : L} (e : o.bind (mapD h f) = some (b, l')) : ∃ a, o.bind f = some (a, l') ∧ b = h a := by
  cases o with
  | none => cases e
  | some l =>
    simp only [mapD, Option.bind_some, Option.map_eq_some_iff] at e ⊢
    obtain ⟨x, h1, h3⟩ := e
    cases h3
    exact ⟨x.1, h1, rfl⟩
theorem decT22 (d : Nat) : decT 2 2 (d + 1) = mapD (fun p => T.mk [p.1, p.2.1] [p.2.2.1, p.2.2.2.1] p.2.2.2.2) (sq decNum (sq decNum (sq decList (sq decList (decCode d))))) := by
  funext l
  simp only [decT, decMany, mapD, sq, decCode]
  cases decNum l with
  | none => rfl
  | some a =>
    simp only [Option.bind_some, Option.map_some]
    cases decNum a.2 with
    | none => rfl
    | some b =>
      simp only [Option.bind_some, Option.map_some]
      cases decList b.2 with
      | none => rfl
      | some x =>
        simp only [Option.bind_some, Option.map_some]
        cases decList x.2 with
        | none => rfl
        | some y =>
          simp only [Option.bind_some, Option.map_some]
          cases decAll (decT 2 2 d) y.2 <;> rfl

theorem decVecFun_eq : decVecFun = mapD (fun p => (⟨p.1, p.2.1, p.2.2.1, p.2.2.2⟩ : VecFunT)) (sq decNum (sq (decCode 60) (sq decList decList))) := by
  funext l
  simp only [decVecFun, mapD, sq]
  cases decNum l with
  | none => rfl
  | some a =>
    simp only [Option.bind_some, Option.map_some]
    cases decCode 60 a.2 with
    | none => rfl
    | some b =>
      simp only [Option.bind_some, Option.map_some]
      cases decList b.2 with
      | none => rfl
      | some x =>
        simp only [Option.bind_some, Option.map_some]
        cases decList x.2 <;> rfl
theorem decVec_eq : decVec = mapD (fun p => (⟨p.1, p.2⟩ : VecT)) (sq (decAll decVecFun) decNum) := by
  funext l
  simp only [decVec, mapD, sq]
  cases decAll decVecFun l with
  | none => rfl
  | some a =>
    simp only [Option.bind_some, Option.map_some]
    cases decNum a.2 <;> rfl
theorem decProg_eq : decProg = mapD (fun p => (⟨p.1, p.2⟩ : ProgT)) (sq (decAll decFun) decNum) := by
  funext l
  simp only [decProg, mapD, sq]
  cases decAll decFun l with
  | none => rfl
  | some a =>
    simp only [Option.bind_some, Option.map_some]
    cases decNum a.2 <;> rfl
theorem decLog_eq : decLog = mapD (fun p => (⟨p.1, p.2.1, p.2.2⟩ : LogT)) (sq decNum (sq decList decList)) := by
  funext l
  simp only [decLog, mapD, sq]
  cases decNum l with
  | none => rfl
  | some a =>
    simp only [Option.bind_some, Option.map_some]
    cases decList a.2 with
    | none => rfl
    | some x =>
      simp only [Option.bind_some, Option.map_some]
      cases decList x.2 <;> rfl

theorem decFun_eq : decFun = mapD (fun p => (⟨p.1, p.2.1, p.2.2⟩ : FunT)) (sq decText (sq decNum (decT 3 0 60))) := by
  funext l
  simp only [decFun, mapD, sq]
  cases decText l with
  | none => rfl
  | some a =>
    simp only [Option.bind_some, Option.map_some]
    cases decNum a.2 with
    | none => rfl
    | some b =>
      simp only [Option.bind_some, Option.map_some]
      cases decT 3 0 60 b.2 <;> rfl

end Go.Proofs.FileA
/- The program's reader: bytes, numbers. -/
set_option linter.unusedVariables false
set_option linter.unusedSimpArgs false
namespace Go.Proofs.FileA
open Go Go.Am
variable {gl : Nat → List V}

theorem headSz_bytesV (l : List UInt8) : headSz 1 (bytesV l) = true := by cases l <;> simp [headSz, bytesV]
theorem slc_to {l : List UInt8} {v : V} (hv : SlV (bytesV l) v) {n : Nat} (hn : n ≤ l.length) (k : IntKind) : ∃ v', slcV v none (some (.int k n)) none false 1 = some v' ∧ SlV (bytesV (l.take n)) v' := by
  cases hv with
  | nil h =>
    have : l = [] := by simpa [bytesV] using h
    subst this
    have : n = 0 := by simpa using hn
    subst this
    exact ⟨.nils, by simp [slcV, bnds, optInt], .nil (by simp [bytesV])⟩
  | sv ex =>
    have h1 : (n : Int) ≤ l.length := by omega
    simp [slcV, bnds, optInt, headSz_bytesV, h1]
    rw [show bytesV l = l.map (fun b => [V.int .u8 b.toNat]) from rfl, ← List.map_take]
    exact .sv _
theorem slc_from {l : List UInt8} {v : V} (hv : SlV (bytesV l) v) {n : Nat} (hn : n ≤ l.length) (k : IntKind) : ∃ v', slcV v (some (.int k n)) none none false 1 = some v' ∧ SlV (bytesV (l.drop n)) v' := by
  cases hv with
  | nil h =>
    have : l = [] := by simpa [bytesV] using h
    subst this
    have : n = 0 := by simpa using hn
    subst this
    exact ⟨.nils, by simp [slcV, bnds, optInt], .nil (by simp [bytesV])⟩
  | sv ex =>
    have h1 : (n : Int) ≤ l.length := by omega
    simp [slcV, bnds, optInt, headSz_bytesV, h1]
    rw [show bytesV l = l.map (fun b => [V.int .u8 b.toNat]) from rfl, List.take_of_length_le (by simp), ← List.map_drop]
    exact .sv _
theorem slc_mid {l : List UInt8} {v : V} (hv : SlV (bytesV l) v) {m n : Nat} (hm : m ≤ n) (hn : n ≤ l.length) (k k' : IntKind) : ∃ v', slcV v (some (.int k m)) (some (.int k' n)) none false 1 = some v' ∧ SlV (bytesV ((l.take n).drop m)) v' := by
  cases hv with
  | nil h =>
    have : l = [] := by simpa [bytesV] using h
    subst this
    have : n = 0 := by simpa using hn
    subst this
    have : m = 0 := by omega
    subst this
    exact ⟨.nils, by simp [slcV, bnds, optInt], .nil (by simp [bytesV])⟩
  | sv ex =>
    have h1 : (n : Int) ≤ l.length := by omega
    have h2 : (m : Int) ≤ n := by omega
    simp [slcV, bnds, optInt, headSz_bytesV, h1, h2, hm]
    rw [show bytesV l = l.map (fun b => [V.int .u8 b.toNat]) from rfl, ← List.map_take, ← List.map_drop]
    exact .sv _

/-- what is left of a file, and where it lies -/
structure Rst (p : Nat) (l : L) (h : Heap) : Prop where
  ex : ∃ v, h[p]? = some (.cells 1 1 [v]) ∧ SlV (bytesV l) v
  len : l.length ≤ 200000
/-- all objects but one are as they were -/
structure Keep (p : Nat) (h h' : Heap) : Prop where
  len : h.length ≤ h'.length
  get : ∀ b : Nat, b < h.length → b ≠ p → h'[b]? = h[b]?
theorem Keep.refl (p : Nat) (h : Heap) : Keep p h h := ⟨Nat.le_refl _, fun _ _ _ => rfl⟩
theorem Keep.trans {p : Nat} {h h1 h2 : Heap} (a : Keep p h h1) (b : Keep p h1 h2) : Keep p h h2 := ⟨Nat.le_trans a.len b.len, fun i x y => (b.get i (Nat.lt_of_lt_of_le x a.len) y).trans (a.get i x y)⟩
theorem Rst.lt {p : Nat} {l : L} {h : Heap} (hr : Rst p l h) : p < h.length := by
  obtain ⟨v, hv, _⟩ := hr.ex
  exact (List.getElem?_eq_some_iff.1 hv).1

def errForm : V := .iface 145 (.agg [])

theorem some_ok {p : Nat} {l : L} {h : Heap} (hr : Rst p l h) (n : Int) : CallP gl Tryd.aprog 93 [.ref p 0 1, .int .i64 n] h (fun r h' => Keep p h h' ∧
    ((n < 0 ∨ (l.length : Int) < n) → r = .pan errForm) ∧ (0 ≤ n → n ≤ l.length → ∃ v, r = .ret v ∧ SlV (bytesV (l.take n.toNat)) v ∧ Rst p (l.drop n.toNat) h')) := by
  have hlt := hr.lt
  obtain ⟨⟨v, hp, hv⟩, hlen⟩ := hr
  have hlv := hv.len
  rw [bytesV_length] at hlv
  refine call_ofQ (af := Tryd.a93) rfl rfl fun Q hQ => ?_
  simp only [Tryd.a93]
  by_cases h0 : n < 0
  · simp [h0, slotOf, fill]
    exact hQ _ _ ⟨Keep.refl _ _, fun _ => rfl, fun h => by omega⟩
  · by_cases hle : (l.length : Int) < n
    · simp [h0, slotOf, fill, objCells, hp, hlv, hle]
      exact hQ _ _ ⟨Keep.refl _ _, fun _ => rfl, fun _ h => by omega⟩
    · obtain ⟨m, rfl⟩ := Int.eq_ofNat_of_zero_le (show 0 ≤ n by omega)
      have hm : m ≤ l.length := by omega
      have hle' : ¬ (l.length < m) := by omega
      obtain ⟨v1, e1, s1⟩ := slc_to hv hm .i64
      obtain ⟨v2, e2, s2⟩ := slc_from hv hm .i64
      simp [h0, slotOf, fill, objCells, hp, hlv, hle', e1, e2, storeV, s2.cell, s2.cells]
      refine hQ _ _ ?_
      exact ⟨⟨by simp, fun b hb hbp => by rw [List.getElem?_set_ne (Ne.symm hbp)]⟩, fun h => by omega, fun _ _ => ⟨v1, rfl, by simpa using s1, ⟨v2, by rw [List.getElem?_set_self hlt], by simpa using s2⟩, by simp; omega⟩⟩

/-- a function that reads -/
def Rd {α : Type} (f : Nat) (args : List V) (dec : L → Option (α × L)) (R : α → V → Prop) : Prop := ∀ (gl : Nat → List V) (p : Nat) (h : Heap) (l : L), Rst p l h →
  CallP gl Tryd.aprog f (.agg [.ref p 0 1] :: args) h (fun r h' => Keep p h h' ∧ (∀ a l', dec l = some (a, l') → ∃ x, r = .ret x ∧ R a x ∧ Rst p l' h') ∧ (dec l = none → r = .pan errForm))

theorem beVal_snoc (l : L) (b : UInt8) : beVal (l ++ [b]) = beVal l * 256 + b.toNat := by simp [beVal]
theorem beAux (l : L) : ∀ a m : Nat, a < m → l.foldl (fun n b => n * 256 + b.toNat) a < m * 256 ^ l.length := by
  induction l with
  | nil => intro a m h; simpa using h
  | cons b l ih =>
    intro a m h
    have hb := b.toNat_lt
    have := ih (a * 256 + b.toNat) (m * 256) (by omega)
    rw [List.length_cons, Nat.pow_succ]
    simp only [List.foldl_cons]
    rw [Nat.mul_comm (256 ^ l.length), ← Nat.mul_assoc]
    exact this
theorem beVal_lt (l : L) : beVal l < 256 ^ l.length := by
  have := beAux l 0 1 (by omega)
  rw [Nat.one_mul] at this
  exact this
theorem or_u64 (n b : Nat) (h : n < 2 ^ 56) (hb : b < 256) : intBin .or .u64 (IntKind.u64.wrap ((n : Int) * 256)) (IntKind.u64.wrap (b : Int)) = some (.int .u64 ((n * 256 + b : Nat) : Int)) := by
  have h1 : IntKind.u64.wrap ((n : Int) * 256) = ((n * 256 : Nat) : Int) := by simp [IntKind.wrap, IntKind.bits, IntKind.signed]; omega
  have h2 : IntKind.u64.wrap (b : Int) = (b : Int) := by simp [IntKind.wrap, IntKind.bits, IntKind.signed]; omega
  rw [h1, h2]
  simp only [intBin, Option.some.injEq, V.int.injEq, true_and]
  have h3 : (BitVec.ofInt IntKind.u64.bits ((n * 256 : Nat) : Int) ||| BitVec.ofInt IntKind.u64.bits (b : Int)).toNat = n * 256 + b := by
    refine (or64 _ _).trans ?_
    have a1 : (((n * 256 : Nat) : Int) % 18446744073709551616).toNat = n <<< 8 := by rw [Nat.shiftLeft_eq]; omega
    have a2 : (((b : Nat) : Int) % 18446744073709551616).toNat = b := by omega
    rw [a1, a2, ← Nat.shiftLeft_add_eq_or_of_lt (show b < 2 ^ 8 by omega) n, Nat.shiftLeft_eq]
  rw [h3]
  simp [IntKind.wrap, IntKind.bits, IntKind.signed]
  omega

theorem idx_bytes {l : List UInt8} {v : V} (hv : SlV (bytesV l) v) {i : Nat} (hi : i < l.length) : idxV v i 1 = some (.pv [.int .u8 l[i].toNat]) := by
  rw [hv.idx]
  simp [bytesV, hi]

theorem number_ok : Rd 77 [] decNum (fun n x => x = .int .i64 n) := by
  intro gl p h l hr
  cases l with
  | nil =>
    obtain ⟨r, h1, e1, k1, f1, _⟩ := OptP.ex (some_ok (gl := gl) hr 1)
    have := f1 (by simp)
    subst this
    refine call_ofQ (af := Tryd.a77) rfl rfl fun Q hQ => ?_
    simp only [Tryd.a77]
    simp [e1, errForm]
    exact hQ _ _ ⟨k1, fun a l' h => by simp [decNum] at h, fun _ => rfl⟩
  | cons b r =>
    obtain ⟨r1, h1, e1, k1, _, g1⟩ := OptP.ex (some_ok (gl := gl) hr 1)
    obtain ⟨v1, rfl, s1, hr1⟩ := g1 (by omega) (by simp; omega)
    simp only [Int.toNat_one, List.take_succ_cons, List.take_zero, List.drop_succ_cons, List.drop_zero] at s1 hr1
    have hi1 := idx_bytes s1 (i := 0) (by simp)
    simp only [List.getElem_cons_zero, Int.natCast_zero] at hi1
    have hb := b.toNat_lt
    have hw1 : IntKind.i64.wrap (b.toNat : Int) = (b.toNat : Int) := by rw [wrap64 (by omega) (by omega)]
    refine call_ofQ (af := Tryd.a77) rfl rfl fun Q hQ => ?_
    simp only [Tryd.a77]
    simp only [decNum] at hQ
    generalize hfb : b.toNat = first at *
    by_cases h240 : first < 240
    · have h240' : (first : Int) < 240 := by omega
      rw [if_pos h240] at hQ
      simp [e1, hi1, hw1, h240']
      exact hQ _ _ ⟨k1, fun a l' h => by simp at h; obtain ⟨rfl, rfl⟩ := h; exact ⟨_, rfl, rfl, hr1⟩, fun h => by cases h⟩
    · have h240' : ¬ (first : Int) < 240 := by omega
      rw [if_neg h240] at hQ
      have hk : ∃ k, decK first = k ∧ 1 ≤ k ∧ k ≤ 8 := by unfold decK; split <;> exact ⟨_, rfl, by omega, by omega⟩
      obtain ⟨k, hk, hk1, hk8⟩ := hk
      rw [hk] at hQ
      have hw2 : IntKind.i64.wrap ((first : Int) - 239) = ((first - 239 : Nat) : Int) := by rw [wrap64 (by omega) (by omega)]; omega
      have hkc : (247 < first → IntKind.i64.wrap ((first : Int) - 247) = (k : Int)) ∧ (¬ 247 < first → ((first - 239 : Nat) : Int) = (k : Int)) := by
        unfold decK at hk
        refine ⟨fun h => ?_, fun h => ?_⟩
        · rw [if_pos h] at hk; rw [wrap64 (by omega) (by omega)]; omega
        · rw [if_neg h] at hk; omega
      obtain ⟨r2, h2, e2, k2, f2, g2⟩ := OptP.ex (some_ok (gl := gl) hr1 (k : Int))
      by_cases hlen : r.length < k
      · have := f2 (by omega)
        subst this
        rw [if_pos hlen] at hQ
        by_cases h247 : 247 < first
        · have h247' : (247 : Int) < first := by omega
          have hk' := hkc.1 h247
          simp [e1, hi1, hw1, h240', hw2, h247', hk', e2, errForm]
          exact hQ _ _ ⟨k1.trans k2, fun a l' h => (by cases h), fun _ => rfl⟩
        · have h247' : ¬ (247 : Int) < first := by omega
          have hk' := hkc.2 h247
          rw [hk'] at hw2
          simp [e1, hi1, hw1, h240', hw2, h247', e2, errForm]
          exact hQ _ _ ⟨k1.trans k2, fun a l' h => (by cases h), fun _ => rfl⟩
      · obtain ⟨v2, rfl, s2, hr2⟩ := g2 (by omega) (by omega)
        rw [if_neg hlen] at hQ
        simp only [Int.toNat_natCast] at s2 hr2
        have hbl : (r.take k).length = k := by simp; omega
        have hlv := s2.len
        rw [bytesV_length, hbl] at hlv
        have hbv := beVal_lt (r.take k)
        rw [hbl] at hbv
        have hb64 : beVal (r.take k) < 256 ^ 8 := Nat.lt_of_lt_of_le hbv (Nat.pow_le_pow_right (by omega) hk8)
        generalize hbs : r.take k = bs at *
        have hi0 := idx_bytes s2 (i := 0) (by omega)
        have hlst : decLeast first bs = if 1 < k then decide (0 < (bs[0]'(by omega)).toNat) else decide (247 < first ∨ 239 < beVal bs) := by
          unfold decLeast
          rw [hk]
          clear hi0
          cases bs with
          | nil => simp at hbl; omega
          | cons c bs => rfl
        have hsh : ((beVal bs : Int).fdiv 9223372036854775808 = 1) ↔ ¬ (beVal bs < 2 ^ 63) := by
          rw [Int.fdiv_eq_ediv_of_nonneg _ (by omega)]
          omega
        have hfin : ∀ (x : Int) (h' : Heap), Rst p (r.drop k) h' → Keep p h h' → decLeast first bs = true → beVal bs < 2 ^ 63 → (x = if 247 < first then -1 - (beVal bs : Int) else (beVal bs : Int)) → Q (.ret (.int .i64 x)) h' := by
          intro x h' a1 a2 a3 a4 a5
          refine hQ _ _ ?_
          refine ⟨a2, fun a l' h => ?_, fun h => ?_⟩
          · rw [if_pos ⟨a3, a4⟩] at h
            simp at h
            obtain ⟨rfl, rfl⟩ := h
            exact ⟨_, rfl, by rw [a5], a1⟩
          · rw [if_pos ⟨a3, a4⟩] at h; cases h
        have hbad : ∀ h' : Heap, Keep p h h' → ¬ (decLeast first bs = true ∧ beVal bs < 2 ^ 63) → Q (.pan errForm) h' := by
          intro h' a2 a3
          refine hQ _ _ ?_
          refine ⟨a2, fun a l' h => ?_, fun _ => rfl⟩
          rw [if_neg a3] at h; cases h
        clear hQ
        by_cases h247 : 247 < first
        case' pos =>
          have h247' : (247 : Int) < first := by omega
          have hk' := hkc.1 h247
          simp [e1, hi1, hw1, h240', hw2, h247', hk', e2, hlv]
        case' neg =>
          have h247' : ¬ (247 : Int) < first := by omega
          have hk' := hkc.2 h247
          rw [hk'] at hw2
          simp [e1, hi1, hw1, h240', hw2, h247', e2, hlv]
        all_goals
          refine loop_nQ k (fun i c => ∃ a7, c = ⟨[.agg [.ref p 0 1], .agg [.ref p 0 1], .int .i64 0, .int .i64 first, .int .i64 k, .int .u64 (beVal (bs.take i) : Nat), v2, a7, .undef, v2, .int .i64 k, .int .i64 i], [], none, none, h2⟩) ?_ ⟨_, rfl⟩
          rintro I hI i c hi ⟨a7, rfl⟩
          by_cases hlt : i < k
          · have hlt' : (i : Int) < k := by omega
            have hix := idx_bytes s2 (i := i) (by omega)
            have hw3 : IntKind.i64.wrap ((i : Int) + 1) = ((i + 1 : Nat) : Int) := by rw [wrap64 (by omega) (by omega)]; rfl
            have hti : bs.take (i + 1) = bs.take i ++ [bs[i]'(by omega)] := (List.take_append_getElem (by omega)).symm
            have hbi := beVal_lt (bs.take i)
            have hbi2 : beVal (bs.take i) < 256 ^ 7 := Nat.lt_of_lt_of_le hbi (Nat.pow_le_pow_right (by omega) (by simp; omega))
            have hor := or_u64 (beVal (bs.take i)) (bs[i]'(by omega)).toNat (by omega) (UInt8.toNat_lt _)
            have hq := beVal_snoc (bs.take i) (bs[i]'(by omega))
            rw [← hti] at hq
            rw [← hq] at hor
            generalize (bs[i]'(by omega)).toNat = cc at *
            generalize beVal (bs.take i) = q at *
            simp [hlt', hix, hor, IntKind.bits, intBin_lss, -intBin]
            simp [hlt', hw3]
            exact ⟨hlt, hI _ _ ⟨_, rfl⟩⟩
          · obtain rfl : i = k := by omega
            rw [List.take_of_length_le (by omega)]
            simp only [Int.natCast_zero] at hi0
            have hk2 := k1.trans k2
            have hw5 : beVal bs < 2 ^ 63 → IntKind.i64.wrap (beVal bs : Int) = (beVal bs : Int) := fun h => wrap64 (by omega) (by omega)
            have hw6 : beVal bs < 2 ^ 63 → IntKind.i64.wrap (-1 - (beVal bs : Int)) = -1 - (beVal bs : Int) := fun h => wrap64 (by omega) (by omega)
            generalize (bs[0]'(by omega)).toNat = c0 at *
            by_cases h1k : 1 < i
            · have h1k' : (1 : Int) < i := by omega
              rw [if_pos h1k] at hlst
              by_cases hz : 0 < c0
              · by_cases h63 : beVal bs < 2 ^ 63
                · have hs1 : ¬ (beVal bs : Int).fdiv 9223372036854775808 = 1 := fun h => hsh.1 h h63
                  have hw5 := hw5 h63
                  have hw6 := hw6 h63
                  have hfin := fun x hx => hfin x h2 hr2 hk2 (by rw [hlst]; simpa using hz) h63 hx
                  simp [h247', slotOf, h1k', h1k, hi0, hz, hs1, IntKind.bits, hw5, hw6]
                  refine hfin _ ?_
                  simp [h247]
                · have hs1 : (beVal bs : Int).fdiv 9223372036854775808 = 1 := hsh.2 h63
                  simp [h247', slotOf, h1k', h1k, hi0, hz, hs1, IntKind.bits, fill]
                  exact hbad _ hk2 (fun h => h63 h.2)
              · simp [h247', slotOf, h1k', h1k, hi0, hz, IntKind.bits, fill]
                exact hbad _ hk2 (fun h => by rw [hlst] at h; simp [hz] at h)
            · have h1k' : ¬ (1 : Int) < i := by omega
              rw [if_neg h1k] at hlst
              by_cases hz : 247 < first ∨ 239 < beVal bs
              · have hz' : ¬ 247 < first → (239 : Int) < beVal bs := fun h => by have := hz.resolve_left h; omega
                by_cases h63 : beVal bs < 2 ^ 63
                · have hs1 : ¬ (beVal bs : Int).fdiv 9223372036854775808 = 1 := fun h => hsh.1 h h63
                  have hw5 := hw5 h63
                  have hw6 := hw6 h63
                  have hfin := fun x hx => hfin x h2 hr2 hk2 (by rw [hlst]; simpa using hz) h63 hx
                  simp [h247', slotOf, h1k', h1k, hz', h247, hs1, IntKind.bits, hw5, hw6]
                  refine hfin _ ?_
                  simp [h247]
                · have hs1 : (beVal bs : Int).fdiv 9223372036854775808 = 1 := hsh.2 h63
                  simp [h247', slotOf, h1k', h1k, hz', h247, hs1, IntKind.bits, fill]
                  exact hbad _ hk2 (fun h => h63 h.2)
              · have hz1 : ¬ 239 < beVal bs := fun h => hz (Or.inr h)
                have hz1' : ¬ (239 : Int) < beVal bs := by omega
                have hz2 : ¬ 247 < first := fun h => hz (Or.inl h)
                first
                  | exact absurd h247 hz2
                  | (simp [h247', slotOf, h1k', h1k, hz1', h247, IntKind.bits, fill]
                     exact hbad _ hk2 (fun h => by rw [hlst] at h; simp [hz1, hz2] at h))
end Go.Proofs.FileA
/- The program's reader: lists. -/
set_option linter.unusedVariables false
set_option linter.unusedSimpArgs false
namespace Go.Proofs.FileA
open Go Go.Am
variable {gl : Nat → List V}

/-- an object of elements of one's own -/
def cellsE (sz : Nat) (es : List (List V)) : Am.Obj := .cells es.length sz es.flatten
def OwnE (o sz : Nat) (es : List (List V)) (h : Heap) : Prop := h[o]? = some (cellsE sz es)
def slE (o sz : Nat) (es : List (List V)) : V := .sl o 0 es.length es.length sz false
@[simp] theorem isCell_slE (o sz : Nat) (es : List (List V)) : isCell (slE o sz es) = true := rfl
@[simp] theorem lenV_slE (o sz : Nat) (es : List (List V)) : lenV (slE o sz es) = some (.int .i64 es.length) := rfl
@[simp] theorem cellsV_slE (o sz : Nat) (es : List (List V)) : cellsV (slE o sz es) = [slE o sz es] := rfl
theorem flatten_len {sz : Nat} {es : List (List V)} (h : ∀ e ∈ es, e.length = sz) : es.flatten.length = es.length * sz := by
  induction es with
  | nil => simp
  | cons e es ih =>
    simp only [List.flatten_cons, List.length_append, List.length_cons, h e (by simp), ih (fun e' he => h e' (by simp [he]))]
    rw [Nat.add_mul]; omega
theorem chunks_flatten {sz : Nat} {es : List (List V)} (h : ∀ e ∈ es, e.length = sz) : chunks sz es.length es.flatten = es := by
  induction es with
  | nil => rfl
  | cons e es ih =>
    have he := h e (by simp)
    simp only [List.length_cons, chunks, List.flatten_cons]
    rw [List.take_left' he, List.drop_left' he, ih (fun e' he' => h e' (by simp [he']))]
theorem pureL_flatten {es : List (List V)} (h : ∀ e ∈ es, pureL e = true) : pureL es.flatten = true := by
  induction es with
  | nil => rfl
  | cons e es ih => simp only [List.flatten_cons, pureL_append, h e (by simp), ih (fun e' he => h e' (by simp [he])), Bool.and_self]
theorem ownE_app {h : Heap} {o sz bytes : Nat} {es : List (List V)} {e : List V} {ex : Bool} (ho : OwnE o sz es h) (he : e.length = sz) (hb : (es.length + 1) * bytes ≤ room) :
    appV h (slE o sz es) (.sv [e] ex) sz bytes = some (slE o sz (es ++ [e]), h.set o (cellsE sz (es ++ [e]))) := by
  have := appV_own (y := .sv [e] ex) (ys := e) (k := 1) (bytes := bytes) ho rfl (by simp [sliceCells]) (by simp [he]) hb
  simpa [slE, cellsE] using this
theorem ownE_set {h : Heap} {o sz : Nat} {es : List (List V)} (es' : List (List V)) (ho : OwnE o sz es h) : OwnE o sz es' (h.set o (cellsE sz es')) := by
  unfold OwnE
  rw [List.getElem?_set_self (List.getElem?_eq_some_iff.1 ho).1]
theorem ownE_frz {h : Heap} {o sz : Nat} {es : List (List V)} (ho : OwnE o sz es h) (h1 : ∀ e ∈ es, e.length = sz) (h2 : ∀ e ∈ es, pureL e = true) : frzV h (slE o sz es) = some (.sv es false, h.set o .gone) := by
  unfold frzV slE
  have hv : viewV 0 h (.sl o 0 es.length es.length sz false) = some (.sv es false) := by
    simp only [viewV, objCells]
    unfold OwnE cellsE at ho
    rw [ho]
    simp [pureL_flatten h2, chunks_flatten h1]
  simp only [hv]
theorem ownE_new (h : Heap) (sz : Nat) : OwnE h.length sz [] (h ++ [.cells 0 sz []]) := by
  unfold OwnE cellsE
  rw [List.getElem?_append_right (Nat.le_refl _)]
  simp

/-- what a read comes to -/
theorem rd_case {α : Type} {f : Nat} {args : List V} {dec : L → Option (α × L)} {R : α → V → Prop} (hf : Rd f args dec R) (gl : Nat → List V) {p : Nat} {h : Heap} {l : L} (hr : Rst p l h) :
    (∃ h1, (lim gl Tryd.aprog).call f (.agg [.ref p 0 1] :: args) h = some (.pan errForm, h1) ∧ Keep p h h1 ∧ dec l = none) ∨
    (∃ a l' x h1, (lim gl Tryd.aprog).call f (.agg [.ref p 0 1] :: args) h = some (.ret x, h1) ∧ Keep p h h1 ∧ dec l = some (a, l') ∧ R a x ∧ Rst p l' h1) := by
  obtain ⟨r, h1, e, k, hs, hn⟩ := OptP.ex (hf gl p h l hr)
  cases hd : dec l with
  | none =>
    have := hn hd
    subst this
    exact .inl ⟨h1, e, k, rfl⟩
  | some x =>
    obtain ⟨a, l'⟩ := x
    obtain ⟨x, rfl, hR, hr'⟩ := hs a l' hd
    exact .inr ⟨a, l', x, h1, e, k, rfl, hR, hr'⟩

/-- the end of a read -/
theorem end_none {α : Type} {o : Option (α × L)} {Rr : α → V → Prop} {p : Nat} {h h' : Heap} (k : Keep p h h') (hd : o = none) :
    Keep p h h' ∧ (∀ a l', o = some (a, l') → ∃ x, R.pan errForm = R.ret x ∧ Rr a x ∧ Rst p l' h') ∧ (o = none → R.pan errForm = R.pan errForm) := by
  subst hd
  exact ⟨k, fun a l' h => (nomatch h), fun _ => rfl⟩
theorem end_some {α : Type} {o : Option (α × L)} {Rr : α → V → Prop} {p : Nat} {h h' : Heap} {a : α} {l' : L} {x : V} (k : Keep p h h') (hd : o = some (a, l')) (hR : Rr a x) (hr : Rst p l' h') :
    Keep p h h' ∧ (∀ a l', o = some (a, l') → ∃ y, R.ret x = R.ret y ∧ Rr a y ∧ Rst p l' h') ∧ (o = none → R.ret x = R.pan errForm) := by
  subst hd
  refine ⟨k, ?_, ?_⟩
  · intro a' l'' h
    cases h
    exact ⟨x, rfl, hR, hr⟩
  · intro h
    cases h

/-- cells of an element: so many, and pure -/
structure Cells (sz : Nat) (e : List V) : Prop where
  len : e.length = sz
  cell : e.all isCell = true
  pure : pureL e = true

theorem decMany_snoc {α : Type} {f : L → Option (α × L)} : ∀ (k : Nat) (l : L), decMany f (k + 1) l = (decMany f k l).bind fun x => (f x.2).map fun y => (x.1 ++ [y.1], y.2)
  | 0, l => by simp [decMany]; cases f l <;> simp
  | k + 1, l => by
    rw [decMany]
    cases hf : f l with
    | none => simp [decMany, hf]
    | some x =>
      have ih := decMany_snoc (f := f) k x.2
      simp only [Option.bind_some]
      rw [ih]
      simp only [decMany, hf, Option.bind_some]
      cases decMany f k x.2 with
      | none => simp
      | some y => simp only [Option.bind_some, Option.map_some]; cases f y.2 <;> simp
theorem decMany_none {α : Type} {f : L → Option (α × L)} {k : Nat} {l : L} (h : decMany f k l = none) : ∀ m, k ≤ m → decMany f m l = none := by
  intro m hm
  induction hm with
  | refl => exact h
  | step _ ih => rw [decMany_snoc, ih]; rfl

theorem All2.snoc {α : Type} {R : α → List V → Prop} : ∀ {as : List α} {es : List (List V)} {a : α} {e : List V}, All2 R as es → R a e → All2 R (as ++ [a]) (es ++ [e])
  | [], [], _, _, _, h => ⟨h, trivial⟩
  | _ :: _, _ :: _, _, _, h, h' => ⟨h.1, All2.snoc h.2 h'⟩

theorem deep_zero : pcall (lim gl Tryd.aprog) (.func (.func 76) [] []) [.int .i64 0] = some (.pan errForm) := by
  have : CallP gl Tryd.aprog 76 [.int .i64 0] [] (fun r h' => r = .pan errForm) := by
    refine call_ofQ (af := Tryd.a76) rfl rfl fun Q hQ => ?_
    simp only [Tryd.a76]
    simp [fill]
    exact hQ _ _ rfl
  obtain ⟨r, h', e, rfl⟩ := OptP.ex this
  simp [pcall, callee, e, pureL, pureV, errForm]
theorem deep_pos (d : Nat) (h0 : 0 < d) : pcall (lim gl Tryd.aprog) (.func (.func 76) [] []) [.int .i64 d] = some (.val (.tup [])) := by
  have : CallP gl Tryd.aprog 76 [.int .i64 d] [] (fun r h' => r = .ret (.tup [])) := by
    refine call_ofQ (af := Tryd.a76) rfl rfl fun Q hQ => ?_
    simp only [Tryd.a76]
    have hne : ¬ d = 0 := by omega
    simp [hne]
    exact hQ _ _ rfl
  obtain ⟨r, h', e, rfl⟩ := OptP.ex this
  exact pcall_of e (by simp [pureL, pureV]) (by simp [viewV, viewL])

theorem one_ok (left : Int) : Rd 90 [.int .i64 left] decNum (fun n x => x = .int .i64 n) := by
  intro gl p h l hr
  rcases rd_case number_ok gl hr with ⟨h1, e, k, hd⟩ | ⟨a, l', x, h1, e, k, hd, rfl, hr'⟩
  · refine call_ofQ (af := Tryd.a90) rfl rfl fun Q hQ => ?_
    simp only [Tryd.a90]
    simp [e, errForm]
    exact hQ _ _ (end_none k hd)
  · refine call_ofQ (af := Tryd.a90) rfl rfl fun Q hQ => ?_
    simp only [Tryd.a90]
    simp [e]
    exact hQ _ _ (end_some k hd rfl hr')

theorem text_ok : Rd 96 [] decText (fun s x => x = .str ⟨s.toArray⟩) := by
  intro gl p h l hr
  rcases rd_case number_ok gl hr with ⟨h1, e, k, hd⟩ | ⟨n, l', x, h1, e, k, hd, rfl, hr'⟩
  · refine call_ofQ (af := Tryd.a96) rfl rfl fun Q hQ => ?_
    simp only [Tryd.a96]
    simp [e, errForm]
    refine hQ _ _ ?_
    exact ⟨k, fun a l' h => by simp [decText, decCount, hd] at h, fun _ => rfl⟩
  · obtain ⟨r, h2, e2, k2, f2, g2⟩ := OptP.ex (some_ok (gl := gl) hr' n)
    by_cases hn : n < 0 ∨ (l'.length : Int) < n
    · have := f2 hn
      subst this
      refine call_ofQ (af := Tryd.a96) rfl rfl fun Q hQ => ?_
      simp only [Tryd.a96]
      simp [e, e2, errForm]
      refine hQ _ _ ?_
      exact ⟨k.trans k2, fun a l'' h => by simp [decText, decCount, hd, hn] at h, fun _ => rfl⟩
    · obtain ⟨v, rfl, s2, hr2⟩ := g2 (by omega) (by omega)
      have hb := fun h f x hx => b2s_ok s2 h (lim gl Tryd.aprog) f x hx
      refine call_ofQ (af := Tryd.a96) rfl rfl fun Q hQ => ?_
      simp only [Tryd.a96]
      simp [e, e2, hb, -lopV]
      refine hQ _ _ ?_
      refine ⟨k.trans k2, fun a l'' h => ?_, fun h => by simp [decText, decCount, hd, hn] at h⟩
      simp [decText, decCount, hd, hn] at h
      obtain ⟨rfl, rfl⟩ := h
      exact ⟨_, rfl, rfl, hr2⟩

theorem all94 {α : Type} {dec : L → Option (α × L)} {R : α → List V → Prop} {one : Nat} {left : Int} (hone : Rd one [.int .i64 left] dec (fun a x => ∃ cs, x = .agg cs ∧ R a cs ∧ Cells 3 cs)) (gl : Nat → List V) {p : Nat} {h : Heap} {l : L} (hr : Rst p l h) :
    CallP gl Tryd.aprog 94 [.agg [.func (.func one) [] []], .agg [.ref p 0 1], .int .i64 left] h (fun r h' => Keep p h h' ∧ (∀ as l', (decCount l).bind (fun x => decMany dec x.1 x.2) = some (as, l') → ∃ es, r = .ret (.sv es false) ∧ All2 R as es ∧ (∀ e ∈ es, Cells 3 e) ∧ Rst p l' h') ∧
      ((decCount l).bind (fun x => decMany dec x.1 x.2) = none → r = .pan errForm)) := by
  rcases rd_case number_ok gl hr with ⟨h1, e, k, hd⟩ | ⟨n, l1, x, h1, e, k, hd, rfl, hr1⟩
  · refine call_ofQ (af := Tryd.a94) rfl rfl fun Q hQ => ?_
    simp only [Tryd.a94]
    simp [e, errForm]
    refine hQ _ _ ?_
    exact ⟨k, fun a l' h => by simp [decCount, hd] at h, fun _ => rfl⟩
  · obtain ⟨v1, hv1, sv1⟩ := hr1.ex
    have hlv := sv1.len
    rw [bytesV_length] at hlv
    by_cases hbad : n < 0 ∨ (l1.length : Int) < n
    · refine call_ofQ (af := Tryd.a94) rfl rfl fun Q hQ => ?_
      simp only [Tryd.a94]
      by_cases hn0 : n < 0
      · simp [e, hn0, slotOf, fill]
        refine hQ _ _ ?_
        exact ⟨k, fun a l' h => by simp [decCount, hd, hbad] at h, fun _ => rfl⟩
      · have hn1 : (l1.length : Int) < n := by omega
        simp [e, hn0, slotOf, fill, objCells, hv1, hlv, hn1]
        refine hQ _ _ ?_
        exact ⟨k, fun a l' h => by simp [decCount, hd, hn1] at h, fun _ => rfl⟩
    · obtain ⟨m, rfl⟩ := Int.eq_ofNat_of_zero_le (show 0 ≤ n by omega)
      have hml : m ≤ l1.length := by omega
      have hm2 := hr1.len
      have hdc : decCount l = some (m, l1) := by simp only [decCount, hd, Option.bind_some, if_neg hbad, Int.toNat_natCast]
      refine call_ofQ (af := Tryd.a94) rfl rfl fun Q hQ => ?_
      rw [hdc, Option.bind_some] at hQ
      simp only at hQ
      simp only [Tryd.a94]
      have hn0 : ¬ ((m : Int) < 0) := by omega
      have hn1 : ¬ (l1.length < m) := by omega
      simp [e, hn0, slotOf, fill, objCells, hv1, hlv, hn1]
      have hlt1 := hr1.lt
      refine loop_nQ m (fun i c => ∃ es as l2 h2, c = ⟨[.agg [.func (.func one) [] []], .agg [.ref p 0 1], .int .i64 left, .agg [.func (.func one) [] []], .agg [.ref p 0 1], .nils, .int .i64 m, slE h1.length 3 es, .int .i64 m, .int .i64 i], [], none, none, h2⟩ ∧
        OwnE h1.length 3 es h2 ∧ Rst p l2 h2 ∧ Keep p (h1 ++ [.cells 0 3 []]) (h2.set h1.length (.cells 0 3 [])) ∧ decMany dec i l1 = some (as, l2) ∧ All2 R as es ∧ (∀ e ∈ es, Cells 3 e) ∧ es.length = i) ?_
        ⟨[], [], l1, _, rfl, ownE_new _ _, ⟨⟨v1, by rw [List.getElem?_append_left hlt1]; exact hv1, sv1⟩, hm2⟩, by rw [set_last]; exact Keep.refl _ _, rfl, trivial, by simp, rfl⟩
      rintro I hI i c hi ⟨es, as, l2, h2, rfl, ho, hr2, kp, hdm, hall, hce, hel⟩
      have hol : h1.length < h2.length := (List.getElem?_eq_some_iff.1 ho).1
      have hkk : Keep p h h2 := k.trans ⟨by omega, fun b hb hbp => by
        have := kp.get b (by simp; omega) hbp
        rw [List.getElem?_set_ne (by omega), List.getElem?_append_left hb] at this
        exact this⟩
      by_cases hlt : i < m
      · have hlt' : (i : Int) < m := by omega
        have hw3 : IntKind.i64.wrap ((i : Int) + 1) = ((i + 1 : Nat) : Int) := by rw [wrap64 (by omega) (by omega)]; rfl
        have hsn := decMany_snoc (f := dec) i l1
        rw [hdm, Option.bind_some] at hsn
        rcases rd_case hone gl hr2 with ⟨h3, e3, k3, hd3⟩ | ⟨a, l3, x, h3, e3, k3, hd3, ⟨cs, rfl, hR, hcs⟩, hr3⟩
        · rw [hd3] at hsn
          have hnone := decMany_none hsn m (by omega)
          simp [hlt', e3, errForm]
          refine hQ _ _ ?_
          refine ⟨hkk.trans k3, fun a l' h => ?_, fun _ => rfl⟩
          rw [hnone] at h; cases h
        · rw [hd3, Option.map_some] at hsn
          have hnp : h1.length ≠ p := by omega
          have ho3 : OwnE h1.length 3 es h3 := by unfold OwnE; rw [k3.get _ hol hnp]; exact ho
          have hdr : (cs ++ List.drop cs.length [.int .i64 0, .int .i64 0, .nils] : List V) = cs := by rw [hcs.len]; simp
          have htk : cs.take 3 = cs := List.take_of_length_le (by rw [hcs.len]; omega)
          have happ := ownE_app (bytes := 40) (e := cs) (ex := true) ho3 hcs.len (by unfold room; omega)
          simp [hlt', e3, fill, chunks, hcs.len, hcs.cell, hcs.pure, hdr, happ, hw3, htk, -List.all_eq_true]
          refine ⟨hlt, hI _ _ ⟨es ++ [cs], as ++ [a], l3, _, rfl, ownE_set _ ho3, ?_, ?_, hsn, hall.snoc hR, ?_, by simp [hel]⟩⟩
          · obtain ⟨⟨v3, hv3, sv3⟩, hl3⟩ := hr3
            exact ⟨⟨v3, by rw [List.getElem?_set_ne hnp]; exact hv3, sv3⟩, hl3⟩
          · refine kp.trans ⟨by have := k3.len; simp; omega, fun b hb hbp => ?_⟩
            by_cases hbo : h1.length = b
            · subst hbo
              rw [List.set_set, List.getElem?_set_self (by have := k3.len; omega), List.getElem?_set_self hol]
            · rw [List.set_set, List.getElem?_set_ne hbo, List.getElem?_set_ne hbo]
              exact k3.get b (by simpa using hb) hbp
          · intro e' he'
            rcases List.mem_append.1 he' with he' | he'
            · exact hce e' he'
            · rw [List.mem_singleton.1 he']; exact hcs
      · obtain rfl : i = m := by omega
        have hfz := ownE_frz ho (fun e he => (hce e he).len) (fun e he => (hce e he).pure)
        simp [hfz]
        refine hQ _ _ ?_
        refine ⟨⟨by have := hkk.len; simpa using this, fun b hb hbp => ?_⟩, fun as' l' h => ?_, fun h => ?_⟩
        · rw [List.getElem?_set_ne (by have := k.len; omega)]; exact hkk.get b hb hbp
        · rw [hdm] at h; cases h
          obtain ⟨⟨v3, hv3, sv3⟩, hl3⟩ := hr2
          exact ⟨es, rfl, hall, hce, ⟨⟨v3, by rw [List.getElem?_set_ne (by omega)]; exact hv3, sv3⟩, hl3⟩⟩
        · rw [hdm] at h; cases h

theorem all95 {α : Type} {dec : L → Option (α × L)} {R : α → List V → Prop} {one : Nat} {left : Int} (hone : Rd one [.int .i64 left] dec (fun a x => ∃ cs, x = .agg cs ∧ R a cs ∧ Cells 6 cs)) (gl : Nat → List V) {p : Nat} {h : Heap} {l : L} (hr : Rst p l h) :
    CallP gl Tryd.aprog 95 [.agg [.func (.func one) [] []], .agg [.ref p 0 1], .int .i64 left] h (fun r h' => Keep p h h' ∧ (∀ as l', (decCount l).bind (fun x => decMany dec x.1 x.2) = some (as, l') → ∃ es, r = .ret (.sv es false) ∧ All2 R as es ∧ (∀ e ∈ es, Cells 6 e) ∧ Rst p l' h') ∧
      ((decCount l).bind (fun x => decMany dec x.1 x.2) = none → r = .pan errForm)) := by
  rcases rd_case number_ok gl hr with ⟨h1, e, k, hd⟩ | ⟨n, l1, x, h1, e, k, hd, rfl, hr1⟩
  · refine call_ofQ (af := Tryd.a95) rfl rfl fun Q hQ => ?_
    simp only [Tryd.a95]
    simp [e, errForm]
    refine hQ _ _ ?_
    exact ⟨k, fun a l' h => by simp [decCount, hd] at h, fun _ => rfl⟩
  · obtain ⟨v1, hv1, sv1⟩ := hr1.ex
    have hlv := sv1.len
    rw [bytesV_length] at hlv
    by_cases hbad : n < 0 ∨ (l1.length : Int) < n
    · refine call_ofQ (af := Tryd.a95) rfl rfl fun Q hQ => ?_
      simp only [Tryd.a95]
      by_cases hn0 : n < 0
      · simp [e, hn0, slotOf, fill]
        refine hQ _ _ ?_
        exact ⟨k, fun a l' h => by simp [decCount, hd, hbad] at h, fun _ => rfl⟩
      · have hn1 : (l1.length : Int) < n := by omega
        simp [e, hn0, slotOf, fill, objCells, hv1, hlv, hn1]
        refine hQ _ _ ?_
        exact ⟨k, fun a l' h => by simp [decCount, hd, hn1] at h, fun _ => rfl⟩
    · obtain ⟨m, rfl⟩ := Int.eq_ofNat_of_zero_le (show 0 ≤ n by omega)
      have hml : m ≤ l1.length := by omega
      have hm2 := hr1.len
      have hdc : decCount l = some (m, l1) := by simp only [decCount, hd, Option.bind_some, if_neg hbad, Int.toNat_natCast]
      refine call_ofQ (af := Tryd.a95) rfl rfl fun Q hQ => ?_
      rw [hdc, Option.bind_some] at hQ
      simp only at hQ
      simp only [Tryd.a95]
      have hn0 : ¬ ((m : Int) < 0) := by omega
      have hn1 : ¬ (l1.length < m) := by omega
      simp [e, hn0, slotOf, fill, objCells, hv1, hlv, hn1]
      have hlt1 := hr1.lt
      refine loop_nQ m (fun i c => ∃ es as l2 h2, c = ⟨[.agg [.func (.func one) [] []], .agg [.ref p 0 1], .int .i64 left, .agg [.func (.func one) [] []], .agg [.ref p 0 1], .nils, .int .i64 m, slE h1.length 6 es, .int .i64 m, .int .i64 i], [], none, none, h2⟩ ∧
        OwnE h1.length 6 es h2 ∧ Rst p l2 h2 ∧ Keep p (h1 ++ [.cells 0 6 []]) (h2.set h1.length (.cells 0 6 [])) ∧ decMany dec i l1 = some (as, l2) ∧ All2 R as es ∧ (∀ e ∈ es, Cells 6 e) ∧ es.length = i) ?_
        ⟨[], [], l1, _, rfl, ownE_new _ _, ⟨⟨v1, by rw [List.getElem?_append_left hlt1]; exact hv1, sv1⟩, hm2⟩, by rw [set_last]; exact Keep.refl _ _, rfl, trivial, by simp, rfl⟩
      rintro I hI i c hi ⟨es, as, l2, h2, rfl, ho, hr2, kp, hdm, hall, hce, hel⟩
      have hol : h1.length < h2.length := (List.getElem?_eq_some_iff.1 ho).1
      have hkk : Keep p h h2 := k.trans ⟨by omega, fun b hb hbp => by
        have := kp.get b (by simp; omega) hbp
        rw [List.getElem?_set_ne (by omega), List.getElem?_append_left hb] at this
        exact this⟩
      by_cases hlt : i < m
      · have hlt' : (i : Int) < m := by omega
        have hw3 : IntKind.i64.wrap ((i : Int) + 1) = ((i + 1 : Nat) : Int) := by rw [wrap64 (by omega) (by omega)]; rfl
        have hsn := decMany_snoc (f := dec) i l1
        rw [hdm, Option.bind_some] at hsn
        rcases rd_case hone gl hr2 with ⟨h3, e3, k3, hd3⟩ | ⟨a, l3, x, h3, e3, k3, hd3, ⟨cs, rfl, hR, hcs⟩, hr3⟩
        · rw [hd3] at hsn
          have hnone := decMany_none hsn m (by omega)
          simp [hlt', e3, errForm]
          refine hQ _ _ ?_
          refine ⟨hkk.trans k3, fun a l' h => ?_, fun _ => rfl⟩
          rw [hnone] at h; cases h
        · rw [hd3, Option.map_some] at hsn
          have hnp : h1.length ≠ p := by omega
          have ho3 : OwnE h1.length 6 es h3 := by unfold OwnE; rw [k3.get _ hol hnp]; exact ho
          have hdr : (cs ++ List.drop cs.length [.str ⟨#[]⟩, .int .i64 0, .int .i64 0, .int .i64 0, .int .i64 0, .nils] : List V) = cs := by rw [hcs.len]; simp
          have htk : cs.take 6 = cs := List.take_of_length_le (by rw [hcs.len]; omega)
          have happ := ownE_app (bytes := 72) (e := cs) (ex := true) ho3 hcs.len (by unfold room; omega)
          simp [hlt', e3, fill, chunks, hcs.len, hcs.cell, hcs.pure, hdr, happ, hw3, htk, -List.all_eq_true]
          refine ⟨hlt, hI _ _ ⟨es ++ [cs], as ++ [a], l3, _, rfl, ownE_set _ ho3, ?_, ?_, hsn, hall.snoc hR, ?_, by simp [hel]⟩⟩
          · obtain ⟨⟨v3, hv3, sv3⟩, hl3⟩ := hr3
            exact ⟨⟨v3, by rw [List.getElem?_set_ne hnp]; exact hv3, sv3⟩, hl3⟩
          · refine kp.trans ⟨by have := k3.len; simp; omega, fun b hb hbp => ?_⟩
            by_cases hbo : h1.length = b
            · subst hbo
              rw [List.set_set, List.getElem?_set_self (by have := k3.len; omega), List.getElem?_set_self hol]
            · rw [List.set_set, List.getElem?_set_ne hbo, List.getElem?_set_ne hbo]
              exact k3.get b (by simpa using hb) hbp
          · intro e' he'
            rcases List.mem_append.1 he' with he' | he'
            · exact hce e' he'
            · rw [List.mem_singleton.1 he']; exact hcs
      · obtain rfl : i = m := by omega
        have hfz := ownE_frz ho (fun e he => (hce e he).len) (fun e he => (hce e he).pure)
        simp [hfz]
        refine hQ _ _ ?_
        refine ⟨⟨by have := hkk.len; simpa using this, fun b hb hbp => ?_⟩, fun as' l' h => ?_, fun h => ?_⟩
        · rw [List.getElem?_set_ne (by have := k.len; omega)]; exact hkk.get b hb hbp
        · rw [hdm] at h; cases h
          obtain ⟨⟨v3, hv3, sv3⟩, hl3⟩ := hr2
          exact ⟨es, rfl, hall, hce, ⟨⟨v3, by rw [List.getElem?_set_ne (by omega)]; exact hv3, sv3⟩, hl3⟩⟩
        · rw [hdm] at h; cases h

theorem all98 {α : Type} {dec : L → Option (α × L)} {R : α → List V → Prop} {one : Nat} {left : Int} (hone : Rd one [.int .i64 left] dec (fun a x => ∃ cs, x = .agg cs ∧ R a cs ∧ Cells 4 cs)) (gl : Nat → List V) {p : Nat} {h : Heap} {l : L} (hr : Rst p l h) :
    CallP gl Tryd.aprog 98 [.agg [.func (.func one) [] []], .agg [.ref p 0 1], .int .i64 left] h (fun r h' => Keep p h h' ∧ (∀ as l', (decCount l).bind (fun x => decMany dec x.1 x.2) = some (as, l') → ∃ es, r = .ret (.sv es false) ∧ All2 R as es ∧ (∀ e ∈ es, Cells 4 e) ∧ Rst p l' h') ∧
      ((decCount l).bind (fun x => decMany dec x.1 x.2) = none → r = .pan errForm)) := by
  rcases rd_case number_ok gl hr with ⟨h1, e, k, hd⟩ | ⟨n, l1, x, h1, e, k, hd, rfl, hr1⟩
  · refine call_ofQ (af := Tryd.a98) rfl rfl fun Q hQ => ?_
    simp only [Tryd.a98]
    simp [e, errForm]
    refine hQ _ _ ?_
    exact ⟨k, fun a l' h => by simp [decCount, hd] at h, fun _ => rfl⟩
  · obtain ⟨v1, hv1, sv1⟩ := hr1.ex
    have hlv := sv1.len
    rw [bytesV_length] at hlv
    by_cases hbad : n < 0 ∨ (l1.length : Int) < n
    · refine call_ofQ (af := Tryd.a98) rfl rfl fun Q hQ => ?_
      simp only [Tryd.a98]
      by_cases hn0 : n < 0
      · simp [e, hn0, slotOf, fill]
        refine hQ _ _ ?_
        exact ⟨k, fun a l' h => by simp [decCount, hd, hbad] at h, fun _ => rfl⟩
      · have hn1 : (l1.length : Int) < n := by omega
        simp [e, hn0, slotOf, fill, objCells, hv1, hlv, hn1]
        refine hQ _ _ ?_
        exact ⟨k, fun a l' h => by simp [decCount, hd, hn1] at h, fun _ => rfl⟩
    · obtain ⟨m, rfl⟩ := Int.eq_ofNat_of_zero_le (show 0 ≤ n by omega)
      have hml : m ≤ l1.length := by omega
      have hm2 := hr1.len
      have hdc : decCount l = some (m, l1) := by simp only [decCount, hd, Option.bind_some, if_neg hbad, Int.toNat_natCast]
      refine call_ofQ (af := Tryd.a98) rfl rfl fun Q hQ => ?_
      rw [hdc, Option.bind_some] at hQ
      simp only at hQ
      simp only [Tryd.a98]
      have hn0 : ¬ ((m : Int) < 0) := by omega
      have hn1 : ¬ (l1.length < m) := by omega
      simp [e, hn0, slotOf, fill, objCells, hv1, hlv, hn1]
      have hlt1 := hr1.lt
      refine loop_nQ m (fun i c => ∃ es as l2 h2, c = ⟨[.agg [.func (.func one) [] []], .agg [.ref p 0 1], .int .i64 left, .agg [.func (.func one) [] []], .agg [.ref p 0 1], .nils, .int .i64 m, slE h1.length 4 es, .int .i64 m, .int .i64 i], [], none, none, h2⟩ ∧
        OwnE h1.length 4 es h2 ∧ Rst p l2 h2 ∧ Keep p (h1 ++ [.cells 0 4 []]) (h2.set h1.length (.cells 0 4 [])) ∧ decMany dec i l1 = some (as, l2) ∧ All2 R as es ∧ (∀ e ∈ es, Cells 4 e) ∧ es.length = i) ?_
        ⟨[], [], l1, _, rfl, ownE_new _ _, ⟨⟨v1, by rw [List.getElem?_append_left hlt1]; exact hv1, sv1⟩, hm2⟩, by rw [set_last]; exact Keep.refl _ _, rfl, trivial, by simp, rfl⟩
      rintro I hI i c hi ⟨es, as, l2, h2, rfl, ho, hr2, kp, hdm, hall, hce, hel⟩
      have hol : h1.length < h2.length := (List.getElem?_eq_some_iff.1 ho).1
      have hkk : Keep p h h2 := k.trans ⟨by omega, fun b hb hbp => by
        have := kp.get b (by simp; omega) hbp
        rw [List.getElem?_set_ne (by omega), List.getElem?_append_left hb] at this
        exact this⟩
      by_cases hlt : i < m
      · have hlt' : (i : Int) < m := by omega
        have hw3 : IntKind.i64.wrap ((i : Int) + 1) = ((i + 1 : Nat) : Int) := by rw [wrap64 (by omega) (by omega)]; rfl
        have hsn := decMany_snoc (f := dec) i l1
        rw [hdm, Option.bind_some] at hsn
        rcases rd_case hone gl hr2 with ⟨h3, e3, k3, hd3⟩ | ⟨a, l3, x, h3, e3, k3, hd3, ⟨cs, rfl, hR, hcs⟩, hr3⟩
        · rw [hd3] at hsn
          have hnone := decMany_none hsn m (by omega)
          simp [hlt', e3, errForm]
          refine hQ _ _ ?_
          refine ⟨hkk.trans k3, fun a l' h => ?_, fun _ => rfl⟩
          rw [hnone] at h; cases h
        · rw [hd3, Option.map_some] at hsn
          have hnp : h1.length ≠ p := by omega
          have ho3 : OwnE h1.length 4 es h3 := by unfold OwnE; rw [k3.get _ hol hnp]; exact ho
          have hdr : (cs ++ List.drop cs.length [.int .i64 0, .nils, .nils, .nils] : List V) = cs := by rw [hcs.len]; simp
          have htk : cs.take 4 = cs := List.take_of_length_le (by rw [hcs.len]; omega)
          have happ := ownE_app (bytes := 80) (e := cs) (ex := true) ho3 hcs.len (by unfold room; omega)
          simp [hlt', e3, fill, chunks, hcs.len, hcs.cell, hcs.pure, hdr, happ, hw3, htk, -List.all_eq_true]
          refine ⟨hlt, hI _ _ ⟨es ++ [cs], as ++ [a], l3, _, rfl, ownE_set _ ho3, ?_, ?_, hsn, hall.snoc hR, ?_, by simp [hel]⟩⟩
          · obtain ⟨⟨v3, hv3, sv3⟩, hl3⟩ := hr3
            exact ⟨⟨v3, by rw [List.getElem?_set_ne hnp]; exact hv3, sv3⟩, hl3⟩
          · refine kp.trans ⟨by have := k3.len; simp; omega, fun b hb hbp => ?_⟩
            by_cases hbo : h1.length = b
            · subst hbo
              rw [List.set_set, List.getElem?_set_self (by have := k3.len; omega), List.getElem?_set_self hol]
            · rw [List.set_set, List.getElem?_set_ne hbo, List.getElem?_set_ne hbo]
              exact k3.get b (by simpa using hb) hbp
          · intro e' he'
            rcases List.mem_append.1 he' with he' | he'
            · exact hce e' he'
            · rw [List.mem_singleton.1 he']; exact hcs
      · obtain rfl : i = m := by omega
        have hfz := ownE_frz ho (fun e he => (hce e he).len) (fun e he => (hce e he).pure)
        simp [hfz]
        refine hQ _ _ ?_
        refine ⟨⟨by have := hkk.len; simpa using this, fun b hb hbp => ?_⟩, fun as' l' h => ?_, fun h => ?_⟩
        · rw [List.getElem?_set_ne (by have := k.len; omega)]; exact hkk.get b hb hbp
        · rw [hdm] at h; cases h
          obtain ⟨⟨v3, hv3, sv3⟩, hl3⟩ := hr2
          exact ⟨es, rfl, hall, hce, ⟨⟨v3, by rw [List.getElem?_set_ne (by omega)]; exact hv3, sv3⟩, hl3⟩⟩
        · rw [hdm] at h; cases h

theorem all104 {α : Type} {dec : L → Option (α × L)} {R : α → List V → Prop} {one : Nat} {left : Int} (hone : Rd one [.int .i64 left] dec (fun a x => ∃ cs, x = .agg cs ∧ R a cs ∧ Cells 5 cs)) (gl : Nat → List V) {p : Nat} {h : Heap} {l : L} (hr : Rst p l h) :
    CallP gl Tryd.aprog 104 [.agg [.func (.func one) [] []], .agg [.ref p 0 1], .int .i64 left] h (fun r h' => Keep p h h' ∧ (∀ as l', (decCount l).bind (fun x => decMany dec x.1 x.2) = some (as, l') → ∃ es, r = .ret (.sv es false) ∧ All2 R as es ∧ (∀ e ∈ es, Cells 5 e) ∧ Rst p l' h') ∧
      ((decCount l).bind (fun x => decMany dec x.1 x.2) = none → r = .pan errForm)) := by
  rcases rd_case number_ok gl hr with ⟨h1, e, k, hd⟩ | ⟨n, l1, x, h1, e, k, hd, rfl, hr1⟩
  · refine call_ofQ (af := Tryd.a104) rfl rfl fun Q hQ => ?_
    simp only [Tryd.a104]
    simp [e, errForm]
    refine hQ _ _ ?_
    exact ⟨k, fun a l' h => by simp [decCount, hd] at h, fun _ => rfl⟩
  · obtain ⟨v1, hv1, sv1⟩ := hr1.ex
    have hlv := sv1.len
    rw [bytesV_length] at hlv
    by_cases hbad : n < 0 ∨ (l1.length : Int) < n
    · refine call_ofQ (af := Tryd.a104) rfl rfl fun Q hQ => ?_
      simp only [Tryd.a104]
      by_cases hn0 : n < 0
      · simp [e, hn0, slotOf, fill]
        refine hQ _ _ ?_
        exact ⟨k, fun a l' h => by simp [decCount, hd, hbad] at h, fun _ => rfl⟩
      · have hn1 : (l1.length : Int) < n := by omega
        simp [e, hn0, slotOf, fill, objCells, hv1, hlv, hn1]
        refine hQ _ _ ?_
        exact ⟨k, fun a l' h => by simp [decCount, hd, hn1] at h, fun _ => rfl⟩
    · obtain ⟨m, rfl⟩ := Int.eq_ofNat_of_zero_le (show 0 ≤ n by omega)
      have hml : m ≤ l1.length := by omega
      have hm2 := hr1.len
      have hdc : decCount l = some (m, l1) := by simp only [decCount, hd, Option.bind_some, if_neg hbad, Int.toNat_natCast]
      refine call_ofQ (af := Tryd.a104) rfl rfl fun Q hQ => ?_
      rw [hdc, Option.bind_some] at hQ
      simp only at hQ
      simp only [Tryd.a104]
      have hn0 : ¬ ((m : Int) < 0) := by omega
      have hn1 : ¬ (l1.length < m) := by omega
      simp [e, hn0, slotOf, fill, objCells, hv1, hlv, hn1]
      have hlt1 := hr1.lt
      refine loop_nQ m (fun i c => ∃ es as l2 h2, c = ⟨[.agg [.func (.func one) [] []], .agg [.ref p 0 1], .int .i64 left, .agg [.func (.func one) [] []], .agg [.ref p 0 1], .nils, .int .i64 m, slE h1.length 5 es, .int .i64 m, .int .i64 i], [], none, none, h2⟩ ∧
        OwnE h1.length 5 es h2 ∧ Rst p l2 h2 ∧ Keep p (h1 ++ [.cells 0 5 []]) (h2.set h1.length (.cells 0 5 [])) ∧ decMany dec i l1 = some (as, l2) ∧ All2 R as es ∧ (∀ e ∈ es, Cells 5 e) ∧ es.length = i) ?_
        ⟨[], [], l1, _, rfl, ownE_new _ _, ⟨⟨v1, by rw [List.getElem?_append_left hlt1]; exact hv1, sv1⟩, hm2⟩, by rw [set_last]; exact Keep.refl _ _, rfl, trivial, by simp, rfl⟩
      rintro I hI i c hi ⟨es, as, l2, h2, rfl, ho, hr2, kp, hdm, hall, hce, hel⟩
      have hol : h1.length < h2.length := (List.getElem?_eq_some_iff.1 ho).1
      have hkk : Keep p h h2 := k.trans ⟨by omega, fun b hb hbp => by
        have := kp.get b (by simp; omega) hbp
        rw [List.getElem?_set_ne (by omega), List.getElem?_append_left hb] at this
        exact this⟩
      by_cases hlt : i < m
      · have hlt' : (i : Int) < m := by omega
        have hw3 : IntKind.i64.wrap ((i : Int) + 1) = ((i + 1 : Nat) : Int) := by rw [wrap64 (by omega) (by omega)]; rfl
        have hsn := decMany_snoc (f := dec) i l1
        rw [hdm, Option.bind_some] at hsn
        rcases rd_case hone gl hr2 with ⟨h3, e3, k3, hd3⟩ | ⟨a, l3, x, h3, e3, k3, hd3, ⟨cs, rfl, hR, hcs⟩, hr3⟩
        · rw [hd3] at hsn
          have hnone := decMany_none hsn m (by omega)
          simp [hlt', e3, errForm]
          refine hQ _ _ ?_
          refine ⟨hkk.trans k3, fun a l' h => ?_, fun _ => rfl⟩
          rw [hnone] at h; cases h
        · rw [hd3, Option.map_some] at hsn
          have hnp : h1.length ≠ p := by omega
          have ho3 : OwnE h1.length 5 es h3 := by unfold OwnE; rw [k3.get _ hol hnp]; exact ho
          have hdr : (cs ++ List.drop cs.length [.int .i64 0, .int .i64 0, .nils, .nils, .nils] : List V) = cs := by rw [hcs.len]; simp
          have htk : cs.take 5 = cs := List.take_of_length_le (by rw [hcs.len]; omega)
          have happ := ownE_app (bytes := 88) (e := cs) (ex := true) ho3 hcs.len (by unfold room; omega)
          simp [hlt', e3, fill, chunks, hcs.len, hcs.cell, hcs.pure, hdr, happ, hw3, htk, -List.all_eq_true]
          refine ⟨hlt, hI _ _ ⟨es ++ [cs], as ++ [a], l3, _, rfl, ownE_set _ ho3, ?_, ?_, hsn, hall.snoc hR, ?_, by simp [hel]⟩⟩
          · obtain ⟨⟨v3, hv3, sv3⟩, hl3⟩ := hr3
            exact ⟨⟨v3, by rw [List.getElem?_set_ne hnp]; exact hv3, sv3⟩, hl3⟩
          · refine kp.trans ⟨by have := k3.len; simp; omega, fun b hb hbp => ?_⟩
            by_cases hbo : h1.length = b
            · subst hbo
              rw [List.set_set, List.getElem?_set_self (by have := k3.len; omega), List.getElem?_set_self hol]
            · rw [List.set_set, List.getElem?_set_ne hbo, List.getElem?_set_ne hbo]
              exact k3.get b (by simpa using hb) hbp
          · intro e' he'
            rcases List.mem_append.1 he' with he' | he'
            · exact hce e' he'
            · rw [List.mem_singleton.1 he']; exact hcs
      · obtain rfl : i = m := by omega
        have hfz := ownE_frz ho (fun e he => (hce e he).len) (fun e he => (hce e he).pure)
        simp [hfz]
        refine hQ _ _ ?_
        refine ⟨⟨by have := hkk.len; simpa using this, fun b hb hbp => ?_⟩, fun as' l' h => ?_, fun h => ?_⟩
        · rw [List.getElem?_set_ne (by have := k.len; omega)]; exact hkk.get b hb hbp
        · rw [hdm] at h; cases h
          obtain ⟨⟨v3, hv3, sv3⟩, hl3⟩ := hr2
          exact ⟨es, rfl, hall, hce, ⟨⟨v3, by rw [List.getElem?_set_ne (by omega)]; exact hv3, sv3⟩, hl3⟩⟩
        · rw [hdm] at h; cases h

theorem all105 {α : Type} {dec : L → Option (α × L)} {R : α → List V → Prop} {one : Nat} {left : Int} (hone : Rd one [.int .i64 left] dec (fun a x => ∃ cs, x = .agg cs ∧ R a cs ∧ Cells 4 cs)) (gl : Nat → List V) {p : Nat} {h : Heap} {l : L} (hr : Rst p l h) :
    CallP gl Tryd.aprog 105 [.agg [.func (.func one) [] []], .agg [.ref p 0 1], .int .i64 left] h (fun r h' => Keep p h h' ∧ (∀ as l', (decCount l).bind (fun x => decMany dec x.1 x.2) = some (as, l') → ∃ es, r = .ret (.sv es false) ∧ All2 R as es ∧ (∀ e ∈ es, Cells 4 e) ∧ Rst p l' h') ∧
      ((decCount l).bind (fun x => decMany dec x.1 x.2) = none → r = .pan errForm)) := by
  rcases rd_case number_ok gl hr with ⟨h1, e, k, hd⟩ | ⟨n, l1, x, h1, e, k, hd, rfl, hr1⟩
  · refine call_ofQ (af := Tryd.a105) rfl rfl fun Q hQ => ?_
    simp only [Tryd.a105]
    simp [e, errForm]
    refine hQ _ _ ?_
    exact ⟨k, fun a l' h => by simp [decCount, hd] at h, fun _ => rfl⟩
  · obtain ⟨v1, hv1, sv1⟩ := hr1.ex
    have hlv := sv1.len
    rw [bytesV_length] at hlv
    by_cases hbad : n < 0 ∨ (l1.length : Int) < n
    · refine call_ofQ (af := Tryd.a105) rfl rfl fun Q hQ => ?_
      simp only [Tryd.a105]
      by_cases hn0 : n < 0
      · simp [e, hn0, slotOf, fill]
        refine hQ _ _ ?_
        exact ⟨k, fun a l' h => by simp [decCount, hd, hbad] at h, fun _ => rfl⟩
      · have hn1 : (l1.length : Int) < n := by omega
        simp [e, hn0, slotOf, fill, objCells, hv1, hlv, hn1]
        refine hQ _ _ ?_
        exact ⟨k, fun a l' h => by simp [decCount, hd, hn1] at h, fun _ => rfl⟩
    · obtain ⟨m, rfl⟩ := Int.eq_ofNat_of_zero_le (show 0 ≤ n by omega)
      have hml : m ≤ l1.length := by omega
      have hm2 := hr1.len
      have hdc : decCount l = some (m, l1) := by simp only [decCount, hd, Option.bind_some, if_neg hbad, Int.toNat_natCast]
      refine call_ofQ (af := Tryd.a105) rfl rfl fun Q hQ => ?_
      rw [hdc, Option.bind_some] at hQ
      simp only at hQ
      simp only [Tryd.a105]
      have hn0 : ¬ ((m : Int) < 0) := by omega
      have hn1 : ¬ (l1.length < m) := by omega
      simp [e, hn0, slotOf, fill, objCells, hv1, hlv, hn1]
      have hlt1 := hr1.lt
      refine loop_nQ m (fun i c => ∃ es as l2 h2, c = ⟨[.agg [.func (.func one) [] []], .agg [.ref p 0 1], .int .i64 left, .agg [.func (.func one) [] []], .agg [.ref p 0 1], .nils, .int .i64 m, slE h1.length 4 es, .int .i64 m, .int .i64 i], [], none, none, h2⟩ ∧
        OwnE h1.length 4 es h2 ∧ Rst p l2 h2 ∧ Keep p (h1 ++ [.cells 0 4 []]) (h2.set h1.length (.cells 0 4 [])) ∧ decMany dec i l1 = some (as, l2) ∧ All2 R as es ∧ (∀ e ∈ es, Cells 4 e) ∧ es.length = i) ?_
        ⟨[], [], l1, _, rfl, ownE_new _ _, ⟨⟨v1, by rw [List.getElem?_append_left hlt1]; exact hv1, sv1⟩, hm2⟩, by rw [set_last]; exact Keep.refl _ _, rfl, trivial, by simp, rfl⟩
      rintro I hI i c hi ⟨es, as, l2, h2, rfl, ho, hr2, kp, hdm, hall, hce, hel⟩
      have hol : h1.length < h2.length := (List.getElem?_eq_some_iff.1 ho).1
      have hkk : Keep p h h2 := k.trans ⟨by omega, fun b hb hbp => by
        have := kp.get b (by simp; omega) hbp
        rw [List.getElem?_set_ne (by omega), List.getElem?_append_left hb] at this
        exact this⟩
      by_cases hlt : i < m
      · have hlt' : (i : Int) < m := by omega
        have hw3 : IntKind.i64.wrap ((i : Int) + 1) = ((i + 1 : Nat) : Int) := by rw [wrap64 (by omega) (by omega)]; rfl
        have hsn := decMany_snoc (f := dec) i l1
        rw [hdm, Option.bind_some] at hsn
        rcases rd_case hone gl hr2 with ⟨h3, e3, k3, hd3⟩ | ⟨a, l3, x, h3, e3, k3, hd3, ⟨cs, rfl, hR, hcs⟩, hr3⟩
        · rw [hd3] at hsn
          have hnone := decMany_none hsn m (by omega)
          simp [hlt', e3, errForm]
          refine hQ _ _ ?_
          refine ⟨hkk.trans k3, fun a l' h => ?_, fun _ => rfl⟩
          rw [hnone] at h; cases h
        · rw [hd3, Option.map_some] at hsn
          have hnp : h1.length ≠ p := by omega
          have ho3 : OwnE h1.length 4 es h3 := by unfold OwnE; rw [k3.get _ hol hnp]; exact ho
          have hdr : (cs ++ List.drop cs.length [.int .i64 0, .int .i64 0, .int .i64 0, .nils] : List V) = cs := by rw [hcs.len]; simp
          have htk : cs.take 4 = cs := List.take_of_length_le (by rw [hcs.len]; omega)
          have happ := ownE_app (bytes := 48) (e := cs) (ex := true) ho3 hcs.len (by unfold room; omega)
          simp [hlt', e3, fill, chunks, hcs.len, hcs.cell, hcs.pure, hdr, happ, hw3, htk, -List.all_eq_true]
          refine ⟨hlt, hI _ _ ⟨es ++ [cs], as ++ [a], l3, _, rfl, ownE_set _ ho3, ?_, ?_, hsn, hall.snoc hR, ?_, by simp [hel]⟩⟩
          · obtain ⟨⟨v3, hv3, sv3⟩, hl3⟩ := hr3
            exact ⟨⟨v3, by rw [List.getElem?_set_ne hnp]; exact hv3, sv3⟩, hl3⟩
          · refine kp.trans ⟨by have := k3.len; simp; omega, fun b hb hbp => ?_⟩
            by_cases hbo : h1.length = b
            · subst hbo
              rw [List.set_set, List.getElem?_set_self (by have := k3.len; omega), List.getElem?_set_self hol]
            · rw [List.set_set, List.getElem?_set_ne hbo, List.getElem?_set_ne hbo]
              exact k3.get b (by simpa using hb) hbp
          · intro e' he'
            rcases List.mem_append.1 he' with he' | he'
            · exact hce e' he'
            · rw [List.mem_singleton.1 he']; exact hcs
      · obtain rfl : i = m := by omega
        have hfz := ownE_frz ho (fun e he => (hce e he).len) (fun e he => (hce e he).pure)
        simp [hfz]
        refine hQ _ _ ?_
        refine ⟨⟨by have := hkk.len; simpa using this, fun b hb hbp => ?_⟩, fun as' l' h => ?_, fun h => ?_⟩
        · rw [List.getElem?_set_ne (by have := k.len; omega)]; exact hkk.get b hb hbp
        · rw [hdm] at h; cases h
          obtain ⟨⟨v3, hv3, sv3⟩, hl3⟩ := hr2
          exact ⟨es, rfl, hall, hce, ⟨⟨v3, by rw [List.getElem?_set_ne (by omega)]; exact hv3, sv3⟩, hl3⟩⟩
        · rw [hdm] at h; cases h

theorem all101 {α : Type} {dec : L → Option (α × L)} {R : α → List V → Prop} {one : Nat} {left : Int} (hone : Rd one [.int .i64 left] dec (fun a x => ∃ n, x = .int .i64 n ∧ R a [.int .i64 n])) (gl : Nat → List V) {p : Nat} {h : Heap} {l : L} (hr : Rst p l h) :
    CallP gl Tryd.aprog 101 [.agg [.func (.func one) [] []], .agg [.ref p 0 1], .int .i64 left] h (fun r h' => Keep p h h' ∧ (∀ as l', (decCount l).bind (fun x => decMany dec x.1 x.2) = some (as, l') → ∃ es, r = .ret (.sv es false) ∧ All2 R as es ∧ (∀ e ∈ es, Cells 1 e) ∧ Rst p l' h') ∧
      ((decCount l).bind (fun x => decMany dec x.1 x.2) = none → r = .pan errForm)) := by
  rcases rd_case number_ok gl hr with ⟨h1, e, k, hd⟩ | ⟨n, l1, x, h1, e, k, hd, rfl, hr1⟩
  · refine call_ofQ (af := Tryd.a101) rfl rfl fun Q hQ => ?_
    simp only [Tryd.a101]
    simp [e, errForm]
    refine hQ _ _ ?_
    exact ⟨k, fun a l' h => by simp [decCount, hd] at h, fun _ => rfl⟩
  · obtain ⟨v1, hv1, sv1⟩ := hr1.ex
    have hlv := sv1.len
    rw [bytesV_length] at hlv
    by_cases hbad : n < 0 ∨ (l1.length : Int) < n
    · refine call_ofQ (af := Tryd.a101) rfl rfl fun Q hQ => ?_
      simp only [Tryd.a101]
      by_cases hn0 : n < 0
      · simp [e, hn0, slotOf, fill]
        refine hQ _ _ ?_
        exact ⟨k, fun a l' h => by simp [decCount, hd, hbad] at h, fun _ => rfl⟩
      · have hn1 : (l1.length : Int) < n := by omega
        simp [e, hn0, slotOf, fill, objCells, hv1, hlv, hn1]
        refine hQ _ _ ?_
        exact ⟨k, fun a l' h => by simp [decCount, hd, hn1] at h, fun _ => rfl⟩
    · obtain ⟨m, rfl⟩ := Int.eq_ofNat_of_zero_le (show 0 ≤ n by omega)
      have hml : m ≤ l1.length := by omega
      have hm2 := hr1.len
      have hdc : decCount l = some (m, l1) := by simp only [decCount, hd, Option.bind_some, if_neg hbad, Int.toNat_natCast]
      refine call_ofQ (af := Tryd.a101) rfl rfl fun Q hQ => ?_
      rw [hdc, Option.bind_some] at hQ
      simp only at hQ
      simp only [Tryd.a101]
      have hn0 : ¬ ((m : Int) < 0) := by omega
      have hn1 : ¬ (l1.length < m) := by omega
      simp [e, hn0, slotOf, fill, objCells, hv1, hlv, hn1]
      have hlt1 := hr1.lt
      refine loop_nQ m (fun i c => ∃ es as l2 h2, c = ⟨[.agg [.func (.func one) [] []], .agg [.ref p 0 1], .int .i64 left, .agg [.func (.func one) [] []], .agg [.ref p 0 1], .nils, .int .i64 m, slE h1.length 1 es, .int .i64 m, .int .i64 i], [], none, none, h2⟩ ∧
        OwnE h1.length 1 es h2 ∧ Rst p l2 h2 ∧ Keep p (h1 ++ [.cells 0 1 []]) (h2.set h1.length (.cells 0 1 [])) ∧ decMany dec i l1 = some (as, l2) ∧ All2 R as es ∧ (∀ e ∈ es, Cells 1 e) ∧ es.length = i) ?_
        ⟨[], [], l1, _, rfl, ownE_new _ _, ⟨⟨v1, by rw [List.getElem?_append_left hlt1]; exact hv1, sv1⟩, hm2⟩, by rw [set_last]; exact Keep.refl _ _, rfl, trivial, by simp, rfl⟩
      rintro I hI i c hi ⟨es, as, l2, h2, rfl, ho, hr2, kp, hdm, hall, hce, hel⟩
      have hol : h1.length < h2.length := (List.getElem?_eq_some_iff.1 ho).1
      have hkk : Keep p h h2 := k.trans ⟨by omega, fun b hb hbp => by
        have := kp.get b (by simp; omega) hbp
        rw [List.getElem?_set_ne (by omega), List.getElem?_append_left hb] at this
        exact this⟩
      by_cases hlt : i < m
      · have hlt' : (i : Int) < m := by omega
        have hw3 : IntKind.i64.wrap ((i : Int) + 1) = ((i + 1 : Nat) : Int) := by rw [wrap64 (by omega) (by omega)]; rfl
        have hsn := decMany_snoc (f := dec) i l1
        rw [hdm, Option.bind_some] at hsn
        rcases rd_case hone gl hr2 with ⟨h3, e3, k3, hd3⟩ | ⟨a, l3, x, h3, e3, k3, hd3, ⟨n, rfl, hR⟩, hr3⟩
        · rw [hd3] at hsn
          have hnone := decMany_none hsn m (by omega)
          simp [hlt', e3, errForm]
          refine hQ _ _ ?_
          refine ⟨hkk.trans k3, fun a l' h => ?_, fun _ => rfl⟩
          rw [hnone] at h; cases h
        · rw [hd3, Option.map_some] at hsn
          have hnp : h1.length ≠ p := by omega
          have ho3 : OwnE h1.length 1 es h3 := by unfold OwnE; rw [k3.get _ hol hnp]; exact ho
          have hcs : Cells 1 [V.int .i64 n] := ⟨rfl, rfl, rfl⟩
          have hcs0 : True := trivial
          have happ := ownE_app (bytes := 8) (e := [.int .i64 n]) (ex := true) ho3 hcs.len (by unfold room; omega)
          simp [hlt', e3, fill, chunks, hcs0, happ, hw3, -List.all_eq_true]
          refine ⟨hlt, hI _ _ ⟨es ++ [[.int .i64 n]], as ++ [a], l3, _, rfl, ownE_set _ ho3, ?_, ?_, hsn, hall.snoc hR, ?_, by simp [hel]⟩⟩
          · obtain ⟨⟨v3, hv3, sv3⟩, hl3⟩ := hr3
            exact ⟨⟨v3, by rw [List.getElem?_set_ne hnp]; exact hv3, sv3⟩, hl3⟩
          · refine kp.trans ⟨by have := k3.len; simp; omega, fun b hb hbp => ?_⟩
            by_cases hbo : h1.length = b
            · subst hbo
              rw [List.set_set, List.getElem?_set_self (by have := k3.len; omega), List.getElem?_set_self hol]
            · rw [List.set_set, List.getElem?_set_ne hbo, List.getElem?_set_ne hbo]
              exact k3.get b (by simpa using hb) hbp
          · intro e' he'
            rcases List.mem_append.1 he' with he' | he'
            · exact hce e' he'
            · rw [List.mem_singleton.1 he']; exact hcs
      · obtain rfl : i = m := by omega
        have hfz := ownE_frz ho (fun e he => (hce e he).len) (fun e he => (hce e he).pure)
        simp [hfz]
        refine hQ _ _ ?_
        refine ⟨⟨by have := hkk.len; simpa using this, fun b hb hbp => ?_⟩, fun as' l' h => ?_, fun h => ?_⟩
        · rw [List.getElem?_set_ne (by have := k.len; omega)]; exact hkk.get b hb hbp
        · rw [hdm] at h; cases h
          obtain ⟨⟨v3, hv3, sv3⟩, hl3⟩ := hr2
          exact ⟨es, rfl, hall, hce, ⟨⟨v3, by rw [List.getElem?_set_ne (by omega)]; exact hv3, sv3⟩, hl3⟩⟩
        · rw [hdm] at h; cases h
end Go.Proofs.FileA
/- The program's reader: contents of all things. -/
set_option linter.unusedVariables false
set_option linter.unusedSimpArgs false
namespace Go.Proofs.FileA
open Go Go.Am
variable {gl : Nat → List V}

theorem Rd.mono {α : Type} {f : Nat} {args : List V} {dec : L → Option (α × L)} {R R' : α → V → Prop} (h : Rd f args dec R) (hr : ∀ l a l' x, dec l = some (a, l') → R a x → R' a x) : Rd f args dec R' :=
  fun gl p hp l hrs => (h gl p hp l hrs).mono fun r h' ⟨h1, h2, h3⟩ => ⟨h1, fun a l' hd => by obtain ⟨x, a1, a2, a3⟩ := h2 a l' hd; exact ⟨x, a1, hr l a l' x hd a2, a3⟩, h3⟩
theorem num_ok : Rd 77 [] decNum (fun n x => x = .int .i64 n ∧ is64 n) := number_ok.mono fun l a l' x hd hx => ⟨hx, decNum_range hd⟩

/-- a list of elements as it is read -/
structure IsList {α : Type} (R : α → List V → Prop) (sz : Nat) (as : List α) (x : V) : Prop where
  ex : ∃ es, x = .sv es false ∧ All2 R as es ∧ ∀ e ∈ es, Cells sz e
  len : as.length ≤ 200000
theorem IsList.cell {α : Type} {R : α → List V → Prop} {sz : Nat} {as : List α} {x : V} (h : IsList R sz as x) : isCell x = true := by obtain ⟨es, rfl, _⟩ := h.ex; rfl
theorem IsList.cells {α : Type} {R : α → List V → Prop} {sz : Nat} {as : List α} {x : V} (h : IsList R sz as x) : cellsV x = [x] := by obtain ⟨es, rfl, _⟩ := h.ex; rfl
theorem IsList.pure {α : Type} {R : α → List V → Prop} {sz : Nat} {as : List α} {x : V} (h : IsList R sz as x) : pureV x = true := by obtain ⟨es, rfl, _⟩ := h.ex; rfl

theorem read78 {α : Type} {dec : L → Option (α × L)} {R : α → List V → Prop} {one : Nat} {left : Int} (hone : Rd one [.int .i64 left] dec (fun a x => ∃ cs, x = .agg cs ∧ R a cs ∧ Cells 3 cs)) : Rd 78 [.int .i64 left, .func (.func one) [] []] (decAll dec) (IsList R 3) := by
  intro gl p h l hr
  obtain ⟨r, h1, e, k, hs, hn⟩ := OptP.ex (all94 hone gl hr)
  have hlen := hr.len
  refine call_ofQ (af := Tryd.a78) rfl rfl fun Q hQ => ?_
  simp only [Tryd.a78]
  cases hd : decAll dec l with
  | none =>
    have := hn hd
    subst this
    simp [fill, e, errForm]
    exact hQ _ _ (end_none k hd)
  | some x =>
    obtain ⟨as, l'⟩ := x
    obtain ⟨es, rfl, h2, h3, h4⟩ := hs as l' hd
    have hal := decAll_len hd
    simp [fill, e]
    exact hQ _ _ (end_some k hd ⟨⟨es, rfl, h2, h3⟩, by simp only at hal; omega⟩ h4)

theorem read82 {α : Type} {dec : L → Option (α × L)} {R : α → List V → Prop} {one : Nat} {left : Int} (hone : Rd one [.int .i64 left] dec (fun a x => ∃ cs, x = .agg cs ∧ R a cs ∧ Cells 6 cs)) : Rd 82 [.int .i64 left, .func (.func one) [] []] (decAll dec) (IsList R 6) := by
  intro gl p h l hr
  obtain ⟨r, h1, e, k, hs, hn⟩ := OptP.ex (all95 hone gl hr)
  have hlen := hr.len
  refine call_ofQ (af := Tryd.a82) rfl rfl fun Q hQ => ?_
  simp only [Tryd.a82]
  cases hd : decAll dec l with
  | none =>
    have := hn hd
    subst this
    simp [fill, e, errForm]
    exact hQ _ _ (end_none k hd)
  | some x =>
    obtain ⟨as, l'⟩ := x
    obtain ⟨es, rfl, h2, h3, h4⟩ := hs as l' hd
    have hal := decAll_len hd
    simp [fill, e]
    exact hQ _ _ (end_some k hd ⟨⟨es, rfl, h2, h3⟩, by simp only at hal; omega⟩ h4)

theorem read85 {α : Type} {dec : L → Option (α × L)} {R : α → List V → Prop} {one : Nat} {left : Int} (hone : Rd one [.int .i64 left] dec (fun a x => ∃ cs, x = .agg cs ∧ R a cs ∧ Cells 4 cs)) : Rd 85 [.int .i64 left, .func (.func one) [] []] (decAll dec) (IsList R 4) := by
  intro gl p h l hr
  obtain ⟨r, h1, e, k, hs, hn⟩ := OptP.ex (all98 hone gl hr)
  have hlen := hr.len
  refine call_ofQ (af := Tryd.a85) rfl rfl fun Q hQ => ?_
  simp only [Tryd.a85]
  cases hd : decAll dec l with
  | none =>
    have := hn hd
    subst this
    simp [fill, e, errForm]
    exact hQ _ _ (end_none k hd)
  | some x =>
    obtain ⟨as, l'⟩ := x
    obtain ⟨es, rfl, h2, h3, h4⟩ := hs as l' hd
    have hal := decAll_len hd
    simp [fill, e]
    exact hQ _ _ (end_some k hd ⟨⟨es, rfl, h2, h3⟩, by simp only at hal; omega⟩ h4)

theorem read99 {α : Type} {dec : L → Option (α × L)} {R : α → List V → Prop} {one : Nat} {left : Int} (hone : Rd one [.int .i64 left] dec (fun a x => ∃ cs, x = .agg cs ∧ R a cs ∧ Cells 5 cs)) : Rd 99 [.int .i64 left, .func (.func one) [] []] (decAll dec) (IsList R 5) := by
  intro gl p h l hr
  obtain ⟨r, h1, e, k, hs, hn⟩ := OptP.ex (all104 hone gl hr)
  have hlen := hr.len
  refine call_ofQ (af := Tryd.a99) rfl rfl fun Q hQ => ?_
  simp only [Tryd.a99]
  cases hd : decAll dec l with
  | none =>
    have := hn hd
    subst this
    simp [fill, e, errForm]
    exact hQ _ _ (end_none k hd)
  | some x =>
    obtain ⟨as, l'⟩ := x
    obtain ⟨es, rfl, h2, h3, h4⟩ := hs as l' hd
    have hal := decAll_len hd
    simp [fill, e]
    exact hQ _ _ (end_some k hd ⟨⟨es, rfl, h2, h3⟩, by simp only at hal; omega⟩ h4)

theorem read103 {α : Type} {dec : L → Option (α × L)} {R : α → List V → Prop} {one : Nat} {left : Int} (hone : Rd one [.int .i64 left] dec (fun a x => ∃ cs, x = .agg cs ∧ R a cs ∧ Cells 4 cs)) : Rd 103 [.int .i64 left, .func (.func one) [] []] (decAll dec) (IsList R 4) := by
  intro gl p h l hr
  obtain ⟨r, h1, e, k, hs, hn⟩ := OptP.ex (all105 hone gl hr)
  have hlen := hr.len
  refine call_ofQ (af := Tryd.a103) rfl rfl fun Q hQ => ?_
  simp only [Tryd.a103]
  cases hd : decAll dec l with
  | none =>
    have := hn hd
    subst this
    simp [fill, e, errForm]
    exact hQ _ _ (end_none k hd)
  | some x =>
    obtain ⟨as, l'⟩ := x
    obtain ⟨es, rfl, h2, h3, h4⟩ := hs as l' hd
    have hal := decAll_len hd
    simp [fill, e]
    exact hQ _ _ (end_some k hd ⟨⟨es, rfl, h2, h3⟩, by simp only at hal; omega⟩ h4)

theorem read89 {α : Type} {dec : L → Option (α × L)} {R : α → List V → Prop} {one : Nat} {left : Int} (hone : Rd one [.int .i64 left] dec (fun a x => ∃ n, x = .int .i64 n ∧ R a [.int .i64 n])) : Rd 89 [.int .i64 left, .func (.func one) [] []] (decAll dec) (IsList R 1) := by
  intro gl p h l hr
  obtain ⟨r, h1, e, k, hs, hn⟩ := OptP.ex (all101 hone gl hr)
  have hlen := hr.len
  refine call_ofQ (af := Tryd.a89) rfl rfl fun Q hQ => ?_
  simp only [Tryd.a89]
  cases hd : decAll dec l with
  | none =>
    have := hn hd
    subst this
    simp [fill, e, errForm]
    exact hQ _ _ (end_none k hd)
  | some x =>
    obtain ⟨as, l'⟩ := x
    obtain ⟨es, rfl, h2, h3, h4⟩ := hs as l' hd
    have hal := decAll_len hd
    simp [fill, e]
    exact hQ _ _ (end_some k hd ⟨⟨es, rfl, h2, h3⟩, by simp only at hal; omega⟩ h4)

theorem ints_ok (left : Int) : Rd 89 [.int .i64 left, .func (.func 90) [] []] decList (fun l x => IsInts l x ∧ ∃ es, x = .sv es false) := by
  have h1 : Rd 90 [.int .i64 0] decNum (fun a x => ∃ n, x = .int .i64 n ∧ (fun (a : Int) cs => cs = [V.int .i64 a] ∧ is64 a) a [.int .i64 n]) := (one_ok 0).mono fun l a l' x hd hx => ⟨a, hx, rfl, decNum_range hd⟩
  have h2 : Rd 90 [.int .i64 left] decNum (fun a x => ∃ n, x = .int .i64 n ∧ (fun (a : Int) cs => cs = [V.int .i64 a] ∧ is64 a) a [.int .i64 n]) := (one_ok left).mono fun l a l' x hd hx => ⟨a, hx, rfl, decNum_range hd⟩
  refine Rd.mono (dec := decAll decNum) (read89 (R := fun (a : Int) cs => cs = [V.int .i64 a] ∧ is64 a) h2) fun l a l' x hd hx => ?_
  obtain ⟨⟨es, rfl, ha, _⟩, hl⟩ := hx
  have key : ∀ (as : List Int) (es : List (List V)), All2 (fun (m : Int) cs => cs = [V.int .i64 m] ∧ is64 m) as es → es = intsV as ∧ ∀ n ∈ as, is64 n := by
    intro as
    induction as with
    | nil => intro es h; cases es with
      | nil => exact ⟨rfl, by simp⟩
      | cons _ _ => exact h.elim
    | cons a as ih => intro es h; cases es with
      | nil => exact h.elim
      | cons e es =>
        obtain ⟨⟨rfl, h1⟩, h2⟩ := h
        obtain ⟨rfl, h3⟩ := ih es h2
        exact ⟨rfl, by simp [h1]; exact h3⟩
  obtain ⟨rfl, hr⟩ := key a es ha
  exact ⟨⟨.sv _, by unfold small; omega, hr⟩, _, rfl⟩

theorem dec54_ok : ∀ d : Nat, d < 1000 → Rd 54 [.int .i64 d] (decT 2 0 d) (fun t x => ∃ cs, x = .agg cs ∧ IsT 2 0 t cs ∧ Cells 3 cs) := by
  intro d
  induction d with
  | zero =>
    intro _ gl p h l hr
    have hz := deep_zero (gl := gl)
    refine call_ofQ (af := Tryd.a54) rfl rfl fun Q hQ => ?_
    simp only [Tryd.a54]
    simp [hz, errForm, -pcall]
    exact hQ _ _ (end_none (Keep.refl _ _) rfl)
  | succ d ih =>
  intro hdl gl p h l hr
  replace ih := ih (by omega)
  have hpos := deep_pos (gl := gl) (d + 1) (by omega)
  simp only [Int.natCast_add, Int.natCast_one] at hpos
  have hw : IntKind.i64.wrap (d : Int) = (d : Int) := by rw [wrap64 (by omega) (by omega)]
  have hw2 : IntKind.i64.wrap ((d : Int) + 1 - 1) = (d : Int) := by rw [wrap64 (by omega) (by omega)]; omega
  refine call_ofQ (af := Tryd.a54) rfl rfl fun Q hQ => ?_
  simp only [Tryd.a54]
  rcases rd_case num_ok gl hr with ⟨h0, e0, k0, hd0⟩ | ⟨n0, l0, x0, h0, e0, k0, hd0, ⟨rfl, r0⟩, hr0⟩
  · simp [hpos, e0, errForm, -pcall]
    exact hQ _ _ (end_none k0 (by simp [decT, decMany, hd0]))
  ·
    rcases rd_case num_ok gl hr0 with ⟨h1, e1, k1, hd1⟩ | ⟨n1, l1, x1, h1, e1, k1, hd1, ⟨rfl, r1⟩, hr1⟩
    · simp [hpos, e0, e1, errForm, -pcall]
      exact hQ _ _ (end_none (k0.trans k1) (by simp [decT, decMany, hd0, hd1]))
    ·
      rcases rd_case (read78 (one := 54) (left := (d : Int)) (R := IsT 2 0) (dec := decT 2 0 d) ih) gl hr1 with ⟨hz, ez, kz, hdz⟩ | ⟨as, lz, x, hz, ez, kz, hdz, hx, hrz⟩
      · simp [hpos, e0, e1, ez, hw, errForm, -pcall]
        exact hQ _ _ (end_none (k0.trans (k1.trans kz)) (by simp [decT, decMany, hd0, hd1, hdz]))
      · have hxc := hx.cell
        have hxs := hx.cells
        simp [hpos, e0, e1, ez, hw, hxc, hxs, -pcall]
        obtain ⟨⟨es, rfl, hall, hce⟩, hlen⟩ := hx
        refine hQ _ _ (end_some (a := T.mk [n0, n1] [] as) (l' := lz) (k0.trans (k1.trans kz)) ?_ ⟨_, rfl, ?_, ?_⟩ hrz)
        · simp [decT, decMany, hd0, hd1, hdz]
        · simp only [IsT]
          exact ⟨rfl, rfl, by simp [r0, r1], [], .sv es false, es, rfl, by simp [IsLists], .sv false, by unfold small; omega, isTs_of hall⟩
        · exact ⟨rfl, rfl, by simp [pureL, pureV]⟩

theorem dec97_ok : ∀ d : Nat, d < 1000 → Rd 97 [.int .i64 d] (decT 3 0 d) (fun t x => ∃ cs, x = .agg cs ∧ IsT 3 0 t cs ∧ Cells 4 cs) := by
  intro d
  induction d with
  | zero =>
    intro _ gl p h l hr
    have hz := deep_zero (gl := gl)
    refine call_ofQ (af := Tryd.a97) rfl rfl fun Q hQ => ?_
    simp only [Tryd.a97]
    simp [hz, errForm, -pcall]
    exact hQ _ _ (end_none (Keep.refl _ _) rfl)
  | succ d ih =>
  intro hdl gl p h l hr
  replace ih := ih (by omega)
  have hpos := deep_pos (gl := gl) (d + 1) (by omega)
  simp only [Int.natCast_add, Int.natCast_one] at hpos
  have hw : IntKind.i64.wrap (d : Int) = (d : Int) := by rw [wrap64 (by omega) (by omega)]
  have hw2 : IntKind.i64.wrap ((d : Int) + 1 - 1) = (d : Int) := by rw [wrap64 (by omega) (by omega)]; omega
  refine call_ofQ (af := Tryd.a97) rfl rfl fun Q hQ => ?_
  simp only [Tryd.a97]
  rcases rd_case num_ok gl hr with ⟨h0, e0, k0, hd0⟩ | ⟨n0, l0, x0, h0, e0, k0, hd0, ⟨rfl, r0⟩, hr0⟩
  · simp [hpos, e0, errForm, -pcall]
    exact hQ _ _ (end_none k0 (by simp [decT, decMany, hd0]))
  ·
    rcases rd_case num_ok gl hr0 with ⟨h1, e1, k1, hd1⟩ | ⟨n1, l1, x1, h1, e1, k1, hd1, ⟨rfl, r1⟩, hr1⟩
    · simp [hpos, e0, e1, errForm, -pcall]
      exact hQ _ _ (end_none (k0.trans k1) (by simp [decT, decMany, hd0, hd1]))
    ·
      rcases rd_case num_ok gl hr1 with ⟨h2, e2, k2, hd2⟩ | ⟨n2, l2, x2, h2, e2, k2, hd2, ⟨rfl, r2⟩, hr2⟩
      · simp [hpos, e0, e1, e2, errForm, -pcall]
        exact hQ _ _ (end_none (k0.trans (k1.trans k2)) (by simp [decT, decMany, hd0, hd1, hd2]))
      ·
        rcases rd_case (read103 (one := 97) (left := (d : Int)) (R := IsT 3 0) (dec := decT 3 0 d) ih) gl hr2 with ⟨hz, ez, kz, hdz⟩ | ⟨as, lz, x, hz, ez, kz, hdz, hx, hrz⟩
        · simp [hpos, e0, e1, e2, ez, hw, errForm, -pcall]
          exact hQ _ _ (end_none (k0.trans (k1.trans (k2.trans kz))) (by simp [decT, decMany, hd0, hd1, hd2, hdz]))
        · have hxc := hx.cell
          have hxs := hx.cells
          simp [hpos, e0, e1, e2, ez, hw, hxc, hxs, -pcall]
          obtain ⟨⟨es, rfl, hall, hce⟩, hlen⟩ := hx
          refine hQ _ _ (end_some (a := T.mk [n0, n1, n2] [] as) (l' := lz) (k0.trans (k1.trans (k2.trans kz))) ?_ ⟨_, rfl, ?_, ?_⟩ hrz)
          · simp [decT, decMany, hd0, hd1, hd2, hdz]
          · simp only [IsT]
            exact ⟨rfl, rfl, by simp [r0, r1, r2], [], .sv es false, es, rfl, by simp [IsLists], .sv false, by unfold small; omega, isTs_of hall⟩
          · exact ⟨rfl, rfl, by simp [pureL, pureV]⟩
end Go.Proofs.FileA
/- The program's reader: instructions, functions, programs, logs. -/
set_option linter.unusedVariables false
set_option linter.unusedSimpArgs false
namespace Go.Proofs.FileA
open Go Go.Am
variable {gl : Nat → List V}

theorem isList_sl {α : Type} {R : α → List V → Prop} {sz : Nat} {as : List α} {x : V} (h : IsList R sz as x) : ∃ es, SlV es x ∧ All2 R as es ∧ small as.length := by
  obtain ⟨⟨es, rfl, h1, _⟩, h2⟩ := h
  exact ⟨es, .sv false, h1, by unfold small; omega⟩
theorem dec97_60 : Rd 97 [.int .i64 60] (decT 3 0 60) (fun t x => ∃ cs, x = .agg cs ∧ IsT 3 0 t cs ∧ Cells 4 cs) := dec97_ok 60 (by omega)
theorem code_60 (h : ∀ d : Nat, d < 1000 → Rd 100 [.int .i64 d] (decT 2 2 d) (fun t x => ∃ cs, x = .agg cs ∧ IsT 2 2 t cs ∧ Cells 5 cs)) : Rd 99 [.int .i64 60, .func (.func 100) [] []] (decCode 60) (IsList (IsT 2 2) 5) := read99 (left := 60) (h 60 (by omega))

theorem dec100_ok : ∀ d : Nat, d < 1000 → Rd 100 [.int .i64 d] (decT 2 2 d) (fun t x => ∃ cs, x = .agg cs ∧ IsT 2 2 t cs ∧ Cells 5 cs) := by
  intro d
  induction d with
  | zero =>
    intro _ gl p h l hr
    have hz := deep_zero (gl := gl)
    refine call_ofQ (af := Tryd.a100) rfl rfl fun Q hQ => ?_
    simp only [Tryd.a100]
    simp [hz, errForm, -pcall]
    exact hQ _ _ (end_none (Keep.refl _ _) rfl)
  | succ d ih =>
  intro hdl gl p h l hr
  replace ih := ih (by omega)
  have hpos := deep_pos (gl := gl) (d + 1) (by omega)
  simp only [Int.natCast_add, Int.natCast_one] at hpos
  have hw : IntKind.i64.wrap (d : Int) = (d : Int) := by rw [wrap64 (by omega) (by omega)]
  refine call_ofQ (af := Tryd.a100) rfl rfl fun Q hQ => ?_
  simp only [Tryd.a100]
  rcases rd_case (num_ok) gl hr with ⟨h0, e0, k0, hd0⟩ | ⟨a0, l0, x0, h0, e0, k0, hd0, ⟨rfl, r0⟩, hr0⟩
  · simp [hpos, hw, e0, errForm, -pcall, -List.all_eq_true]
    exact hQ _ _ (end_none k0 (by simp [decT, decMany, hd0]))
  ·
    rcases rd_case (num_ok) gl hr0 with ⟨h1, e1, k1, hd1⟩ | ⟨a1, l1, x1, h1, e1, k1, hd1, ⟨rfl, r1⟩, hr1⟩
    · simp [hpos, hw, e0, e1, errForm, -pcall, -List.all_eq_true]
      exact hQ _ _ (end_none (k0.trans k1) (by simp [decT, decMany, hd0, hd1]))
    ·
      rcases rd_case (ints_ok 0) gl hr1 with ⟨h2, e2, k2, hd2⟩ | ⟨a2, l2, x2, h2, e2, k2, hd2, ⟨g2, es2, hes2⟩, hr2⟩
      · simp [hpos, hw, e0, e1, e2, errForm, -pcall, -List.all_eq_true]
        exact hQ _ _ (end_none (k0.trans (k1.trans k2)) (by simp [decT, decMany, hd0, hd1, hd2]))
      ·
        have gc2 := g2.sl.cell
        have gs2 := g2.sl.cells
        have gp2 := g2.sl.pure
        rcases rd_case (ints_ok 0) gl hr2 with ⟨h3, e3, k3, hd3⟩ | ⟨a3, l3, x3, h3, e3, k3, hd3, ⟨g3, es3, hes3⟩, hr3⟩
        · simp [hpos, hw, e0, e1, e2, gc2, gs2, e3, errForm, -pcall, -List.all_eq_true]
          exact hQ _ _ (end_none (k0.trans (k1.trans (k2.trans k3))) (by simp [decT, decMany, hd0, hd1, hd2, hd3]))
        ·
          have gc3 := g3.sl.cell
          have gs3 := g3.sl.cells
          have gp3 := g3.sl.pure
          rcases rd_case (read99 (left := (d : Int)) ih) gl hr3 with ⟨h4, e4, k4, hd4⟩ | ⟨a4, l4, x4, h4, e4, k4, hd4, g4, hr4⟩
          · simp [hpos, hw, e0, e1, e2, e3, gc2, gs2, gc3, gs3, e4, errForm, -pcall, -List.all_eq_true]
            exact hQ _ _ (end_none (k0.trans (k1.trans (k2.trans (k3.trans k4)))) (by simp [decT, decMany, hd0, hd1, hd2, hd3, hd4]))
          ·
            have gc4 := g4.cell
            have gs4 := g4.cells
            have gp4 := g4.pure
            simp [hpos, hw, e0, e1, e2, e3, e4, gc2, gs2, gc3, gs3, gc4, gs4, -pcall, -List.all_eq_true]
            obtain ⟨es, sl, hall, hsm⟩ := isList_sl g4
            refine hQ _ _ (end_some (a := T.mk [a0, a1] [a2, a3] a4) (l' := l4) (k0.trans (k1.trans (k2.trans (k3.trans k4)))) ?_ ⟨_, rfl, ?_, ?_⟩ hr4)
            · simp [decT, decMany, hd0, hd1, hd2, hd3, hd4]
            · simp only [IsT]
              exact ⟨rfl, rfl, by simp [r0, r1], [x2, x3], x4, es, rfl, by simp only [IsLists]; exact ⟨x2, _, rfl, g2, x3, _, rfl, g3, rfl⟩, sl, hsm, isTs_of hall⟩
            · exact ⟨rfl, by simp [gc2, gc3, gc4], by simp [pureL, pureV, gp2, gp3, gp4]⟩

theorem dec83_ok : Rd 83 [.int .i64 60] decFun (fun t x => ∃ cs, x = .agg cs ∧ IsFun t cs ∧ Cells 6 cs) := by
  intro gl p h l hr
  have hle := hr.len
  refine call_ofQ (af := Tryd.a83) rfl rfl fun Q hQ => ?_
  simp only [Tryd.a83]
  rcases rd_case (text_ok) gl hr with ⟨h0, e0, k0, hd0⟩ | ⟨a0, l0, x0, h0, e0, k0, hd0, rfl, hr0⟩
  · simp [e0, errForm, -pcall, -List.all_eq_true]
    exact hQ _ _ (end_none k0 (by simp [decFun, hd0]))
  ·
    rcases rd_case (num_ok) gl hr0 with ⟨h1, e1, k1, hd1⟩ | ⟨a1, l1, x1, h1, e1, k1, hd1, ⟨rfl, r1⟩, hr1⟩
    · simp [e0, e1, errForm, -pcall, -List.all_eq_true]
      exact hQ _ _ (end_none (k0.trans k1) (by simp [decFun, hd0, hd1]))
    ·
      rcases rd_case (dec97_60) gl hr1 with ⟨h2, e2, k2, hd2⟩ | ⟨a2, l2, x2, h2, e2, k2, hd2, ⟨bc, rfl, hT, hC⟩, hr2⟩
      · simp [e0, e1, e2, errForm, -pcall, -List.all_eq_true]
        exact hQ _ _ (end_none (k0.trans (k1.trans k2)) (by simp [decFun, hd0, hd1, hd2]))
      ·
        have hcl := hC.len
        have hcc := hC.cell
        have hcp := hC.pure
        have htk : bc.take 4 = bc := List.take_of_length_le (by omega)
        have hd4 : bc.drop 4 = [] := List.drop_of_length_le (by omega)
        simp [e0, e1, e2, hcl, hcc, htk, hd4, -pcall, -List.all_eq_true]
        have hdr : List.drop (2 + bc.length) ([V.str ⟨a0.toArray⟩, V.int .i64 a1, V.int .i64 0, V.int .i64 0, V.int .i64 0, V.nils] : List V) = [] := by rw [hcl]; rfl
        have htx : a0.length ≤ 200000 := by have := decText_len hd0; simp only at this; omega
        refine hQ _ _ (end_some (a := ⟨a0, a1, a2⟩) (l' := l2) (k0.trans (k1.trans k2)) ?_ ⟨_, rfl, ?_, ?_⟩ hr2)
        · simp [decFun, hd0, hd1, hd2]
        · exact ⟨⟨bc, rfl, hT⟩, r1, by unfold small; simp only; omega⟩
        · exact ⟨by simp [hcl], by simp only [List.all_cons, hcc]; rfl, by simp [pureL, pureV, hcp]⟩

theorem dec86_ok : Rd 86 [.int .i64 60] decVecFun (fun t x => ∃ cs, x = .agg cs ∧ IsVecFun t cs ∧ Cells 4 cs) := by
  intro gl p h l hr
  refine call_ofQ (af := Tryd.a86) rfl rfl fun Q hQ => ?_
  simp only [Tryd.a86]
  rcases rd_case (num_ok) gl hr with ⟨h0, e0, k0, hd0⟩ | ⟨a0, l0, x0, h0, e0, k0, hd0, ⟨rfl, r0⟩, hr0⟩
  · simp [e0, errForm, -pcall, -List.all_eq_true]
    exact hQ _ _ (end_none k0 (by simp [decVecFun, hd0]))
  ·
    rcases rd_case (code_60 dec100_ok) gl hr0 with ⟨h1, e1, k1, hd1⟩ | ⟨a1, l1, x1, h1, e1, k1, hd1, g1, hr1⟩
    · simp [e0, e1, errForm, -pcall, -List.all_eq_true]
      exact hQ _ _ (end_none (k0.trans k1) (by simp [decVecFun, hd0, hd1]))
    ·
      have gc1 := g1.cell
      have gs1 := g1.cells
      have gp1 := g1.pure
      rcases rd_case (ints_ok 0) gl hr1 with ⟨h2, e2, k2, hd2⟩ | ⟨a2, l2, x2, h2, e2, k2, hd2, ⟨g2, es2, hes2⟩, hr2⟩
      · simp [e0, e1, gc1, gs1, e2, errForm, -pcall, -List.all_eq_true]
        exact hQ _ _ (end_none (k0.trans (k1.trans k2)) (by simp [decVecFun, hd0, hd1, hd2]))
      ·
        have gc2 := g2.sl.cell
        have gs2 := g2.sl.cells
        have gp2 := g2.sl.pure
        rcases rd_case (ints_ok 0) gl hr2 with ⟨h3, e3, k3, hd3⟩ | ⟨a3, l3, x3, h3, e3, k3, hd3, ⟨g3, es3, hes3⟩, hr3⟩
        · simp [e0, e1, e2, gc1, gs1, gc2, gs2, e3, errForm, -pcall, -List.all_eq_true]
          exact hQ _ _ (end_none (k0.trans (k1.trans (k2.trans k3))) (by simp [decVecFun, hd0, hd1, hd2, hd3]))
        ·
          have gc3 := g3.sl.cell
          have gs3 := g3.sl.cells
          have gp3 := g3.sl.pure
          simp [e0, e1, e2, e3, gc1, gs1, gc2, gs2, gc3, gs3, -pcall, -List.all_eq_true]
          obtain ⟨es, sl, hall, hsm⟩ := isList_sl g1
          refine hQ _ _ (end_some (a := ⟨a0, a1, a2, a3⟩) (l' := l3) (k0.trans (k1.trans (k2.trans k3))) ?_ ⟨_, rfl, ?_, ?_⟩ hr3)
          · simp [decVecFun, hd0, hd1, hd2, hd3]
          · exact ⟨⟨x1, x2, x3, es, rfl, sl, isTs_of hall, g2, g3⟩, r0, hsm⟩
          · exact ⟨rfl, by simp [gc1, gc2, gc3], by simp [pureL, pureV, gp1, gp2, gp3]⟩

theorem dec59_ok : Rd 59 [.int .i64 60] decProg (fun t x => ∃ cs, x = .agg cs ∧ IsProg t cs ∧ Cells 2 cs) := by
  intro gl p h l hr
  refine call_ofQ (af := Tryd.a59) rfl rfl fun Q hQ => ?_
  simp only [Tryd.a59]
  rcases rd_case (read82 (left := 60) dec83_ok) gl hr with ⟨h0, e0, k0, hd0⟩ | ⟨a0, l0, x0, h0, e0, k0, hd0, g0, hr0⟩
  · simp [e0, errForm, -pcall, -List.all_eq_true]
    exact hQ _ _ (end_none k0 (by simp [decProg, hd0]))
  ·
    have gc0 := g0.cell
    have gs0 := g0.cells
    have gp0 := g0.pure
    rcases rd_case (num_ok) gl hr0 with ⟨h1, e1, k1, hd1⟩ | ⟨a1, l1, x1, h1, e1, k1, hd1, ⟨rfl, r1⟩, hr1⟩
    · simp [e0, gc0, gs0, e1, errForm, -pcall, -List.all_eq_true]
      exact hQ _ _ (end_none (k0.trans k1) (by simp [decProg, hd0, hd1]))
    ·
      simp [e0, e1, gc0, gs0, -pcall, -List.all_eq_true]
      obtain ⟨es, sl, hall, hsm⟩ := isList_sl g0
      refine hQ _ _ (end_some (a := ⟨a0, a1⟩) (l' := l1) (k0.trans k1) ?_ ⟨_, rfl, ?_, ?_⟩ hr1)
      · simp [decProg, hd0, hd1]
      · exact ⟨⟨x0, es, rfl, sl, hall⟩, r1, hsm⟩
      · exact ⟨rfl, by simp [gc0], by simp [pureL, pureV, gp0]⟩

theorem dec62_ok : Rd 62 [.int .i64 60] decVec (fun t x => ∃ cs, x = .agg cs ∧ IsVec t cs ∧ Cells 2 cs) := by
  intro gl p h l hr
  refine call_ofQ (af := Tryd.a62) rfl rfl fun Q hQ => ?_
  simp only [Tryd.a62]
  rcases rd_case (read85 (left := 60) dec86_ok) gl hr with ⟨h0, e0, k0, hd0⟩ | ⟨a0, l0, x0, h0, e0, k0, hd0, g0, hr0⟩
  · simp [e0, errForm, -pcall, -List.all_eq_true]
    exact hQ _ _ (end_none k0 (by simp [decVec, hd0]))
  ·
    have gc0 := g0.cell
    have gs0 := g0.cells
    have gp0 := g0.pure
    rcases rd_case (num_ok) gl hr0 with ⟨h1, e1, k1, hd1⟩ | ⟨a1, l1, x1, h1, e1, k1, hd1, ⟨rfl, r1⟩, hr1⟩
    · simp [e0, gc0, gs0, e1, errForm, -pcall, -List.all_eq_true]
      exact hQ _ _ (end_none (k0.trans k1) (by simp [decVec, hd0, hd1]))
    ·
      simp [e0, e1, gc0, gs0, -pcall, -List.all_eq_true]
      obtain ⟨es, sl, hall, hsm⟩ := isList_sl g0
      refine hQ _ _ (end_some (a := ⟨a0, a1⟩) (l' := l1) (k0.trans k1) ?_ ⟨_, rfl, ?_, ?_⟩ hr1)
      · simp [decVec, hd0, hd1]
      · exact ⟨⟨x0, es, rfl, sl, hall⟩, r1, hsm⟩
      · exact ⟨rfl, by simp [gc0], by simp [pureL, pureV, gp0]⟩

theorem dec65_ok : Rd 65 [.int .i64 60] decLog (fun t x => ∃ cs, x = .agg cs ∧ IsLog t cs ∧ Cells 3 cs) := by
  intro gl p h l hr
  refine call_ofQ (af := Tryd.a65) rfl rfl fun Q hQ => ?_
  simp only [Tryd.a65]
  rcases rd_case (num_ok) gl hr with ⟨h0, e0, k0, hd0⟩ | ⟨a0, l0, x0, h0, e0, k0, hd0, ⟨rfl, r0⟩, hr0⟩
  · simp [e0, errForm, -pcall, -List.all_eq_true]
    exact hQ _ _ (end_none k0 (by simp [decLog, hd0]))
  ·
    rcases rd_case (ints_ok 0) gl hr0 with ⟨h1, e1, k1, hd1⟩ | ⟨a1, l1, x1, h1, e1, k1, hd1, ⟨g1, es1, hes1⟩, hr1⟩
    · simp [e0, e1, errForm, -pcall, -List.all_eq_true]
      exact hQ _ _ (end_none (k0.trans k1) (by simp [decLog, hd0, hd1]))
    ·
      have gc1 := g1.sl.cell
      have gs1 := g1.sl.cells
      have gp1 := g1.sl.pure
      rcases rd_case (ints_ok 0) gl hr1 with ⟨h2, e2, k2, hd2⟩ | ⟨a2, l2, x2, h2, e2, k2, hd2, ⟨g2, es2, hes2⟩, hr2⟩
      · simp [e0, e1, gc1, gs1, e2, errForm, -pcall, -List.all_eq_true]
        exact hQ _ _ (end_none (k0.trans (k1.trans k2)) (by simp [decLog, hd0, hd1, hd2]))
      ·
        have gc2 := g2.sl.cell
        have gs2 := g2.sl.cells
        have gp2 := g2.sl.pure
        simp [e0, e1, e2, gc1, gs1, gc2, gs2, -pcall, -List.all_eq_true]
        refine hQ _ _ (end_some (a := ⟨a0, a1, a2⟩) (l' := l2) (k0.trans (k1.trans k2)) ?_ ⟨_, rfl, ?_, ?_⟩ hr2)
        · simp [decLog, hd0, hd1, hd2]
        · exact ⟨⟨x1, x2, rfl, g1, g2⟩, r0⟩
        · exact ⟨rfl, by simp [gc1, gc2], by simp [pureL, pureV, gp1, gp2]⟩
end Go.Proofs.FileA
/- The program's Kind. -/
set_option linter.unusedVariables false
set_option linter.unusedSimpArgs false
namespace Go.Proofs.FileA
open Go Go.Am
variable {gl : Nat → List V}

theorem be_snoc (k n : Nat) : be (k + 1) n = be k (n / 256) ++ [UInt8.ofNat n] := by
  unfold be
  rw [List.range_succ, List.map_append]
  congr 1
  · apply List.map_congr_left
    intro i hi
    rw [List.mem_range] at hi
    congr 1
    rw [Nat.div_div_eq_div_mul, ← Nat.pow_succ']
    congr 2
    omega
  · simp
theorem beVal_be : ∀ (k n : Nat), n < 256 ^ k → beVal (be k n) = n
  | 0, n, h => by simp at h; subst h; rfl
  | k + 1, n, h => by
    rw [be_snoc, beVal_snoc, beVal_be k (n / 256) (by rw [Nat.pow_succ] at h; omega)]
    simp
    omega
theorem be_beVal : ∀ (k : Nat) (l : L), l.length = k → be k (beVal l) = l
  | 0, l, h => by have : l = [] := List.length_eq_zero_iff.1 h; subst this; rfl
  | k + 1, l, h => by
    obtain ⟨l', b, rfl⟩ : ∃ l' b, l = l' ++ [b] := by
      have hne : l ≠ [] := by intro hh; simp [hh] at h
      exact ⟨l.dropLast, l.getLast hne, (List.dropLast_concat_getLast hne).symm⟩
    have hb := b.toNat_lt
    rw [beVal_snoc, be_snoc]
    have h1 : (beVal l' * 256 + b.toNat) / 256 = beVal l' := by omega
    rw [h1, be_beVal k l' (by simpa using h)]
    congr 2
    apply UInt8.toNat_inj.1
    simp
theorem beVal_iff {l : L} {n k : Nat} (hl : l.length = k) (hn : n < 256 ^ k) : beVal l = n ↔ l = be k n := by
  constructor
  · intro h; rw [← h, be_beVal k l hl]
  · intro h; rw [h, beVal_be k n hn]

theorem or_i64 (n b : Nat) (h : n < 2 ^ 48) (hb : b < 256) : intBin .or .i64 (IntKind.i64.wrap ((n : Int) * 256)) (IntKind.i64.wrap (b : Int)) = some (.int .i64 ((n * 256 + b : Nat) : Int)) := by
  have h1 : IntKind.i64.wrap ((n : Int) * 256) = ((n * 256 : Nat) : Int) := by rw [wrap64 (by omega) (by omega)]; omega
  have h2 : IntKind.i64.wrap (b : Int) = (b : Int) := by rw [wrap64 (by omega) (by omega)]
  rw [h1, h2]
  simp only [intBin, Option.some.injEq, V.int.injEq, true_and]
  have h3 : (BitVec.ofInt IntKind.i64.bits ((n * 256 : Nat) : Int) ||| BitVec.ofInt IntKind.i64.bits (b : Int)).toNat = n * 256 + b := by
    refine (or64 _ _).trans ?_
    have a1 : (((n * 256 : Nat) : Int) % 18446744073709551616).toNat = n <<< 8 := by rw [Nat.shiftLeft_eq]; omega
    have a2 : (((b : Nat) : Int) % 18446744073709551616).toNat = b := by omega
    rw [a1, a2, ← Nat.shiftLeft_add_eq_or_of_lt (show b < 2 ^ 8 by omega) n, Nat.shiftLeft_eq]
  rw [h3, wrap64 (by omega) (by omega)]

theorem u8_ne {b c : UInt8} (h : b ≠ c) : ¬ ((b.toNat : Int) = (c.toNat : Int)) := fun e => h (UInt8.toNat_inj.1 (by omega))

def kindV (l : L) : V := .tup [.int .i64 ((kindOf sumOf l).1 : Nat), .int .i64 (kindOf sumOf l).2]

theorem kind_ok {l : L} {v : V} (hv : SlV (bytesV l) v) : PureV 23 [v] (kindV l) := by
  refine pureV_of (by simp [pureL, hv.pure]) (fun h => by simp [kindV, viewV, viewL]) fun gl => ?_
  have hlv := hv.len
  rw [bytesV_length] at hlv
  unfold kindV kindOf
  refine call_ofQ (af := Tryd.a23) rfl rfl fun Q hQ => ?_
  simp only [Tryd.a23]
  by_cases hlong : 200000 < l.length
  · have hlong' : (200000 : Int) < l.length := by omega
    rw [if_pos hlong] at hQ
    simp [hlv, hlong']
    exact hQ _ _ rfl
  · have hlong' : ¬ (200000 : Int) < l.length := by omega
    rw [if_neg hlong] at hQ
    by_cases h7 : l.length < 7
    · have h7' : (l.length : Int) < 7 := by omega
      rw [if_pos (Or.inl h7)] at hQ
      simp [hlv, hlong', h7', slotOf]
      exact hQ _ _ rfl
    · have h7' : ¬ (l.length : Int) < 7 := by omega
      have i0 := idx_bytes hv (i := 0) (by omega)
      have i1 := idx_bytes hv (i := 1) (by omega)
      have i2 := idx_bytes hv (i := 2) (by omega)
      have g0 : l[0]? = some (l[0]'(by omega)) := List.getElem?_eq_getElem (by omega)
      have g1 : l[1]? = some (l[1]'(by omega)) := List.getElem?_eq_getElem (by omega)
      have g2 : l[2]? = some (l[2]'(by omega)) := List.getElem?_eq_getElem (by omega)
      rw [g0, g1, g2] at hQ
      simp only [Int.natCast_zero, Int.natCast_one] at i0 i1
      have i2 : idxV v 2 1 = some (.pv [.int .u8 (l[2]'(by omega)).toNat]) := i2
      generalize hb0 : l[0]'(by omega) = b0 at *
      generalize hb1 : l[1]'(by omega) = b1 at *
      generalize hb2 : l[2]'(by omega) = b2 at *
      by_cases h83 : b0 = 83
      · have q0 : ((b0.toNat : Nat) : Int) = 83 := by rw [h83]; rfl
        by_cases h119 : b1 = 119
        · have q1 : ((b1.toNat : Nat) : Int) = 119 := by rw [h119]; rfl
          rw [if_neg (by simp [h7, h83, h119])] at hQ
          have hw4 : IntKind.i64.wrap ((l.length : Int) - 4) = ((l.length - 4 : Nat) : Int) := by rw [wrap64 (by omega) (by omega)]; omega
          obtain ⟨v6, e6, s6⟩ := slc_from hv (n := l.length - 4) (by omega) .i64
          obtain ⟨v7, e7, s7⟩ := slc_to hv (n := l.length - 4) (by omega) .i64
          have hl6 : (l.drop (l.length - 4)).length = 4 := by simp; omega
          have hlv6 := s6.len
          rw [bytesV_length, hl6] at hlv6
          have hbs := fun h => bcall_sum (gl := gl) s7 (by simp; omega) h
          have hiff := beVal_iff hl6 (show sumOf (l.take (l.length - 4)) < 256 ^ 4 by have := (sumN_eq (l.take (l.length - 4))).2; omega)
          generalize l.take (l.length - 4) = li at *
          generalize l.drop (l.length - 4) = lb at *
          generalize l.length - 4 = nn at *
          simp only [Option.getD_some] at hQ
          have hlv6' : lenV v6 = some (.int .i64 4) := hlv6
          simp [hlv, hlong', h7', slotOf, i0, i1, q0, q1, hw4, e6, hlv6']
          refine loop_nQ 4 (fun i c => ∃ a5, c = ⟨[v, .int .i64 0, .int .i64 0, .int .i64 nn, .int .i64 (beVal (lb.take i) : Nat), a5, v6, .int .i64 4, .int .i64 i], [], none, none, []⟩) ?_ ⟨_, rfl⟩
          rintro I hI i c hi ⟨a5, rfl⟩
          by_cases hlt : i < 4
          · have hlt' : (i : Int) < 4 := by omega
            have hix := idx_bytes s6 (i := i) (by omega)
            have hw3 : IntKind.i64.wrap ((i : Int) + 1) = ((i + 1 : Nat) : Int) := by rw [wrap64 (by omega) (by omega)]; rfl
            have hti : lb.take (i + 1) = lb.take i ++ [lb[i]'(by omega)] := (List.take_append_getElem (by omega)).symm
            have hbi := beVal_lt (lb.take i)
            have hbi2 : beVal (lb.take i) < 256 ^ 3 := Nat.lt_of_lt_of_le hbi (Nat.pow_le_pow_right (by omega) (by simp; omega))
            have hor := or_i64 (beVal (lb.take i)) (lb[i]'(by omega)).toNat (by omega) (UInt8.toNat_lt _)
            have hq := beVal_snoc (lb.take i) (lb[i]'(by omega))
            rw [← hti] at hq
            rw [← hq] at hor
            generalize (lb[i]'(by omega)).toNat = cc at *
            generalize beVal (lb.take i) = q at *
            simp [hlt', hix, hor, IntKind.bits, intBin_lss, -intBin]
            simp [hlt', hw3]
            exact ⟨hlt, hI _ _ ⟨_, rfl⟩⟩
          · obtain rfl : i = 4 := by omega
            rw [List.take_of_length_le (by omega)]
            by_cases hok : beVal lb = sumOf li
            · have hok' := hiff.1 hok
              rw [if_neg (by simpa using hok')] at hQ
              have hb2w : IntKind.i64.wrap (b2.toNat : Int) = (b2.toNat : Int) := by have := b2.toNat_lt; rw [wrap64 (by omega) (by omega)]
              simp [e7, hbs, hok, i2, hb2w]
              exact hQ _ _ rfl
            · have hok' : lb ≠ be 4 (sumOf li) := fun h => hok (hiff.2 h)
              rw [if_pos hok'] at hQ
              have hok2 : ¬ ((beVal lb : Int) = (sumOf li : Int)) := by omega
              simp [e7, hbs, hok2]
              exact hQ _ _ rfl
        · rw [if_pos (by simp [h119])] at hQ
          have hne : ¬ ((b1.toNat : Int) = 119) := u8_ne h119
          simp [hlv, hlong', h7', slotOf, i0, i1, q0, hne]
          exact hQ _ _ rfl
      · rw [if_pos (by simp [h83])] at hQ
        have hne : ¬ ((b0.toNat : Int) = 83) := u8_ne h83
        have hbn : ((b0.toNat : Int) != 83) = true := by rw [bne_iff_ne]; exact hne
        simp [hlv, hlong', h7', slotOf, i0, hbn]
        exact hQ _ _ rfl
end Go.Proofs.FileA
/- The program's Get of each kind. -/
set_option linter.unusedVariables false
set_option linter.unusedSimpArgs false
namespace Go.Proofs.FileA
open Go Go.Am
variable {gl : Nat → List V}

theorem kindOf_len {l : L} (h : (kindOf sumOf l).2 = 0) : 7 ≤ l.length ∧ l.length ≤ 200000 := by
  unfold kindOf at h
  split at h
  · simp at h
  · split at h
    · simp at h
    · rename_i h1 h2
      have : ¬ l.length < 7 := fun hh => h2 (Or.inl hh)
      omega
theorem kindOf_small (l : L) : (kindOf sumOf l).1 < 256 := by
  unfold kindOf
  split
  · simp
  · split
    · simp
    · split
      · simp
      · exact UInt8.toNat_lt _
theorem kindOf_err (l : L) : 0 ≤ (kindOf sumOf l).2 ∧ (kindOf sumOf l).2 ≤ 15 := by
  unfold kindOf
  split
  · simp
  · split
    · simp
    · split
      · simp
      · simp

mutual
theorem viewV_pure (hp : Heap) : ∀ v : V, pureV v = true → viewV 0 hp v = some v
  | .undef, _ | .bool _, _ | .int _ _, _ | .str _, _ | .nilp, _ | .nils, _ | .nilm, _ | .nilf, _ | .nili, _ | .pv _, _ | .sv _ _, _ => rfl
  | .ref _ _ _, h | .sl _ _ _ _ _ _, h | .map _, h => by simp [pureV] at h
  | .func f fi ca, h => by simp only [pureV, Bool.and_eq_true] at h; simp [viewV, h.1, h.2]
  | .iface t v, h => by simp only [pureV] at h; simp [viewV, viewV_pure hp v h]
  | .agg cs, h => by simp only [pureV] at h; simp [viewV, viewL_pure hp cs h]
  | .tup cs, h => by simp only [pureV] at h; simp [viewV, viewL_pure hp cs h]
theorem viewL_pure (hp : Heap) : ∀ l : List V, pureL l = true → viewL 0 hp l = some l
  | [], _ => rfl
  | v :: vs, h => by simp only [pureL, Bool.and_eq_true] at h; simp [viewL, viewV_pure hp v h.1, viewL_pure hp vs h.2]
end

/-- what a Get returns -/
structure GetEnd {α : Type} (R : α → List V → Prop) (sz : Nat) (zero : List V) (o : Option α × Int) (x : V) : Prop where
  ex : ∃ cs, x = .tup [.agg cs, .int .i64 o.2] ∧ Cells sz cs ∧ (o.1 = none → cs = zero) ∧ ∀ a, o.1 = some a → R a cs
theorem GetEnd.view {α : Type} {R : α → List V → Prop} {sz : Nat} {zero : List V} {o : Option α × Int} {x : V} (h : GetEnd R sz zero o x) (hp : Heap) : viewV 0 hp x = some x := by
  obtain ⟨cs, rfl, hc, _⟩ := h.ex
  have key : ∀ (l : List V), pureL l = true → viewL 0 hp l = some l := by
    intro l
    exact fun h => (viewL_pure hp l h)
  simp [viewV, viewL, key cs hc.pure]

theorem get53 {l : L} {v : V} (hv : SlV (bytesV l) v) (gl : Nat → List V) : CallP gl Tryd.aprog 53 [v, .int .i64 0, .func (.func 54) [] []] [] (fun r h' => ∃ x, r = .ret x ∧ GetEnd (IsT 2 0) 3 [.int .i64 0, .int .i64 0, .nils] (readOf sumOf 0 (decT 2 0 60) l) x) := by
  have hk := kind_ok hv gl
  have hlv := hv.len
  rw [bytesV_length] at hlv
  have hlen := kindOf_len (l := l)
  have hks := kindOf_small l
  have hz : Cells 3 ([.int .i64 0, .int .i64 0, .nils] : List V) := ⟨rfl, rfl, rfl⟩
  unfold kindV at hk
  unfold readOf
  refine call_ofQ (af := Tryd.a53) rfl rfl fun Q hQ => ?_
  simp only [Tryd.a53]
  generalize (kindOf sumOf l).2 = er at *
  generalize (kindOf sumOf l).1 = kn at *
  by_cases her : er = 0
  · subst her
    rw [if_neg (by simp)] at hQ
    obtain ⟨hl7, hl2⟩ := hlen rfl
    by_cases hkn : kn = 0
    · subst hkn
      rw [if_neg (by simp)] at hQ
      have hw4 : IntKind.i64.wrap ((l.length : Int) - 4) = ((l.length - 4 : Nat) : Int) := by rw [wrap64 (by omega) (by omega)]; omega
      obtain ⟨v6, e6, s6⟩ := slc_mid hv (m := 3) (n := l.length - 4) (by omega) (by omega) .i64 .i64
      have e6' : slcV v (some (.int .i64 3)) (some (.int .i64 ((l.length - 4 : Nat) : Int))) none false 1 = some v6 := e6
      have hrst : Rst 1 ((l.take (l.length - 4)).drop 3) [Am.Obj.cells 1 1 [V.int .i64 0], Am.Obj.cells 1 1 [v6]] := ⟨⟨v6, rfl, s6⟩, by simp; omega⟩
      generalize ((l.take (l.length - 4)).drop 3) = body at *
      generalize l.length - 4 = nn at *
      have hcall : Rd 54 [.int .i64 60] (decT 2 0 60) (fun t x => ∃ cs, x = .agg cs ∧ IsT 2 0 t cs ∧ Cells 3 cs) := dec54_ok 60 (by omega)
      rcases rd_case hcall gl hrst with ⟨h1, e1, k1, hd1⟩ | ⟨a, l', x, h1, e1, k1, hd1, ⟨cs, rfl, hR, hC⟩, hr1⟩
      · have h0 : h1[0]? = some (.cells 1 1 [.int .i64 0]) := k1.get 0 (by simp) (by omega)
        have hca := caught_form (gl := gl) 0 h1 _ h0
        have hlt : 0 < h1.length := (List.getElem?_eq_some_iff.1 h0).1
        have hse : ∀ y, (h1.set 0 y)[0]? = some y := fun y => List.getElem?_set_self hlt
        rw [hd1] at hQ
        have e1' : (lim gl Tryd.aprog).call 54 [V.agg [V.ref 1 0 1], V.int .i64 60] [Am.Obj.cells 1 1 [V.int .i64 0], Am.Obj.cells 1 1 [v6]] = some (.pan errForm, h1) := e1
        unfold errForm at e1'
        simp [hk, storeV, objCells, hlv, hw4, e6', fill, s6.cell, s6.cells, e1', forget, AOper.writes, slotOf, hca, hse, -pcall]
        exact hQ _ _ ⟨_, rfl, ⟨⟨_, rfl, hz, fun _ => rfl, fun a h => (by cases h)⟩⟩⟩
      · have h0 : h1[0]? = some (.cells 1 1 [.int .i64 0]) := k1.get 0 (by simp) (by omega)
        have hlt : 0 < h1.length := (List.getElem?_eq_some_iff.1 h0).1
        have hse : ∀ y, (h1.set 0 y)[0]? = some y := fun y => List.getElem?_set_self hlt
        obtain ⟨⟨v8, hv8, s8⟩, hl8⟩ := hr1
        have hlv8 := s8.len
        rw [bytesV_length] at hlv8
        rw [hd1] at hQ
        have e1' : (lim gl Tryd.aprog).call 54 [V.agg [V.ref 1 0 1], V.int .i64 60] [Am.Obj.cells 1 1 [V.int .i64 0], Am.Obj.cells 1 1 [v6]] = some (.ret (.agg cs), h1) := e1
        have hcl := hC.len
        have hcc := hC.cell
        have htk : cs.take 3 = cs := List.take_of_length_le (by omega)
        have hdr : cs.drop 3 = [] := List.drop_of_length_le (by omega)
        cases l' with
        | nil =>
          have hlv8' : lenV v8 = some (.int .i64 0) := hlv8
          have hcn := caught_none (gl := gl) 0 (h1.set 0 (Am.Obj.cells 1 1 [V.int .i64 0]))
          simp [hk, storeV, objCells, hlv, hw4, e6', fill, s6.cell, s6.cells, e1', slotOf, hcl, hcc, htk, hdr, hv8, hlv8', h0, hcn, hse, -pcall, -List.all_eq_true]
          exact hQ _ _ ⟨_, rfl, ⟨⟨cs, rfl, hC, fun h => (by cases h), fun a' h => by cases h; exact hR⟩⟩⟩
        | cons b l' =>
          have hpos : (0 : Int) < ((b :: l').length : Int) := by simp
          have hca := caught_form (gl := gl) 0 h1 _ h0
          generalize ((b :: l').length : Int) = ln at *
          simp [hk, storeV, objCells, hlv, hw4, e6', fill, s6.cell, s6.cells, e1', slotOf, hcl, hcc, htk, hdr, hv8, hlv8, hpos, h0, forget, AOper.writes, hca, hse, -pcall, -List.all_eq_true]
          exact hQ _ _ ⟨_, rfl, ⟨⟨_, rfl, hz, fun _ => rfl, fun a h => (by cases h)⟩⟩⟩
    · rw [if_pos hkn] at hQ
      have hkn' : ¬ ((kn : Int) = 0) := by omega
      simp [hk, storeV, objCells, hkn, hkn', -pcall]
      exact hQ _ _ ⟨_, rfl, ⟨⟨_, rfl, hz, fun _ => rfl, fun a h => (by cases h)⟩⟩⟩
  · rw [if_pos her] at hQ
    simp [hk, storeV, objCells, her, slotOf, -pcall]
    exact hQ _ _ ⟨_, rfl, ⟨⟨_, rfl, hz, fun _ => rfl, fun a h => (by cases h)⟩⟩⟩

theorem pget25 {l : L} {v : V} (hv : SlV (bytesV l) v) (gl : Nat → List V) : ∃ x, pcall (lim gl Tryd.aprog) (.func (.func 25) [] []) [v] = some (.val x) ∧ GetEnd (IsT 2 0) 3 [.int .i64 0, .int .i64 0, .nils] (readOf sumOf 0 (decT 2 0 60) l) x := by
  obtain ⟨r, h', e, x, rfl, hx⟩ := OptP.ex (get53 hv gl)
  have hpc := pcall_of e (by simp [pureL, pureV, hv.pure]) (hx.view h')
  obtain ⟨cs, rfl, hC, hn, hs⟩ := hx.ex
  have hcl := hC.len
  have hcc := hC.cell
  have htk : cs.take 3 = cs := List.take_of_length_le (by omega)
  have hdr : cs.drop 3 = [] := List.drop_of_length_le (by omega)
  have key : CallP gl Tryd.aprog 25 [v] [] (fun r h' => r = .ret (.tup [.agg cs, .int .i64 (readOf sumOf 0 (decT 2 0 60) l).2])) := by
    refine call_ofQ (af := Tryd.a25) rfl rfl fun Q hQ => ?_
    simp only [Tryd.a25]
    simp [hpc, hcl, hcc, htk, hdr, -pcall, -List.all_eq_true]
    exact hQ _ _ rfl
  obtain ⟨r, h2, e2, rfl⟩ := OptP.ex key
  exact ⟨_, pcall_of e2 (by simp [pureL, hv.pure]) (hx.view h2), hx⟩

theorem get58 {l : L} {v : V} (hv : SlV (bytesV l) v) (gl : Nat → List V) : CallP gl Tryd.aprog 58 [v, .int .i64 1, .func (.func 59) [] []] [] (fun r h' => ∃ x, r = .ret x ∧ GetEnd (IsProg) 2 [.nils, .int .i64 0] (readOf sumOf 1 (decProg) l) x) := by
  have hk := kind_ok hv gl
  have hlv := hv.len
  rw [bytesV_length] at hlv
  have hlen := kindOf_len (l := l)
  have hks := kindOf_small l
  have hz : Cells 2 ([.nils, .int .i64 0] : List V) := ⟨rfl, rfl, rfl⟩
  unfold kindV at hk
  unfold readOf
  refine call_ofQ (af := Tryd.a58) rfl rfl fun Q hQ => ?_
  simp only [Tryd.a58]
  generalize (kindOf sumOf l).2 = er at *
  generalize (kindOf sumOf l).1 = kn at *
  by_cases her : er = 0
  · subst her
    rw [if_neg (by simp)] at hQ
    obtain ⟨hl7, hl2⟩ := hlen rfl
    by_cases hkn : kn = 1
    · subst hkn
      rw [if_neg (by simp)] at hQ
      have hw4 : IntKind.i64.wrap ((l.length : Int) - 4) = ((l.length - 4 : Nat) : Int) := by rw [wrap64 (by omega) (by omega)]; omega
      obtain ⟨v6, e6, s6⟩ := slc_mid hv (m := 3) (n := l.length - 4) (by omega) (by omega) .i64 .i64
      have e6' : slcV v (some (.int .i64 3)) (some (.int .i64 ((l.length - 4 : Nat) : Int))) none false 1 = some v6 := e6
      have hrst : Rst 1 ((l.take (l.length - 4)).drop 3) [Am.Obj.cells 1 1 [V.int .i64 0], Am.Obj.cells 1 1 [v6]] := ⟨⟨v6, rfl, s6⟩, by simp; omega⟩
      generalize ((l.take (l.length - 4)).drop 3) = body at *
      generalize l.length - 4 = nn at *
      have hcall : Rd 59 [.int .i64 60] (decProg) (fun t x => ∃ cs, x = .agg cs ∧ IsProg t cs ∧ Cells 2 cs) := dec59_ok
      rcases rd_case hcall gl hrst with ⟨h1, e1, k1, hd1⟩ | ⟨a, l', x, h1, e1, k1, hd1, ⟨cs, rfl, hR, hC⟩, hr1⟩
      · have h0 : h1[0]? = some (.cells 1 1 [.int .i64 0]) := k1.get 0 (by simp) (by omega)
        have hca := caught_form (gl := gl) 0 h1 _ h0
        have hlt : 0 < h1.length := (List.getElem?_eq_some_iff.1 h0).1
        have hse : ∀ y, (h1.set 0 y)[0]? = some y := fun y => List.getElem?_set_self hlt
        rw [hd1] at hQ
        have e1' : (lim gl Tryd.aprog).call 59 [V.agg [V.ref 1 0 1], V.int .i64 60] [Am.Obj.cells 1 1 [V.int .i64 0], Am.Obj.cells 1 1 [v6]] = some (.pan errForm, h1) := e1
        unfold errForm at e1'
        simp [hk, storeV, objCells, hlv, hw4, e6', fill, s6.cell, s6.cells, e1', forget, AOper.writes, slotOf, hca, hse, -pcall]
        exact hQ _ _ ⟨_, rfl, ⟨⟨_, rfl, hz, fun _ => rfl, fun a h => (by cases h)⟩⟩⟩
      · have h0 : h1[0]? = some (.cells 1 1 [.int .i64 0]) := k1.get 0 (by simp) (by omega)
        have hlt : 0 < h1.length := (List.getElem?_eq_some_iff.1 h0).1
        have hse : ∀ y, (h1.set 0 y)[0]? = some y := fun y => List.getElem?_set_self hlt
        obtain ⟨⟨v8, hv8, s8⟩, hl8⟩ := hr1
        have hlv8 := s8.len
        rw [bytesV_length] at hlv8
        rw [hd1] at hQ
        have e1' : (lim gl Tryd.aprog).call 59 [V.agg [V.ref 1 0 1], V.int .i64 60] [Am.Obj.cells 1 1 [V.int .i64 0], Am.Obj.cells 1 1 [v6]] = some (.ret (.agg cs), h1) := e1
        have hcl := hC.len
        have hcc := hC.cell
        have htk : cs.take 2 = cs := List.take_of_length_le (by omega)
        have hdr : cs.drop 2 = [] := List.drop_of_length_le (by omega)
        cases l' with
        | nil =>
          have hlv8' : lenV v8 = some (.int .i64 0) := hlv8
          have hcn := caught_none (gl := gl) 0 (h1.set 0 (Am.Obj.cells 1 1 [V.int .i64 0]))
          simp [hk, storeV, objCells, hlv, hw4, e6', fill, s6.cell, s6.cells, e1', slotOf, hcl, hcc, htk, hdr, hv8, hlv8', h0, hcn, hse, -pcall, -List.all_eq_true]
          exact hQ _ _ ⟨_, rfl, ⟨⟨cs, rfl, hC, fun h => (by cases h), fun a' h => by cases h; exact hR⟩⟩⟩
        | cons b l' =>
          have hpos : (0 : Int) < ((b :: l').length : Int) := by simp
          have hca := caught_form (gl := gl) 0 h1 _ h0
          generalize ((b :: l').length : Int) = ln at *
          simp [hk, storeV, objCells, hlv, hw4, e6', fill, s6.cell, s6.cells, e1', slotOf, hcl, hcc, htk, hdr, hv8, hlv8, hpos, h0, forget, AOper.writes, hca, hse, -pcall, -List.all_eq_true]
          exact hQ _ _ ⟨_, rfl, ⟨⟨_, rfl, hz, fun _ => rfl, fun a h => (by cases h)⟩⟩⟩
    · rw [if_pos hkn] at hQ
      have hkn' : ¬ ((kn : Int) = 1) := by omega
      simp [hk, storeV, objCells, hkn, hkn', -pcall]
      exact hQ _ _ ⟨_, rfl, ⟨⟨_, rfl, hz, fun _ => rfl, fun a h => (by cases h)⟩⟩⟩
  · rw [if_pos her] at hQ
    simp [hk, storeV, objCells, her, slotOf, -pcall]
    exact hQ _ _ ⟨_, rfl, ⟨⟨_, rfl, hz, fun _ => rfl, fun a h => (by cases h)⟩⟩⟩

theorem pget28 {l : L} {v : V} (hv : SlV (bytesV l) v) (gl : Nat → List V) : ∃ x, pcall (lim gl Tryd.aprog) (.func (.func 28) [] []) [v] = some (.val x) ∧ GetEnd (IsProg) 2 [.nils, .int .i64 0] (readOf sumOf 1 (decProg) l) x := by
  obtain ⟨r, h', e, x, rfl, hx⟩ := OptP.ex (get58 hv gl)
  have hpc := pcall_of e (by simp [pureL, pureV, hv.pure]) (hx.view h')
  obtain ⟨cs, rfl, hC, hn, hs⟩ := hx.ex
  have hcl := hC.len
  have hcc := hC.cell
  have htk : cs.take 2 = cs := List.take_of_length_le (by omega)
  have hdr : cs.drop 2 = [] := List.drop_of_length_le (by omega)
  have key : CallP gl Tryd.aprog 28 [v] [] (fun r h' => r = .ret (.tup [.agg cs, .int .i64 (readOf sumOf 1 (decProg) l).2])) := by
    refine call_ofQ (af := Tryd.a28) rfl rfl fun Q hQ => ?_
    simp only [Tryd.a28]
    simp [hpc, hcl, hcc, htk, hdr, -pcall, -List.all_eq_true]
    exact hQ _ _ rfl
  obtain ⟨r, h2, e2, rfl⟩ := OptP.ex key
  exact ⟨_, pcall_of e2 (by simp [pureL, hv.pure]) (hx.view h2), hx⟩

theorem get61 {l : L} {v : V} (hv : SlV (bytesV l) v) (gl : Nat → List V) : CallP gl Tryd.aprog 61 [v, .int .i64 2, .func (.func 62) [] []] [] (fun r h' => ∃ x, r = .ret x ∧ GetEnd (IsVec) 2 [.nils, .int .i64 0] (readOf sumOf 2 (decVec) l) x) := by
  have hk := kind_ok hv gl
  have hlv := hv.len
  rw [bytesV_length] at hlv
  have hlen := kindOf_len (l := l)
  have hks := kindOf_small l
  have hz : Cells 2 ([.nils, .int .i64 0] : List V) := ⟨rfl, rfl, rfl⟩
  unfold kindV at hk
  unfold readOf
  refine call_ofQ (af := Tryd.a61) rfl rfl fun Q hQ => ?_
  simp only [Tryd.a61]
  generalize (kindOf sumOf l).2 = er at *
  generalize (kindOf sumOf l).1 = kn at *
  by_cases her : er = 0
  · subst her
    rw [if_neg (by simp)] at hQ
    obtain ⟨hl7, hl2⟩ := hlen rfl
    by_cases hkn : kn = 2
    · subst hkn
      rw [if_neg (by simp)] at hQ
      have hw4 : IntKind.i64.wrap ((l.length : Int) - 4) = ((l.length - 4 : Nat) : Int) := by rw [wrap64 (by omega) (by omega)]; omega
      obtain ⟨v6, e6, s6⟩ := slc_mid hv (m := 3) (n := l.length - 4) (by omega) (by omega) .i64 .i64
      have e6' : slcV v (some (.int .i64 3)) (some (.int .i64 ((l.length - 4 : Nat) : Int))) none false 1 = some v6 := e6
      have hrst : Rst 1 ((l.take (l.length - 4)).drop 3) [Am.Obj.cells 1 1 [V.int .i64 0], Am.Obj.cells 1 1 [v6]] := ⟨⟨v6, rfl, s6⟩, by simp; omega⟩
      generalize ((l.take (l.length - 4)).drop 3) = body at *
      generalize l.length - 4 = nn at *
      have hcall : Rd 62 [.int .i64 60] (decVec) (fun t x => ∃ cs, x = .agg cs ∧ IsVec t cs ∧ Cells 2 cs) := dec62_ok
      rcases rd_case hcall gl hrst with ⟨h1, e1, k1, hd1⟩ | ⟨a, l', x, h1, e1, k1, hd1, ⟨cs, rfl, hR, hC⟩, hr1⟩
      · have h0 : h1[0]? = some (.cells 1 1 [.int .i64 0]) := k1.get 0 (by simp) (by omega)
        have hca := caught_form (gl := gl) 0 h1 _ h0
        have hlt : 0 < h1.length := (List.getElem?_eq_some_iff.1 h0).1
        have hse : ∀ y, (h1.set 0 y)[0]? = some y := fun y => List.getElem?_set_self hlt
        rw [hd1] at hQ
        have e1' : (lim gl Tryd.aprog).call 62 [V.agg [V.ref 1 0 1], V.int .i64 60] [Am.Obj.cells 1 1 [V.int .i64 0], Am.Obj.cells 1 1 [v6]] = some (.pan errForm, h1) := e1
        unfold errForm at e1'
        simp [hk, storeV, objCells, hlv, hw4, e6', fill, s6.cell, s6.cells, e1', forget, AOper.writes, slotOf, hca, hse, -pcall]
        exact hQ _ _ ⟨_, rfl, ⟨⟨_, rfl, hz, fun _ => rfl, fun a h => (by cases h)⟩⟩⟩
      · have h0 : h1[0]? = some (.cells 1 1 [.int .i64 0]) := k1.get 0 (by simp) (by omega)
        have hlt : 0 < h1.length := (List.getElem?_eq_some_iff.1 h0).1
        have hse : ∀ y, (h1.set 0 y)[0]? = some y := fun y => List.getElem?_set_self hlt
        obtain ⟨⟨v8, hv8, s8⟩, hl8⟩ := hr1
        have hlv8 := s8.len
        rw [bytesV_length] at hlv8
        rw [hd1] at hQ
        have e1' : (lim gl Tryd.aprog).call 62 [V.agg [V.ref 1 0 1], V.int .i64 60] [Am.Obj.cells 1 1 [V.int .i64 0], Am.Obj.cells 1 1 [v6]] = some (.ret (.agg cs), h1) := e1
        have hcl := hC.len
        have hcc := hC.cell
        have htk : cs.take 2 = cs := List.take_of_length_le (by omega)
        have hdr : cs.drop 2 = [] := List.drop_of_length_le (by omega)
        cases l' with
        | nil =>
          have hlv8' : lenV v8 = some (.int .i64 0) := hlv8
          have hcn := caught_none (gl := gl) 0 (h1.set 0 (Am.Obj.cells 1 1 [V.int .i64 0]))
          simp [hk, storeV, objCells, hlv, hw4, e6', fill, s6.cell, s6.cells, e1', slotOf, hcl, hcc, htk, hdr, hv8, hlv8', h0, hcn, hse, -pcall, -List.all_eq_true]
          exact hQ _ _ ⟨_, rfl, ⟨⟨cs, rfl, hC, fun h => (by cases h), fun a' h => by cases h; exact hR⟩⟩⟩
        | cons b l' =>
          have hpos : (0 : Int) < ((b :: l').length : Int) := by simp
          have hca := caught_form (gl := gl) 0 h1 _ h0
          generalize ((b :: l').length : Int) = ln at *
          simp [hk, storeV, objCells, hlv, hw4, e6', fill, s6.cell, s6.cells, e1', slotOf, hcl, hcc, htk, hdr, hv8, hlv8, hpos, h0, forget, AOper.writes, hca, hse, -pcall, -List.all_eq_true]
          exact hQ _ _ ⟨_, rfl, ⟨⟨_, rfl, hz, fun _ => rfl, fun a h => (by cases h)⟩⟩⟩
    · rw [if_pos hkn] at hQ
      have hkn' : ¬ ((kn : Int) = 2) := by omega
      simp [hk, storeV, objCells, hkn, hkn', -pcall]
      exact hQ _ _ ⟨_, rfl, ⟨⟨_, rfl, hz, fun _ => rfl, fun a h => (by cases h)⟩⟩⟩
  · rw [if_pos her] at hQ
    simp [hk, storeV, objCells, her, slotOf, -pcall]
    exact hQ _ _ ⟨_, rfl, ⟨⟨_, rfl, hz, fun _ => rfl, fun a h => (by cases h)⟩⟩⟩

theorem pget30 {l : L} {v : V} (hv : SlV (bytesV l) v) (gl : Nat → List V) : ∃ x, pcall (lim gl Tryd.aprog) (.func (.func 30) [] []) [v] = some (.val x) ∧ GetEnd (IsVec) 2 [.nils, .int .i64 0] (readOf sumOf 2 (decVec) l) x := by
  obtain ⟨r, h', e, x, rfl, hx⟩ := OptP.ex (get61 hv gl)
  have hpc := pcall_of e (by simp [pureL, pureV, hv.pure]) (hx.view h')
  obtain ⟨cs, rfl, hC, hn, hs⟩ := hx.ex
  have hcl := hC.len
  have hcc := hC.cell
  have htk : cs.take 2 = cs := List.take_of_length_le (by omega)
  have hdr : cs.drop 2 = [] := List.drop_of_length_le (by omega)
  have key : CallP gl Tryd.aprog 30 [v] [] (fun r h' => r = .ret (.tup [.agg cs, .int .i64 (readOf sumOf 2 (decVec) l).2])) := by
    refine call_ofQ (af := Tryd.a30) rfl rfl fun Q hQ => ?_
    simp only [Tryd.a30]
    simp [hpc, hcl, hcc, htk, hdr, -pcall, -List.all_eq_true]
    exact hQ _ _ rfl
  obtain ⟨r, h2, e2, rfl⟩ := OptP.ex key
  exact ⟨_, pcall_of e2 (by simp [pureL, hv.pure]) (hx.view h2), hx⟩

theorem get64 {l : L} {v : V} (hv : SlV (bytesV l) v) (gl : Nat → List V) : CallP gl Tryd.aprog 64 [v, .int .i64 3, .func (.func 65) [] []] [] (fun r h' => ∃ x, r = .ret x ∧ GetEnd (IsLog) 3 [.int .i64 0, .nils, .nils] (readOf sumOf 3 (decLog) l) x) := by
  have hk := kind_ok hv gl
  have hlv := hv.len
  rw [bytesV_length] at hlv
  have hlen := kindOf_len (l := l)
  have hks := kindOf_small l
  have hz : Cells 3 ([.int .i64 0, .nils, .nils] : List V) := ⟨rfl, rfl, rfl⟩
  unfold kindV at hk
  unfold readOf
  refine call_ofQ (af := Tryd.a64) rfl rfl fun Q hQ => ?_
  simp only [Tryd.a64]
  generalize (kindOf sumOf l).2 = er at *
  generalize (kindOf sumOf l).1 = kn at *
  by_cases her : er = 0
  · subst her
    rw [if_neg (by simp)] at hQ
    obtain ⟨hl7, hl2⟩ := hlen rfl
    by_cases hkn : kn = 3
    · subst hkn
      rw [if_neg (by simp)] at hQ
      have hw4 : IntKind.i64.wrap ((l.length : Int) - 4) = ((l.length - 4 : Nat) : Int) := by rw [wrap64 (by omega) (by omega)]; omega
      obtain ⟨v6, e6, s6⟩ := slc_mid hv (m := 3) (n := l.length - 4) (by omega) (by omega) .i64 .i64
      have e6' : slcV v (some (.int .i64 3)) (some (.int .i64 ((l.length - 4 : Nat) : Int))) none false 1 = some v6 := e6
      have hrst : Rst 1 ((l.take (l.length - 4)).drop 3) [Am.Obj.cells 1 1 [V.int .i64 0], Am.Obj.cells 1 1 [v6]] := ⟨⟨v6, rfl, s6⟩, by simp; omega⟩
      generalize ((l.take (l.length - 4)).drop 3) = body at *
      generalize l.length - 4 = nn at *
      have hcall : Rd 65 [.int .i64 60] (decLog) (fun t x => ∃ cs, x = .agg cs ∧ IsLog t cs ∧ Cells 3 cs) := dec65_ok
      rcases rd_case hcall gl hrst with ⟨h1, e1, k1, hd1⟩ | ⟨a, l', x, h1, e1, k1, hd1, ⟨cs, rfl, hR, hC⟩, hr1⟩
      · have h0 : h1[0]? = some (.cells 1 1 [.int .i64 0]) := k1.get 0 (by simp) (by omega)
        have hca := caught_form (gl := gl) 0 h1 _ h0
        have hlt : 0 < h1.length := (List.getElem?_eq_some_iff.1 h0).1
        have hse : ∀ y, (h1.set 0 y)[0]? = some y := fun y => List.getElem?_set_self hlt
        rw [hd1] at hQ
        have e1' : (lim gl Tryd.aprog).call 65 [V.agg [V.ref 1 0 1], V.int .i64 60] [Am.Obj.cells 1 1 [V.int .i64 0], Am.Obj.cells 1 1 [v6]] = some (.pan errForm, h1) := e1
        unfold errForm at e1'
        simp [hk, storeV, objCells, hlv, hw4, e6', fill, s6.cell, s6.cells, e1', forget, AOper.writes, slotOf, hca, hse, -pcall]
        exact hQ _ _ ⟨_, rfl, ⟨⟨_, rfl, hz, fun _ => rfl, fun a h => (by cases h)⟩⟩⟩
      · have h0 : h1[0]? = some (.cells 1 1 [.int .i64 0]) := k1.get 0 (by simp) (by omega)
        have hlt : 0 < h1.length := (List.getElem?_eq_some_iff.1 h0).1
        have hse : ∀ y, (h1.set 0 y)[0]? = some y := fun y => List.getElem?_set_self hlt
        obtain ⟨⟨v8, hv8, s8⟩, hl8⟩ := hr1
        have hlv8 := s8.len
        rw [bytesV_length] at hlv8
        rw [hd1] at hQ
        have e1' : (lim gl Tryd.aprog).call 65 [V.agg [V.ref 1 0 1], V.int .i64 60] [Am.Obj.cells 1 1 [V.int .i64 0], Am.Obj.cells 1 1 [v6]] = some (.ret (.agg cs), h1) := e1
        have hcl := hC.len
        have hcc := hC.cell
        have htk : cs.take 3 = cs := List.take_of_length_le (by omega)
        have hdr : cs.drop 3 = [] := List.drop_of_length_le (by omega)
        cases l' with
        | nil =>
          have hlv8' : lenV v8 = some (.int .i64 0) := hlv8
          have hcn := caught_none (gl := gl) 0 (h1.set 0 (Am.Obj.cells 1 1 [V.int .i64 0]))
          simp [hk, storeV, objCells, hlv, hw4, e6', fill, s6.cell, s6.cells, e1', slotOf, hcl, hcc, htk, hdr, hv8, hlv8', h0, hcn, hse, -pcall, -List.all_eq_true]
          exact hQ _ _ ⟨_, rfl, ⟨⟨cs, rfl, hC, fun h => (by cases h), fun a' h => by cases h; exact hR⟩⟩⟩
        | cons b l' =>
          have hpos : (0 : Int) < ((b :: l').length : Int) := by simp
          have hca := caught_form (gl := gl) 0 h1 _ h0
          generalize ((b :: l').length : Int) = ln at *
          simp [hk, storeV, objCells, hlv, hw4, e6', fill, s6.cell, s6.cells, e1', slotOf, hcl, hcc, htk, hdr, hv8, hlv8, hpos, h0, forget, AOper.writes, hca, hse, -pcall, -List.all_eq_true]
          exact hQ _ _ ⟨_, rfl, ⟨⟨_, rfl, hz, fun _ => rfl, fun a h => (by cases h)⟩⟩⟩
    · rw [if_pos hkn] at hQ
      have hkn' : ¬ ((kn : Int) = 3) := by omega
      simp [hk, storeV, objCells, hkn, hkn', -pcall]
      exact hQ _ _ ⟨_, rfl, ⟨⟨_, rfl, hz, fun _ => rfl, fun a h => (by cases h)⟩⟩⟩
  · rw [if_pos her] at hQ
    simp [hk, storeV, objCells, her, slotOf, -pcall]
    exact hQ _ _ ⟨_, rfl, ⟨⟨_, rfl, hz, fun _ => rfl, fun a h => (by cases h)⟩⟩⟩

theorem pget32 {l : L} {v : V} (hv : SlV (bytesV l) v) (gl : Nat → List V) : ∃ x, pcall (lim gl Tryd.aprog) (.func (.func 32) [] []) [v] = some (.val x) ∧ GetEnd (IsLog) 3 [.int .i64 0, .nils, .nils] (readOf sumOf 3 (decLog) l) x := by
  obtain ⟨r, h', e, x, rfl, hx⟩ := OptP.ex (get64 hv gl)
  have hpc := pcall_of e (by simp [pureL, pureV, hv.pure]) (hx.view h')
  obtain ⟨cs, rfl, hC, hn, hs⟩ := hx.ex
  have hcl := hC.len
  have hcc := hC.cell
  have htk : cs.take 3 = cs := List.take_of_length_le (by omega)
  have hdr : cs.drop 3 = [] := List.drop_of_length_le (by omega)
  have key : CallP gl Tryd.aprog 32 [v] [] (fun r h' => r = .ret (.tup [.agg cs, .int .i64 (readOf sumOf 3 (decLog) l).2])) := by
    refine call_ofQ (af := Tryd.a32) rfl rfl fun Q hQ => ?_
    simp only [Tryd.a32]
    simp [hpc, hcl, hcc, htk, hdr, -pcall, -List.all_eq_true]
    exact hQ _ _ rfl
  obtain ⟨r, h2, e2, rfl⟩ := OptP.ex key
  exact ⟨_, pcall_of e2 (by simp [pureL, hv.pure]) (hx.view h2), hx⟩
end Go.Proofs.FileA
