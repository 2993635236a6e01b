/- Arguments, the bridge to a row, running code symbolically. -/
import Derived.Test.YtncbmdeinohnbaaDoorAmCoreC
import Derived.ChangeArms
import Derived.DataReads
import GoSem.ClaimJoined
import Derived.ChangeStays
import Derived.ChangeAt
import Derived.OpenShut
import Derived.RowKit3
import Derived.LaidHandle
/- Arguments: what a datum's value is over a memory of all blocks. -/
set_option linter.unusedVariables false
set_option linter.unusedSimpArgs false
namespace Go.Am

/-- all blocks, as they are -/
def memAll (w : World) : Mem := fun blk => match w.heap[blk]? with
  | some (.cells arr _ _) => some arr
  | _ => none

def G.all (w : World) : G := ⟨memAll w, fun _ _ => none⟩

theorem rep_all (w : World) : Rep (G.all w) [] w := by
  refine ⟨?_, ?_, ?_, ?_, ?_⟩
  · intro blk arr hM
    simp only [G.all, memAll] at hM
    split at hM
    · rename_i a e fz hh
      cases hM
      exact ⟨e, fz, hh⟩
    · cases hM
  · intro b o hb; simp at hb
  · intro b b' o o' blk hb; simp at hb
  · intro b n p hp; simp [G.all] at hp
  · intro b n sz cs m p hb; simp at hb

section
variable {H : Type} {enc : TypeId × Value → H} {P : Program} {w : World} {base : Nat} {spare : Nat → Bool} {held : Bool}

theorem cell_mem {a : Addr} {v : Value} (h : w.cell? a = some v) : a.spot = none ∧ ∃ arr, memAll w a.block = some arr ∧ arr[a.off]? = some v := by
  unfold World.cell? at h
  split at h
  · rename_i c e fz hh
    split at h
    · cases h
    · rename_i hs
      exact ⟨by cases hsp : a.spot <;> simp_all, c, by simp [memAll, hh], h⟩
  · cases h

theorem add_spot (a : Addr) (n : Nat) : (a.add n).block = a.block := by
  unfold Addr.add; split <;> rfl

/-- cells of a value, one behind the other -/
def Elems (w : World) (Q : List V → Prop) (sz : Nat) (es : List (List V)) (xs : List Value) : Prop := RDe (memAll w) sz es xs ∧ ∀ e ∈ es, Q e

/-- a slice -/
theorem rd_slice {t e : TypeId} {fuel : Nat} {cs : List Value} {x : DataW H × List MemPlace} (ht : P.underlying t = some (.slice e)) (hpos : 0 < P.cellsOf e) (h : DataW.trod enc P w base spare held fuel t cs = some x) {Q : List V → Prop}
    (each : ∀ n cs' y, n < fuel → DataW.trod enc P w base spare held n e cs' = some y → ∃ es, Q es ∧ RDs (memAll w) es cs' ∧ ∀ u ∈ cs', Value.oneCell' u = true) :
    ∃ xv v, cs = [xv] ∧ RD (memAll w) v xv ∧ (v = .nils ∨ ∃ ess, v = .sv ess false ∧ ess.length ≤ maxLen ∧ ∀ es ∈ ess, Q es) := by
  rcases DataW.trod_slice ht h with ⟨rfl, _⟩ | ⟨a, len, cap, elems, rest, n, hfuel, rfl, _, hb, hl, hm, hlen, hel, _, _⟩
  · exact ⟨_, .nils, rfl, .nils, .inl rfl⟩
  · refine ⟨.slice (some a) len cap, ?_⟩
    by_cases h0 : len = 0
    · subst h0
      exact ⟨.sv [] false, rfl, .sv [] false (some a) 0 cap rfl (Nat.zero_le _) (by simp) (fun h => absurd h (by omega)) (P.cellsOf e) [] (fun _ _ h => absurd h (by omega)) (by simp) (.nil _), .inr ⟨[], rfl, Nat.zero_le _, by simp⟩⟩
    · have hel0 := hel 0 (by omega)
      have get : ∀ i, i < len → ∃ cs' y, w.cells? base (a.add (i * P.cellsOf e)) (P.cellsOf e) = some cs' ∧ DataW.trod enc P w base spare held n e cs' = some y := by
        intro i hi
        have := hel i hi
        rw [List.getElem?_eq_getElem (by omega)] at this
        rw [Option.bind_eq_some_iff] at this
        obtain ⟨cs', h1, h2⟩ := this
        exact ⟨cs', _, h1, h2⟩
      obtain ⟨cs0, y0, hc0, ht0⟩ := get 0 (by omega)
      obtain ⟨_, hl0, hcell0⟩ := World.cells?_some hc0
      have hc := hcell0 0 hpos
      rw [List.getElem?_eq_getElem (by omega)] at hc
      obtain ⟨hs0, arr, hM, _⟩ := cell_mem hc
      have hM' : memAll w a.block = some arr := by rw [← hM]; simp [add_spot]
      have hsp : a.spot = none := by
        cases hsa : a.spot with
        | none => rfl
        | some s =>
          have : ∀ k, ((a.add k)).spot = a.spot ∨ True := fun k => .inr trivial
          exfalso
          revert hs0
          simp only [Nat.zero_mul]
          unfold Addr.add
          simp [hsa]
      have hadd : ∀ k, a.add k = ⟨a.block, a.off + k, none⟩ := by
        intro k
        obtain ⟨b, o, s⟩ := a
        simp only at hsp
        subst hsp
        exact add_none b o k
      have key : ∀ k i, i + k = len → ∃ ess xs, RDe (memAll w) (P.cellsOf e) ess xs ∧ ess.length = k ∧ (∀ es ∈ ess, Q es) ∧ (∀ u ∈ xs, Value.oneCell' u = true) ∧ xs = (arr.toList.drop (a.off + i * P.cellsOf e)).take (k * P.cellsOf e) ∧ xs.length = k * P.cellsOf e := by
        intro k
        induction k with
        | zero => intro i hi; exact ⟨[], [], .nil _, rfl, by simp, by simp, by simp, by simp⟩
        | succ k ih =>
          intro i hi
          obtain ⟨cs', y, hc', ht'⟩ := get i (by omega)
          obtain ⟨_, hl', hcell'⟩ := World.cells?_some hc'
          obtain ⟨es, hq, hrd, hone⟩ := each n cs' y (by omega) ht'
          obtain ⟨ess, xs, hrde, hle, hqs, hones, hxs, hxl⟩ := ih (i + 1) (by omega)
          have hcs : cs' = (arr.toList.drop (a.off + i * P.cellsOf e)).take (P.cellsOf e) := by
            apply List.ext_getElem?
            intro j
            by_cases hj : j < P.cellsOf e
            · have hcj := hcell' j hj
              rw [hadd] at hcj
              have hcj2 : w.cell? ((⟨a.block, a.off + i * P.cellsOf e, none⟩ : Addr).add j) = some cs'[j] := by rw [hcj, List.getElem?_eq_getElem (by omega)]
              rw [add_none] at hcj2
              obtain ⟨_, arr2, hM2, hget⟩ := cell_mem hcj2
              simp only at hM2
              rw [hM'] at hM2
              cases hM2
              rw [List.getElem?_eq_getElem (by omega), List.getElem?_take_of_lt hj, List.getElem?_drop]
              simpa using hget.symm
            · rw [List.getElem?_eq_none (by omega), List.getElem?_eq_none (by simp; omega)]
          refine ⟨es :: ess, cs' ++ xs, .cons _ es ess cs' xs hl' hrd hrde, by simp [hle], ?_, ?_, ?_, ?_⟩
          · intro e' he'
            rcases List.mem_cons.1 he' with rfl | he'
            · exact hq
            · exact hqs e' he'
          · intro u hu
            rcases List.mem_append.1 hu with hu | hu
            · exact hone u hu
            · exact hones u hu
          · rw [hcs, hxs, Nat.add_mul i, Nat.one_mul, Nat.add_mul k, Nat.one_mul, Nat.add_comm (k * P.cellsOf e), List.take_add, List.drop_drop, Nat.add_assoc]
          · simp [hl', hxl, Nat.add_mul, Nat.add_comm]
      obtain ⟨ess, xs, hrde, hle, hqs, hones, hxs, hxl⟩ := key len 0 (by omega)
      refine ⟨.sv ess false, rfl, ?_, .inr ⟨ess, rfl, by omega, hqs⟩⟩
      refine .sv ess false (some a) len cap hle hl (by simp) (fun _ => ⟨a, arr, rfl, hsp, hM'⟩) (P.cellsOf e) xs (fun ad arr' _ h1 h2 => ?_) hones hrde
      cases h1
      rw [hM'] at h2
      cases h2
      rw [hxl]
      simpa using hxs
end
end Go.Am
/- Arguments: numbers, bytes. -/
set_option linter.unusedVariables false
set_option linter.unusedSimpArgs false
namespace Go.Am
section
variable {H : Type} {enc : TypeId × Value → H} {P : Program} {w : World} {base : Nat} {spare : Nat → Bool} {held : Bool}

theorem rd_int {t : TypeId} {k : IntKind} {fuel : Nat} {cs : List Value} {x : DataW H × List MemPlace} (ht : P.underlying t = some (.int k)) (h : DataW.trod enc P w base spare held fuel t cs = some x) :
    ∃ n, cs = [.int k n] ∧ (Lit.int k n).wf = true := by
  cases fuel with
  | zero => simp [DataW.trod] at h
  | succ fuel =>
    unfold DataW.trod at h
    rw [ht] at h
    split at h <;> simp_all

def bytesV (l : List UInt8) : List (List V) := l.map fun b => [.int .u8 b.toNat]

theorem bytes_of : ∀ (ess : List (List V)), (∀ es ∈ ess, ∃ n : Int, es = [.int .u8 n] ∧ (Lit.int .u8 n).wf = true) → ∃ l, ess = bytesV l
  | [], _ => ⟨[], rfl⟩
  | es :: ess, h => by
    obtain ⟨n, rfl, hw⟩ := h es (by simp)
    obtain ⟨l, rfl⟩ := bytes_of ess (fun e he => h e (by simp [he]))
    have hr : 0 ≤ n ∧ n < 256 := by
      simp [Lit.wf, IntKind.has, IntKind.min, IntKind.max, IntKind.signed, IntKind.bits] at hw
      omega
    refine ⟨UInt8.ofNat n.toNat :: l, ?_⟩
    have : ((UInt8.ofNat n.toNat).toNat : Int) = n := by
      rw [UInt8.toNat_ofNat']
      omega
    show ([V.int .u8 n] :: bytesV l) = [V.int .u8 ((UInt8.ofNat n.toNat).toNat : Int)] :: bytesV l
    rw [this]

theorem rd_bytes {t e : TypeId} {fuel : Nat} {cs : List Value} {x : DataW H × List MemPlace} (ht : P.underlying t = some (.slice e)) (he : P.underlying e = some (.int .u8)) (hc : P.cellsOf e = 1) (h : DataW.trod enc P w base spare held fuel t cs = some x) :
    ∃ xv v, cs = [xv] ∧ RD (memAll w) v xv ∧ (v = .nils ∨ ∃ l, v = .sv (bytesV l) false ∧ l.length ≤ maxLen) := by
  obtain ⟨xv, v, h1, h2, h3⟩ := rd_slice (Q := fun es => ∃ n : Int, es = [.int .u8 n] ∧ (Lit.int .u8 n).wf = true) ht (by omega) h (fun n cs' y _ hy => by
    obtain ⟨m, rfl, hw⟩ := rd_int he hy
    exact ⟨[.int .u8 m], ⟨m, rfl, hw⟩, .cons _ _ _ _ (.int _ _) .nil, by simp; rfl⟩)
  refine ⟨xv, v, h1, h2, ?_⟩
  rcases h3 with rfl | ⟨ess, rfl, hl, hq⟩
  · exact .inl rfl
  · obtain ⟨l, rfl⟩ := bytes_of ess hq
    exact .inr ⟨l, rfl, by simpa [bytesV] using hl⟩
end
end Go.Am
/- Arguments: a package-level table of functions. -/
set_option linter.unusedVariables false
set_option linter.unusedSimpArgs false
namespace Go.Am
theorem fn_of_token {P : Program} {t : TypeId} {v : Value} {tok : List UInt8} (h : funcToken P (t, v) = tok) (hne : tok ≠ []) :
    ∃ f fn, v = .func (.func f) #[] #[] ∧ P.funcs[f]? = some fn ∧ P.funcNamed fn.name = some f ∧ fn.name.toUTF8.data.toList = tok := by
  unfold funcToken at h
  split at h
  · rename_i f first captured heq
    obtain ⟨_, rfl⟩ := Prod.mk.inj heq
    split at h
    · rename_i hemp
      simp only [Bool.and_eq_true, Array.isEmpty_iff] at hemp
      obtain ⟨rfl, rfl⟩ := hemp
      split at h
      · rename_i fn hf
        split at h
        · rename_i hn
          exact ⟨f, fn, rfl, hf, by simpa using hn, h⟩
        · exact absurd h.symm hne
      · exact absurd h.symm hne
    · exact absurd h.symm hne
  · exact absurd h.symm hne

theorem name_of_bytes {a b : String} (h : a.toUTF8.data.toList = b.toUTF8.data.toList) : a = b := by
  have h1 : a.toUTF8 = b.toUTF8 := by
    apply bytes_ext
    exact Array.toList_inj.1 h
  exact String.toByteArray_inj.1 h1
end Go.Am
/- Arguments: the abstract cells of a datum, for all plain types. -/
set_option linter.unusedVariables false
set_option linter.unusedSimpArgs false
namespace Go.Am

mutual
/-- the cells of a datum -/
def dcells {H : Type} : DataW H → List V
  | .lit (.bool b) => [.bool b]
  | .lit (.int k n) => [.int k n]
  | .lit (.string bs) => [.str ⟨bs.toArray⟩]
  | .nil => [.nils]
  | .slice es _ => [.sv (dcellsL es) false]
  | .agg ps => dflat ps
  | _ => []
def dcellsL {H : Type} : List (DataW H) → List (List V)
  | [] => []
  | d :: ds => dcells d :: dcellsL ds
def dflat {H : Type} : List (DataW H) → List V
  | [] => []
  | d :: ds => dcells d ++ dflat ds
end

theorem dcellsL_eq {H : Type} (ds : List (DataW H)) : dcellsL ds = ds.map dcells := by
  induction ds with
  | nil => simp [dcellsL]
  | cons d ds ih => simp [dcellsL, ih]

theorem dflat_eq {H : Type} (ds : List (DataW H)) : dflat ds = (ds.map dcells).flatten := by
  induction ds with
  | nil => simp [dflat]
  | cons d ds ih => simp [dflat, ih]

/-- the form that a datum of a type has -/
def dty {H : Type} (P : Program) : Nat → TypeId → DataW H → Prop
  | 0, _, _ => False
  | n + 1, t, d => match P.underlying t with
    | some .bool => ∃ b, d = .lit (.bool b)
    | some (.int k) => ∃ m, d = .lit (.int k m) ∧ (Lit.int k m).wf = true
    | some .string => ∃ s, d = .lit (.string s) ∧ s.length ≤ maxLen
    | some (.slice e) => d = .nil ∨ ∃ es rest, d = .slice es rest ∧ es.length ≤ maxLen ∧ ∀ x ∈ es, dty P n e x
    | some (.struct fs) => ∃ ps, d = .agg ps ∧ ps.length = fs.size ∧ ∀ (i : Nat) (f : Field) (p : DataW H), fs[i]? = some f → ps[i]? = some p → dty P n f.type p
    | some (.array k e) => ∃ ps, d = .agg ps ∧ ps.length = k ∧ ∀ p ∈ ps, dty P n e p
    | _ => False

/-- a list of types that is closed, of plain kinds, and laid out one behind the other -/
def offsOk (P : Program) : Nat → List Field → Option Nat
  | o, [] => some o
  | o, f :: fs => if f.offset = o then offsOk P (o + P.cellsOf f.type) fs else none

def plainTs (P : Program) (l : List TypeId) : Bool := l.all fun t =>
  match P.underlying t with
  | some .bool | some (.int _) | some .string => P.cellsOf t == 1
  | some (.slice e) => l.contains e && decide (0 < P.cellsOf e) && P.cellsOf t == 1
  | some (.struct fs) => fs.toList.all (fun f => l.contains f.type) && offsOk P 0 fs.toList == some (P.cellsOf t)
  | some (.array n e) => l.contains e && P.cellsOf t == n * P.cellsOf e
  | _ => false

section
variable {H : Type} {enc : TypeId × Value → H} {P : Program} {w : World} {base : Nat} {spare : Nat → Bool} {held : Bool}

structure RdOk (w : World) (vs : List V) (cs : List Value) : Prop where
  rd : RDs (memAll w) vs cs
  one : ∀ u ∈ cs, Value.oneCell' u = true

/-- a slice, its elements being what the data are -/
theorem rd_sliceD {t e : TypeId} {fuel : Nat} {cs : List Value} {x : DataW H × List MemPlace} (ht : P.underlying t = some (.slice e)) (hpos : 0 < P.cellsOf e) (h : DataW.trod enc P w base spare held fuel t cs = some x)
    (each : ∀ n cs' y, n < fuel → DataW.trod enc P w base spare held n e cs' = some y → RdOk w (dcells y.1) cs' ∧ dty P n e y.1) :
    RdOk w (dcells x.1) cs ∧ dty P fuel t x.1 := by
  rcases DataW.trod_slice ht h with ⟨rfl, rfl⟩ | ⟨a, len, cap, elems, rest, n, hfuel, rfl, hx, hb, hl, hm, hlen, hel, _, _⟩
  · refine ⟨⟨.cons _ _ _ _ .nils .nil, by simp; rfl⟩, ?_⟩
    cases fuel with
    | zero => simp [DataW.trod] at h
    | succ n => simp [dty, ht]
  · subst hx
    have hty : dty P fuel t (DataW.slice (elems.map (·.1)) (rest.map (·.1))) := by
      subst hfuel
      simp only [dty, ht]
      refine .inr ⟨_, _, rfl, by simp; omega, fun d hd => ?_⟩
      obtain ⟨y, hy, rfl⟩ := List.mem_map.1 hd
      obtain ⟨i, hi, hiy⟩ := List.mem_iff_getElem.1 hy
      have := hel i (by omega)
      rw [List.getElem?_eq_getElem hi, hiy, Option.bind_eq_some_iff] at this
      obtain ⟨cs', _, h2⟩ := this
      exact (each n cs' y (by omega) h2).2
    refine ⟨?_, hty⟩
    simp only [dcells, dcellsL_eq, List.map_map]
    by_cases h0 : len = 0
    · subst h0
      have : elems = [] := List.length_eq_zero_iff.1 hlen
      subst this
      exact ⟨.cons _ _ _ _ (.sv [] false (some a) 0 cap rfl (Nat.zero_le _) (by simp) (fun h => absurd h (by omega)) (P.cellsOf e) [] (fun _ _ h => absurd h (by omega)) (by simp) (.nil _)) .nil, by simp; rfl⟩
    · have get : ∀ i (hi : i < len), ∃ cs', w.cells? base (a.add (i * P.cellsOf e)) (P.cellsOf e) = some cs' ∧ DataW.trod enc P w base spare held n e cs' = some (elems[i]'(by omega)) := by
        intro i hi
        have := hel i hi
        rw [List.getElem?_eq_getElem (by omega)] at this
        rw [Option.bind_eq_some_iff] at this
        obtain ⟨cs', h1, h2⟩ := this
        exact ⟨cs', h1, h2⟩
      obtain ⟨cs0, hc0, ht0⟩ := get 0 (by omega)
      obtain ⟨_, hl0, hcell0⟩ := World.cells?_some hc0
      have hc := hcell0 0 hpos
      rw [List.getElem?_eq_getElem (by omega)] at hc
      obtain ⟨hs0, arr, hM, _⟩ := cell_mem hc
      have hM' : memAll w a.block = some arr := by rw [← hM]; simp [add_spot]
      have hsp : a.spot = none := by
        cases hsa : a.spot with
        | none => rfl
        | some s =>
          exfalso
          revert hs0
          simp only [Nat.zero_mul]
          unfold Addr.add
          simp [hsa]
      have hadd : ∀ k, a.add k = ⟨a.block, a.off + k, none⟩ := by
        intro k
        obtain ⟨b, o, s⟩ := a
        simp only at hsp
        subst hsp
        exact add_none b o k
      have key : ∀ k i, i + k = len → ∃ xs, RDe (memAll w) (P.cellsOf e) ((elems.drop i).map fun y => dcells y.1) xs ∧ (∀ u ∈ xs, Value.oneCell' u = true) ∧ xs = (arr.toList.drop (a.off + i * P.cellsOf e)).take (k * P.cellsOf e) ∧ xs.length = k * P.cellsOf e := by
        intro k
        induction k with
        | zero => intro i hi; rw [List.drop_of_length_le (by omega)]; exact ⟨[], .nil _, by simp, by simp, by simp⟩
        | succ k ih =>
          intro i hi
          obtain ⟨cs', hc', ht'⟩ := get i (by omega)
          obtain ⟨_, hl', hcell'⟩ := World.cells?_some hc'
          obtain ⟨⟨hrd, hone⟩, _⟩ := each n cs' _ (by omega) ht'
          obtain ⟨xs, hrde, hones, hxs, hxl⟩ := ih (i + 1) (by omega)
          have hcs : cs' = (arr.toList.drop (a.off + i * P.cellsOf e)).take (P.cellsOf e) := by
            apply List.ext_getElem?
            intro j
            by_cases hj : j < P.cellsOf e
            · have hcj := hcell' j hj
              rw [hadd] at hcj
              have hcj2 : w.cell? ((⟨a.block, a.off + i * P.cellsOf e, none⟩ : Addr).add j) = some cs'[j] := by rw [hcj, List.getElem?_eq_getElem (by omega)]
              rw [add_none] at hcj2
              obtain ⟨_, arr2, hM2, hget⟩ := cell_mem hcj2
              simp only at hM2
              rw [hM'] at hM2
              cases hM2
              rw [List.getElem?_eq_getElem (by omega), List.getElem?_take_of_lt hj, List.getElem?_drop]
              simpa using hget.symm
            · rw [List.getElem?_eq_none (by omega), List.getElem?_eq_none (by simp; omega)]
          rw [List.drop_eq_getElem_cons (by omega)]
          refine ⟨cs' ++ xs, .cons _ _ _ cs' xs hl' hrd hrde, ?_, ?_, ?_⟩
          · intro u hu
            rcases List.mem_append.1 hu with hu | hu
            · exact hone u hu
            · exact hones u hu
          · rw [hcs, hxs, Nat.add_mul i, Nat.one_mul, Nat.add_mul k, Nat.one_mul, Nat.add_comm (k * P.cellsOf e), List.take_add, List.drop_drop, Nat.add_assoc]
          · simp [hl', hxl, Nat.add_mul, Nat.add_comm]
      obtain ⟨xs, hrde, hones, hxs, hxl⟩ := key len 0 (by omega)
      refine ⟨.cons _ _ _ _ (.sv _ false (some a) len cap (by simpa using hlen) hl (by simp) (fun _ => ⟨a, arr, rfl, hsp, hM'⟩) (P.cellsOf e) xs (fun ad arr' _ h1 h2 => ?_) hones hrde) .nil, by simp; rfl⟩
      cases h1
      rw [hM'] at h2
      cases h2
      rw [hxl]
      simpa using hxs

theorem RdOk.append {vs us : List V} {xs ys : List Value} (h : RdOk w vs xs) (h' : RdOk w us ys) : RdOk w (vs ++ us) (xs ++ ys) :=
  ⟨h.rd.append h'.rd, fun u hu => (List.mem_append.1 hu).elim (h.one u) (h'.one u)⟩

theorem rd_fields (n : Nat) (cs : List Value) : ∀ (fs : List Field) (xs : List (DataW H × List MemPlace)) (o m : Nat), offsOk P o fs = some m → m ≤ cs.length → xs.length = fs.length →
    (∀ (i : Nat) (f : Field), fs[i]? = some f → DataW.trod enc P w base spare held n f.type ((cs.drop f.offset).take (P.cellsOf f.type)) = xs[i]?) →
    (∀ f ∈ fs, ∀ cs' y, DataW.trod enc P w base spare held n f.type cs' = some y → RdOk w (dcells y.1) cs' ∧ dty P n f.type y.1) →
    o ≤ m ∧ RdOk w (dflat (xs.map (·.1))) ((cs.drop o).take (m - o))
  | [], xs, o, m, ho, hm, hl, hx, each => by
    simp [offsOk] at ho
    subst ho
    have : xs = [] := List.length_eq_zero_iff.1 (by simpa using hl)
    subst this
    exact ⟨Nat.le_refl _, by simp [dflat]; exact ⟨.nil, by simp⟩⟩
  | f :: fs, xs, o, m, ho, hm, hl, hx, each => by
    simp only [offsOk] at ho
    split at ho
    · rename_i hoff
      cases xs with
      | nil => simp at hl
      | cons x xs =>
        have h0 := hx 0 f rfl
        simp only [List.getElem?_cons_zero] at h0
        obtain ⟨hle, ih⟩ := rd_fields n cs fs xs _ m ho hm (by simpa using hl) (fun i g hg => by simpa using hx (i + 1) g (by simpa using hg)) (fun g hg => each g (by simp [hg]))
        have h1 := (each f (by simp) _ _ h0).1
        rw [hoff] at h1
        refine ⟨by omega, ?_⟩
        simp only [List.map_cons, dflat]
        have e : (cs.drop o).take (m - o) = (cs.drop o).take (P.cellsOf f.type) ++ (cs.drop (o + P.cellsOf f.type)).take (m - (o + P.cellsOf f.type)) := by
          have h2 : m - o = P.cellsOf f.type + (m - (o + P.cellsOf f.type)) := by omega
          have h3 := List.take_add (l := cs.drop o) (i := P.cellsOf f.type) (j := m - (o + P.cellsOf f.type))
          rw [← h2, List.drop_drop] at h3
          exact h3
        rw [e]
        exact h1.append ih
    · cases ho

theorem trod_array {t e : TypeId} {k fuel : Nat} {cs : List Value} {x : DataW H × List MemPlace} (ht : P.underlying t = some (.array k e)) (h : DataW.trod enc P w base spare held fuel t cs = some x) :
    ∃ (xs : List (DataW H × List MemPlace)) (n : Nat), fuel = n + 1 ∧ x = (.agg (xs.map (·.1)), xs.flatMap (·.2)) ∧ cs.length = P.cellsOf t ∧
      (List.range k).mapM (fun i => DataW.trod enc P w base spare held n e ((cs.drop (i * P.cellsOf e)).take (P.cellsOf e))) = some xs := by
  cases fuel with
  | zero => simp [DataW.trod] at h
  | succ n =>
    unfold DataW.trod at h
    rw [ht] at h
    split at h <;> simp_all
    obtain ⟨_, xs, hp, hd⟩ := h
    exact ⟨xs, hd.symm, hp⟩

theorem rd_plain {l : List TypeId} (hl : plainTs P l = true) : ∀ (fuel : Nat) (t : TypeId) (cs : List Value) (x : DataW H × List MemPlace), t ∈ l → DataW.trod enc P w base spare held fuel t cs = some x →
    RdOk w (dcells x.1) cs ∧ dty P fuel t x.1 := by
  intro fuel
  induction fuel using Nat.strongRecOn with
  | _ fuel ih =>
    intro t cs x ht h
    have hk := List.all_eq_true.1 hl t ht
    cases fuel with
    | zero => simp [DataW.trod] at h
    | succ n =>
      split at hk
      · rename_i hu
        obtain ⟨b, rfl, rfl⟩ := DataW.trod_bool hu h
        exact ⟨⟨.cons _ _ _ _ (.bool b) .nil, by simp; rfl⟩, by simp only [dty, hu]; exact ⟨b, rfl⟩⟩
      · rename_i k hu
        obtain ⟨m, rfl, rfl, hw⟩ := DataW.trod_int hu h
        exact ⟨⟨.cons _ _ _ _ (.int _ _) .nil, by simp; rfl⟩, by simp only [dty, hu]; exact ⟨m, rfl, hw⟩⟩
      · rename_i hu
        obtain ⟨s, rfl, rfl, hs⟩ := DataW.trod_string hu h
        refine ⟨⟨?_, by simp; rfl⟩, by simp only [dty, hu]; exact ⟨_, rfl, by simpa using hs⟩⟩
        simp only [dcells]
        have : (⟨s.data.toList.toArray⟩ : ByteArray) = s := by cases s; simp
        rw [this]
        exact .cons _ _ _ _ (.str s) .nil
      · rename_i e hu
        simp only [Bool.and_eq_true, decide_eq_true_eq, List.contains_eq_mem] at hk
        exact rd_sliceD hu hk.1.2 h (fun m cs' y hm hy => ih m hm e cs' y hk.1.1 hy)
      · rename_i fs hu
        simp only [Bool.and_eq_true, List.all_eq_true, List.contains_eq_mem, decide_eq_true_eq, beq_iff_eq] at hk
        obtain ⟨xs, m, hm, rfl, hlen, hxl, hx⟩ := DataW.trod_struct hu h
        obtain rfl : n = m := by omega
        have each : ∀ f ∈ fs.toList, ∀ cs' y, DataW.trod enc P w base spare held n f.type cs' = some y → RdOk w (dcells y.1) cs' ∧ dty P n f.type y.1 :=
          fun f hf cs' y hy => ih n (by omega) f.type cs' y (hk.1 f hf) hy
        have := rd_fields n cs fs.toList xs 0 (P.cellsOf t) hk.2 (by omega) (by simpa using hxl) (fun i f hf => hx i f (by simpa using hf)) each
        refine ⟨?_, ?_⟩
        · simp only [dcells]
          simpa [← hlen] using this.2
        · simp only [dty, hu]
          refine ⟨_, rfl, by simpa using hxl, fun i f p hf hp => ?_⟩
          have h1 := hx i f hf
          rw [List.getElem?_map, Option.map_eq_some_iff] at hp
          obtain ⟨y, hy, rfl⟩ := hp
          rw [hy] at h1
          exact (each f (by rw [Array.mem_toList_iff]; exact Array.mem_of_getElem? hf) _ _ h1).2
      · rename_i k e hu
        simp only [Bool.and_eq_true, List.contains_eq_mem, decide_eq_true_eq, beq_iff_eq] at hk
        obtain ⟨xs, m, hm, rfl, hlen, hxs⟩ := trod_array hu h
        obtain rfl : n = m := by omega
        rw [hk.2] at hlen
        have hxl : xs.length = k := by simpa using mapM_some_length hxs
        have hx : ∀ i, i < k → DataW.trod enc P w base spare held n e ((cs.drop (i * P.cellsOf e)).take (P.cellsOf e)) = xs[i]? := fun i hi => mapM_some_get hxs i i (by simp [hi])
        have each : ∀ cs' y, DataW.trod enc P w base spare held n e cs' = some y → RdOk w (dcells y.1) cs' ∧ dty P n e y.1 :=
          fun cs' y hy => ih n (by omega) e cs' y hk.1 hy
        have key : ∀ j i, i + j = k → RdOk w (dflat ((xs.drop i).map (·.1))) (cs.drop (i * P.cellsOf e)) := by
          intro j
          induction j with
          | zero =>
            intro i hi
            rw [List.drop_of_length_le (by omega), List.drop_of_length_le (by rw [hlen, ← hi]; simp)]
            exact ⟨.nil, by simp⟩
          | succ j ihj =>
            intro i hi
            have h1 := hx i (by omega)
            rw [List.getElem?_eq_getElem (by omega)] at h1
            have h2 := (each _ _ h1).1
            have h3 := ihj (i + 1) (by omega)
            rw [List.drop_eq_getElem_cons (by omega)]
            simp only [List.map_cons, dflat]
            have e1 : cs.drop (i * P.cellsOf e) = (cs.drop (i * P.cellsOf e)).take (P.cellsOf e) ++ cs.drop ((i + 1) * P.cellsOf e) := by
              rw [Nat.add_mul, Nat.one_mul, ← List.drop_drop, List.take_append_drop]
            rw [e1]
            exact h2.append h3
        refine ⟨by simpa [dcells] using key k 0 (by omega), ?_⟩
        simp only [dty, hu]
        refine ⟨_, rfl, by simpa using hxl, fun p hp => ?_⟩
        obtain ⟨y, hy, rfl⟩ := List.mem_map.1 hp
        obtain ⟨i, hi, rfl⟩ := List.mem_iff_getElem.1 hy
        have h1 := hx i (by omega)
        rw [List.getElem?_eq_getElem hi] at h1
        exact (each _ _ h1).2
      · cases hk
end
end Go.Am
/- The bridge: from a run of the abstract machine that gives true to what a law's row asks. -/
set_option linter.unusedVariables false
set_option linter.unusedSimpArgs false
namespace Go.Am
open Go.ChangeShapes Go.WideShapes Go.ChangeAt Go.RowKit

def isAggT (P : Program) (t : TypeId) : Bool := match P.underlying t with
  | some (.struct _) | some (.array _ _) => true
  | _ => false

/-- an argument -/
def darg {H : Type} (P : Program) (t : TypeId) (d : DataW H) : V := if isAggT P t then .agg (dcells d) else (dcells d).headD .undef

/-- the arguments -/
def dargs {H : Type} (P : Program) : List TypeId → List (DataW H) → List V
  | t :: ts, d :: ds => darg P t d :: dargs P ts ds
  | _, _ => []

section
variable {H : Type} {enc : TypeId × Value → H} {P : Program} {w : World}

theorem rv_arg {l : List TypeId} (hl : plainTs P l = true) {t : TypeId} (ht : t ∈ l) {r : Reach} {b0 : Nat} {v : Value} (hval : Value.okWide P w r b0 t v) {d : DataW H} {ps : List MemPlace} {base : Nat} {spare : Nat → Bool} {held : Bool}
    (h : DataW.Trod enc P w base spare held t v d ps) : RV (G.all w) (darg P t d) v ∧ ∃ n, dty P n t d := by
  obtain ⟨fuel, hf⟩ := h
  obtain ⟨hr, hd⟩ := rd_plain hl fuel t _ _ ht hf
  refine ⟨?_, fuel, hd⟩
  have hk := List.all_eq_true.1 hl t ht
  unfold darg isAggT
  simp only [Value.okWide] at hval
  cases hu : P.underlying t with
  | none => rw [hu] at hk; simp at hk
  | some u =>
    rw [hu] at hval hk
    cases u with
    | struct fs =>
      obtain ⟨cs, rfl, _⟩ := hval
      simp only [if_true]
      exact .d _ _ (.agg _ _ (by simpa [Value.cells, G.all] using hr.rd))
    | array n e =>
      obtain ⟨cs, rfl, _⟩ := hval
      simp only [if_true]
      exact .d _ _ (.agg _ _ (by simpa [Value.cells, G.all] using hr.rd))
    | bool | int | string | slice =>
      have hne : ∀ cs, v ≠ .agg cs := by
        rintro cs rfl
        simp [Cell.okWide, Cell.ok, hu] at hval
      have hc : v.cells.toList = [v] := by
        cases v <;> simp [Value.cells]
        exact absurd rfl (hne _)
      simp only [Bool.false_eq_true, if_false]
      have := hr.rd
      rw [hc] at this
      generalize dcells d = vs at this
      cases this with
      | cons a as _ _ h1 h2 => exact .d _ _ h1
    | _ => simp at hk

theorem rv_args {l : List TypeId} (hl : plainTs P l = true) {r : Reach} {b0 : Nat} {base : Nat} {spare : Nat → Bool} {held : Bool} : ∀ {ts : List TypeId} {vs : List Value} {ds : List (DataW H)} {ps : List MemPlace}, (∀ t ∈ ts, t ∈ l) →
    (∀ (j : Nat) t v, ts[j]? = some t → vs[j]? = some v → Value.okWide P w r b0 t v) → DataW.TrodAll enc P w base spare held ts vs ds ps →
    RVs (G.all w) (dargs P ts ds) vs ∧ ds.length = ts.length ∧ ∀ (j : Nat) t d, ts[j]? = some t → ds[j]? = some d → ∃ n, dty P n t d
  | [], [], [], _, _, _, _ => ⟨.nil, rfl, by simp⟩
  | t :: ts, v :: vs, d :: ds, _, ht, hv, ⟨p, q, h, hs, _⟩ => by
    obtain ⟨h1, h2⟩ := rv_arg hl (ht t (by simp)) (hv 0 t v rfl rfl) h
    obtain ⟨h3, h4, h5⟩ := rv_args hl (ts := ts) (fun t' h' => ht t' (by simp [h'])) (fun j t' v' a b => hv (j + 1) t' v' (by simpa using a) (by simpa using b)) hs
    refine ⟨.cons _ _ _ _ h1 h3, by simp [h4], fun j t' d' a b => ?_⟩
    cases j with
    | zero => simp at a b; subst a; subst b; exact h2
    | succ j => exact h5 j t' d' (by simpa using a) (by simpa using b)

/-- plain types alone are a set of types that is closed -/
theorem kids_plain {l : List TypeId} (hl : plainTs P l = true) (hlay : laidOutB P = true) (hm : mapsRowed P = true) (hlt : l.all (· < P.types.size) = true) : Kids P (· ∈ l) := by
  have K := kids_rows hlay hm
  have lt : ∀ {t}, t ∈ l → t < P.types.size := fun h => by simpa using List.all_eq_true.1 hlt _ h
  have kk : ∀ {t}, t ∈ l → _ := fun {t} h => List.all_eq_true.1 hl t h
  refine ⟨?_, ?_, ?_, ?_, ?_⟩
  · intro t e ht hu; have := kk ht; rw [hu] at this; simp at this
  · intro t e ht hu; have := kk ht; rw [hu] at this; simp at this; exact this.1.1
  · intro t e n ht hu; have := kk ht; rw [hu] at this; simp at this; exact this
  · intro t fs ht hu
    have h1 := kk ht
    rw [hu] at h1
    simp only [Bool.and_eq_true, List.all_eq_true, List.contains_eq_mem, decide_eq_true_eq] at h1
    obtain ⟨_, h2, h3⟩ := K.struct (lt ht) hu
    exact ⟨h1.1, h2, h3⟩
  · intro t k e ht hu; have := kk ht; rw [hu] at this; simp at this

theorem stay_all {T : TypeId → Prop} (K : Kids P T) (hsz : ∀ {t e : TypeId}, T t → P.underlying t = some (.slice e) → 0 < P.cellsOf e) {w' : World} {base : Nat} {sp' : Nat → Bool} :
    ∀ {ts : List TypeId} {vs : List Value} {ds : List (DataW H)} {ps : List MemPlace}, (∀ t ∈ ts, T t) → DataW.TrodAll enc P w base (fun _ => true) true ts vs ds ps → (∀ p ∈ ps, w.sameAt w' p) → (∀ p ∈ ps, sp' p.block = true) →
      DataW.TrodAll enc P w' base sp' true ts vs ds ps
  | [], [], [], _, _, h, _, _ => h
  | t :: ts, v :: vs, d :: ds, _, ht, ⟨p, q, ⟨n, h⟩, hs, e⟩, h1, h2 => by
    subst e
    refine ⟨p, q, ⟨n, ?_⟩, stay_all K hsz (fun t' h' => ht t' (by simp [h'])) hs (fun a ha => h1 a (by simp [ha])) (fun a ha => h2 a (by simp [ha])), rfl⟩
    exact DataW.trod_stays K hsz (fun h => by cases h) (ht t (by simp)) h (fun a ha => h1 a (by simp at ha; simp [ha])) (fun a ha => h2 a (by simp at ha; simp [ha]))

theorem sameAt_frame {w' : World} (hf : Frame (fun _ => False) w w') {p : MemPlace} (hp : p.block < w.heap.size) : w.sameAt w' p := by
  cases p with
  | cell b off => simp only [World.sameAt, World.cell?, hf.block b hp (fun h => h)]
  | map b => exact hf.block b hp (fun h => h)
end

section
variable {H : Type} {enc : TypeId × Value → H} {P : Program} {gl : Nat → List V} {gs : List Nat} {A : Nat → Option AFunc} {W0 : World}

/-- A LAW: a run of the machine without fuel that gives true is what the row asks -/
theorem law_of_run (hprog : ProgOK P gs W0 A) {f : FuncId} {fn : Func} (s : ChangeSpec) {l : List TypeId} (hl : plainTs P l = true) (hlay : laidOutB P = true) (hm : mapsRowed P = true) (hlt : l.all (· < P.types.size) = true)
    (hts : fn.params.toList.all (l.contains ·) = true) {tb : TypeId} (hres : fn.resultTypes = #[tb]) (hb : P.underlying tb = some .bool) (hvars : s.vars = [])
    {W : World} {base : Nat} {args : Array Value} {ds gs' : List (DataW H)} {before : List MemPlace}
    (hval : ∀ (j : Nat) t v, fn.params[j]? = some t → args[j]? = some v → Value.okWide P W .any base t v)
    (hW : DataW.Whole enc P fn.params.toList s.vars false W args.toList ds gs' before) (hgl : GlOk gl gs (memAll W))
    (hs : s.fn H ds = { results := [.lit (.bool true)], args := ds })
    (hrun : ds.length = fn.params.size → (∀ (j : Nat) t d, fn.params[j]? = some t → ds[j]? = some d → ∃ n, dty P n t d) → ∃ h', (lim gl A).call f (dargs P fn.params.toList ds) [] = some (.ret (.bool true), h')) :
    Calls P f args W fun e W' => ∃ v, e = .returned v ∧ s.post enc P fn false true false false W args v W' := by
  have hW' := hW
  obtain ⟨p, q, hA, hV, rfl, hfz, hnd⟩ := hW
  rw [hvars] at hV
  obtain ⟨rfl, rfl⟩ := trodVars_none hV
  have hmem : ∀ t ∈ fn.params.toList, t ∈ l := fun t ht => by simpa using List.all_eq_true.1 hts t ht
  obtain ⟨hrv, hlen, hty⟩ := rv_args hl hmem (fun j t v a b => hval j t v (by simpa using a) (by simpa using b)) hA
  obtain ⟨h', hlim⟩ := hrun (by simpa using hlen) (fun j t d a b => hty j t d (by simpa using a) b)
  obtain ⟨n, hn⟩ := lim_run gl A hlim
  refine (run_calls hprog hn (rep_all W) hgl hrv).mono fun e W' hpost => ?_
  cases e with
  | panicked ch => obtain ⟨v, x, g', h1, _⟩ := hpost; cases h1
  | outgrown => exact hpost.elim
  | returned x =>
    obtain ⟨v, g', h1, h2, h3⟩ := hpost
    cases h1
    obtain rfl := h2.bool_inv
    have hfr := h3.frame_nil
    simp only [List.append_nil] at hW'
    have K := kids_plain hl hlay hm hlt
    have hsz : ∀ {t e : TypeId}, t ∈ l → P.underlying t = some (.slice e) → 0 < P.cellsOf e := fun {t e} ht hu => by
      have := List.all_eq_true.1 hl t ht
      rw [hu] at this
      simp at this
      exact this.1.2
    have hlt' := hW'.lt
    refine ⟨_, rfl, post_of_frame (pa := p) (pv := []) hW' ?_ ?_ ?_ (by simp) (frame_kept hfr _) (frame_frozen hfr) (ok_one hres rfl (okWide_bool_mk hb true))⟩
    · intro b sp hd
      rw [List.append_nil, hs, hres]
      exact trodAll_cons_mk (shut_bool hb true) trodAll_mk0
    · intro sp hsp
      rw [List.append_nil, hs]
      exact stay_all K hsz hmem hA (fun a ha => sameAt_frame hfr (hlt' a ha)) hsp
    · intro sp hsp
      rw [List.append_nil, hs, hvars]
      rfl
end
end Go.Am
/- The bridge: a package-level table of functions, and which functions it holds. -/
set_option linter.unusedVariables false
set_option linter.unusedSimpArgs false
namespace Go.Am

theorem tab_cells {P : Program} {w : World} {base : Nat} {t e : TypeId} {n fuel : Nat} {cs : List Value} {toks : List (List UInt8)} {p : List MemPlace} (ht : P.underlying t = some (.array n e))
    (he : ∃ a b c, P.underlying e = some (.func a b c)) (hce : P.cellsOf e = 1) (hct : P.cellsOf t = n) (h : DataW.trod (funcToken P) P w base (fun _ => true) true fuel t cs = some (.agg (toks.map DataW.held), p)) (hne : ∀ tok ∈ toks, tok ≠ []) :
    cs.length = toks.length ∧ ∀ (i : Nat) (tok : List UInt8), toks[i]? = some tok → ∃ f fn, cs[i]? = some (Value.func (.func f) #[] #[]) ∧ P.funcs[f]? = some fn ∧ P.funcNamed fn.name = some f ∧ fn.name.toUTF8.data.toList = tok := by
  obtain ⟨a, b, c, he⟩ := he
  obtain ⟨xs, m, rfl, hh, hlen, hxs⟩ := trod_array ht h
  · simp only [Prod.mk.injEq, DataW.agg.injEq] at hh
    obtain ⟨h1, h2⟩ := hh
    have h1 := h1.symm
    rw [hct] at hlen
    have hxl : xs.length = n := by simpa using mapM_some_length hxs
    have htl : toks.length = n := by
      have := congrArg List.length h1
      simpa [hxl] using this.symm
    refine ⟨by omega, fun i tok hi => ?_⟩
    have hlt : i < n := by
      have := (List.getElem?_eq_some_iff.1 hi).1
      omega
    have hx : DataW.trod (funcToken P) P w base (fun _ => true) true m e ((cs.drop (i * 1)).take 1) = xs[i]? := by
      have := mapM_some_get hxs i i (by simp [hlt])
      simpa [hce] using this
    have hxi : xs[i]?.map (·.1) = some (DataW.held tok) := by
      have := congrArg (·[i]?) h1
      simp only [List.getElem?_map] at this
      rw [this]
      simp [hi]
    rw [Option.map_eq_some_iff] at hxi
    obtain ⟨y, hy, hy1⟩ := hxi
    rw [hy, Nat.mul_one] at hx
    have hci : (cs.drop i).take 1 = [cs[i]'(by omega)] := by
      rw [List.drop_eq_getElem_cons (by omega), List.take_succ_cons, List.take_zero]
    rw [hci] at hx
    have hnt := hne tok (List.mem_of_getElem? hi)
    cases m with
    | zero => simp [DataW.trod] at hx
    | succ m =>
      unfold DataW.trod at hx
      rw [he] at hx
      split at hx
      all_goals first | (cases hx; done) | (injections; done) | (simp only [Option.some.injEq] at hx; subst hx; simp only at hy1; cases hy1; done) | skip
      rename_i fn first captured _ hh
      simp only [if_true, Option.some.injEq] at hx
      subst hx
      simp only at hy1
      have htok : funcToken P (e, .func fn first captured) = tok := by cases hy1; rfl
      obtain ⟨f, fn', h3, h4, h5, h6⟩ := fn_of_token htok hnt
      refine ⟨f, fn', ?_, h4, h5, h6⟩
      rw [List.getElem?_eq_getElem (by omega)]
      have : cs[i]'(by omega) = .func fn first captured := by simpa using hh
      rw [this, h3]

theorem rds_funcs {M : Mem} : ∀ (ks : List Nat) (cs : List Value), cs.length = ks.length → (∀ (i k : Nat), ks[i]? = some k → cs[i]? = some (Value.func (.func k) #[] #[])) → RDs M (ks.map fun k => V.func (.func k) [] []) cs
  | [], [], _, _ => .nil
  | k :: ks, c :: cs, hl, h => by
    have h0 := h 0 k rfl
    simp only [List.getElem?_cons_zero, Option.some.injEq] at h0
    subst h0
    exact .cons _ _ _ _ (.func _ _ _ _ _ .nil .nil) (rds_funcs ks cs (by simpa using hl) (fun i k' h' => by simpa using h (i + 1) k' (by simpa using h')))
  | [], _ :: _, hl, _ => by simp at hl
  | _ :: _, [], hl, _ => by simp at hl

/-- a table of functions in the list of what is laid -/
theorem glOk_tab {P : Program} {w : World} {name : String} {d : DataW Unit} {nms : List (String × Nat)} {g t e n : Nat} (hg : P.globalNamed name = some g) (hty : (P.globals[g]?).map (·.type) = some t) (ht : P.underlying t = some (.array n e))
    (he : ∃ a b c, P.underlying e = some (.func a b c)) (hce : P.cellsOf e = 1) (hct : P.cellsOf t = n) (h : funcsAt P w name d)
    (hd : d.funcsOut = .agg ((nms.map fun x => x.1.toUTF8.data.toList).map DataW.held)) (hne : ∀ x ∈ nms, x.1.toUTF8.data.toList ≠ []) (hnm : ∀ x ∈ nms, P.funcNamed x.1 = some x.2) :
    GlOk (fun _ => nms.map fun x => V.func (.func x.2) [] []) [g] (memAll w) := by
  obtain ⟨g', t', cs, fuel, p, h1, h2, h3, h4⟩ := h
  obtain rfl := Option.some.inj (hg.symm.trans h1)
  obtain rfl := Option.some.inj (hty.symm.trans h2)
  rw [hd] at h4
  obtain ⟨hl, hc⟩ := tab_cells ht he hce hct h4 (fun tok ht' => by obtain ⟨x, hx, rfl⟩ := List.mem_map.1 ht'; exact hne x hx)
  intro n' hn'
  obtain rfl : n' = g := by simpa using hn'
  refine ⟨cs, ?_, ?_⟩
  · simp only [World.var?, hg, Option.bind_some] at h3
    simp only [memAll]
    split at h3
    · rename_i cs' _ _ hh; cases h3; rw [hh]
    · cases h3
  · have := rds_funcs (M := memAll w) (nms.map (·.2)) cs.toList (by simpa using hl) (fun i k hk => by
      rw [List.getElem?_map, Option.map_eq_some_iff] at hk
      obtain ⟨x, hx, rfl⟩ := hk
      obtain ⟨f, fn, h5, h6, h7, h8⟩ := hc i x.1.toUTF8.data.toList (by simp [hx])
      have hn := name_of_bytes h8
      rw [hn, hnm x (List.mem_of_getElem? hx)] at h7
      cases h7
      exact h5)
    rw [List.map_map] at this
    exact this
end Go.Am
/- Running code of the abstract machine, symbolically: what holds of the end. -/
set_option linter.unusedVariables false
set_option linter.unusedSimpArgs false
namespace Go.Am

/-- there is an end, and this holds of it -/
def OptP {α β : Type} (o : Option (α × β)) (Q : α → β → Prop) : Prop := match o with
  | some (a, b) => Q a b
  | none => False

@[simp] theorem OptP_some {α β : Type} (a : α) (b : β) (Q : α → β → Prop) : OptP (some (a, b)) Q = Q a b := rfl
@[simp] theorem OptP_none {α β : Type} (Q : α → β → Prop) : OptP (none : Option (α × β)) Q = False := rfl

theorem OptP.ex {α β : Type} {o : Option (α × β)} {Q : α → β → Prop} (h : OptP o Q) : ∃ a b, o = some (a, b) ∧ Q a b := by
  cases o with
  | none => exact False.elim h
  | some p => exact ⟨p.1, p.2, rfl, h⟩

theorem OptP.intro {α β : Type} {o : Option (α × β)} {Q : α → β → Prop} {a : α} {b : β} (h : o = some (a, b)) (hq : Q a b) : OptP o Q := by
  rw [h]; exact hq

theorem OptP.mono {α β : Type} {o : Option (α × β)} {Q Q' : α → β → Prop} (h : OptP o Q) (hq : ∀ a b, Q a b → Q' a b) : OptP o Q' := by
  cases o with
  | none => exact False.elim h
  | some p => exact hq _ _ h

section
variable (rec : Rec) (gl : Nat → List V) (A : Nat → Option AFunc)

def WX (code : ACode) (c : Cfg) (Q : Out → Cfg → Prop) : Prop := OptP (exec rec gl code c) Q

def seqQ (b : ACode) (Q : Out → Cfg → Prop) : Out → Cfg → Prop
  | .norm, c => WX rec gl b c Q
  | o, c => Q o c

def blockQ (id : Nat) (Q : Out → Cfg → Prop) : Out → Cfg → Prop
  | .exit i, c => if i = id then Q .norm c else Q (.exit i) c
  | o, c => Q o c

@[simp] theorem seqQ_norm (b : ACode) (Q : Out → Cfg → Prop) (c : Cfg) : seqQ rec gl b Q .norm c = WX rec gl b c Q := rfl
@[simp] theorem seqQ_exit (b : ACode) (Q : Out → Cfg → Prop) (c : Cfg) (i : Nat) : seqQ rec gl b Q (.exit i) c = Q (.exit i) c := rfl
@[simp] theorem seqQ_ret (b : ACode) (Q : Out → Cfg → Prop) (c : Cfg) : seqQ rec gl b Q .ret c = Q .ret c := rfl
@[simp] theorem seqQ_pan (b : ACode) (Q : Out → Cfg → Prop) (c : Cfg) (v : V) : seqQ rec gl b Q (.pan v) c = Q (.pan v) c := rfl
@[simp] theorem blockQ_norm (id : Nat) (Q : Out → Cfg → Prop) (c : Cfg) : blockQ id Q .norm c = Q .norm c := rfl
@[simp] theorem blockQ_exit (id : Nat) (Q : Out → Cfg → Prop) (c : Cfg) (i : Nat) : blockQ id Q (.exit i) c = if i = id then Q .norm c else Q (.exit i) c := rfl
@[simp] theorem blockQ_ret (id : Nat) (Q : Out → Cfg → Prop) (c : Cfg) : blockQ id Q .ret c = Q .ret c := rfl
@[simp] theorem blockQ_pan (id : Nat) (Q : Out → Cfg → Prop) (c : Cfg) (v : V) : blockQ id Q (.pan v) c = Q (.pan v) c := rfl

theorem WX_skip (c : Cfg) (Q : Out → Cfg → Prop) : WX rec gl .skip c Q = Q .norm c := rfl
theorem WX_ret (c : Cfg) (Q : Out → Cfg → Prop) : WX rec gl .ret c Q = Q .ret c := rfl
theorem WX_exit (i : Nat) (c : Cfg) (Q : Out → Cfg → Prop) : WX rec gl (.exit i) c Q = Q (.exit i) c := rfl
theorem WX_seq (a b : ACode) (c : Cfg) (Q : Out → Cfg → Prop) : WX rec gl (.seq a b) c Q = WX rec gl a c (seqQ rec gl b Q) := by
  simp only [WX, exec]
  cases exec rec gl a c with
  | none => rfl
  | some p => obtain ⟨o, c'⟩ := p; cases o <;> rfl
theorem WX_block (id : Nat) (a : ACode) (c : Cfg) (Q : Out → Cfg → Prop) : WX rec gl (.block id a) c Q = WX rec gl a c (blockQ id Q) := by
  simp only [WX, exec]
  cases exec rec gl a _ with
  | none => rfl
  | some p =>
    obtain ⟨o, c'⟩ := p
    cases o with
    | exit i =>
      simp only
      by_cases h : i = id
      · simp [h]
      · simp [h]
    | _ => rfl
theorem WX_ite (t : Nat) (a b : ACode) (sl : List V) (ds : List (V × List V)) (v : Bool) (pn : Option (Option V)) (h : Heap) (Q : Out → Cfg → Prop) :
    WX rec gl (.ite t a b) ⟨sl, ds, some (t, .bool v), pn, h⟩ Q = if v = true then WX rec gl a ⟨sl, ds, none, pn, h⟩ Q else WX rec gl b ⟨sl, ds, none, pn, h⟩ Q := by
  cases v <;> simp [WX, exec]
theorem WX_assoc (a b d : ACode) (c : Cfg) (Q : Out → Cfg → Prop) : WX rec gl (.seq (.seq a b) d) c Q = WX rec gl (.seq a (.seq b d)) c Q := by
  simp only [WX, exec]
  cases exec rec gl a c with
  | none => rfl
  | some p => obtain ⟨o, c'⟩ := p; cases o <;> rfl
/-- one region ahead of the rest -/
theorem WX_step {draw : Bool} {fl : Option (Nat × Nat)} {pok : List Nat} {ops : List AOper} {rest : ACode} {c c' : Cfg} {Q : Out → Cfg → Prop} (h : regA rec gl draw fl pok ops c = some (.norm, c')) (hq : WX rec gl rest c' Q) :
    WX rec gl (.seq (.reg draw fl pok ops) rest) c Q := by
  rw [WX_seq]
  unfold WX at hq ⊢
  simp only [exec, h]
  exact hq
theorem WX_last {draw : Bool} {fl : Option (Nat × Nat)} {pok : List Nat} {ops : List AOper} {c c' : Cfg} {Q : Out → Cfg → Prop} (h : regA rec gl draw fl pok ops c = some (.norm, c')) (hq : Q .norm c') :
    WX rec gl (.reg draw fl pok ops) c Q := by
  unfold WX
  simp only [exec, h]
  exact hq
theorem WX_ite_seq (t : Nat) (a b d : ACode) (sl : List V) (ds : List (V × List V)) (v : Bool) (pn : Option (Option V)) (h : Heap) (Q : Out → Cfg → Prop) :
    WX rec gl (.seq (.ite t a b) d) ⟨sl, ds, some (t, .bool v), pn, h⟩ Q = if v = true then WX rec gl (.seq a d) ⟨sl, ds, none, pn, h⟩ Q else WX rec gl (.seq b d) ⟨sl, ds, none, pn, h⟩ Q := by
  cases v <;> simp [WX, exec]
theorem WX_skip_seq (d : ACode) (c : Cfg) (Q : Out → Cfg → Prop) : WX rec gl (.seq .skip d) c Q = WX rec gl d c Q := rfl
theorem WX_ret_seq (d : ACode) (c : Cfg) (Q : Out → Cfg → Prop) : WX rec gl (.seq .ret d) c Q = Q .ret c := rfl
theorem WX_reg (draw : Bool) (fl : Option (Nat × Nat)) (pok : List Nat) (ops : List AOper) (c : Cfg) (Q : Out → Cfg → Prop) : WX rec gl (.reg draw fl pok ops) c Q = OptP (regA rec gl draw fl pok ops c) Q := rfl
theorem WX_loop (a : ACode) (sl : List V) (ds : List (V × List V)) (fl : Option (Nat × V)) (h : Heap) (Q : Out → Cfg → Prop) : WX rec gl (.loop a) ⟨sl, ds, fl, none, h⟩ Q = OptP (rec.loop a ⟨sl, ds, fl, none, h⟩) Q := rfl
theorem WX_frz (s : Nat) (a : ACode) (c : Cfg) (Q : Out → Cfg → Prop) : WX rec gl (.frz s a) c Q = match frzV c.h (c.slots.getD s .undef) with
    | some (v, h) => WX rec gl a { c with slots := c.slots.set s v, h := h } Q
    | none => False := by
  simp only [WX, exec]
  cases frzV c.h (c.slots.getD s .undef) with
  | none => rfl
  | some p => rfl
end

section
variable {gl : Nat → List V} {A : Nat → Option AFunc}

theorem WX.mono {rec : Rec} {code : ACode} {c : Cfg} {Q Q' : Out → Cfg → Prop} (h : WX rec gl code c Q) (hq : ∀ o c', Q o c' → Q' o c') : WX rec gl code c Q' := OptP.mono h hq

/-- one round of a loop -/
def roundQ (b : ACode) (gl : Nat → List V) (A : Nat → Option AFunc) (Q : Out → Cfg → Prop) : Out → Cfg → Prop
  | .norm, c => OptP ((lim gl A).loop b c) Q
  | o, c => Q o c

theorem loop_round {b : ACode} {c : Cfg} {Q : Out → Cfg → Prop} (h : WX (lim gl A) gl b c (roundQ b gl A Q)) : OptP ((lim gl A).loop b c) Q := by
  rw [lim_loop, loopF]
  unfold WX at h
  cases hx : exec (lim gl A) gl b c with
  | none => rw [hx] at h; exact False.elim h
  | some p =>
    obtain ⟨o, c'⟩ := p
    rw [hx] at h
    cases o <;> exact h

/-- a loop of at most n rounds -/
theorem loop_n {b : ACode} {Q : Out → Cfg → Prop} (n : Nat) (I : Nat → Cfg → Prop)
    (step : ∀ i c, i ≤ n → I i c → WX (lim gl A) gl b c (fun o c' => match o with | .norm => i < n ∧ I (i + 1) c' | o => Q o c')) : ∀ c, I 0 c → OptP ((lim gl A).loop b c) Q := by
  have key : ∀ k i c, i + k = n → I i c → OptP ((lim gl A).loop b c) Q := by
    intro k
    induction k with
    | zero =>
      intro i c hi hI
      refine loop_round ((step i c (by omega) hI).mono fun o c' h => ?_)
      cases o with
      | norm => exact absurd h.1 (by omega)
      | _ => exact h
    | succ k ih =>
      intro i c hi hI
      refine loop_round ((step i c (by omega) hI).mono fun o c' h => ?_)
      cases o with
      | norm => exact ih (i + 1) c' (by omega) h.2
      | _ => exact h
  intro c hc
  exact key n 0 c (by omega) hc

/-- what a call comes to -/
def CallP (gl : Nat → List V) (A : Nat → Option AFunc) (f : Nat) (args : List V) (h : Heap) (Q : R → Heap → Prop) : Prop := OptP ((lim gl A).call f args h) Q

theorem CallP.mono {f : Nat} {args : List V} {h : Heap} {Q Q' : R → Heap → Prop} (hc : CallP gl A f args h Q) (hq : ∀ r h', Q r h' → Q' r h') : CallP gl A f args h Q' := OptP.mono hc hq

def leaveQ (gl : Nat → List V) (A : Nat → Option AFunc) (rs : List ARes) (Q : R → Heap → Prop) : Out → Cfg → Prop
  | .norm, c | .ret, c => OptP (leave (lim gl A) rs c.slots c.dfs none c.h) Q
  | .pan v, c => OptP (leave (lim gl A) rs c.slots c.dfs (some v) c.h) Q
  | .exit _, _ => False

@[simp] theorem leaveQ_norm (rs : List ARes) (Q : R → Heap → Prop) (c : Cfg) : leaveQ gl A rs Q .norm c = OptP (leave (lim gl A) rs c.slots c.dfs none c.h) Q := rfl
@[simp] theorem leaveQ_ret (rs : List ARes) (Q : R → Heap → Prop) (c : Cfg) : leaveQ gl A rs Q .ret c = OptP (leave (lim gl A) rs c.slots c.dfs none c.h) Q := rfl
@[simp] theorem leaveQ_pan (rs : List ARes) (Q : R → Heap → Prop) (c : Cfg) (v : V) : leaveQ gl A rs Q (.pan v) c = OptP (leave (lim gl A) rs c.slots c.dfs (some v) c.h) Q := rfl
@[simp] theorem leaveQ_exit (rs : List ARes) (Q : R → Heap → Prop) (c : Cfg) (i : Nat) : leaveQ gl A rs Q (.exit i) c = False := rfl

theorem call_of {f : Nat} {af : AFunc} {args : List V} {h : Heap} {Q : R → Heap → Prop} (hA : A f = some af) (hn : args.length = af.nparams)
    (hx : WX (lim gl A) gl af.body ⟨initSlots af.slots args, [], none, none, h⟩ (leaveQ gl A af.results Q)) : CallP gl A f args h Q := by
  unfold CallP
  rw [lim_call, callF, hA]
  simp only [hn, if_true]
  unfold WX at hx
  cases he : exec (lim gl A) gl af.body ⟨initSlots af.slots args, [], none, none, h⟩ with
  | none => rw [he] at hx; exact False.elim hx
  | some p =>
    obtain ⟨o, c'⟩ := p
    rw [he] at hx
    cases o <;> first | exact hx | exact False.elim hx

/-- with what is to be shown under a name -/
theorem call_ofQ {f : Nat} {af : AFunc} {args : List V} {h : Heap} {Q : R → Heap → Prop} (hA : A f = some af) (hn : args.length = af.nparams)
    (hx : ∀ Q' : R → Heap → Prop, (∀ r h', Q r h' → Q' r h') → WX (lim gl A) gl af.body ⟨initSlots af.slots args, [], none, none, h⟩ (leaveQ gl A af.results Q')) : CallP gl A f args h Q :=
  call_of hA hn (hx Q fun _ _ h => h)

theorem loop_nQ {b : ACode} {Q : Out → Cfg → Prop} (n : Nat) (I : Nat → Cfg → Prop)
    (step : ∀ I' : Nat → Cfg → Prop, (∀ i c, I i c → I' i c) → ∀ i c, i ≤ n → I i c → WX (lim gl A) gl b c (fun o c' => match o with | .norm => i < n ∧ I' (i + 1) c' | o => Q o c')) {c : Cfg} (hc : I 0 c) : OptP ((lim gl A).loop b c) Q :=
  loop_n n I (step I fun _ _ h => h) c hc

def dleaveQ (rs : List ARes) (u' : Option V) (h' : Heap) : Out → Cfg → Prop
  | .norm, c | .ret, c => c.dfs = [] ∧ c.pn = some u' ∧ (resultV c.h c.slots rs).isSome = true ∧ c.h = h'
  | _, _ => False
@[simp] theorem dleaveQ_norm (rs : List ARes) (u' : Option V) (h' : Heap) (c : Cfg) : dleaveQ rs u' h' .norm c = (c.dfs = [] ∧ c.pn = some u' ∧ (resultV c.h c.slots rs).isSome = true ∧ c.h = h') := rfl
@[simp] theorem dleaveQ_ret (rs : List ARes) (u' : Option V) (h' : Heap) (c : Cfg) : dleaveQ rs u' h' .ret c = (c.dfs = [] ∧ c.pn = some u' ∧ (resultV c.h c.slots rs).isSome = true ∧ c.h = h') := rfl

/-- a deferred call -/
theorem dcall_of {f : Nat} {af : AFunc} {args : List V} {h h' : Heap} {u u' : Option V} (hA : A f = some af) (hn : args.length = af.nparams)
    (hx : WX (lim gl A) gl af.body ⟨initSlots af.slots args, [], none, some u, h⟩ (dleaveQ af.results u' h')) : (lim gl A).dcall f args u h = some (u', h') := by
  rw [lim_dcall, dcallF, hA]
  simp only [hn, if_true]
  unfold WX at hx
  cases he : exec (lim gl A) gl af.body ⟨initSlots af.slots args, [], none, some u, h⟩ with
  | none => rw [he] at hx; exact False.elim hx
  | some p =>
    obtain ⟨o, c'⟩ := p
    rw [he] at hx
    cases o with
    | norm =>
      obtain ⟨h1, h2, h3, rfl⟩ := hx
      obtain ⟨x, hx⟩ := Option.isSome_iff_exists.1 h3
      simp only [h1, h2, hx]
    | ret =>
      obtain ⟨h1, h2, h3, rfl⟩ := hx
      obtain ⟨x, hx⟩ := Option.isSome_iff_exists.1 h3
      simp only [h1, h2, hx]
    | exit _ => exact False.elim hx
    | pan _ => exact False.elim hx

/-- the same as an equation -/
theorem CallP.eq {f : Nat} {args : List V} {h : Heap} {r : R} {h' : Heap} (hc : CallP gl A f args h (fun a b => a = r ∧ b = h')) : (lim gl A).call f args h = some (r, h') := by
  obtain ⟨a, b, e, rfl, rfl⟩ := OptP.ex hc
  exact e
end

/-! ### slices that nobody writes -/

inductive SlV (es : List (List V)) : V → Prop
  | nil (h : es = []) : SlV es .nils
  | sv (ex : Bool) : SlV es (.sv es ex)

section
variable {es : List (List V)} {v : V}
def lenV (x : V) : Option V := match x with
  | .nils => some (.int .i64 0)
  | .sv es _ => some (.int .i64 es.length)
  | .sl _ _ len _ _ _ => some (.int .i64 len)
  | _ => none
def idxV (x : V) (n : Int) (sz : Nat) : Option V := match x with
  | .sv es _ => if 0 ≤ n then match es[n.toNat]? with
      | some e => if e.length = sz then some (.pv e) else none
      | none => none
    else none
  | .sl b off len gen sz' _ => if 0 ≤ n ∧ n < len ∧ sz' = sz then some (.ref b ((off + n.toNat) * sz) gen) else none
  | _ => none
theorem popV_len (f : Opd → V) (x : Opd) : popV f (.lenS false x) = lenV (f x) := by
  simp only [popV, lenV]
  cases f x <;> simp
theorem popV_idx (f : Opd → V) (x i : Opd) (sz : Nat) : popV f (.iadr x i sz) = match f i with | .int _ n => idxV (f x) n sz | _ => none := by
  simp only [popV, idxV]
  cases f x <;> cases f i <;> rfl
theorem SlV.len (h : SlV es v) : lenV v = some (.int .i64 es.length) := by cases h <;> simp_all [lenV]
theorem SlV.idx (h : SlV es v) (n : Int) (sz : Nat) : idxV v n sz = if 0 ≤ n then match es[n.toNat]? with
      | some e => if e.length = sz then some (.pv e) else none
      | none => none
    else none := by cases h <;> simp_all [idxV]
theorem SlV.slen (h : SlV es v) : sliceLen v = some es.length := by cases h <;> simp_all [sliceLen]
theorem SlV.scells (h : SlV es v) (hp : Heap) : sliceCells hp v = some es.flatten := by cases h <;> simp_all [sliceCells]
theorem SlV.pure (h : SlV es v) : pureV v = true := by cases h <;> simp [pureV]
theorem SlV.cell (h : SlV es v) : isCell v = true := by cases h <;> simp [isCell]
theorem SlV.cells (h : SlV es v) : cellsV v = [v] := by cases h <;> simp [cellsV]
theorem SlV.view (h : SlV es v) (lo : Nat) (hp : Heap) : viewV lo hp v = some v := by cases h <;> simp [viewV]
theorem SlV.notagg (h : SlV es v) : isAggV v = false := by cases h <;> simp [isAggV]
end
end Go.Am
/- The rules by which code is run symbolically. -/
set_option linter.unusedVariables false
set_option linter.unusedSimpArgs false
namespace Go.Am
/-- the value at a place -/
def nthV : List V → Nat → V
  | [], _ => .undef
  | v :: _, 0 => v
  | _ :: l, n + 1 => nthV l n
def nthO : List V → Nat → Option V
  | [], _ => none
  | v :: _, 0 => some v
  | _ :: l, n + 1 => nthO l n
@[simp] theorem nthV_zero (v : V) (l : List V) : nthV (v :: l) 0 = v := rfl
@[simp] theorem nthV_succ (v : V) (l : List V) (n : Nat) : nthV (v :: l) (n + 1) = nthV l n := rfl
@[simp] theorem nthV_nil (n : Nat) : nthV [] n = .undef := rfl
@[simp] theorem nthO_nil (n : Nat) : nthO [] n = none := rfl
@[simp] theorem nthO_zero (v : V) (l : List V) : nthO (v :: l) 0 = some v := rfl
@[simp] theorem nthO_succ (v : V) (l : List V) (n : Nat) : nthO (v :: l) (n + 1) = nthO l n := rfl
theorem nthV_eq (l : List V) (n : Nat) : l.getD n .undef = nthV l n := by
  induction l generalizing n with
  | nil => cases n <;> rfl
  | cons v l ih => cases n with
    | zero => rfl
    | succ n => exact ih n
theorem nthO_eq (l : List V) (n : Nat) : l[n]? = nthO l n := by
  induction l generalizing n with
  | nil => cases n <;> rfl
  | cons v l ih => cases n with
    | zero => rfl
    | succ n => simpa using ih n
@[simp] theorem ev_s (gl : Nat → List V) (env slots : List V) (i : Nat) : ev gl env slots (.s i) = nthV slots i := nthV_eq _ _
@[simp] theorem ev_r (gl : Nat → List V) (env slots : List V) (i : Nat) : ev gl env slots (.r i) = nthV env i := nthV_eq _ _
@[simp] theorem ev_c (gl : Nat → List V) (env slots : List V) (v : V) : ev gl env slots (.c v) = v := rfl
@[simp] theorem ev_g (gl : Nat → List V) (env slots : List V) (n : Nat) : ev gl env slots (.g n) = .pv (gl n) := rfl
@[simp] theorem wanted_none (env : List V) : wanted env none = some true := rfl
@[simp] theorem wanted_some (env : List V) (j : Nat) (want : Bool) : wanted env (some (j, want)) = match nthO env j with
    | some (.bool b) => some (b == want)
    | some (.tup _) => some false
    | _ => none := by rw [← nthO_eq]; rfl
@[simp] theorem defd_eq (slots : List V) (s : Nat) : defd slots s = match nthO slots s with
    | none | some .undef => false
    | _ => true := by rw [← nthO_eq]; rfl
@[simp] theorem pOff_none (env : List V) : pOff env none = some 0 := rfl
@[simp] theorem pOff_some (env : List V) (j : Nat) : pOff env (some j) = match nthO env j with
    | some (.int _ n) => some n.toNat
    | _ => none := by rw [← nthO_eq]; rfl
theorem regA_eq (rec : Rec) (gl : Nat → List V) (draw : Bool) (fl : Option (Nat × Nat)) (pok : List Nat) (ops : List AOper) (c : Cfg) : regA rec gl draw fl pok ops c = if draw && c.pn.isSome then none else
  match runOps rec gl ops [] c with
  | some (.norm env c') => some (.norm, { c' with flag := fl.map fun (t, j) => (t, nthV env j) })
  | some (.pan j v c') => if draw && !pok.contains j then none else some (.pan v, { c' with slots := forget ops c'.slots, flag := none })
  | none => none := by
  simp only [← nthV_eq]; rfl
theorem resV_slot (h : Heap) (slots : List V) (s : Nat) : resV h slots (.slot s) = some (nthV slots s) := by simp only [resV, nthV_eq]
theorem resV_cell (h : Heap) (slots : List V) (s size : Nat) (ag : Bool) : resV h slots (.cell s size ag) = loadV h (nthV slots s) size ag := by simp only [resV, nthV_eq]
theorem resV_prom (h : Heap) (slots : List V) (s size : Nat) (ag : Bool) : resV h slots (.prom s size ag) = if defd slots s ∧ (cellsV (nthV slots s)).length = size then mkV ag (cellsV (nthV slots s)) else none := by simp only [resV, nthV_eq]
/-- the slots at a call's start -/
def startS (l : List Nat) (args : List V) : List V := match l with
  | [] => []
  | t :: l => nthV args t :: startS l args
theorem initSlots_eq (l : List Nat) (args : List V) : initSlots l args = startS l args := by
  induction l with
  | nil => rfl
  | cons t l ih => simp only [startS, ← ih, ← nthV_eq]; rfl
def rOp2 (K : List V → Cfg → Option ROut) (env : List V) (c : Cfg) : Option SR → Option ROut
  | some (.ok v wr df pn hp) => K (env ++ [v]) { c with slots := setSlot c.slots wr, dfs := pushD df c.dfs, pn := pn.or c.pn, h := hp.getD c.h }
  | some (.pan v hp) => some (.pan env.length v { c with h := hp.getD c.h })
  | none => none
def rOp1 (rec : Rec) (gl : Nat → List V) (K : List V → Cfg → Option ROut) (o : AOper) (env : List V) (c : Cfg) : Option Bool → Option ROut
  | some true => rOp2 K env c (stepOp rec gl o env c.slots c.pn c.h)
  | some false => K (env ++ [.tup []]) { c with slots := setSlot c.slots ((slotOf o.dst).map (·, .tup [])) }
  | none => none
section
variable (rec : Rec) (gl : Nat → List V) (K : List V → Cfg → Option ROut) (o : AOper) (os : List AOper) (env sl : List V) (ds : List (V × List V)) (fl : Option (Nat × V)) (p : Option (Option V)) (h : Heap) (c : Cfg)
@[simp] theorem runOps_nil : runOps rec gl [] env c = some (.norm env c) := of_eq_true (eq_self _)
@[simp] theorem runOps_cons : runOps rec gl (o :: os) env c = rOp1 rec gl (runOps rec gl os) o env c (wanted env o.guard) := by
  simp only [runOps]
  unfold rOp1 rOp2
  rfl
@[simp] theorem rOp1_true : rOp1 rec gl K o env ⟨sl, ds, fl, p, h⟩ (some true) = rOp2 K env ⟨sl, ds, fl, p, h⟩ (stepOp rec gl o env sl p h) := of_eq_true (eq_self _)
@[simp] theorem rOp1_false : rOp1 rec gl K o env ⟨sl, ds, fl, p, h⟩ (some false) = K (env ++ [.tup []]) ⟨setSlot sl ((slotOf o.dst).map (·, .tup [])), ds, fl, p, h⟩ := of_eq_true (eq_self _)
@[simp] theorem rOp1_none : rOp1 rec gl K o env c none = none := of_eq_true (eq_self _)
@[simp] theorem rOp2_ok (v : V) (wr : Option (Nat × V)) (df : Option (V × List V)) (pn : Option (Option V)) (hp : Option Heap) : rOp2 K env ⟨sl, ds, fl, p, h⟩ (some (.ok v wr df pn hp)) = K (env ++ [v]) ⟨setSlot sl wr, pushD df ds, fl, pn.or p, hp.getD h⟩ := of_eq_true (eq_self _)
@[simp] theorem rOp2_pan (v : V) (hp : Option Heap) : rOp2 K env ⟨sl, ds, fl, p, h⟩ (some (.pan v hp)) = some (.pan env.length v ⟨sl, ds, fl, p, hp.getD h⟩) := of_eq_true (eq_self _)
@[simp] theorem rOp2_none : rOp2 K env c none = none := of_eq_true (eq_self _)
end
section
variable (rec : Rec) (gl : Nat → List V) (d : Dst) (g : Option (Nat × Bool)) (env sl : List V) (pn : Option (Option V)) (h : Heap)
@[simp] theorem stepOp_p (op : POp) : stepOp rec gl ⟨d, .p op, g⟩ env sl pn h = (popV (ev gl env sl) op).map (putSlot d) := of_eq_true (eq_self _)
@[simp] theorem stepOp_pc (fn : Opd) (args : List Opd) : stepOp rec gl ⟨d, .pc fn args, g⟩ env sl pn h = (pcall rec (ev gl env sl fn) (args.map (ev gl env sl))).map (ofRef d) := of_eq_true (eq_self _)
@[simp] theorem stepOp_l (op : LOp) : stepOp rec gl ⟨d, .l op, g⟩ env sl pn h = (lopV rec h (ev gl env sl) op).map (ofRef d) := of_eq_true (eq_self _)
@[simp] theorem stepOp_e (op : EOp) : stepOp rec gl ⟨d, .e op, g⟩ env sl pn h = (eopV rec h (ev gl env sl) op).map (ofERef d) := of_eq_true (eq_self _)
@[simp] theorem stepOp_np (s : Nat) (x : Opd) : stepOp rec gl ⟨.slot s, .np x, g⟩ env sl pn h = if (cellsV (ev gl env sl x)).all isCell then some (.ok .undef (some (s, ev gl env sl x)) none none none) else none := of_eq_true (eq_self _)
@[simp] theorem stepOp_pa (s : Nat) (b : Option Nat) (k : Nat) (ix : Option (Opd × Nat × Nat)) : stepOp rec gl ⟨d, .pa s b k ix, g⟩ env sl pn h = if defd sl s then match pOff env b with
    | some n => match ix with
      | none => some (.ok (.int .i64 (n + k : Nat)) none none none none)
      | some (i, m, sz) => match ev gl env sl i with
        | .int _ j => if 0 ≤ j ∧ j < m ∧ 1 < m then some (.ok (.int .i64 (n + k + j.toNat * sz : Nat)) none none none none) else none
        | _ => none
    | none => none
    else none := of_eq_true (eq_self _)
@[simp] theorem stepOp_pl (s : Nat) (b : Option Nat) (size : Nat) (ag : Bool) : stepOp rec gl ⟨d, .pl s b size ag, g⟩ env sl pn h = if defd sl s then match pOff env b with
    | some n => if n + size ≤ (cellsV (nthV sl s)).length then (mkV ag (((cellsV (nthV sl s)).drop n).take size)).map (putSlot d) else none
    | none => none
    else none := by simp only [← nthV_eq]; rfl
@[simp] theorem stepOp_pu (s : Nat) (b : Option Nat) (size : Nat) (x : Opd) : stepOp rec gl ⟨d, .pu s b size x, g⟩ env sl pn h = if defd sl s then match pOff env b with
    | some n =>
      if n + size ≤ (cellsV (nthV sl s)).length ∧ (cellsV (ev gl env sl x)).length = size ∧ (cellsV (ev gl env sl x)).all isCell ∧ (isAggV (nthV sl s) || size == 1) then
        some (.ok .undef (some (s, match nthV sl s with
          | .agg cs => .agg (splice cs n (cellsV (ev gl env sl x)))
          | _ => ev gl env sl x)) none none none)
      else none
    | none => none
    else none := by simp only [← nthV_eq]; rfl
@[simp] theorem stepOp_pan (x : Opd) : stepOp rec gl ⟨d, .pan x, g⟩ env sl pn h = match ev gl env sl x with
    | .iface t v => some (.pan (.iface t v) none)
    | _ => none := of_eq_true (eq_self _)
@[simp] theorem stepOp_dfr (fn : Opd) (args : List Opd) : stepOp rec gl ⟨d, .dfr fn args, g⟩ env sl pn h = match callee (ev gl env sl fn) (args.map (ev gl env sl)) with
    | some _ => some (.ok .undef none (some (ev gl env sl fn, args.map (ev gl env sl))) none none)
    | none => none := of_eq_true (eq_self _)
@[simp] theorem stepOp_rcv : stepOp rec gl ⟨d, .rcv, g⟩ env sl pn h = match pn with
    | some (some v) => match putSlot d v with
      | .ok v wr _ _ _ => some (.ok v wr none (some none) none)
      | r => some r
    | some none => some (putSlot d .nili)
    | none => none := of_eq_true (eq_self _)
end
attribute [simp] regA_eq resV_slot resV_cell resV_prom initSlots_eq startS WX_seq WX_block WX_ite WX_reg WX_skip WX_ret WX_exit WX_loop putSlot ofRef ofERef setSlot pushD lopV eopV ecall callee pcall mkV binV isNilV pureV pureL resL leave
end Go.Am
namespace Go.Am
@[simp] theorem isCell_undef  : isCell .undef = false := rfl
@[simp] theorem cellsV_undef  : cellsV .undef = [.undef] := rfl
@[simp] theorem isAggV_undef  : isAggV .undef = false := rfl
@[simp] theorem isCell_bool (b : Bool) : isCell (.bool b) = true := rfl
@[simp] theorem cellsV_bool (b : Bool) : cellsV (.bool b) = [(.bool b)] := rfl
@[simp] theorem isAggV_bool (b : Bool) : isAggV (.bool b) = false := rfl
@[simp] theorem isCell_int (k : IntKind) (n : Int) : isCell (.int k n) = true := rfl
@[simp] theorem cellsV_int (k : IntKind) (n : Int) : cellsV (.int k n) = [(.int k n)] := rfl
@[simp] theorem isAggV_int (k : IntKind) (n : Int) : isAggV (.int k n) = false := rfl
@[simp] theorem isCell_str (s : ByteArray) : isCell (.str s) = true := rfl
@[simp] theorem cellsV_str (s : ByteArray) : cellsV (.str s) = [(.str s)] := rfl
@[simp] theorem isAggV_str (s : ByteArray) : isAggV (.str s) = false := rfl
@[simp] theorem isCell_nilp  : isCell .nilp = true := rfl
@[simp] theorem cellsV_nilp  : cellsV .nilp = [.nilp] := rfl
@[simp] theorem isAggV_nilp  : isAggV .nilp = false := rfl
@[simp] theorem isCell_nils  : isCell .nils = true := rfl
@[simp] theorem cellsV_nils  : cellsV .nils = [.nils] := rfl
@[simp] theorem isAggV_nils  : isAggV .nils = false := rfl
@[simp] theorem isCell_nilm  : isCell .nilm = true := rfl
@[simp] theorem cellsV_nilm  : cellsV .nilm = [.nilm] := rfl
@[simp] theorem isAggV_nilm  : isAggV .nilm = false := rfl
@[simp] theorem isCell_nilf  : isCell .nilf = true := rfl
@[simp] theorem cellsV_nilf  : cellsV .nilf = [.nilf] := rfl
@[simp] theorem isAggV_nilf  : isAggV .nilf = false := rfl
@[simp] theorem isCell_nili  : isCell .nili = true := rfl
@[simp] theorem cellsV_nili  : cellsV .nili = [.nili] := rfl
@[simp] theorem isAggV_nili  : isAggV .nili = false := rfl
@[simp] theorem isCell_ref (b o g : Nat) : isCell (.ref b o g) = true := rfl
@[simp] theorem cellsV_ref (b o g : Nat) : cellsV (.ref b o g) = [(.ref b o g)] := rfl
@[simp] theorem isAggV_ref (b o g : Nat) : isAggV (.ref b o g) = false := rfl
@[simp] theorem isCell_pv (cs : List V) : isCell (.pv cs) = true := rfl
@[simp] theorem cellsV_pv (cs : List V) : cellsV (.pv cs) = [(.pv cs)] := rfl
@[simp] theorem isAggV_pv (cs : List V) : isAggV (.pv cs) = false := rfl
@[simp] theorem isCell_sl (b o l g z : Nat) (ex : Bool) : isCell (.sl b o l g z ex) = true := rfl
@[simp] theorem cellsV_sl (b o l g z : Nat) (ex : Bool) : cellsV (.sl b o l g z ex) = [(.sl b o l g z ex)] := rfl
@[simp] theorem isAggV_sl (b o l g z : Nat) (ex : Bool) : isAggV (.sl b o l g z ex) = false := rfl
@[simp] theorem isCell_sv (es : List (List V)) (ex : Bool) : isCell (.sv es ex) = true := rfl
@[simp] theorem cellsV_sv (es : List (List V)) (ex : Bool) : cellsV (.sv es ex) = [(.sv es ex)] := rfl
@[simp] theorem isAggV_sv (es : List (List V)) (ex : Bool) : isAggV (.sv es ex) = false := rfl
@[simp] theorem isCell_map (b : Nat) : isCell (.map b) = true := rfl
@[simp] theorem cellsV_map (b : Nat) : cellsV (.map b) = [(.map b)] := rfl
@[simp] theorem isAggV_map (b : Nat) : isAggV (.map b) = false := rfl
@[simp] theorem isCell_func (f : Fn) (fi ca : List V) : isCell (.func f fi ca) = true := rfl
@[simp] theorem cellsV_func (f : Fn) (fi ca : List V) : cellsV (.func f fi ca) = [(.func f fi ca)] := rfl
@[simp] theorem isAggV_func (f : Fn) (fi ca : List V) : isAggV (.func f fi ca) = false := rfl
@[simp] theorem isCell_iface (t : Nat) (v : V) : isCell (.iface t v) = true := rfl
@[simp] theorem cellsV_iface (t : Nat) (v : V) : cellsV (.iface t v) = [(.iface t v)] := rfl
@[simp] theorem isAggV_iface (t : Nat) (v : V) : isAggV (.iface t v) = false := rfl
@[simp] theorem isCell_agg (cs : List V) : isCell (.agg cs) = false := rfl
@[simp] theorem cellsV_agg (cs : List V) : cellsV (.agg cs) = cs := rfl
@[simp] theorem isAggV_agg (cs : List V) : isAggV (.agg cs) = true := rfl
@[simp] theorem isCell_tup (vs : List V) : isCell (.tup vs) = false := rfl
@[simp] theorem cellsV_tup (vs : List V) : cellsV (.tup vs) = [(.tup vs)] := rfl
@[simp] theorem isAggV_tup (vs : List V) : isAggV (.tup vs) = false := rfl
section
variable (f : Opd → V)
@[simp] theorem popV_mov (x : Opd) : popV f (.mov x) = some (f x) := rfl
@[simp] theorem popV_pick (c a b : Opd) : popV f (.pick c a b) = match f c with | .bool t => some (if t then f a else f b) | _ => none := rfl
@[simp] theorem popV_part (x : Opd) (off size : Nat) (ag : Bool) : popV f (.part x off size ag) = partV (f x) off size ag := rfl
@[simp] theorem popV_fadr (x : Opd) (off : Nat) : popV f (.fadr x off) = match f x with
    | .ref b o gen => some (.ref b (o + off) gen)
    | .pv cs => if off ≤ cs.length then some (.pv (cs.drop off)) else none
    | _ => none := rfl
@[simp] theorem popV_iadrA (x i : Opd) (n sz : Nat) : popV f (.iadrA x i n sz) = match f x, f i with
    | .ref b o gen, .int _ m => if 0 ≤ m ∧ m < n ∧ 1 < n then some (.ref b (o + m.toNat * sz) gen) else none
    | .pv cs, .int _ m => if 0 ≤ m ∧ m < n ∧ 1 < n ∧ m.toNat * sz ≤ cs.length then some (.pv (cs.drop (m.toNat * sz))) else none
    | _, _ => none := rfl
@[simp] theorem popV_index (x i : Opd) : popV f (.index x i) = match f x, f i with
    | .str s, .int _ n => if 0 ≤ n then match s[n.toNat]? with
        | some b => some (.int .u8 b.toNat)
        | none => none
      else none
    | _, _ => none := rfl
@[simp] theorem popV_slc (x : Opd) (lo hi mx : Option Opd) (str : Bool) (sz : Nat) : popV f (.slc x lo hi mx str sz) = slcV (f x) (lo.map f) (hi.map f) (mx.map f) str sz := rfl
@[simp] theorem popV_bin (op : BinOp) (x y : Opd) : popV f (.bin op x y) = binV op (f x) (f y) := rfl
@[simp] theorem popV_eqb (neg : Bool) (x y : Opd) : popV f (.eqb neg x y) = match f x, f y with
    | .bool a, .bool b => some (.bool ((a == b) != neg))
    | _, _ => none := rfl
@[simp] theorem popV_eqn (neg : Bool) (k : NK) (x y : Opd) : popV f (.eqn neg k x y) = match isNilV k (f x), isNilV k (f y) with
    | some true, some t => some (.bool (t != neg))
    | some t, some true => some (.bool (t != neg))
    | _, _ => none := rfl
@[simp] theorem popV_eqa (neg : Bool) (n : Nat) (x y : Opd) : popV f (.eqa neg n x y) = match f x, f y with
    | .agg a, .agg b => if a.length = n ∧ b.length = n then (sameInts a b).map fun t => .bool (t != neg) else none
    | _, _ => none := rfl
@[simp] theorem popV_not (x : Opd) : popV f (.not x) = match f x with | .bool b => some (.bool !b) | _ => none := rfl
@[simp] theorem popV_neg (x : Opd) : popV f (.neg x) = match f x with | .int k n => some (.int k (k.wrap (0 - n))) | _ => none := rfl
@[simp] theorem popV_conv (k : IntKind) (x : Opd) : popV f (.conv k x) = match f x with | .int _ n => some (.int k (k.wrap n)) | _ => none := rfl
@[simp] theorem popV_nchk (x : Opd) : popV f (.nchk x) = match f x with | .ref b o gen => some (.ref b o gen) | .pv cs => some (.pv cs) | _ => none := rfl
@[simp] theorem popV_build (zero : List V) (parts : List (Nat × Nat × Opd)) : popV f (.build zero parts) = (fill zero (parts.map fun (o, n, x) => (o, n, f x))).map .agg := rfl
@[simp] theorem popV_bsl (len sz : Nat) (zero : List V) (parts : List (Nat × Opd)) : popV f (.bsl len sz zero parts) =
    match fill ((List.replicate len zero).flatten) (parts.map fun (i, x) => (i * sz, sz, f x)) with
    | some cs => if pureL cs && cs.all isCell then some (.sv (chunks sz len cs) true) else none
    | none => none := rfl
@[simp] theorem popV_mkf (fn : Fn) (fi ca : List Opd) : popV f (.mkf fn fi ca) = some (.func fn (fi.map f) (ca.map f)) := rfl
@[simp] theorem popV_mki (t : Nat) (x : Opd) : popV f (.mki t x) = some (.iface t (f x)) := rfl
@[simp] theorem popV_tas (x : Opd) (t : Nat) (ok : Bool) (zero : V) : popV f (.tas x t ok zero) = match f x with
    | .nili => if ok then some (.tup [zero, .bool false]) else none
    | .iface u v => if u = t then some (if ok then .tup [v, .bool true] else v) else if ok then some (.tup [zero, .bool false]) else none
    | _ => none := rfl
@[simp] theorem popV_ext (x : Opd) (i : Nat) : popV f (.ext x i) = match f x with | .tup vs => vs[i]? | _ => none := rfl
@[simp] theorem popV_maxI (x y : Opd) : popV f (.maxI x y) = match f x, f y with
    | .int .i64 a, .int .i64 b => some (.int .i64 (if a < b then b else a))
    | _, _ => none := rfl
@[simp] theorem popV_minI (x y : Opd) : popV f (.minI x y) = match f x, f y with
    | .int .i64 a, .int .i64 b => some (.int .i64 (if b < a then b else a))
    | _, _ => none := rfl
@[simp] theorem popV_s2b (x : Opd) : popV f (.s2b x) = match f x with | .str s => some (s2bV s) | _ => none := rfl
@[simp] theorem popV_mkz (n c : Opd) (sz bytes : Nat) (zero : List V) : popV f (.mkz n c sz bytes zero) = match f n, f c with
    | .int _ l, .int _ m => if 0 ≤ l ∧ l = m ∧ l * bytes ≤ room ∧ l ≤ 9223372036854775807 ∧ zero.length = sz ∧ pureL zero then some (.sv (List.replicate l.toNat zero) true) else none
    | _, _ => none := rfl
@[simp] theorem popV_lenT (x : Opd) : popV f (.lenS true x) = match f x with | .str s => some (.int .i64 s.size) | _ => none := by
  simp only [popV]
  cases f x <;> simp
attribute [simp] popV_len popV_idx
end
@[simp] theorem lenV_sl (b off len gen sz : Nat) (ex : Bool) : lenV (.sl b off len gen sz ex) = some (.int .i64 len) := rfl
@[simp] theorem lenV_sv (es : List (List V)) (ex : Bool) : lenV (.sv es ex) = some (.int .i64 es.length) := rfl
@[simp] theorem lenV_nils : lenV .nils = some (.int .i64 0) := rfl
@[simp] theorem idxV_sl (b off len gen sz' : Nat) (ex : Bool) (n : Int) (sz : Nat) : idxV (.sl b off len gen sz' ex) n sz = if 0 ≤ n ∧ n < len ∧ sz' = sz then some (.ref b ((off + n.toNat) * sz) gen) else none := rfl
attribute [simp] loadV resultV splice
theorem intBin_lss (k : IntKind) (a b : Int) : intBin .lss k a b = some (.bool (decide (a < b))) := rfl
theorem intBin_add (k : IntKind) (a b : Int) : intBin .add k a b = some (.int k (k.wrap (a + b))) := rfl
theorem intBin_sub (k : IntKind) (a b : Int) : intBin .sub k a b = some (.int k (k.wrap (a - b))) := rfl
theorem intBin_mul (k : IntKind) (a b : Int) : intBin .mul k a b = some (.int k (k.wrap (a * b))) := rfl
attribute [simp] intBin shiftV
theorem wrap64 {n : Int} (h0 : -9223372036854775808 ≤ n) (h1 : n ≤ 9223372036854775807) : IntKind.i64.wrap n = n := by
  simp only [IntKind.wrap, IntKind.bits, IntKind.signed, Bool.true_and]
  by_cases hn : 0 ≤ n
  · have : n % (2 ^ 64 : Int) = n := by omega
    simp only [this]
    split
    · rename_i h; simp at h; omega
    · rfl
  · have : n % (2 ^ 64 : Int) = n + 2 ^ 64 := by omega
    simp only [this]
    split
    · omega
    · rename_i h; simp at h; omega
theorem wrapu8 {n : Int} (h0 : 0 ≤ n) (h1 : n < 256) : IntKind.u8.wrap n = n := by
  simp only [IntKind.wrap, IntKind.bits, IntKind.signed, Bool.false_and]
  have : n % (2 ^ 8 : Int) = n := by omega
  simp
  omega
/-- append to what is all of an object -/
theorem appV_own {h : Heap} {o n sz bytes k : Nat} {cs ys : List V} {y : V} (ho : h[o]? = some (.cells n sz cs)) (hk : sliceLen y = some k) (hy : sliceCells h y = some ys) (hl : ys.length = k * sz) (hr : (n + k) * bytes ≤ room) :
    appV h (.sl o 0 n n sz false) y sz bytes = some (.sl o 0 (n + k) (n + k) sz false, h.set o (.cells (n + k) sz (cs ++ ys))) := by
  simp only [appV, hk, hy, hl, if_true, objCells, ho]
  rw [if_pos ⟨trivial, trivial, trivial, hr, by omega⟩]
  by_cases h0 : k = 0
  · subst h0
    have : ys = [] := List.length_eq_zero_iff.1 (by simpa using hl)
    subst this
    simp only [if_true, Nat.add_zero, List.append_nil]
    congr
    apply List.ext_getElem?
    intro i
    by_cases hi : o = i
    · subst hi
      have hlt := (List.getElem?_eq_some_iff.1 ho).1
      rw [List.getElem?_set_self hlt, ho]
    · rw [List.getElem?_set_ne hi]
  · rw [if_neg h0]
    simp
theorem wrapu8_mod (n : Int) : IntKind.u8.wrap n = n % 256 := by
  simp [IntKind.wrap, IntKind.bits, IntKind.signed]
end Go.Am
