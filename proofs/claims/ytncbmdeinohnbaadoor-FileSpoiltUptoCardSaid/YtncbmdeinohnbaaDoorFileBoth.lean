/- There and back; one of each kind. -/
import Derived.Test.YtncbmdeinohnbaaDoorFileQa
import Derived.Test.YtncbmdeinohnbaaDoorFileT
import Derived.Test.YtncbmdeinohnbaaDoorFileSame
/- There and back: numbers, lists, texts. Plain lists. -/
set_option linter.unusedVariables false
set_option linter.unusedSimpArgs false
namespace Go.Proofs.FileA
open Go Go.Am

/-- what a number longer than a byte is written as -/
theorem numB_long {n : Int} (h : ¬ (0 ≤ n ∧ n < 240)) (hn : is64 n) : ∃ (m first : Nat), numB n = UInt8.ofNat first :: be (wid m) m ∧ n = (if 247 < first then -1 - (m : Int) else (m : Int)) ∧ m < 2 ^ 63 ∧ 240 ≤ first ∧ first < 256 ∧ decK first = wid m := by
  unfold is64 at hn
  have hwl : ∀ m : Nat, m < 2 ^ 63 → wid m ≤ 8 := fun m hm => wid_le 7 m (by omega)
  by_cases h0 : 0 ≤ n
  · have hm : n.toNat < 2 ^ 63 := by omega
    have h1 := hwl _ hm
    have h2 := wid_pos n.toNat
    refine ⟨n.toNat, 239 + wid n.toNat, ?_, ?_, hm, by omega, by omega, ?_⟩
    · unfold numB; rw [if_neg h, if_pos h0]
    · rw [if_neg (by omega)]; omega
    · unfold decK; rw [if_neg (by omega)]; omega
  · have hm : (-1 - n).toNat < 2 ^ 63 := by omega
    have h1 := hwl _ hm
    have h2 := wid_pos (-1 - n).toNat
    refine ⟨(-1 - n).toNat, 247 + wid (-1 - n).toNat, ?_, ?_, hm, by omega, by omega, ?_⟩
    · unfold numB; rw [if_neg h, if_neg h0]
    · rw [if_pos (by omega)]; omega
    · unfold decK; rw [if_pos (by omega)]; omega

theorem num_there (n : Int) (hn : is64 n) (r : L) : decNum (numB n ++ r) = some (n, r) := by
  by_cases h : 0 ≤ n ∧ n < 240
  · have h1 : numB n = [UInt8.ofNat n.toNat] := by unfold numB; rw [if_pos h]
    have h2 : (UInt8.ofNat n.toNat).toNat = n.toNat := by simp; omega
    rw [h1]
    simp only [List.cons_append, List.nil_append, decNum, h2]
    rw [if_pos (by omega)]
    simp
    omega
  · obtain ⟨m, first, h1, h2, h3, h4, h5, h6⟩ := numB_long h hn
    have h7 : (UInt8.ofNat first).toNat = first := by simp; omega
    have hbl : (be (wid m) m).length = wid m := be_length _ _
    have hmw : m < 256 ^ wid m := by
      by_cases hh : m < 256 ^ wid m
      · exact hh
      · have := (wid_lt (wid m) m (wid_pos m)).2 (by omega)
        omega
    have hbv : beVal (be (wid m) m) = m := beVal_be _ _ hmw
    have hls := (least_iff (first := first) (k := wid m) (bs := be (wid m) m) (by omega) h5 h6 hbl (by rw [hbv]; exact h3)).2
    rw [hbv, ← h2, h1] at hls
    have hls := hls ⟨by simp; omega, rfl⟩
    rw [h1]
    simp only [List.cons_append, decNum, h7, h6]
    rw [if_neg (by omega), if_neg (by simp), List.take_left' hbl, List.drop_left' hbl, hbv, if_pos ⟨hls, h3⟩, ← h2]

theorem num_back {l r : L} {n : Int} (h : decNum l = some (n, r)) : l = numB n ++ r := by
  cases l with
  | nil => simp [decNum] at h
  | cons b l =>
    have hb := b.toNat_lt
    simp only [decNum] at h
    by_cases h240 : b.toNat < 240
    · rw [if_pos h240] at h
      cases h
      unfold numB
      rw [if_pos (by omega)]
      simp
    · rw [if_neg h240] at h
      by_cases hl : l.length < decK b.toNat
      · rw [if_pos hl] at h; cases h
      · rw [if_neg hl] at h
        split at h
        · rename_i hc
          obtain ⟨hc, h63⟩ := hc
          have hbl : (l.take (decK b.toNat)).length = decK b.toNat := by simp; omega
          have hls := (least_iff (first := b.toNat) (k := decK b.toNat) h240 hb rfl hbl h63).1 hc
          cases h
          have hsp := List.take_append_drop (decK b.toNat) l
          generalize hk : decK b.toNat = k at *
          generalize hbs : l.take k = bs at *
          generalize hrr : l.drop k = r at *
          have hk1 : 1 ≤ k := by rw [← hk]; unfold decK; split <;> omega
          have hns : is64 (if 247 < b.toNat then -1 - (beVal bs : Int) else (beVal bs : Int)) := by unfold is64; split <;> omega
          have hnn : ¬ (0 ≤ (if 247 < b.toNat then -1 - (beVal bs : Int) else (beVal bs : Int)) ∧ (if 247 < b.toNat then -1 - (beVal bs : Int) else (beVal bs : Int)) < 240) := by
            intro hh
            have h1 := hls.1
            unfold numB at h1
            rw [if_pos hh] at h1
            simp at h1
            omega
          obtain ⟨m, first, h1, h2, h3, h4, h5, h6⟩ := numB_long hnn hns
          rw [h1] at hls ⊢
          simp only [List.length_cons, be_length, List.getElem?_cons_zero, Option.some.injEq] at hls
          have hm : m = beVal bs := by
            have h7 : b.toNat = first := by
              have := congrArg UInt8.toNat hls.2
              simp at this
              omega
            rw [h7] at h2
            split at h2 <;> omega
          have hw : wid m = k := by omega
          rw [hls.2, ← hsp, hw, hm, be_beVal k bs hbl]
          simp
        · cases h
end Go.Proofs.FileA
/- There and back: lists, texts, trees, contents. Plain lists. -/
set_option linter.unusedVariables false
set_option linter.unusedSimpArgs false
namespace Go.Proofs.FileA
open Go Go.Am

/-- what is written is read, what is read was written so -/
structure Codec {α : Type} (dec : L → Option (α × L)) (B : α → L) (Ok : α → Prop) : Prop where
  there : ∀ a r, Ok a → dec (B a ++ r) = some (a, r)
  back : ∀ l a r, dec l = some (a, r) → l = B a ++ r ∧ Ok a

theorem codec_num : Codec decNum numB is64 := ⟨fun n r h => num_there n h r, fun l n r h => ⟨num_back h, decNum_range h⟩⟩
theorem codec_sq {α β : Type} {f : L → Option (α × L)} {g : L → Option (β × L)} {B : α → L} {C : β → L} {Ok : α → Prop} {Ok' : β → Prop} (hf : Codec f B Ok) (hg : Codec g C Ok') :
    Codec (sq f g) (fun p => B p.1 ++ C p.2) (fun p => Ok p.1 ∧ Ok' p.2) where
  there := fun a r h => by
    simp only [sq, List.append_assoc]
    rw [hf.there _ _ h.1, Option.bind_some, hg.there _ _ h.2]
    rfl
  back := fun l a r h => by
    simp only [sq, Option.bind_eq_some_iff, Option.map_eq_some_iff] at h
    obtain ⟨x, h1, y, h2, h3⟩ := h
    cases h3
    obtain ⟨e1, o1⟩ := hf.back _ _ _ h1
    obtain ⟨e2, o2⟩ := hg.back _ _ _ h2
    exact ⟨by rw [e1, e2, List.append_assoc], o1, o2⟩
theorem codec_map {α β : Type} {f : L → Option (α × L)} {B : α → L} {Ok : α → Prop} (hf : Codec f B Ok) (h : α → β) {B' : β → L} {Ok' : β → Prop} (H1 : ∀ a, Ok a → B' (h a) = B a ∧ Ok' (h a)) (H2 : ∀ b, Ok' b → ∃ a, Ok a ∧ h a = b) :
    Codec (mapD h f) B' Ok' where
  there := fun b r hb => by
    obtain ⟨a, ha, rfl⟩ := H2 b hb
    simp only [mapD]
    rw [(H1 a ha).1, hf.there _ _ ha]
    rfl
  back := fun l b r hb => by
    simp only [mapD, Option.map_eq_some_iff] at hb
    obtain ⟨x, h1, h2⟩ := hb
    cases h2
    obtain ⟨e1, o1⟩ := hf.back _ _ _ h1
    obtain ⟨e2, o2⟩ := H1 _ o1
    exact ⟨by rw [e2]; exact e1, o2⟩
theorem codec_many {α : Type} {dec : L → Option (α × L)} {B : α → L} {Ok : α → Prop} (hc : Codec dec B Ok) : ∀ k : Nat, Codec (decMany dec k) (fun as => as.flatMap B) (fun as => as.length = k ∧ ∀ a ∈ as, Ok a)
  | 0 => ⟨fun a r h => by
      have : a = [] := List.length_eq_zero_iff.1 h.1
      subst this
      rfl, fun l a r h => by
      simp only [decMany] at h
      cases h
      simp⟩
  | k + 1 => ⟨fun a r h => by
      cases a with
      | nil => simp at h
      | cons a as =>
        obtain ⟨h1, h2⟩ := h
        simp only [decMany, List.flatMap_cons, List.append_assoc]
        rw [hc.there _ _ (h2 a (by simp)), Option.bind_some]
        simp only
        rw [(codec_many hc k).there as r ⟨by simpa using h1, fun x hx => h2 x (by simp [hx])⟩]
        rfl, fun l a r h => by
      simp only [decMany, Option.bind_eq_some_iff, Option.map_eq_some_iff] at h
      obtain ⟨x, h1, y, h2, h3⟩ := h
      cases h3
      obtain ⟨e1, o1⟩ := hc.back _ _ _ h1
      obtain ⟨e2, o2, o3⟩ := (codec_many hc k).back _ _ _ h2
      refine ⟨by rw [e1, e2, List.flatMap_cons, List.append_assoc], by simp [o2], fun z hz => ?_⟩
      rcases List.mem_cons.1 hz with rfl | hz
      · exact o1
      · exact o3 z hz⟩
theorem count_there {m : Nat} {r : L} (h1 : m < 2 ^ 63) (h2 : m ≤ r.length) : decCount (numB m ++ r) = some (m, r) := by
  have : is64 (m : Int) := by unfold is64; omega
  simp only [decCount]
  rw [num_there _ this, Option.bind_some, if_neg (by simp only; omega)]
  simp
theorem count_back {l r : L} {m : Nat} (h : decCount l = some (m, r)) : l = numB m ++ r ∧ m < 2 ^ 63 ∧ m ≤ r.length := by
  simp only [decCount, Option.bind_eq_some_iff] at h
  obtain ⟨x, h1, h2⟩ := h
  split at h2
  · cases h2
  · cases h2
    have hr := decNum_range h1
    have := num_back h1
    rw [show ((x.1.toNat : Nat) : Int) = x.1 by omega]
    exact ⟨this, by omega, by omega⟩
theorem flatMap_len {α : Type} {B : α → L} {as : List α} (h : ∀ a ∈ as, 1 ≤ (B a).length) : as.length ≤ (as.flatMap B).length := by
  induction as with
  | nil => simp
  | cons a as ih =>
    have h1 := h a (by simp)
    have h2 := ih (fun x hx => h x (by simp [hx]))
    simp only [List.flatMap_cons, List.length_append, List.length_cons]
    omega
theorem codec_all {α : Type} {dec : L → Option (α × L)} {B : α → L} {Ok : α → Prop} (hc : Codec dec B Ok) (hp : ∀ a, Ok a → 1 ≤ (B a).length) :
    Codec (decAll dec) (fun as => numB as.length ++ as.flatMap B) (fun as => (∀ a ∈ as, Ok a) ∧ as.length < 2 ^ 63) where
  there := fun a r h => by
    have hl := flatMap_len (B := B) (as := a) (fun x hx => hp x (h.1 x hx))
    simp only [decAll, List.append_assoc]
    rw [count_there h.2 (by simp only [List.length_append]; omega), Option.bind_some]
    exact (codec_many hc _).there a r ⟨rfl, h.1⟩
  back := fun l a r h => by
    simp only [decAll, Option.bind_eq_some_iff] at h
    obtain ⟨x, h1, h2⟩ := h
    obtain ⟨e1, o1, o2⟩ := count_back h1
    obtain ⟨e2, o3, o4⟩ := (codec_many hc _).back _ _ _ h2
    exact ⟨by rw [e1, e2, o3, List.append_assoc], o4, by omega⟩
theorem codec_text : Codec decText textB (fun s => s.length < 2 ^ 63) where
  there := fun s r h => by
    simp only [decText, textB, List.append_assoc]
    rw [count_there h (by simp)]
    simp
  back := fun l s r h => by
    simp only [decText, Option.map_eq_some_iff] at h
    obtain ⟨x, h1, h2⟩ := h
    obtain ⟨e1, o1, o2⟩ := count_back h1
    cases h2
    have : (x.2.take x.1).length = x.1 := by simp; omega
    refine ⟨?_, by omega⟩
    unfold textB
    rw [this, List.append_assoc, List.take_append_drop]
    exact e1

def OkL (l : List Int) : Prop := (∀ n ∈ l, is64 n) ∧ l.length < 2 ^ 63
theorem numB_pos1 (n : Int) : 1 ≤ (numB n).length := List.length_pos_iff.2 (numB_ne n)
theorem codec_list : Codec decList listB OkL := codec_all codec_num (fun n _ => numB_pos1 n)
theorem listB_pos (l : List Int) : 1 ≤ (listB l).length := by have := numB_pos1 l.length; unfold listB; simp only [List.length_append]; omega

/-- a tree of a form, at most so deep -/
def OkT (a b : Nat) : Nat → T → Prop
  | 0, _ => False
  | d + 1, ⟨ns, ls, ks⟩ => (ns.length = a ∧ ∀ n ∈ ns, is64 n) ∧ (ls.length = b ∧ ∀ l ∈ ls, OkL l) ∧ (∀ k ∈ ks, OkT a b d k) ∧ ks.length < 2 ^ 63
theorem content_pos (t : T) : 1 ≤ (content t).length := by
  cases t with
  | mk ns ls ks =>
    have := numB_pos1 ks.length
    simp only [content, List.length_append]
    omega
theorem contents_flat (ks : List T) : contents ks = ks.flatMap content := by rw [contents_eq, List.flatMap_def]
theorem decT_eq (a b d : Nat) : decT a b (d + 1) = mapD (fun p => T.mk p.1 p.2.1 p.2.2) (sq (decMany decNum a) (sq (decMany decList b) (decAll (decT a b d)))) := by
  funext l
  simp only [decT, mapD, sq]
  cases decMany decNum a l with
  | none => rfl
  | some x =>
    simp only [Option.bind_some, Option.map_some]
    cases decMany decList b x.2 with
    | none => rfl
    | some y =>
      simp only [Option.bind_some, Option.map_some]
      cases decAll (decT a b d) y.2 <;> rfl
theorem codec_T (a b : Nat) : ∀ d : Nat, Codec (decT a b d) content (OkT a b d)
  | 0 => ⟨fun t r h => h.elim, fun l t r h => by simp [decT] at h⟩
  | d + 1 => by
    rw [decT_eq]
    refine codec_map (codec_sq (codec_many codec_num a) (codec_sq (codec_many codec_list b) (codec_all (codec_T a b d) (fun t _ => content_pos t)))) _ ?_ ?_
    · rintro ⟨ns, ls, ks⟩ ⟨h1, h2, h3⟩
      exact ⟨by simp only [content, contents_flat, List.append_assoc], h1, h2, h3⟩
    · rintro ⟨ns, ls, ks⟩ ⟨h1, h2, h3⟩
      exact ⟨(ns, ls, ks), ⟨h1, h2, h3⟩, rfl⟩

def OkC (d : Nat) (ks : List T) : Prop := (∀ k ∈ ks, OkT 2 2 d k) ∧ ks.length < 2 ^ 63
theorem codec_code (d : Nat) : Codec (decCode d) codeB (OkC d) := by
  have h := codec_all (codec_T 2 2 d) (fun t _ => content_pos t)
  have : codeB = fun as => numB as.length ++ as.flatMap content := by funext as; simp only [codeB, contents_flat]
  rw [this]
  exact h
def OkFun (f : FunT) : Prop := f.name.length < 2 ^ 63 ∧ is64 f.param ∧ OkT 3 0 60 f.body
theorem codec_fun : Codec decFun funB OkFun := by
  rw [decFun_eq]
  refine codec_map (codec_sq codec_text (codec_sq codec_num (codec_T 3 0 60))) _ ?_ ?_
  · rintro ⟨a, b, c⟩ h
    exact ⟨by simp only [funB, List.append_assoc], h⟩
  · rintro ⟨a, b, c⟩ h
    exact ⟨(a, b, c), h, rfl⟩
def OkProg (p : ProgT) : Prop := ((∀ f ∈ p.funs, OkFun f) ∧ p.funs.length < 2 ^ 63) ∧ is64 p.main
theorem codec_prog : Codec decProg progB OkProg := by
  rw [decProg_eq]
  refine codec_map (codec_sq (codec_all codec_fun (fun f _ => by have := content_pos f.body; simp only [funB, List.length_append]; omega)) codec_num) _ ?_ ?_
  · rintro ⟨a, b⟩ h
    exact ⟨by simp only [progB, List.flatMap_def], h⟩
  · rintro ⟨a, b⟩ h
    exact ⟨(a, b), h, rfl⟩
def OkVecFun (f : VecFunT) : Prop := is64 f.params ∧ OkC 60 f.code ∧ OkL f.outs ∧ OkL f.ats
theorem codec_vecFun : Codec decVecFun vecFunB OkVecFun := by
  rw [decVecFun_eq]
  refine codec_map (codec_sq codec_num (codec_sq (codec_code 60) (codec_sq codec_list codec_list))) _ ?_ ?_
  · rintro ⟨a, b, c, d⟩ h
    exact ⟨by simp only [vecFunB, List.append_assoc], h⟩
  · rintro ⟨a, b, c, d⟩ h
    exact ⟨(a, b, c, d), h, rfl⟩
def OkVec (p : VecT) : Prop := ((∀ f ∈ p.funs, OkVecFun f) ∧ p.funs.length < 2 ^ 63) ∧ is64 p.main
theorem codec_vec : Codec decVec vecB OkVec := by
  rw [decVec_eq]
  refine codec_map (codec_sq (codec_all codec_vecFun (fun f _ => by have := numB_pos1 f.params; simp only [vecFunB, List.length_append]; omega)) codec_num) _ ?_ ?_
  · rintro ⟨a, b⟩ h
    exact ⟨by simp only [vecB, List.flatMap_def], h⟩
  · rintro ⟨a, b⟩ h
    exact ⟨(a, b), h, rfl⟩
def OkLog (p : LogT) : Prop := is64 p.kind ∧ OkL p.choices ∧ OkL p.marks
theorem codec_log : Codec decLog logB OkLog := by
  rw [decLog_eq]
  refine codec_map (codec_sq codec_num (codec_sq codec_list codec_list)) _ ?_ ?_
  · rintro ⟨a, b, c⟩ h
    exact ⟨by simp only [logB, List.append_assoc], h⟩
  · rintro ⟨a, b, c⟩ h
    exact ⟨(a, b, c), h, rfl⟩
end Go.Proofs.FileA
/- There and back: files. Plain lists. -/
set_option linter.unusedVariables false
set_option linter.unusedSimpArgs false
namespace Go.Proofs.FileA
open Go Go.Am

theorem fileOf_body (k : UInt8) (c : L) : (fileOf k c).take ((fileOf k c).length - 4) = [83, 119, k] ++ c ∧ (fileOf k c).drop ((fileOf k c).length - 4) = be 4 (sumOf ([83, 119, k] ++ c)) := by
  have h : (fileOf k c).length - 4 = ([83, 119, k] ++ c).length := by rw [fileOf_length]; simp
  rw [h]
  unfold fileOf
  exact ⟨List.take_left' rfl, List.drop_left' rfl⟩
theorem fileOf_head (k : UInt8) (c : L) : (fileOf k c)[0]? = some 83 ∧ (fileOf k c)[1]? = some 119 ∧ (fileOf k c)[2]? = some k := by
  simp [fileOf]
theorem kindOf_file (k : UInt8) (c : L) (h : c.length + 7 ≤ 200000) : kindOf sumOf (fileOf k c) = (k.toNat, 0) := by
  obtain ⟨h1, h2⟩ := fileOf_body k c
  obtain ⟨g0, g1, g2⟩ := fileOf_head k c
  have hl := fileOf_length k c
  unfold kindOf
  rw [if_neg (by omega), g0, g1, g2, if_neg (by simp; omega), h1, h2, if_neg (by simp)]
  rfl
theorem kindOf_back {b : L} (h : (kindOf sumOf b).2 = 0) : ∃ k : UInt8, b = fileOf k ((b.take (b.length - 4)).drop 3) ∧ (kindOf sumOf b).1 = k.toNat ∧ b.length ≤ 200000 := by
  obtain ⟨h7, h2⟩ := kindOf_len h
  unfold kindOf at h ⊢
  rw [if_neg (by omega)] at h ⊢
  by_cases hc : b.length < 7 ∨ b[0]? ≠ some 83 ∨ b[1]? ≠ some 119
  · rw [if_pos hc] at h; simp at h
  · rw [if_neg hc] at h ⊢
    by_cases hs : b.drop (b.length - 4) ≠ be 4 (sumOf (b.take (b.length - 4)))
    · rw [if_pos hs] at h; simp at h
    · rw [if_neg hs]
      have hs : b.drop (b.length - 4) = be 4 (sumOf (b.take (b.length - 4))) := Classical.not_not.1 hs
      obtain ⟨b0, b1, b2, r, rfl⟩ : ∃ b0 b1 b2 r, b = b0 :: b1 :: b2 :: r := by
        match b, h7 with
        | b0 :: b1 :: b2 :: r, _ => exact ⟨b0, b1, b2, r, rfl⟩
      simp only [not_or, Classical.not_not, List.getElem?_cons_zero, List.getElem?_cons_succ, Option.some.injEq] at hc
      obtain ⟨_, rfl, rfl⟩ := hc
      refine ⟨b2, ?_, rfl, h2⟩
      have hsp := List.take_append_drop ((83 :: 119 :: b2 :: r).length - 4) (83 :: 119 :: b2 :: r)
      have ht : (83 :: 119 :: b2 :: r).take ((83 :: 119 :: b2 :: r).length - 4) = [83, 119, b2] ++ ((83 :: 119 :: b2 :: r).take ((83 :: 119 :: b2 :: r).length - 4)).drop 3 := by
        obtain ⟨n, hn⟩ : ∃ n, (83 :: 119 :: b2 :: r).length - 4 = n + 3 := ⟨(83 :: 119 :: b2 :: r).length - 7, by omega⟩
        rw [hn]
        rfl
      unfold fileOf
      rw [← ht, ← hs, hsp]

section
variable {α : Type} {dec : L → Option (α × L)} {B : α → L} {Ok : α → Prop}
theorem readOf_there (hc : Codec dec B Ok) {x : α} (hx : Ok x) (k : UInt8) (hl : (B x).length + 7 ≤ 200000) : readOf sumOf k.toNat dec (fileOf k (B x)) = (some x, 0) := by
  have hk := kindOf_file k (B x) hl
  unfold readOf
  rw [hk, if_neg (by simp), if_neg (by simp), (fileOf_body k (B x)).1]
  have := hc.there x [] hx
  rw [List.append_nil] at this
  have h3 : ([83, 119, k] ++ B x).drop 3 = B x := rfl
  rw [h3, this]
theorem readOf_other (k : UInt8) (c : L) (hl : c.length + 7 ≤ 200000) (j : Nat) (hj : j ≠ k.toNat) : readOf sumOf j dec (fileOf k c) = (none, 15) := by
  have hk := kindOf_file k c hl
  unfold readOf
  rw [hk, if_neg (by simp), if_pos (by simpa using Ne.symm hj)]
theorem readOf_back (hc : Codec dec B Ok) {b : L} {k : Nat} (h : (readOf sumOf k dec b).2 = 0) : ∃ x, (readOf sumOf k dec b).1 = some x ∧ b = fileOf (UInt8.ofNat k) (B x) ∧ Ok x ∧ b.length ≤ 200000 ∧ (kindOf sumOf b).1 = k := by
  unfold readOf at h ⊢
  by_cases h1 : (kindOf sumOf b).2 ≠ 0
  · rw [if_pos h1] at h; exact absurd h h1
  · rw [if_neg h1] at h ⊢
    have h1 := Classical.not_not.1 h1
    obtain ⟨k', hb, hk, hl⟩ := kindOf_back h1
    by_cases h2 : (kindOf sumOf b).1 ≠ k
    · rw [if_pos h2] at h; simp at h
    · rw [if_neg h2] at h ⊢
      have h2 := Classical.not_not.1 h2
      generalize hcc : (b.take (b.length - 4)).drop 3 = c at *
      cases hd : dec c with
      | none => rw [hd] at h; simp at h
      | some y =>
        obtain ⟨a, r⟩ := y
        rw [hd] at h
        cases r with
        | cons _ _ => simp at h
        | nil =>
          obtain ⟨e1, o1⟩ := hc.back _ _ _ hd
          rw [List.append_nil] at e1
          refine ⟨a, rfl, ?_, o1, hl, h2⟩
          have : UInt8.ofNat k = k' := by rw [← h2, hk]; simp
          rw [this, ← e1]
          exact hb
theorem codec_inj (hc : Codec dec B Ok) {x y : α} (hx : Ok x) (hy : Ok y) (h : B x = B y) : x = y := by
  have h1 := hc.there x [] hx
  have h2 := hc.there y [] hy
  rw [h, h2] at h1
  cases h1
  rfl
end
theorem fileOf_inj {k : UInt8} {c d : L} (h : fileOf k c = fileOf k d) : c = d := by
  have h1 := (fileOf_body k c).1
  have h2 := (fileOf_body k d).1
  rw [h, h2] at h1
  exact (List.append_cancel_left h1).symm

/-! what arguments give -/
theorem okL_of {l : List Int} {v : V} (h : IsInts l v) : OkL l := ⟨h.rng, by have := h.len; unfold small at this; omega⟩
theorem isLists_ok : ∀ {ls : List (List Int)} {vs : List V}, IsLists ls vs → ∀ l ∈ ls, OkL l
  | [], _, _ => by simp
  | l :: ls, vs, h => by
    simp only [IsLists] at h
    obtain ⟨v, vs', rfl, h1, h2⟩ := h
    intro x hx
    rcases List.mem_cons.1 hx with rfl | hx
    · exact okL_of h1
    · exact isLists_ok h2 x hx
theorem All2.mem' {α : Type} {R : α → List V → Prop} : ∀ {as : List α} {es : List (List V)}, All2 R as es → ∀ a ∈ as, ∃ e, R a e
  | [], [], _, _, h => by simp at h
  | a :: as, e :: es, h, a', h' => by
    rcases List.mem_cons.1 h' with rfl | h'
    · exact ⟨e, h.1⟩
    · exact All2.mem' h.2 a' h'
theorem okT_of {a b : Nat} : ∀ (d : Nat) (t : T) (cs : List V), IsT a b t cs → depth t ≤ d → OkT a b d t
  | 0, t, cs, h, hd => by rw [depth_kids] at hd; omega
  | d + 1, ⟨ns, ls, ks⟩, cs, h, hd => by
    simp only [IsT] at h
    obtain ⟨h1, h2, h3, vs, v, es, rfl, h4, h5, h6, h7⟩ := h
    rw [depth_kids] at hd
    have hdk := depths_le.1 (show depths (T.kids ⟨ns, ls, ks⟩) ≤ d by omega)
    refine ⟨⟨h1, h3⟩, ⟨h2, isLists_ok h4⟩, fun k hk => ?_, by unfold small at h6; omega⟩
    obtain ⟨e, he⟩ := (isTs_all h7).mem' k hk
    exact okT_of d k e he (hdk k hk)
theorem okProg_of {p : ProgT} {cs : List V} (h : IsProg p cs) (hd : progDepth p ≤ 60) : OkProg p := by
  obtain ⟨⟨v, es, rfl, hv, hall⟩, h1, h2⟩ := h
  refine ⟨⟨fun f hf => ?_, by unfold small at h2; omega⟩, h1⟩
  obtain ⟨e, ⟨bc, rfl, hb⟩, g1, g2⟩ := hall.mem' f hf
  exact ⟨by unfold small at g2; omega, g1, okT_of 60 _ _ hb (depths_le.1 hd _ (List.mem_map.2 ⟨f, hf, rfl⟩))⟩
theorem okVec_of {p : VecT} {cs : List V} (h : IsVec p cs) (hd : vecDepth p ≤ 60) : OkVec p := by
  obtain ⟨⟨v, es, rfl, hv, hall⟩, h1, h2⟩ := h
  refine ⟨⟨fun f hf => ?_, by unfold small at h2; omega⟩, h1⟩
  obtain ⟨e, ⟨vc, vo, va, fs, rfl, g1, g2, g3, g4⟩, k1, k2⟩ := hall.mem' f hf
  have hdf : depths f.code ≤ 60 := foldr_max_le.1 hd _ (List.mem_map.2 ⟨f, hf, rfl⟩)
  refine ⟨k1, ⟨fun t ht => ?_, by unfold small at k2; omega⟩, okL_of g3, okL_of g4⟩
  obtain ⟨e, he⟩ := (isTs_all g2).mem' t ht
  exact okT_of 60 _ _ he (depths_le.1 hdf t ht)
theorem okLog_of {p : LogT} {cs : List V} (h : IsLog p cs) : OkLog p := by
  obtain ⟨⟨v, w, rfl, h1, h2⟩, h3⟩ := h
  exact ⟨h3, okL_of h1, okL_of h2⟩
end Go.Proofs.FileA
/- One of each kind: put, get, same, only. -/
set_option linter.unusedVariables false
set_option linter.unusedSimpArgs false
namespace Go.Proofs.FileA
open Go Go.Am

/-- one of each kind -/
structure ThingsT where
  x : T
  p : ProgT
  q : VecT
  l : LogT
/-- cells of one of each kind -/
structure IsThings (X : ThingsT) (cs : List V) : Prop where
  ex : ∃ a0 a1 a2 b0 b1 c0 c1 d0 d1 d2, cs = [a0, a1, a2, b0, b1, c0, c1, d0, d1, d2] ∧ IsT 2 0 X.x [a0, a1, a2] ∧ IsProg X.p [b0, b1] ∧ IsVec X.q [c0, c1] ∧ IsLog X.l [d0, d1, d2]
def zT : T := .mk [0, 0] [] []
def zP : ProgT := ⟨[], 0⟩
def zQ : VecT := ⟨[], 0⟩
def zL : LogT := ⟨0, [], []⟩
def zThings : ThingsT := ⟨zT, zP, zQ, zL⟩
def onlyX (X : ThingsT) : Nat → ThingsT
  | 0 => ⟨X.x, zP, zQ, zL⟩
  | 1 => ⟨zT, X.p, zQ, zL⟩
  | 2 => ⟨zT, zP, X.q, zL⟩
  | _ => ⟨zT, zP, zQ, X.l⟩
def depthK (X : ThingsT) : Nat → Nat
  | 0 => depth X.x
  | 1 => progDepth X.p
  | 2 => vecDepth X.q
  | _ => 0
def contentK (X : ThingsT) : Nat → L
  | 0 => content X.x
  | 1 => progB X.p
  | 2 => vecB X.q
  | _ => logB X.l
/-- sizes that the machine can hold -/
def SmallX (X : ThingsT) : Prop := ∀ k, (contentK X k).length ≤ 2 ^ 46

theorem IsThings.make {X : ThingsT} {ca cb cc cd : List V} (h1 : IsT 2 0 X.x ca) (h2 : IsProg X.p cb) (h3 : IsVec X.q cc) (h4 : IsLog X.l cd) : IsThings X (ca ++ cb ++ cc ++ cd) := by
  have l1 := (isT_cells h1).1
  have l2 := (isProg_cells h2).1
  have l3 := (isVec_cells h3).1
  have l4 := (isLog_cells h4).1
  match ca, cb, cc, cd, l1, l2, l3, l4 with
  | [a0, a1, a2], [b0, b1], [c0, c1], [d0, d1, d2], _, _, _, _ => exact ⟨a0, a1, a2, b0, b1, c0, c1, d0, d1, d2, rfl, h1, h2, h3, h4⟩
theorem log_pure {p : LogT} {cs : List V} (h : IsLog p cs) : pureL cs = true := by
  obtain ⟨⟨v, w, rfl, h1, h2⟩, _⟩ := h
  simp [pureL, pureV, h1.sl.pure, h2.sl.pure]
theorem IsThings.facts {X : ThingsT} {cs : List V} (h : IsThings X cs) : ∃ a0 a1 a2 b0 b1 c0 c1 d0 d1 d2, cs = [a0, a1, a2, b0, b1, c0, c1, d0, d1, d2] ∧ IsT 2 0 X.x [a0, a1, a2] ∧ IsProg X.p [b0, b1] ∧ IsVec X.q [c0, c1] ∧ IsLog X.l [d0, d1, d2] ∧
    (isCell a0 = true ∧ isCell a1 = true ∧ isCell a2 = true) ∧ (isCell b0 = true ∧ isCell b1 = true) ∧ (isCell c0 = true ∧ isCell c1 = true) ∧ (isCell d0 = true ∧ isCell d1 = true ∧ isCell d2 = true) ∧ pureL cs = true := by
  obtain ⟨a0, a1, a2, b0, b1, c0, c1, d0, d1, d2, rfl, h1, h2, h3, h4⟩ := h.ex
  have l1 := (isT_cells h1).2
  have l2 := (isProg_cells h2).2
  have l3 := (isVec_cells h3).2
  have l4 := (isLog_cells h4).2
  simp only [List.all_cons, List.all_nil, Bool.and_true, Bool.and_eq_true] at l1 l2 l3 l4
  refine ⟨a0, a1, a2, b0, b1, c0, c1, d0, d1, d2, rfl, h1, h2, h3, h4, l1, l2, l3, l4, ?_⟩
  have p1 := isT_pure h1
  have p2 := isProg_pure h2
  have p3 := isVec_pure h3
  have p4 := log_pure h4
  simp only [pureL, Bool.and_true, Bool.and_eq_true] at p1 p2 p3 p4 ⊢
  simp [p1, p2, p3, p4]

theorem put_q {X : ThingsT} {cs : List V} (hX : IsThings X cs) (k : Nat) (hk : k < 4) : pcall (lim gl0 Tryd.aprog) (.func (.func 37) [] []) [.agg cs, .int .i64 k] = some (.val (putR (depthK X k) (UInt8.ofNat k) (contentK X k))) := by
  obtain ⟨a0, a1, a2, b0, b1, c0, c1, d0, d1, d2, rfl, h1, h2, h3, h4, ⟨f1, f2, f3⟩, ⟨f4, f5⟩, ⟨f6, f7⟩, ⟨f8, f9, f10⟩, hp⟩ := hX.facts
  have e1 := pPutValue (gl := gl0) h1 rfl
  have e2 := pPutProg (gl := gl0) h2 rfl
  have e3 := pPutVec (gl := gl0) h3 rfl
  have e4 := pPutLog (gl := gl0) h4 rfl
  have key : CallP gl0 Tryd.aprog 37 [.agg [a0, a1, a2, b0, b1, c0, c1, d0, d1, d2], .int .i64 k] [] (fun r h' => r = .ret (putR (depthK X k) (UInt8.ofNat k) (contentK X k))) := by
    refine call_ofQ (af := Tryd.a37) rfl rfl fun Q hQ => ?_
    simp only [Tryd.a37]
    have hfin : ∀ (d : Nat) (k : UInt8) (c : L), ∃ u w, putR d k c = .tup [u, w] := fun d k c => by
      unfold putR
      split
      · exact ⟨_, _, rfl⟩
      · split <;> exact ⟨_, _, rfl⟩
    match k, hk with
    | 0, _ =>
      obtain ⟨u, w, hu⟩ := hfin (depth X.x) 0 (content X.x)
      rw [hu] at e1
      simp [f1, f2, f3, f4, f5, f6, f7, f8, f9, f10, e1, -pcall]
      exact hQ _ _ (by simp only [depthK, contentK]; exact congrArg R.ret hu.symm)
    | 1, _ =>
      obtain ⟨u, w, hu⟩ := hfin (progDepth X.p) 1 (progB X.p)
      rw [hu] at e2
      simp [f1, f2, f3, f4, f5, f6, f7, f8, f9, f10, e2, -pcall]
      exact hQ _ _ (by simp only [depthK, contentK]; exact congrArg R.ret hu.symm)
    | 2, _ =>
      obtain ⟨u, w, hu⟩ := hfin (vecDepth X.q) 2 (vecB X.q)
      rw [hu] at e3
      simp [f1, f2, f3, f4, f5, f6, f7, f8, f9, f10, e3, -pcall]
      exact hQ _ _ (by simp only [depthK, contentK]; exact congrArg R.ret hu.symm)
    | 3, _ =>
      obtain ⟨u, w, hu⟩ := hfin 0 3 (logB X.l)
      rw [hu] at e4
      simp [f1, f2, f3, f4, f5, f6, f7, f8, f9, f10, e4, -pcall]
      exact hQ _ _ (by simp only [depthK, contentK]; exact congrArg R.ret hu.symm)
  obtain ⟨r, h', e, rfl⟩ := OptP.ex key
  exact pcall_of e (by simpa [pureL, pureV] using hp) (putR_view _ _ _ _)

theorem only_q {X : ThingsT} {cs : List V} (hX : IsThings X cs) (k : Nat) (hk : k < 4) (gl : Nat → List V) : ∃ ds, pcall (lim gl Tryd.aprog) (.func (.func 40) [] []) [.agg cs, .int .i64 k] = some (.val (.agg ds)) ∧ IsThings (onlyX X k) ds := by
  obtain ⟨a0, a1, a2, b0, b1, c0, c1, d0, d1, d2, rfl, h1, h2, h3, h4, ⟨f1, f2, f3⟩, ⟨f4, f5⟩, ⟨f6, f7⟩, ⟨f8, f9, f10⟩, hp⟩ := hX.facts
  have key : CallP gl Tryd.aprog 40 [.agg [a0, a1, a2, b0, b1, c0, c1, d0, d1, d2], .int .i64 k] [] (fun r h' => ∃ ds, r = .ret (.agg ds) ∧ IsThings (onlyX X k) ds) := by
    refine call_ofQ (af := Tryd.a40) rfl rfl fun Q hQ => ?_
    simp only [Tryd.a40]
    match k, hk with
    | 0, _ =>
      simp [f1, f2, f3, f4, f5, f6, f7, f8, f9, f10, fill, splice]
      exact hQ _ _ ⟨_, rfl, ⟨_, _, _, _, _, _, _, _, _, _, rfl, h1, zero_prog, zero_vec, zero_log⟩⟩
    | 1, _ =>
      simp [f1, f2, f3, f4, f5, f6, f7, f8, f9, f10, fill, splice]
      exact hQ _ _ ⟨_, rfl, ⟨_, _, _, _, _, _, _, _, _, _, rfl, zero_value, h2, zero_vec, zero_log⟩⟩
    | 2, _ =>
      simp [f1, f2, f3, f4, f5, f6, f7, f8, f9, f10, fill, splice]
      exact hQ _ _ ⟨_, rfl, ⟨_, _, _, _, _, _, _, _, _, _, rfl, zero_value, zero_prog, h3, zero_log⟩⟩
    | 3, _ =>
      simp [f1, f2, f3, f4, f5, f6, f7, f8, f9, f10, fill, splice]
      exact hQ _ _ ⟨_, rfl, ⟨_, _, _, _, _, _, _, _, _, _, rfl, zero_value, zero_prog, zero_vec, h4⟩⟩
  obtain ⟨r, h', e, ds, rfl, hds⟩ := OptP.ex key
  refine ⟨ds, pcall_of e (by simpa [pureL, pureV] using hp) ?_, hds⟩
  obtain ⟨_, _, _, _, _, _, _, _, _, _, _, _, _, _, _, _, _, _, _, hpd⟩ := hds.facts
  exact viewV_pure _ _ (by simpa [pureV] using hpd)

theorem things_same {X Y : ThingsT} {cs ds : List V} (hX : IsThings X cs) (hY : IsThings Y ds) : Says 39 [.agg cs, .agg ds] (X = Y) := by
  obtain ⟨a0, a1, a2, b0, b1, c0, c1, d0, d1, d2, rfl, h1, h2, h3, h4, ⟨f1, f2, f3⟩, ⟨f4, f5⟩, ⟨f6, f7⟩, ⟨f8, f9, f10⟩, hp⟩ := hX.facts
  obtain ⟨i0, i1, i2, j0, j1, k0, k1, m0, m1, m2, rfl, g1, g2, g3, g4, ⟨q1, q2, q3⟩, ⟨q4, q5⟩, ⟨q6, q7⟩, ⟨q8, q9, q10⟩, hp'⟩ := hY.facts
  refine says_of (by simp [pureL, pureV] at hp hp' ⊢; simp [hp, hp']) fun gl => ?_
  obtain ⟨s1, e1, w1⟩ := value_same _ _ _ _ _ (Nat.le_refl _) h1 g1 gl
  obtain ⟨s2, e2, w2⟩ := prog_same h2 g2 gl
  obtain ⟨s3, e3, w3⟩ := vec_same h3 g3 gl
  obtain ⟨s4, e4, w4⟩ := log_same h4 g4 gl
  have hiff : X = Y ↔ s1 = true ∧ s2 = true ∧ s3 = true ∧ s4 = true := by
    rw [w1, w2, w3, w4]
    cases X
    cases Y
    simp
  refine call_ofQ (af := Tryd.a39) rfl rfl fun Q hQ => ?_
  simp only [Tryd.a39]
  simp only [hiff] at hQ
  cases s1 with
  | false =>
    simp [f1, f2, f3, f4, f5, f6, f7, f8, f9, f10, q1, q2, q3, q4, q5, q6, q7, q8, q9, q10, e1, slotOf, -pcall]
    exact hQ _ _ ⟨false, rfl, by simp⟩
  | true =>
  cases s2 with
  | false =>
    simp [f1, f2, f3, f4, f5, f6, f7, f8, f9, f10, q1, q2, q3, q4, q5, q6, q7, q8, q9, q10, e1, e2, slotOf, -pcall]
    exact hQ _ _ ⟨false, rfl, by simp⟩
  | true =>
  cases s3 with
  | false =>
    simp [f1, f2, f3, f4, f5, f6, f7, f8, f9, f10, q1, q2, q3, q4, q5, q6, q7, q8, q9, q10, e1, e2, e3, slotOf, -pcall]
    exact hQ _ _ ⟨false, rfl, by simp⟩
  | true =>
    simp [f1, f2, f3, f4, f5, f6, f7, f8, f9, f10, q1, q2, q3, q4, q5, q6, q7, q8, q9, q10, e1, e2, e3, e4, slotOf, -pcall]
    exact hQ _ _ ⟨s4, rfl, by simp⟩
end Go.Proofs.FileA
