/- StepNames: the seat's facts: package-level variables, a witness; the card: it returns true. -/
import Derived.Test.YtlilodefhmolpaaGreatDoorCards
import Derived.Test.YtlilodefhmolpaaGreatDoorTie
import Derived.Test.YtlilodefhmolpaaGreatDoorChk
import Derived.Test.YtlilodefhmolpaaGreatDoorFactsC
import Derived.Test.YtlilodefhmolpaaGreatDoorCoreD
import Derived.WalkKit
import Derived.ProofKit
import Derived.OpenShut
import Derived.LaidMore
import Derived.Deep.DeepHandedRow
import Derived.Deep.DeepWitnessRef
import Derived.Deep.DeepLaidRun
import GoSem.PinnedTables

set_option linter.unusedVariables false
set_option linter.unusedSimpArgs false
namespace Go.Proofs.YtlilodefhmolpaaGreatDoor.fnStepNames
open Go.ChangeShapes Go.WideShapes Go.ChangeAt Go.RowKit Go.Am Go.Proofs.Zst

theorem sOwn : ownKnob Tryz.prog.godebug = none := by kernel_rfl
theorem sLaidOut : laidOutB Tryz.prog = true := by kernel_rfl
theorem sRowed : mapsRowed Tryz.prog = true := by kernel_rfl
theorem sPlain : plainTs Tryz.prog [] = true := rfl
theorem sLt : ([] : List TypeId).all (· < Tryz.prog.types.size) = true := rfl
theorem tB : Tryz.prog.underlying 4 = some .bool := by kernel_rfl
def tabNames : List (String × Nat) := [("(sheafworks/word.pair).add", 180), ("(sheafworks/word.pair).sub", 184), ("(sheafworks/word.pair).mul", 185), ("(sheafworks/word.pair).div", 186), ("(sheafworks/word.pair).mod", 187), ("(sheafworks/word.pair).less", 188), ("(sheafworks/word.pair).same", 189), ("(sheafworks/word.pair).min", 190), ("(sheafworks/word.pair).max", 191), ("(sheafworks/word.pair).and", 192), ("(sheafworks/word.pair).or", 193), ("(sheafworks/word.pair).xor", 194)]
def tabD : DataW Unit := match (Rows.laid_sheafworks_word_deeds : DataW Unit) with
  | .iface _ d => d
  | d => d
theorem tabLaid : (Rows.laid_sheafworks_word_deeds : DataW Unit) = .iface "func table" tabD := rfl
theorem gTab : Tryz.prog.globalNamed "sheafworks/word.deeds" = some 0 := by kernel_rfl
theorem gTabT : (Tryz.prog.globals[0]?).map (·.type) = some 153 := by kernel_rfl
def funcOf (P : Program) (t : TypeId) : Bool := match P.underlying t with
  | some (.func ..) => true
  | _ => false
theorem funcOf_ex {P : Program} {t : TypeId} (h : funcOf P t = true) : ∃ a b c, P.underlying t = some (.func a b c) := by
  unfold funcOf at h
  split at h
  · rename_i a b c hu; exact ⟨a, b, c, hu⟩
  · cases h
def arrOf (P : Program) (t : TypeId) : Option (Nat × TypeId) := match P.underlying t with
  | some (.array n e) => some (n, e)
  | _ => none
theorem arrOf_ex {P : Program} {t : TypeId} {n e : Nat} (h : arrOf P t = some (n, e)) : P.underlying t = some (.array n e) := by
  unfold arrOf at h
  split at h
  · rename_i n e hu; rw [hu]; simp at h; rw [h.1, h.2]
  · cases h
theorem gl0_ok {w : World} (h : laidMetH Tryz.prog Rows.stepNamesUptoRow.laid w) : ∃ arr, memAll w 0 = some arr ∧ RDs (memAll w) (gl 0) arr.toList := by
  have hf : funcsAt Tryz.prog w "sheafworks/word.deeds" tabD := laidMetH.funcs h (List.mem_of_getElem? (i := 1) rfl)
  have := glOk_tab (nms := tabNames) (g := 0) (t := 153) (e := 152) (n := 12) gTab gTabT (arrOf_ex (by kernel_rfl)) (funcOf_ex (by kernel_rfl)) (by kernel_rfl) (by kernel_rfl) hf (by kernel_rfl) (by decide +kernel) (by
    intro x hx
    simp only [tabNames, List.mem_cons, List.not_mem_nil, or_false] at hx
    rcases hx with rfl | rfl | rfl | rfl | rfl | rfl | rfl | rfl | rfl | rfl | rfl | rfl <;> kernel_rfl)
  exact this 0 (by simp)
theorem g1_n : Tryz.prog.globalNamed "sheafworks/word.neutrals" = some 1 := by kernel_rfl
theorem g1_t : (Tryz.prog.globals[1]?).map (·.type) = some 195 := by kernel_rfl
theorem g1_d : dcells (Rows.laid_sheafworks_word_neutrals : DataW Unit) = gl 1 := by kernel_rfl
theorem gl1_ok {w : World} (h : laidMetH Tryz.prog Rows.stepNamesUptoRow.laid w) : ∃ arr, memAll w 1 = some arr ∧ RDs (memAll w) (gl 1) arr.toList := by
  have := data_global (P := Tryz.prog) (name := "sheafworks/word.neutrals") (d := Rows.laid_sheafworks_word_neutrals) (g := 1) (t := 195) (tl := [3, 195]) h (List.mem_of_getElem? (i := 3) rfl) (by kernel_rfl) g1_n g1_t (by kernel_rfl) (by decide)
  rw [g1_d] at this
  exact this
theorem g2_n : Tryz.prog.globalNamed "strings.asciiSpace" = some 2 := by kernel_rfl
theorem g2_t : (Tryz.prog.globals[2]?).map (·.type) = some 201 := by kernel_rfl
theorem g2_d : dcells (Rows.laid_strings_asciiSpace : DataW Unit) = gl 2 := by kernel_rfl
theorem gl2_ok {w : World} (h : laidMetH Tryz.prog Rows.stepNamesUptoRow.laid w) : ∃ arr, memAll w 2 = some arr ∧ RDs (memAll w) (gl 2) arr.toList := by
  have := data_global (P := Tryz.prog) (name := "strings.asciiSpace") (d := Rows.laid_strings_asciiSpace) (g := 2) (t := 201) (tl := [5, 201]) h (List.mem_of_getElem? (i := 5) rfl) (by kernel_rfl) g2_n g2_t (by kernel_rfl) (by decide)
  rw [g2_d] at this
  exact this
theorem g3_n : Tryz.prog.globalNamed "sheafworks/word.laws" = some 3 := by kernel_rfl
theorem g3_t : (Tryz.prog.globals[3]?).map (·.type) = some 204 := by kernel_rfl
theorem g3_d : dcells (Rows.laid_sheafworks_word_laws : DataW Unit) = gl 3 := by kernel_rfl
theorem gl3_ok {w : World} (h : laidMetH Tryz.prog Rows.stepNamesUptoRow.laid w) : ∃ arr, memAll w 3 = some arr ∧ RDs (memAll w) (gl 3) arr.toList := by
  have := data_global (P := Tryz.prog) (name := "sheafworks/word.laws") (d := Rows.laid_sheafworks_word_laws) (g := 3) (t := 204) (tl := [4, 192, 204]) h (List.mem_of_getElem? (i := 2) rfl) (by kernel_rfl) g3_n g3_t (by kernel_rfl) (by decide)
  rw [g3_d] at this
  exact this

theorem sGl {w : World} (h : laidMetH Tryz.prog Rows.stepNamesUptoRow.laid w) : GlOk gl [0, 1, 2, 3] (memAll w) := by
  intro n hn
  simp only [List.mem_cons, List.not_mem_nil, or_false] at hn
  rcases hn with rfl | rfl | rfl | rfl
  · exact gl0_ok h
  · exact gl1_ok h
  · exact gl2_ok h
  · exact gl3_ok h
/-- a witness -/
noncomputable def laidWorld (os : Os) : World :=
  { World.doorLaid Tryz.prog 400 os with heap := (World.doorLaid Tryz.prog 400 os).heap.modify 5 fun
      | .cells _ t frozen => .cells (Pinned.utf8FirstZ.map fun (n : Nat) => Value.int .u8 (n : Int)).toArray t frozen
      | o => o }
set_option maxRecDepth 100000 in
theorem laid_met (os : Os) (args : Array Value) : laidMetH Tryz.prog Rows.stepNamesUptoRow.laid ((laidWorld os).forCall (fun _ _ => 0) ⟨#[], args, []⟩).memory :=
  laidMetH_of_parts3 (fuel := 8) (laidMet_of_run3 8 (by kernel_rfl) (by kernel_rfl) (by kernel_rfl)) (by kernel_rfl) (by kernel_rfl)

theorem returns {gl' : Unit} : ∃ h', (lim gl Trst.aprog).call 3 [] [] = some (.ret (.bool true), h') := ⟨_, k29⟩

set_option maxRecDepth 100000 in
theorem contract (H : Type) (enc : TypeId × Value → H) (W : World) (base : Nat) (args : Array Value) (ds gs : List (DataW H)) (before : List MemPlace)
    (hval : ∀ (j : Nat) t v, Tryz.f3.params[j]? = some t → args[j]? = some v → Value.okWide Tryz.prog W .any base t v)
    (hW : DataW.Whole enc Tryz.prog Tryz.f3.params.toList Rows.stepNamesSpec.vars false W args.toList ds gs before) (hL : laidMetH Tryz.prog Rows.stepNamesUptoRow.laid W) :
    Calls Tryz.prog 3 args W fun e W' => ∃ v, e = .returned v ∧ Rows.stepNamesSpec.post enc Tryz.prog Tryz.f3 false true false false W args v W' := by
  have hp : Tryz.f3.params.toList = [] := by rw [Tryz.params3]
  have hlen : ds = [] := by
    obtain ⟨p, q, hA, _⟩ := hW
    rw [hp] at hA
    cases hargs : args.toList with
    | nil => rw [hargs] at hA; cases ds with
      | nil => rfl
      | cons _ _ => exact hA.elim
    | cons _ _ => rw [hargs] at hA; cases ds <;> exact hA.elim
  subst hlen
  refine law_of_run (f := 3) (fn := Tryz.f3) (P := Tryz.prog) (gl := gl) (gs := [0, 1, 2, 3]) (A := Trst.aprog) prog_ok Rows.stepNamesSpec sPlain sLaidOut sRowed sLt (by kernel_rfl) (tb := 4) (by kernel_rfl) tB rfl hval hW (sGl hL) rfl (fun hl hty => ?_)
  rw [hp]
  exact returns (gl' := ())

set_option maxRecDepth 100000 in
theorem reads (os : Os) {H : Type} (enc : TypeId × Value → H) : DataW.whole enc Tryz.prog ((laidWorld os).forCall (fun _ _ => 0) ⟨#[], #[], []⟩).memory Tryz.f3.params.toList Rows.stepNamesSpec.vars false (#[] : Array Value).toList 12 = some ([], [], []) := by kernel_rfl

theorem witness (os : Os) {H : Type} (enc : TypeId × Value → H) : ∃ (w : World) (tape : Tape) (i : Input), w.os = os ∧ (w.forCall tape i).Shaped Tryz.checked.prog ∧ i.vars = [] ∧ Input.okWide Tryz.checked.prog (w.forCall tape i) .any w.heap.size 3 i ∧
      (Rows.OpenSpec.upto Rows.stepNamesSpec).preRow enc Tryz.checked.prog Tryz.f3 Rows.stepNamesUptoRow.domain false Rows.stepNamesUptoRow.laid (w.forCall tape i).memory i.args ∧ ({ modest := false } : Assume).holds Tryz.checked.prog (lone (Frame.enter Tryz.checked.prog 3 i.args .normal) [] (w.forCall tape i)) := by
  obtain ⟨w, tape, i, h1, h2, h3, h4, h5, h6, _⟩ := OpenSpec.witness_stopped_atRef (enc := enc) (C := Tryz.checked) (f := 3) (fn := Tryz.f3) (s := Rows.OpenSpec.upto Rows.stepNamesSpec) (conds := Rows.stepNamesUptoRow.domain) (apart := false) (laid := Rows.stepNamesUptoRow.laid) false (laidWorld os) #[] rfl (by kernel_rfl) (by kernel_rfl) (by kernel_rfl)
    (OpenSpec.preRow_of_cond 12 (reads os enc) (by kernel_rfl) (fun k hk => by cases hk; kernel_rfl) (by kernel_rfl) (laid_met os _)) (fun _ _ _ => 0)
  exact ⟨w, tape, i, h1, h2, h3, h4, h5, h6⟩

set_option maxRecDepth 100000 in
theorem liftedUpto (os : Os) (started : os.Started) (H : Type) (enc : TypeId × Value → H) (F : Stop.Interp) :
    ReturnsInHanded {} Tryz.checked os 3 .any ((Rows.OpenSpec.upto Rows.stepNamesSpec).preRow enc Tryz.prog Tryz.f3 Rows.stepNamesUptoRow.domain false Rows.stepNamesUptoRow.laid) (((Rows.OpenSpec.upto Rows.stepNamesSpec).at F).post enc Tryz.prog Tryz.f3 false true false false) := by
  refine returnsInHanded_of_row (C := Tryz.checked) (s := Rows.OpenSpec.upto Rows.stepNamesSpec) sOwn started (by kernel_rfl) Tryz.func3 (witness os enc) ?_
  intro W base args ds gs before hval hW _ hcond _ hL _ _
  exact contract H enc W base args ds gs before hval hW hL

theorem saidUpto : Rows.StepNamesUptoSaid :=
  OpenClaim.holds_of_cond 3 Tryz.f3 rfl rfl rfl rfl rfl rfl rfl ⟨rfl, rfl, rfl, rfl, rfl⟩ rfl rfl rfl rfl rfl (by kernel_rfl) Tryz.func3 (by kernel_rfl)
    (of_decide_eq_true (by kernel_rfl)) (by unfold Func.isWrapper; first | (rw [if_pos (by decide +kernel)]; kernel_rfl) | (rw [if_neg (by decide +kernel)]; exact ⟨rfl, rfl⟩))
    (fun os started H enc _ F => by rw [OpenClaim.pre_eq_preRow]; exact liftedUpto os started H enc F)

theorem plain (f : FuncId) (fn : Func) (hf : Tryz.pinned.checked.prog.funcNamed "sheafworks/sheafworkslaw14.StepNames" = some f) (hfn : Tryz.pinned.checked.prog.funcs[f]? = some fn) :
    true = Tryz.pinned.checked.prog.looks [] ∧ ∀ (j : Nat) t, fn.params[j]? = some t → Tryz.pinned.checked.prog.wantsStandIn t = false := by
  obtain rfl : f = 3 := Option.some.inj ((show Tryz.prog.funcNamed "sheafworks/sheafworkslaw14.StepNames" = some 3 by kernel_rfl).symm.trans hf) |>.symm
  obtain rfl : fn = Tryz.f3 := (Option.some.inj (Tryz.func3.symm.trans hfn)).symm
  refine ⟨by kernel_rfl, fun j t ht => ?_⟩
  rw [Tryz.params3] at ht
  simp at ht

theorem card : Rows.StepNamesUptoCardSaid :=
  Claim7.holds_tied_plain_at .later [] _ _ _ _ saidUpto (fun _ h => by cases h) (by kernel_rfl) (fun _ h => by cases h) stepNamesUpto_row_tie rfl ⟨rfl, rfl⟩ (by kernel_rfl) rfl plain (by kernel_rfl)
end Go.Proofs.YtlilodefhmolpaaGreatDoor.fnStepNames
