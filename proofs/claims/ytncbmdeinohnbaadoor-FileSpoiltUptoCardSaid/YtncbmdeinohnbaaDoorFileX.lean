/- The seat's facts: types, the table of functions, a witness. -/
import Derived.Test.YtncbmdeinohnbaaDoorCards
import Derived.Test.YtncbmdeinohnbaaDoorTie
import Derived.Test.YtncbmdeinohnbaaDoorFileChk
import Derived.Test.YtncbmdeinohnbaaDoorFileL
import Derived.WalkKit
import Derived.ProofKit
import Derived.OpenShut
import Derived.Deep.DeepHandedRow
/- The seat's facts: types, the table of functions, a witness. -/
set_option linter.unusedVariables false
set_option linter.unusedSimpArgs false
namespace Go.Proofs.YtncbmdeinohnbaaDoor
open Go.ChangeShapes Go.WideShapes Go.ChangeAt Go.RowKit Go.Am Go.Proofs.FileA

theorem sOwn : ownKnob Tryd.prog.godebug = none := by kernel_rfl
theorem sLaidOut : laidOutB Tryd.prog = true := by kernel_rfl
theorem sRowed : mapsRowed Tryd.prog = true := by kernel_rfl
def tyL : List TypeId := [3, 5, 9, 22, 24, 25, 27, 28, 30, 31, 33, 34, 63, 71, 77, 79, 80, 82, 84, 86]
theorem sPlain : plainTs Tryd.prog tyL = true := by kernel_rfl
theorem sLt : tyL.all (· < Tryd.prog.types.size) = true := by kernel_rfl

/-- the types of a struct's fields -/
def structOf (P : Program) (t : TypeId) : Option (List TypeId) := match P.underlying t with
  | some (.struct fs) => some (fs.toList.map (·.type))
  | _ => none
theorem structOf_ex {P : Program} {t : TypeId} {ts : List TypeId} (h : structOf P t = some ts) : ∃ fs, P.underlying t = some (.struct fs) ∧ fs.toList.map (·.type) = ts := by
  unfold structOf at h
  split at h
  · rename_i fs hu; exact ⟨fs, hu, by simpa using h⟩
  · cases h
theorem t3 : Tryd.prog.underlying 3 = some (.int .i64) := by kernel_rfl
theorem t4 : Tryd.prog.underlying 4 = some .bool := by kernel_rfl
theorem t5 : Tryd.prog.underlying 5 = some (.int .u8) := by kernel_rfl
theorem t9 : Tryd.prog.underlying 9 = some .string := by kernel_rfl
theorem t22 : Tryd.prog.underlying 22 = some (.slice 24) := by kernel_rfl
theorem t25 : Tryd.prog.underlying 25 = some (.slice 84) := by kernel_rfl
theorem t28 : Tryd.prog.underlying 28 = some (.slice 86) := by kernel_rfl
theorem t31 : Tryd.prog.underlying 31 = some (.slice 3) := by kernel_rfl
theorem t34 : Tryd.prog.underlying 34 = some (.slice 5) := by kernel_rfl
theorem t77 : Tryd.prog.underlying 77 = some (.slice 79) := by kernel_rfl
theorem t80 : Tryd.prog.underlying 80 = some (.slice 82) := by kernel_rfl
theorem s24 : structOf Tryd.prog 24 = some [3, 3, 22] := by kernel_rfl
theorem s27 : structOf Tryd.prog 27 = some [25, 3] := by kernel_rfl
theorem s30 : structOf Tryd.prog 30 = some [28, 3] := by kernel_rfl
theorem s33 : structOf Tryd.prog 33 = some [3, 31, 31] := by kernel_rfl
theorem s63 : structOf Tryd.prog 63 = some [24, 27, 30, 33] := by kernel_rfl
theorem s79 : structOf Tryd.prog 79 = some [3, 3, 3, 77] := by kernel_rfl
theorem s82 : structOf Tryd.prog 82 = some [3, 3, 31, 31, 80] := by kernel_rfl
theorem s84 : structOf Tryd.prog 84 = some [9, 3, 79] := by kernel_rfl
theorem s86 : structOf Tryd.prog 86 = some [3, 80, 31, 31] := by kernel_rfl

section
variable {H : Type} {n : Nat} {d : DataW H}
theorem ty24 (h : dty Tryd.prog n 24 d) (hsz : dsz d ≤ 2 ^ 40) : ∃ t, IsT 2 0 t (dcells d) ∧ (content t).length ≤ 9 * dsz d := by
  obtain ⟨fs, h1, h2⟩ := structOf_ex s24
  exact dty_value h1 h2 t22 t3 n d h hsz
theorem ty27 (h : dty Tryd.prog n 27 d) (hsz : dsz d ≤ 2 ^ 40) : ∃ t, IsProg t (dcells d) ∧ (progB t).length ≤ 9 * dsz d := by
  obtain ⟨fp, h1, h2⟩ := structOf_ex s27
  obtain ⟨fs, h3, h4⟩ := structOf_ex s84
  obtain ⟨fe, h5, h6⟩ := structOf_ex s79
  exact dty_prog h1 h2 t25 h3 h4 h5 h6 t77 t3 t9 n d h hsz
theorem ty30 (h : dty Tryd.prog n 30 d) (hsz : dsz d ≤ 2 ^ 40) : ∃ t, IsVec t (dcells d) ∧ (vecB t).length ≤ 9 * dsz d := by
  obtain ⟨fp, h1, h2⟩ := structOf_ex s30
  obtain ⟨fs, h3, h4⟩ := structOf_ex s86
  obtain ⟨fe, h5, h6⟩ := structOf_ex s82
  exact dty_vec h1 h2 t28 h3 h4 h5 h6 t80 t31 t3 n d h hsz
theorem ty33 (h : dty Tryd.prog n 33 d) (hsz : dsz d ≤ 2 ^ 40) : ∃ t, IsLog t (dcells d) ∧ (logB t).length ≤ 9 * dsz d := by
  obtain ⟨fs, h1, h2⟩ := structOf_ex s33
  exact dty_log h1 h2 t31 t3 n d h hsz
end

mutual
theorem dsz_le {H : Type} : ∀ d : DataW H, dsz d ≤ Rows.uptoBulk d
  | .lit l => by cases l <;> simp [dsz, Rows.uptoBulk]
  | .nil => by simp [dsz, Rows.uptoBulk]
  | .ptr d => by simp [dsz, Rows.uptoBulk]
  | .slice es sp => by have := dszL_le es; simp only [dsz, Rows.uptoBulk]; omega
  | .agg ps => by have := dszL_le ps; simp only [dsz, Rows.uptoBulk]; omega
  | .iface t d => by simp [dsz, Rows.uptoBulk]
  | .map en => by simp [dsz, Rows.uptoBulk]
  | .held h => by simp [dsz, Rows.uptoBulk]
theorem dszL_le {H : Type} : ∀ ds : List (DataW H), dszL ds ≤ Rows.uptoBulkAll ds
  | [] => by simp [dszL, Rows.uptoBulkAll]
  | d :: ds => by have := dsz_le d; have := dszL_le ds; simp only [dszL, Rows.uptoBulkAll]; omega
end
theorem dszL_small {H : Type} {ds : List (DataW H)} (h : Rows.uptoSmall H ds = true) : dszL ds ≤ 1048576 := by
  have := dszL_le ds
  simp [Rows.uptoSmall] at h
  omega

/-- the table of functions -/
def tabNames : List (String × Nat) := [("(sheafworks/file.thing).putValue", 124), ("(sheafworks/file.thing).putProg", 125), ("(sheafworks/file.thing).putVec", 126), ("(sheafworks/file.thing).putLog", 121)]
def tabD : DataW Unit := match (Rows.laid_sheafworks_file_puts : DataW Unit) with
  | .iface _ d => d
  | d => d
theorem tabLaid : (Rows.laid_sheafworks_file_puts : DataW Unit) = .iface "func table" tabD := rfl
theorem gPuts : Tryd.prog.globalNamed "sheafworks/file.puts" = some 0 := by kernel_rfl
theorem gType : (Tryd.prog.globals[0]?).map (·.type) = some 137 := by kernel_rfl
def funcOf (P : Program) (t : TypeId) : Bool := match P.underlying t with
  | some (.func ..) => true
  | _ => false
theorem funcOf_ex {P : Program} {t : TypeId} (h : funcOf P t = true) : ∃ a b c, P.underlying t = some (.func a b c) := by
  unfold funcOf at h
  split at h
  · rename_i a b c hu; exact ⟨a, b, c, hu⟩
  · cases h
def arrOf (P : Program) (t : TypeId) : Option (Nat × TypeId) := match P.underlying t with
  | some (.array n e) => some (n, e)
  | _ => none
theorem arrOf_ex {P : Program} {t : TypeId} {n e : Nat} (h : arrOf P t = some (n, e)) : P.underlying t = some (.array n e) := by
  unfold arrOf at h
  split at h
  · rename_i n e hu; rw [hu]; simp at h; rw [h.1, h.2]
  · cases h
theorem sGl {w : World} (h : laidMetH Tryd.prog [("sheafworks/file.puts", Rows.laid_sheafworks_file_puts)] w) : GlOk gl0 [0] (memAll w) := by
  have hf : funcsAt Tryd.prog w "sheafworks/file.puts" tabD := laidMetH.funcs h (by rw [tabLaid]; exact List.mem_singleton.2 rfl)
  exact glOk_tab (nms := tabNames) (g := 0) (t := 137) (e := 136) (n := 4) gPuts gType (arrOf_ex (by kernel_rfl)) (funcOf_ex (by kernel_rfl)) (by kernel_rfl) (by kernel_rfl) hf (by kernel_rfl) (by decide +kernel) (by intro x hx; simp only [tabNames, List.mem_cons, List.not_mem_nil, or_false] at hx; rcases hx with rfl | rfl | rfl | rfl <;> kernel_rfl)

/-- a world for the witness -/
noncomputable def laidWorld (os : Os) : World :=
  { World.holding Tryd.prog os ⟨#[], #[], []⟩ with heap := (World.holding Tryd.prog os ⟨#[], #[], []⟩).heap.modify 0 fun
      | .cells _ t frozen => .cells #[.func (.func 124) #[] #[], .func (.func 125) #[] #[], .func (.func 126) #[] #[], .func (.func 121) #[] #[]] t frozen
      | o => o }
def noArgs : Array Value := #[]
theorem laid_met (os : Os) (args : Array Value) : laidMetH Tryd.prog [("sheafworks/file.puts", Rows.laid_sheafworks_file_puts)] ((laidWorld os).forCall (fun _ _ => 0) ⟨#[], args, []⟩).memory :=
  laidMetH_of_parts3 (fuel := 8) (laidMet_of_run' 8 (by kernel_rfl) (by kernel_rfl)) (by kernel_rfl) (by kernel_rfl)
end Go.Proofs.YtncbmdeinohnbaaDoor
