/- A part of the law's proof: X. -/
import Derived.Test.YtlgehpjbhijknaaDoorPartA
import Derived.Test.YtlgehpjbhijknaaDoorCoreD
import Derived.Test.YtlgehpjbhijknaaDoorCards
import Derived.Test.YtlgehpjbhijknaaDoorTie
import Derived.Test.YtlgehpjbhijknaaDoorChk
import Derived.WalkKit
import Derived.ProofKit
import Derived.OpenShut
import Derived.LaidMore
import Derived.Deep.DeepHandedRow
import Derived.Deep.DeepWitnessRef
import Derived.Deep.DeepLaidRun
set_option linter.unusedVariables false
set_option linter.unusedSimpArgs false
namespace Go.Proofs.Nst
open Go Go.Am
mutual
def dsz {H:Type}:DataW H→Nat
 | .lit (.string bs)=>bs.length+1
 | .slice es _=>dszL es+1
 | .agg ps=>dszL ps+1
 | _=>1
def dszL {H:Type}:List (DataW H)→Nat
 | []=>0
 | d :: ds=>dsz d+dszL ds
end
section
variable {H:Type} {P:Program} {n:Nat}
end
end Go.Proofs.Nst
namespace Go.Proofs.YtlgehpjbhijknaaDoor
open Go.ChangeShapes Go.WideShapes Go.ChangeAt Go.RowKit Go.Am Go.Proofs.Nst
theorem sOwn:ownKnob Tryd.prog.godebug=none:=by kernel_rfl
theorem sLaidOut:laidOutB Tryd.prog=true:=by kernel_rfl
theorem sRowed:mapsRowed Tryd.prog=true:=by kernel_rfl
def tyL:List TypeId:=[3,22,24,25,27,46]
theorem sPlain:plainTs Tryd.prog tyL=true:=by kernel_rfl
theorem sLt:tyL.all (· < Tryd.prog.types.size)=true:=by kernel_rfl
theorem t4:Tryd.prog.underlying 4=some .bool:=by kernel_rfl
mutual
theorem dsz_le {H:Type}:∀ d:DataW H,dsz d≤Rows.uptoBulk d
 | .lit l=>by cases l <;> simp [dsz,Rows.uptoBulk]
 | .nil=>by simp [dsz,Rows.uptoBulk]
 | .ptr d=>by simp [dsz,Rows.uptoBulk]
 | .slice es sp=>by have:=dszL_le es; simp only [dsz,Rows.uptoBulk]; omega
 | .agg ps=>by have:=dszL_le ps; simp only [dsz,Rows.uptoBulk]; omega
 | .iface t d=>by simp [dsz,Rows.uptoBulk]
 | .map en=>by simp [dsz,Rows.uptoBulk]
 | .held h=>by simp [dsz,Rows.uptoBulk]
theorem dszL_le {H:Type}:∀ ds:List (DataW H),dszL ds≤Rows.uptoBulkAll ds
 | []=>by simp [dszL,Rows.uptoBulkAll]
 | d :: ds=>by have:=dsz_le d; have:=dszL_le ds; simp only [dszL,Rows.uptoBulkAll]; omega
end
theorem dszL_small {H:Type} {ds:List (DataW H)} (h:Rows.uptoSmall H ds=true):dszL ds≤1048576:=by
 have:=dszL_le ds
 simp [Rows.uptoSmall] at h
 omega
abbrev sLaid:List (String×DataW Unit):=[("sheafworks/nest.counters", Rows.laid_sheafworks_nest_counters),("sheafworks/nest.arity", Rows.laid_sheafworks_nest_arity),("sheafworks/nest.kinds", Rows.laid_sheafworks_nest_kinds)]
def tabNames:List (String×Nat):=[("(*sheafworks/nest.layout).none", 128),("(*sheafworks/nest.layout).one", 129),("(*sheafworks/nest.layout).both", 130),("(*sheafworks/nest.layout).sum", 131),("(*sheafworks/nest.layout).seq", 132)]
def tabD:DataW Unit:=match (Rows.laid_sheafworks_nest_counters:DataW Unit) with
 | .iface _ d=>d
 | d=>d
def funcOf (P:Program) (t:TypeId):Bool:=match P.underlying t with
 | some (.func ..)=>true
 | _=>false
theorem funcOf_ex {P:Program} {t:TypeId} (h:funcOf P t=true):∃ a b c,P.underlying t=some (.func a b c):=by
 unfold funcOf at h
 split at h
 ·rename_i a b c hu; exact ⟨a,b,c,hu⟩
 ·cases h
def arrOf (P:Program) (t:TypeId):Option (Nat×TypeId):=match P.underlying t with
 | some (.array n e)=>some (n,e)
 | _=>none
theorem arrOf_ex {P:Program} {t:TypeId} {n e:Nat} (h:arrOf P t=some (n,e)):P.underlying t=some (.array n e):=by
 unfold arrOf at h
 split at h
 ·rename_i n e hu; rw [hu]; simp at h; rw [h.1,h.2]
 ·cases h
theorem g0_d:dcells (Rows.laid_sheafworks_nest_kinds:DataW Unit)=gl 0:=by kernel_rfl
theorem g1_d:dcells (Rows.laid_sheafworks_nest_arity:DataW Unit)=gl 1:=by kernel_rfl
theorem sGl {w:World} (h:laidMetH Tryd.prog sLaid w):GlOk gl [0,1,2] (memAll w):=by
 intro n hn
 simp only [List.mem_cons,List.not_mem_nil,or_false] at hn
 rcases hn with rfl | rfl | rfl
 ·have:=data_global (P:=Tryd.prog) (name := "sheafworks/nest.kinds") (d:=Rows.laid_sheafworks_nest_kinds) (g:=0) (t:=105) (tl:=[3,105]) h (List.mem_of_getElem? (i:=2) rfl) (by kernel_rfl) (by kernel_rfl) (by kernel_rfl) (by kernel_rfl) (by decide)
  rw [g0_d] at this
  exact this
 ·have:=data_global (P:=Tryd.prog) (name := "sheafworks/nest.arity") (d:=Rows.laid_sheafworks_nest_arity) (g:=1) (t:=105) (tl:=[3,105]) h (List.mem_of_getElem? (i:=1) rfl) (by kernel_rfl) (by kernel_rfl) (by kernel_rfl) (by kernel_rfl) (by decide)
  rw [g1_d] at this
  exact this
 ·have hf:funcsAt Tryd.prog w "sheafworks/nest.counters" tabD:=laidMetH.funcs h (List.mem_of_getElem? (i:=0) rfl)
  have:=glOk_tab (nms:=tabNames) (g:=2) (t:=131) (e:=130) (n:=5) (by kernel_rfl) (by kernel_rfl) (arrOf_ex (by kernel_rfl)) (funcOf_ex (by kernel_rfl)) (by kernel_rfl) (by kernel_rfl) hf (by kernel_rfl) (by decide +kernel) (by
   intro x hx
   simp only [tabNames,List.mem_cons,List.not_mem_nil,or_false] at hx
   rcases hx with rfl | rfl | rfl | rfl | rfl <;> kernel_rfl)
  exact this 2 (by simp)
noncomputable def laidWorld (os:Os):World:=World.doorLaid Tryd.prog 400 os
set_option maxRecDepth 100000 in
theorem laid_met (os:Os) (args:Array Value):laidMetH Tryd.prog sLaid ((laidWorld os).forCall (fun _ _=>0) ⟨#[],args,[]⟩).memory :=
 laidMetH_of_parts3 (fuel:=8) (laidMet_of_run3 8 (by kernel_rfl) (by kernel_rfl) (by kernel_rfl)) (by kernel_rfl) (by kernel_rfl)
theorem trodAll_len {H:Type} {enc:TypeId×Value→H} {P:Program} {w:World} {base:Nat} {spare:Nat→Bool} {held:Bool}:∀ {ts:List TypeId} {vs:List Value} {ds:List (DataW H)} {ps:List MemPlace},DataW.TrodAll enc P w base spare held ts vs ds ps→vs.length=ts.length∧ds.length=ts.length
 | [],[],[],_,_=>⟨rfl,rfl⟩
 | _ :: _,_ :: _,_ :: _,_,⟨_,_,_,hs,_⟩=>by
  obtain ⟨h1,h2⟩:=trodAll_len hs
  simp [h1,h2]
end Go.Proofs.YtlgehpjbhijknaaDoor
