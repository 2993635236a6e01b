/- A part of the law's proof: X. -/
import Derived.Test.YtloeagdggmolcaaGreatDoorPartA
import Derived.Test.YtloeagdggmolcaaGreatDoorPartB
import Derived.Test.YtloeagdggmolcaaGreatDoorCoreD
import Derived.Test.YtloeagdggmolcaaGreatDoorCards
import Derived.Test.YtloeagdggmolcaaGreatDoorTie
import Derived.Test.YtloeagdggmolcaaGreatDoorChk
import Derived.WalkKit
import Derived.ProofKit
import Derived.OpenShut
import Derived.LaidMore
import Derived.Deep.DeepHandedRow
import Derived.Deep.DeepWitnessRef
import Derived.Deep.DeepLaidRun
import GoSem.PinnedTables
set_option linter.unusedVariables false
set_option linter.unusedSimpArgs false
namespace Go.Proofs.Mn
open Go Go.Am
mutual
def dsz {H:Type}:DataW H→Nat
 | .lit (.string bs)=>bs.length+1
 | .slice es _=>dszL es+1
 | .agg ps=>dszL ps+1
 | _=>1
def dszL {H:Type}:List (DataW H)→Nat
 | []=>0
 | d :: ds=>dsz d+dszL ds
end
theorem dsz_pos {H:Type} (d:DataW H):1≤dsz d:=by
 cases d with
 | lit l=>cases l <;> simp [dsz]
 | _=>simp [dsz]
theorem dszL_len {H:Type} (ds:List (DataW H)):ds.length≤dszL ds:=by
 induction ds with
 | nil=>simp
 | cons d ds ih=>have:=dsz_pos d; simp [dszL]; omega
section
variable {H:Type} {P:Program} {n:Nat}
end
end Go.Proofs.Mn
set_option linter.unusedVariables false
set_option linter.unusedSimpArgs false
namespace Go.Proofs.YtloeagdggmolcaaGreatDoor
open Go.ChangeShapes Go.WideShapes Go.ChangeAt Go.RowKit Go.Am Go.Proofs.Mn
theorem sOwn:ownKnob Tryz.prog.godebug=none:=by kernel_rfl
theorem sLaidOut:laidOutB Tryz.prog=true:=by kernel_rfl
theorem sRowed:mapsRowed Tryz.prog=true:=by kernel_rfl
def tyL:List TypeId:=[72,21,5,57,58]
theorem sPlain:plainTs Tryz.prog tyL=true:=by kernel_rfl
theorem sLt:tyL.all (· < Tryz.prog.types.size)=true:=by kernel_rfl
theorem t4:Tryz.prog.underlying 4=some .bool:=by kernel_rfl
theorem t5:Tryz.prog.underlying 5=some (.int .u8):=by kernel_rfl
theorem t21:Tryz.prog.underlying 21=some (.int .i32):=by kernel_rfl
theorem t72:Tryz.prog.underlying 72=some (.slice 21):=by kernel_rfl
theorem t57:Tryz.prog.underlying 57=some (.slice 58):=by kernel_rfl
theorem t58:Tryz.prog.underlying 58=some (.int .i16):=by kernel_rfl
theorem dty_intk {P:Program} {H:Type} {t:TypeId} {k:IntKind} (hu:P.underlying t=some (.int k)) {n:Nat} {d:DataW H} (h:dty P n t d):∃ m,d = .lit (.int k m)∧(Lit.int k m).wf=true:=by
 cases n with
 | zero=>exact h.elim
 | succ j =>
  simp only [dty,hu] at h
  obtain ⟨m,rfl,hw⟩:=h
  exact ⟨m,rfl,hw⟩
theorem ty72 {H:Type} {n:Nat} {d:DataW H} (h:dty Tryz.prog n 72 d):∃ (l:List Int) (v:V),(∀ x∈l,isWord x=true)∧SlV (l.map fun x=>[.int .i32 x]) v∧dcells d=[v]∧l.length≤dsz d:=by
 cases n with
 | zero=>exact h.elim
 | succ m =>
  simp only [dty,t72] at h
  rcases h with rfl | ⟨es,rest,rfl,hlen,he⟩
  ·exact ⟨[],.nils,by simp,.nil rfl,rfl,by simp⟩
  ·have key:∀ es:List (DataW H),(∀ x∈es,dty Tryz.prog m 21 x)→∃ l:List Int,(∀ x∈l,isWord x=true)∧dcellsL es=(l.map fun x=>[V.int .i32 x])∧l.length=es.length:=by
    intro es
    induction es with
    | nil=>intro _; exact ⟨[],by simp,rfl,rfl⟩
    | cons x es ihe =>
     intro hx
     obtain ⟨l,h1,h2,h3⟩:=ihe fun y hy=>hx y (by simp [hy])
     obtain ⟨t,rfl,t2⟩:=dty_intk t21 (hx x (by simp))
     refine ⟨t :: l,?_,by simp [dcellsL,dcells,h2],by simp [h3]⟩
     intro y hy
     rcases List.mem_cons.1 hy with rfl | hy
     ·simp [Lit.wf,IntKind.has,IntKind.min,IntKind.max,IntKind.signed,IntKind.bits] at t2
      exact isWord_iff.2 (by omega)
     ·exact h1 y hy
   obtain ⟨l,h1,h2,h3⟩:=key es he
   have:=dszL_len es
   exact ⟨l,.sv (l.map fun x=>[V.int .i32 x]) false,h1,.sv false,by simp [dcells,h2],by simp only [dsz]; omega⟩
theorem ty_slint {H:Type} {ts te:TypeId} {k:IntKind} (us:Tryz.prog.underlying ts=some (.slice te)) (ue:Tryz.prog.underlying te=some (.int k)) {n:Nat} {d:DataW H} (h:dty Tryz.prog n ts d):∃ (l:List Int) (v:V),(∀ x∈l,(Lit.int k x).wf=true)∧SlV (l.map fun x=>[.int k x]) v∧dcells d=[v]∧l.length≤dsz d:=by
 cases n with
 | zero=>exact h.elim
 | succ m =>
  simp only [dty,us] at h
  rcases h with rfl | ⟨es,rest,rfl,hlen,he⟩
  ·exact ⟨[],.nils,by simp,.nil rfl,rfl,by simp⟩
  ·have key:∀ es:List (DataW H),(∀ x∈es,dty Tryz.prog m te x)→∃ l:List Int,(∀ x∈l,(Lit.int k x).wf=true)∧dcellsL es=(l.map fun x=>[V.int k x])∧l.length=es.length:=by
    intro es
    induction es with
    | nil=>intro _; exact ⟨[],by simp,rfl,rfl⟩
    | cons x es ihe =>
     intro hx
     obtain ⟨l,h1,h2,h3⟩:=ihe fun y hy=>hx y (by simp [hy])
     obtain ⟨t,rfl,t2⟩:=dty_intk ue (hx x (by simp))
     refine ⟨t :: l,?_,by simp [dcellsL,dcells,h2],by simp [h3]⟩
     intro y hy
     rcases List.mem_cons.1 hy with rfl | hy
     ·exact t2
     ·exact h1 y hy
   obtain ⟨l,h1,h2,h3⟩:=key es he
   have:=dszL_len es
   exact ⟨l,.sv (l.map fun x=>[V.int k x]) false,h1,.sv false,by simp [dcells,h2],by simp only [dsz]; omega⟩
theorem ty5 {H:Type} {n:Nat} {d:DataW H} (h:dty Tryz.prog n 5 d):∃ m:Nat,dcells d=[.int .u8 m]∧m<256:=by
 obtain ⟨m,rfl,hm⟩:=dty_intk t5 h
 simp [Lit.wf,IntKind.has,IntKind.min,IntKind.max,IntKind.signed,IntKind.bits] at hm
 obtain ⟨k,rfl⟩:=Int.eq_ofNat_of_zero_le (a:=m) (by omega)
 exact ⟨k,rfl,by omega⟩
theorem argOne {H:Type} {d:DataW H} {t:TypeId} (h:isAggT Tryz.prog t=false) {v:V} (hd:dcells d=[v]):darg Tryz.prog t d=v:=by
 unfold darg
 rw [if_neg (by simp [h]),hd]
 rfl
mutual
theorem dsz_le {H:Type}:∀ d:DataW H,dsz d≤Rows.uptoBulk d
 | .lit l=>by cases l <;> simp [dsz,Rows.uptoBulk]
 | .nil=>by simp [dsz,Rows.uptoBulk]
 | .ptr d=>by simp [dsz,Rows.uptoBulk]
 | .slice es sp=>by have:=dszL_le es; simp only [dsz,Rows.uptoBulk]; omega
 | .agg ps=>by have:=dszL_le ps; simp only [dsz,Rows.uptoBulk]; omega
 | .iface t d=>by simp [dsz,Rows.uptoBulk]
 | .map en=>by simp [dsz,Rows.uptoBulk]
 | .held h=>by simp [dsz,Rows.uptoBulk]
theorem dszL_le {H:Type}:∀ ds:List (DataW H),dszL ds≤Rows.uptoBulkAll ds
 | []=>by simp [dszL,Rows.uptoBulkAll]
 | d :: ds=>by have:=dsz_le d; have:=dszL_le ds; simp only [dszL,Rows.uptoBulkAll]; omega
end
theorem dszL_small {H:Type} {ds:List (DataW H)} (h:Rows.uptoSmall H ds=true):dszL ds≤1048576:=by
 have:=dszL_le ds
 simp [Rows.uptoSmall] at h
 omega
abbrev sLaid:List (String×DataW Unit):=[("unicode/utf8.acceptRanges", Rows.laid_unicode_utf8_acceptRanges),("sheafworks/word.deeds", Rows.laid_sheafworks_word_deeds),("sheafworks/word.laws", Rows.laid_sheafworks_word_laws),("sheafworks/word.neutrals", Rows.laid_sheafworks_word_neutrals),("unicode.White_Space", Rows.laid_unicode_White_Space),("strings.asciiSpace", Rows.laid_strings_asciiSpace),("unicode/utf8.first", Rows.laid_unicode_utf8_first)]
def tabNames:List (String×Nat):=[("(sheafworks/word.pair).add", 313),("(sheafworks/word.pair).sub", 326),("(sheafworks/word.pair).mul", 327),("(sheafworks/word.pair).div", 328),("(sheafworks/word.pair).mod", 329),("(sheafworks/word.pair).less", 330),("(sheafworks/word.pair).same", 331),("(sheafworks/word.pair).min", 332),("(sheafworks/word.pair).max", 333),("(sheafworks/word.pair).and", 334),("(sheafworks/word.pair).or", 335),("(sheafworks/word.pair).xor", 336)]
def tabD:DataW Unit:=match (Rows.laid_sheafworks_word_deeds:DataW Unit) with
 | .iface _ d=>d
 | d=>d
def funcOf (P:Program) (t:TypeId):Bool:=match P.underlying t with
 | some (.func ..)=>true
 | _=>false
theorem funcOf_ex {P:Program} {t:TypeId} (h:funcOf P t=true):∃ a b c,P.underlying t=some (.func a b c):=by
 unfold funcOf at h
 split at h
 ·rename_i a b c hu; exact ⟨a,b,c,hu⟩
 ·cases h
def arrOf (P:Program) (t:TypeId):Option (Nat×TypeId):=match P.underlying t with
 | some (.array n e)=>some (n,e)
 | _=>none
theorem arrOf_ex {P:Program} {t:TypeId} {n e:Nat} (h:arrOf P t=some (n,e)):P.underlying t=some (.array n e):=by
 unfold arrOf at h
 split at h
 ·rename_i n e hu; rw [hu]; simp at h; rw [h.1,h.2]
 ·cases h
theorem g1_d:dcells (Rows.laid_sheafworks_word_neutrals:DataW Unit)=gl 1:=by kernel_rfl
theorem gl1_ok {w:World} (h:laidMetH Tryz.prog sLaid w):∃ arr,memAll w 1=some arr∧RDs (memAll w) (gl 1) arr.toList:=by
 have:=data_global (P:=Tryz.prog) (name := "sheafworks/word.neutrals") (d:=Rows.laid_sheafworks_word_neutrals) (g:=1) (t:=148) (tl:=[3,148]) h (List.mem_of_getElem? (i:=3) rfl) (by kernel_rfl) (by kernel_rfl) (by kernel_rfl) (by kernel_rfl) (by decide)
 rw [g1_d] at this
 exact this
theorem g2_d:dcells (Rows.laid_sheafworks_word_laws:DataW Unit)=gl 2:=by kernel_rfl
theorem gl2_ok {w:World} (h:laidMetH Tryz.prog sLaid w):∃ arr,memAll w 2=some arr∧RDs (memAll w) (gl 2) arr.toList:=by
 have:=data_global (P:=Tryz.prog) (name := "sheafworks/word.laws") (d:=Rows.laid_sheafworks_word_laws) (g:=2) (t:=186) (tl:=[4,145,186]) h (List.mem_of_getElem? (i:=2) rfl) (by kernel_rfl) (by kernel_rfl) (by kernel_rfl) (by kernel_rfl) (by decide)
 rw [g2_d] at this
 exact this
theorem g3_d:dcells (Rows.laid_strings_asciiSpace:DataW Unit)=gl 3:=by kernel_rfl
theorem gl3_ok {w:World} (h:laidMetH Tryz.prog sLaid w):∃ arr,memAll w 3=some arr∧RDs (memAll w) (gl 3) arr.toList:=by
 have:=data_global (P:=Tryz.prog) (name := "strings.asciiSpace") (d:=Rows.laid_strings_asciiSpace) (g:=3) (t:=328) (tl:=[5,328]) h (List.mem_of_getElem? (i:=5) rfl) (by kernel_rfl) (by kernel_rfl) (by kernel_rfl) (by kernel_rfl) (by decide)
 rw [g3_d] at this
 exact this
theorem gl0_ok {w:World} (h:laidMetH Tryz.prog sLaid w):∃ arr,memAll w 0=some arr∧RDs (memAll w) (gl 0) arr.toList:=by
 have hf:funcsAt Tryz.prog w "sheafworks/word.deeds" tabD:=laidMetH.funcs h (List.mem_of_getElem? (i:=1) rfl)
 have:=glOk_tab (nms:=tabNames) (g:=0) (t:=141) (e:=140) (n:=12) (by kernel_rfl) (by kernel_rfl) (arrOf_ex (by kernel_rfl)) (funcOf_ex (by kernel_rfl)) (by kernel_rfl) (by kernel_rfl) hf (by kernel_rfl) (by decide +kernel) (by
  intro x hx
  simp only [tabNames,List.mem_cons,List.not_mem_nil,or_false] at hx
  rcases hx with rfl | rfl | rfl | rfl | rfl | rfl | rfl | rfl | rfl | rfl | rfl | rfl <;> kernel_rfl)
 exact this 0 (by simp)
theorem sGl {w:World} (h:laidMetH Tryz.prog sLaid w):GlOk gl [0,1,2,3] (memAll w):=by
 intro n hn
 simp only [List.mem_cons,List.not_mem_nil,or_false] at hn
 rcases hn with rfl | rfl | rfl | rfl
 ·exact gl0_ok h
 ·exact gl1_ok h
 ·exact gl2_ok h
 ·exact gl3_ok h
noncomputable def laidWorld (os:Os):World :=
 { World.doorLaid Tryz.prog 400 os with heap:=(World.doorLaid Tryz.prog 400 os).heap.modify 5 fun
   | .cells _ t frozen => .cells (Pinned.utf8FirstZ.map fun (n:Nat)=>Value.int .u8 (n:Int)).toArray t frozen
   | o=>o }
set_option maxRecDepth 100000 in
theorem laid_met (os:Os) (args:Array Value):laidMetH Tryz.prog sLaid ((laidWorld os).forCall (fun _ _=>0) ⟨#[],args,[]⟩).memory :=
 laidMetH_of_parts3 (fuel:=8) (laidMet_of_run3 8 (by kernel_rfl) (by kernel_rfl) (by kernel_rfl)) (by kernel_rfl) (by kernel_rfl)
theorem trodAll_len {H:Type} {enc:TypeId×Value→H} {P:Program} {w:World} {base:Nat} {spare:Nat→Bool} {held:Bool}:∀ {ts:List TypeId} {vs:List Value} {ds:List (DataW H)} {ps:List MemPlace},DataW.TrodAll enc P w base spare held ts vs ds ps→vs.length=ts.length∧ds.length=ts.length
 | [],[],[],_,_=>⟨rfl,rfl⟩
 | _ :: _,_ :: _,_ :: _,_,⟨_,_,_,hs,_⟩=>by
  obtain ⟨h1,h2⟩:=trodAll_len hs
  simp [h1,h2]
end Go.Proofs.YtloeagdggmolcaaGreatDoor
