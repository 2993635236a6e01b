/- A part of the law's proof: X. -/
import Derived.Test.YtlgehpjbhijknaaGreatDoorPartA
import Derived.Test.YtlgehpjbhijknaaGreatDoorCoreD
import Derived.Test.YtlgehpjbhijknaaGreatDoorCards
import Derived.Test.YtlgehpjbhijknaaGreatDoorTie
import Derived.Test.YtlgehpjbhijknaaGreatDoorChk
import Derived.WalkKit
import Derived.ProofKit
import Derived.OpenShut
import Derived.LaidMore
import Derived.Deep.DeepHandedRow
import Derived.Deep.DeepWitnessRef
import Derived.Deep.DeepLaidRun
set_option linter.unusedVariables false
set_option linter.unusedSimpArgs false
namespace Go.Proofs.Nst
open Go Go.Am
mutual
def dsz {H:Type}:DataW H→Nat
 | .lit (.string bs)=>bs.length+1
 | .slice es _=>dszL es+1
 | .agg ps=>dszL ps+1
 | _=>1
def dszL {H:Type}:List (DataW H)→Nat
 | []=>0
 | d :: ds=>dsz d+dszL ds
end
theorem dsz_pos {H:Type} (d:DataW H):1≤dsz d:=by
 cases d with
 | lit l=>cases l <;> simp [dsz]
 | _=>simp [dsz]
theorem dszL_len {H:Type} (ds:List (DataW H)):ds.length≤dszL ds:=by
 induction ds with
 | nil=>simp
 | cons d ds ih=>have:=dsz_pos d; simp [dszL]; omega
section
variable {H:Type} {P:Program} {n:Nat}
def dtyAll (P:Program) (n:Nat):List TypeId→List (DataW H)→Prop
 | [],[]=>True
 | t :: ts,d :: ds=>dty P n t d∧dtyAll P n ts ds
 | _,_=>False
theorem dtyAll_of:∀ {ts:List TypeId} {ps:List (DataW H)},ps.length=ts.length→(∀ (i:Nat) t p,ts[i]?=some t→ps[i]?=some p→dty P n t p)→dtyAll P n ts ps
 | [],[],_,_=>trivial
 | t :: ts,p :: ps,hl,h=>⟨h 0 t p rfl rfl,dtyAll_of (by simpa using hl) fun i t' p' h1 h2=>h (i+1) t' p' (by simpa using h1) (by simpa using h2)⟩
 | [],_ :: _,hl,_=>by simp at hl
 | _ :: _,[],hl,_=>by simp at hl
theorem dty_struct {t:TypeId} {fs:Array Field} {d:DataW H} {ts:List TypeId} (hu:P.underlying t=some (.struct fs)) (hts:fs.toList.map (·.type)=ts) (h:dty P n t d):∃ m ps,n=m+1∧d = .agg ps∧dtyAll P m ts ps:=by
 cases n with
 | zero=>exact h.elim
 | succ m =>
  simp only [dty,hu] at h
  obtain ⟨ps,rfl,hl,h⟩:=h
  refine ⟨m,ps,rfl,rfl,dtyAll_of (by rw [hl,← hts]; simp) fun i t' p h1 h2 => ?_⟩
  rw [← hts,List.getElem?_map,Option.map_eq_some_iff] at h1
  obtain ⟨f,hf,rfl⟩:=h1
  exact h i f p (by simpa using hf) h2
theorem dty_int {t:TypeId} {d:DataW H} (hu:P.underlying t=some (.int .i64)) (h:dty P n t d):∃ m,d = .lit (.int .i64 m)∧is64 m:=by
 cases n with
 | zero=>exact h.elim
 | succ k =>
  simp only [dty,hu] at h
  obtain ⟨m,rfl,hw⟩:=h
  refine ⟨m,rfl,?_⟩
  simp [Lit.wf,IntKind.has,IntKind.min,IntKind.max,IntKind.signed,IntKind.bits] at hw
  unfold is64
  omega
theorem dty_tr {tv tl ti:TypeId} {fs:Array Field} (hu:P.underlying tv=some (.struct fs)) (hfs:fs.toList.map (·.type)=[ti,ti,tl]) (hl:P.underlying tl=some (.slice tv)) (hi:P.underlying ti=some (.int .i64)) :
  ∀ (n:Nat) (d:DataW H),dty P n tv d→∃ t:Tr,t.Ok∧dcells d=t.cs∧t.nodes≤dsz d:=by
 intro n
 induction n using Nat.strongRecOn with
 | _ n ih =>
  intro d h
  obtain ⟨m,ps,rfl,rfl,hps⟩:=dty_struct hu hfs h
  match ps,hps with
  | [p,q,r],⟨hp,hq,hr,_⟩ =>
   obtain ⟨k,rfl,hk⟩:=dty_int hi hp
   obtain ⟨k2,rfl,hk2⟩:=dty_int hi hq
   cases m with
   | zero=>exact hr.elim
   | succ m =>
   simp only [dty,hl] at hr
   rcases hr with rfl | ⟨es,rest,rfl,hlen,he⟩
   ·exact ⟨.mk k k2 .nils [],.mk _ _ _ _ hk hk2 (.nil rfl) (by simp),by simp [dcells,dflat,Tr.cs],by simp [Tr.nodes,Tr.nodesL,dsz,dszL]⟩
   ·have key:∀ es:List (DataW H),(∀ x∈es,dty P m tv x)→∃ l:List Tr,(∀ x∈l,x.Ok)∧dcellsL es=l.map Tr.cs∧Tr.nodesL l≤dszL es:=by
     intro es
     induction es with
     | nil=>intro _; exact ⟨[],by simp,rfl,by simp [Tr.nodesL]⟩
     | cons x es ihe =>
      intro hx
      obtain ⟨l,h1,h2,h3⟩:=ihe fun y hy=>hx y (by simp [hy])
      obtain ⟨t,t1,t2,t3⟩:=ih m (by omega) x (hx x (by simp))
      refine ⟨t :: l,?_,by simp [dcellsL,t2,h2],by simp only [Tr.nodesL,dszL]; omega⟩
      intro y hy
      rcases List.mem_cons.1 hy with rfl | hy
      ·exact t1
      ·exact h1 y hy
    obtain ⟨l,h1,h2,h3⟩:=key es he
    refine ⟨.mk k k2 (.sv (l.map Tr.cs) false) l,.mk _ _ _ _ hk hk2 (.sv false) h1,by simp [dcells,dflat,Tr.cs,h2],?_⟩
    simp only [Tr.nodes,dsz,dszL]
    omega
end
end Go.Proofs.Nst
namespace Go.Proofs.YtlgehpjbhijknaaGreatDoor
open Go.ChangeShapes Go.WideShapes Go.ChangeAt Go.RowKit Go.Am Go.Proofs.Nst
theorem sOwn:ownKnob Tryz.prog.godebug=none:=by kernel_rfl
theorem sLaidOut:laidOutB Tryz.prog=true:=by kernel_rfl
theorem sRowed:mapsRowed Tryz.prog=true:=by kernel_rfl
def tyL:List TypeId:=[3,22,24,25,41,42]
theorem sPlain:plainTs Tryz.prog tyL=true:=by kernel_rfl
theorem sLt:tyL.all (· < Tryz.prog.types.size)=true:=by kernel_rfl
def structOf (P:Program) (t:TypeId):Option (List TypeId):=match P.underlying t with
 | some (.struct fs)=>some (fs.toList.map (·.type))
 | _=>none
theorem structOf_ex {P:Program} {t:TypeId} {ts:List TypeId} (h:structOf P t=some ts):∃ fs,P.underlying t=some (.struct fs)∧fs.toList.map (·.type)=ts:=by
 unfold structOf at h
 split at h
 ·rename_i fs hu; exact ⟨fs,hu,by simpa using h⟩
 ·cases h
theorem t3:Tryz.prog.underlying 3=some (.int .i64):=by kernel_rfl
theorem t4:Tryz.prog.underlying 4=some .bool:=by kernel_rfl
theorem t22:Tryz.prog.underlying 22=some (.slice 24):=by kernel_rfl
theorem s24:structOf Tryz.prog 24=some [3,3,22]:=by kernel_rfl
theorem ty24 {H:Type} {n:Nat} {d:DataW H} (h:dty Tryz.prog n 24 d):∃ t:Tr,t.Ok∧dcells d=t.cs∧t.nodes≤dsz d:=by
 obtain ⟨fs,h1,h2⟩:=structOf_ex s24
 exact dty_tr h1 h2 t22 t3 n d h
theorem t25:Tryz.prog.underlying 25=some (.slice 42):=by kernel_rfl
theorem t42:Tryz.prog.underlying 42=some (.slice 3):=by kernel_rfl
theorem s41:structOf Tryz.prog 41=some [3,3,25,25]:=by kernel_rfl
theorem ty42 {H:Type} {n:Nat} {d:DataW H} (h:dty Tryz.prog n 42 d):∃ (l:List Int) (v:V),(∀ x∈l,is64 x)∧IntsV l v∧dcells d=[v]∧l.length≤dsz d:=by
 cases n with
 | zero=>exact h.elim
 | succ m =>
  simp only [dty,t42] at h
  rcases h with rfl | ⟨es,rest,rfl,hlen,he⟩
  ·exact ⟨[],.nils,by simp,.nil rfl,rfl,by simp⟩
  ·have key:∀ es:List (DataW H),(∀ x∈es,dty Tryz.prog m 3 x)→∃ l:List Int,(∀ x∈l,is64 x)∧dcellsL es=((l.map fun n=>V.int .i64 n).map fun x=>[x])∧l.length=es.length:=by
    intro es
    induction es with
    | nil=>intro _; exact ⟨[],by simp,rfl,rfl⟩
    | cons x es ihe =>
     intro hx
     obtain ⟨l,h1,h2,h3⟩:=ihe fun y hy=>hx y (by simp [hy])
     obtain ⟨t,rfl,t2⟩:=dty_int t3 (hx x (by simp))
     refine ⟨t :: l,?_,by simp [dcellsL,dcells,h2],by simp [h3]⟩
     intro y hy
     rcases List.mem_cons.1 hy with rfl | hy
     ·exact t2
     ·exact h1 y hy
   obtain ⟨l,h1,h2,h3⟩:=key es he
   have:=dszL_len es
   exact ⟨l,.sv ((l.map fun n=>V.int .i64 n).map fun x=>[x]) false,h1,.sv false,by simp [dcells,h2],by simp only [dsz]; omega⟩
theorem ty25 {H:Type} {n:Nat} {d:DataW H} (h:dty Tryz.prog n 25 d):∃ (R:List (List Int)) (v:V),(∀ r∈R,r.length≤dsz d∧∀ x∈r,is64 x)∧ListsV R v∧dcells d=[v]∧R.length≤dsz d:=by
 cases n with
 | zero=>exact h.elim
 | succ m =>
  simp only [dty,t25] at h
  rcases h with rfl | ⟨es,rest,rfl,hlen,he⟩
  ·exact ⟨[],.nils,by simp,ListsV.nil,rfl,by simp⟩
  ·have key:∀ es:List (DataW H),(∀ x∈es,dty Tryz.prog m 42 x)→∃ (R:List (List Int)) (vs:List V),(∀ r∈R,r.length≤dszL es∧∀ x∈r,is64 x)∧Fr IntsV R vs∧dcellsL es=vs.map fun x=>[x]:=by
    intro es
    induction es with
    | nil=>intro _; exact ⟨[],[],by simp,.nil,rfl⟩
    | cons x es ihe =>
     intro hx
     obtain ⟨R,vs,h1,h2,h3⟩:=ihe fun y hy=>hx y (by simp [hy])
     obtain ⟨l,v,k1,k2,k3,k4⟩:=ty42 (hx x (by simp))
     refine ⟨l :: R,v :: vs,?_,.cons k2 h2,by simp [dcellsL,k3,h3]⟩
     intro y hy
     rcases List.mem_cons.1 hy with rfl | hy
     ·exact ⟨by simp only [dszL]; omega,k1⟩
     ·obtain ⟨g1,g2⟩:=h1 y hy
      exact ⟨by simp only [dszL]; omega,g2⟩
   obtain ⟨R,vs,h1,h2,h3⟩:=key es he
   have h4:=dszL_len es
   have h5:es.length=R.length:=by
    have:=congrArg List.length h3
    have hd:(dcellsL es).length=es.length:=by
     clear h1 h2 h3 h4 he hlen this
     induction es with
     | nil=>rfl
     | cons x es ih=>simp [dcellsL,ih]
    rw [hd] at this
    rw [h2.length]
    simpa using this
   exact ⟨R,.sv (vs.map fun x=>[x]) false,fun r hr=>by
    obtain ⟨g1,g2⟩:=h1 r hr
    exact ⟨by simp only [dsz]; omega,g2⟩,⟨vs,.sv false,h2⟩,by simp [dcells,h3],by simp only [dsz]; omega⟩
theorem dtyAll4 {H:Type} {P:Program} {m:Nat} {a b c d:TypeId}:∀ {ps:List (DataW H)},dtyAll P m [a,b,c,d] ps→∃ p0 p1 p2 p3,ps=[p0,p1,p2,p3]∧dty P m a p0∧dty P m b p1∧dty P m c p2∧dty P m d p3
 | [],h=>h.elim
 | [_],h=>h.2.elim
 | [_,_],h=>h.2.2.elim
 | [_,_,_],h=>h.2.2.2.elim
 | [p0,p1,p2,p3],h=>⟨p0,p1,p2,p3,rfl,h.1,h.2.1,h.2.2.1,h.2.2.2.1⟩
 | _ :: _ :: _ :: _ :: _ :: _,h=>h.2.2.2.2.elim
theorem ty41 {H:Type} {n:Nat} {d:DataW H} (h:dty Tryz.prog n 41 d):∃ (a b:Int) (A B:List (List Int)) (vA vB:V),is64 a∧is64 b∧(∀ r∈A,r.length≤dsz d∧∀ x∈r,is64 x)∧(∀ r∈B,r.length≤dsz d∧∀ x∈r,is64 x)∧ListsV A vA∧ListsV B vB ∧
  dcells d=[.int .i64 a,.int .i64 b,vA,vB]∧A.length≤dsz d∧B.length≤dsz d:=by
 obtain ⟨fs,h1,h2⟩:=structOf_ex s41
 obtain ⟨m,ps,rfl,rfl,hd⟩:=dty_struct h1 h2 h
 have hex:∃ p0 p1 p2 p3,ps=[p0,p1,p2,p3]∧dty Tryz.prog m 3 p0∧dty Tryz.prog m 3 p1∧dty Tryz.prog m 25 p2∧dty Tryz.prog m 25 p3:=dtyAll4 hd
 obtain ⟨p0,p1,p2,p3,rfl,h0,h1,h2,h3⟩:=hex
 ·skip
  obtain ⟨a,rfl,a2⟩:=dty_int t3 h0
  obtain ⟨b,rfl,b2⟩:=dty_int t3 h1
  obtain ⟨A,vA,k1,k2,k3,k4⟩:=ty25 h2
  obtain ⟨B,vB,g1,g2,g3,g4⟩:=ty25 h3
  refine ⟨a,b,A,B,vA,vB,a2,b2,fun r hr => ?_,fun r hr => ?_,k2,g2,by simp [dcells,dflat,k3,g3],by simp only [dsz,dszL]; omega,by simp only [dsz,dszL]; omega⟩
  ·obtain ⟨q1,q2⟩:=k1 r hr
   exact ⟨by simp only [dsz,dszL]; omega,q2⟩
  ·obtain ⟨q1,q2⟩:=g1 r hr
   exact ⟨by simp only [dsz,dszL]; omega,q2⟩
theorem argOne {H:Type} {d:DataW H} {t:TypeId} (h:isAggT Tryz.prog t=false) {v:V} (hd:dcells d=[v]):darg Tryz.prog t d=v:=by
 unfold darg
 rw [if_neg (by simp [h]),hd]
 rfl
theorem argAgg {H:Type} {d:DataW H} {t:TypeId} (h:isAggT Tryz.prog t=true):darg Tryz.prog t d = .agg (dcells d):=by
 unfold darg
 rw [if_pos h]
mutual
theorem dsz_le {H:Type}:∀ d:DataW H,dsz d≤Rows.uptoBulk d
 | .lit l=>by cases l <;> simp [dsz,Rows.uptoBulk]
 | .nil=>by simp [dsz,Rows.uptoBulk]
 | .ptr d=>by simp [dsz,Rows.uptoBulk]
 | .slice es sp=>by have:=dszL_le es; simp only [dsz,Rows.uptoBulk]; omega
 | .agg ps=>by have:=dszL_le ps; simp only [dsz,Rows.uptoBulk]; omega
 | .iface t d=>by simp [dsz,Rows.uptoBulk]
 | .map en=>by simp [dsz,Rows.uptoBulk]
 | .held h=>by simp [dsz,Rows.uptoBulk]
theorem dszL_le {H:Type}:∀ ds:List (DataW H),dszL ds≤Rows.uptoBulkAll ds
 | []=>by simp [dszL,Rows.uptoBulkAll]
 | d :: ds=>by have:=dsz_le d; have:=dszL_le ds; simp only [dszL,Rows.uptoBulkAll]; omega
end
theorem dszL_small {H:Type} {ds:List (DataW H)} (h:Rows.uptoSmall H ds=true):dszL ds≤1048576:=by
 have:=dszL_le ds
 simp [Rows.uptoSmall] at h
 omega
abbrev sLaid:List (String×DataW Unit):=[("sheafworks/nest.counters", Rows.laid_sheafworks_nest_counters),("sheafworks/nest.arity", Rows.laid_sheafworks_nest_arity),("sheafworks/nest.kinds", Rows.laid_sheafworks_nest_kinds)]
def tabNames:List (String×Nat):=[("(*sheafworks/nest.layout).none", 276),("(*sheafworks/nest.layout).one", 277),("(*sheafworks/nest.layout).both", 278),("(*sheafworks/nest.layout).sum", 279),("(*sheafworks/nest.layout).seq", 280)]
def tabD:DataW Unit:=match (Rows.laid_sheafworks_nest_counters:DataW Unit) with
 | .iface _ d=>d
 | d=>d
def funcOf (P:Program) (t:TypeId):Bool:=match P.underlying t with
 | some (.func ..)=>true
 | _=>false
theorem funcOf_ex {P:Program} {t:TypeId} (h:funcOf P t=true):∃ a b c,P.underlying t=some (.func a b c):=by
 unfold funcOf at h
 split at h
 ·rename_i a b c hu; exact ⟨a,b,c,hu⟩
 ·cases h
def arrOf (P:Program) (t:TypeId):Option (Nat×TypeId):=match P.underlying t with
 | some (.array n e)=>some (n,e)
 | _=>none
theorem arrOf_ex {P:Program} {t:TypeId} {n e:Nat} (h:arrOf P t=some (n,e)):P.underlying t=some (.array n e):=by
 unfold arrOf at h
 split at h
 ·rename_i n e hu; rw [hu]; simp at h; rw [h.1,h.2]
 ·cases h
theorem g0_d:dcells (Rows.laid_sheafworks_nest_kinds:DataW Unit)=gl 0:=by kernel_rfl
theorem g1_d:dcells (Rows.laid_sheafworks_nest_arity:DataW Unit)=gl 1:=by kernel_rfl
theorem sGl {w:World} (h:laidMetH Tryz.prog sLaid w):GlOk gl [0,1,2] (memAll w):=by
 intro n hn
 simp only [List.mem_cons,List.not_mem_nil,or_false] at hn
 rcases hn with rfl | rfl | rfl
 ·have:=data_global (P:=Tryz.prog) (name := "sheafworks/nest.kinds") (d:=Rows.laid_sheafworks_nest_kinds) (g:=0) (t:=166) (tl:=[3,166]) h (List.mem_of_getElem? (i:=2) rfl) (by kernel_rfl) (by kernel_rfl) (by kernel_rfl) (by kernel_rfl) (by decide)
  rw [g0_d] at this
  exact this
 ·have:=data_global (P:=Tryz.prog) (name := "sheafworks/nest.arity") (d:=Rows.laid_sheafworks_nest_arity) (g:=1) (t:=166) (tl:=[3,166]) h (List.mem_of_getElem? (i:=1) rfl) (by kernel_rfl) (by kernel_rfl) (by kernel_rfl) (by kernel_rfl) (by decide)
  rw [g1_d] at this
  exact this
 ·have hf:funcsAt Tryz.prog w "sheafworks/nest.counters" tabD:=laidMetH.funcs h (List.mem_of_getElem? (i:=0) rfl)
  have:=glOk_tab (nms:=tabNames) (g:=2) (t:=170) (e:=169) (n:=5) (by kernel_rfl) (by kernel_rfl) (arrOf_ex (by kernel_rfl)) (funcOf_ex (by kernel_rfl)) (by kernel_rfl) (by kernel_rfl) hf (by kernel_rfl) (by decide +kernel) (by
   intro x hx
   simp only [tabNames,List.mem_cons,List.not_mem_nil,or_false] at hx
   rcases hx with rfl | rfl | rfl | rfl | rfl <;> kernel_rfl)
  exact this 2 (by simp)
noncomputable def laidWorld (os:Os):World:=World.doorLaid Tryz.prog 400 os
set_option maxRecDepth 100000 in
theorem laid_met (os:Os) (args:Array Value):laidMetH Tryz.prog sLaid ((laidWorld os).forCall (fun _ _=>0) ⟨#[],args,[]⟩).memory :=
 laidMetH_of_parts3 (fuel:=8) (laidMet_of_run3 8 (by kernel_rfl) (by kernel_rfl) (by kernel_rfl)) (by kernel_rfl) (by kernel_rfl)
theorem trodAll_len {H:Type} {enc:TypeId×Value→H} {P:Program} {w:World} {base:Nat} {spare:Nat→Bool} {held:Bool}:∀ {ts:List TypeId} {vs:List Value} {ds:List (DataW H)} {ps:List MemPlace},DataW.TrodAll enc P w base spare held ts vs ds ps→vs.length=ts.length∧ds.length=ts.length
 | [],[],[],_,_=>⟨rfl,rfl⟩
 | _ :: _,_ :: _,_ :: _,_,⟨_,_,_,hs,_⟩=>by
  obtain ⟨h1,h2⟩:=trodAll_len hs
  simp [h1,h2]
end Go.Proofs.YtlgehpjbhijknaaGreatDoor
