/- A part of the law's proof: PartB. -/
import Derived.Test.YtloeagdggmolcabGreatDoorPartA
import Derived.Test.YtloeagdggmolcabGreatDoorFacts
set_option linter.unusedVariables false
set_option linter.unusedSimpArgs false
namespace Go.Proofs.Mm
open Go Go.Am
theorem wrap_w64 (n:Int):IntKind.i64.wrap n=w64 n:=by
 simp only [IntKind.wrap,IntKind.bits,IntKind.signed,Bool.true_and,w64]
 split <;> rename_i h <;> simp at h <;> omega
abbrev keyV (k:Nat) (b:Bool):V:=.agg [.int .i64 k,.bool b]
abbrev Ent:=(Nat×Bool)×Int
def encE (e:Ent):V×V:=(keyV e.1.1 e.1.2,.int .i64 e.2)
def getE:List Ent→Nat→Bool→Int
 | [],_,_=>0
 | ((k,b),v) :: r,k',b'=>if k'=k∧b'=b then v else getE r k' b'
def findE:List Ent→Nat→Bool→Nat→Option (Nat×Int)
 | [],_,_,_=>none
 | ((k,b),v) :: r,k',b',i=>if k'=k∧b'=b then some (i,v) else findE r k' b' (i+1)
theorem same_key (h:Heap) (k k':Nat) (b b':Bool):sameKey h true [.int,.bool] (keyV k' b') (keyV k b)=some (decide (k'=k∧b'=b)):=by
 simp only [sameKey,if_true,sameKs,sameLK]
 by_cases hk:k'=k
 ·subst hk
  cases b <;> cases b' <;> simp
 ·have e:((k':Int) == (k:Int))=false:=by simp; omega
  simp [e,hk]
theorem findK_enc (h:Heap) (k':Nat) (b':Bool):∀ (ps:List Ent) (i:Nat),findK h true [.int,.bool] (keyV k' b') (ps.map encE) i=some ((findE ps k' b' i).map fun q=>(q.1,.int .i64 q.2))
 | [],i=>rfl
 | ((k,b),v) :: r,i=>by
  simp only [List.map_cons,encE,findK,same_key,findE]
  by_cases hc:k'=k∧b'=b
  ·simp [hc]
  ·simp only [hc,decide_false,if_false]
   exact findK_enc h k' b' r (i+1)
theorem findE_get:∀ {ps:List Ent} {k:Nat} {b:Bool} {i:Nat} {q},findE ps k b i=some q→getE ps k b=q.2∧i≤q.1∧ps[q.1 - i]?=some ((k,b),q.2)
 | [],k,b,i,q,h=>by cases h
 | ((k',b'),v) :: r,k,b,i,q,h=>by
  simp only [findE] at h
  split at h
  ·rename_i hc
   cases h
   obtain ⟨rfl,rfl⟩:=hc
   simp [getE]
  ·rename_i hc
   obtain ⟨h1,h2,h3⟩:=findE_get h
   refine ⟨by simp only [getE,hc,if_false]; exact h1,by omega,?_⟩
   have:q.1 - i=(q.1 - (i+1))+1:=by omega
   rw [this]
   exact h3
theorem findE_none:∀ {ps:List Ent} {k:Nat} {b:Bool} {i:Nat},findE ps k b i=none→getE ps k b=0
 | [],k,b,i,h=>rfl
 | ((k',b'),v) :: r,k,b,i,h=>by
  simp only [findE] at h
  split at h
  ·cases h
  ·rename_i hc
   simp only [getE,hc,if_false]
   exact findE_none h
theorem getE_set:∀ {ps:List Ent} {k:Nat} {b:Bool} {i j:Nat} {v z:Int},findE ps k b i=some (i+j,v)→∀ k' b',getE (ps.set j ((k,b),z)) k' b'=if k'=k∧b'=b then z else getE ps k' b'
 | [],k,b,i,j,v,z,h,k',b'=>by cases h
 | ((k0,b0),v0) :: r,k,b,i,j,v,z,h,k',b'=>by
  simp only [findE] at h
  split at h
  ·rename_i hc
   obtain ⟨rfl,rfl⟩:=hc
   simp only [Option.some.injEq,Prod.mk.injEq] at h
   obtain rfl:j=0:=by omega
   simp only [List.set_cons_zero,getE]
   split <;> rfl
  ·rename_i hc
   obtain ⟨_,hle,_⟩:=findE_get h
   simp only at hle
   obtain ⟨j,rfl⟩:∃ j',j=j'+1:=⟨j - 1,by omega⟩
   have ih:=getE_set (z:=z) (i:=i+1) (j:=j) (by rw [h]; congr 2; omega) k' b'
   simp only [List.set_cons_succ,getE,ih]
   by_cases hk:k'=k0∧b'=b0
   ·obtain ⟨rfl,rfl⟩:=hk
    have:¬ (k'=k∧b'=b):=fun hh=>hc ⟨hh.1.symm,hh.2.symm⟩
    simp [this]
   ·simp [hk]
theorem findE_any {k:Nat} {b:Bool}:∀ {ps:List Ent} {i:Nat} (j:Nat),findE ps k b i=none→findE ps k b j=none
 | [],i,j,_=>rfl
 | ((k0,b0),v0) :: r,i,j,h=>by
  simp only [findE] at h ⊢
  split at h
  ·cases h
  ·rename_i hh; rw [if_neg hh]; exact findE_any _ h
theorem getE_snoc {k:Nat} {b:Bool} {z:Int}:∀ {ps:List Ent},getE ps k b=0→(∀ i,findE ps k b i=none)→∀ k' b',getE (ps++[((k,b),z)]) k' b'=if k'=k∧b'=b then z else getE ps k' b'
 | [],_,_,k',b'=>by simp [getE]
 | ((k0,b0),v0) :: r,h1,h2,k',b'=>by
  have hc:¬ (k=k0∧b=b0):=by
   intro hc
   have:=h2 0
   simp [findE,hc] at this
  simp only [List.cons_append,getE]
  simp only [getE,hc,if_false] at h1
  have h0:∀ i,findE r k b i=none:=by
   intro i
   have h3:=h2 i
   simp only [findE,hc,if_false] at h3
   exact findE_any i h3
  have ih:=getE_snoc (z:=z) (ps:=r) h1 h0 k' b'
  rw [ih]
  by_cases hk:k'=k0∧b'=b0
  ·obtain ⟨rfl,rfl⟩:=hk
   have:¬ (k'=k∧b'=b):=fun hh=>hc ⟨hh.1.symm,hh.2.symm⟩
   simp [this]
  ·simp [hk]
def MapOk (es:List (V×V)) (vis len:Nat→Int):Prop:=∃ ps:List Ent,es=ps.map encE∧∀ k b,getE ps k b=if b then len k else vis k
theorem map_add {h:Heap} {mb:Nat} {ps:List Ent} (hm:h[mb]?=some (.map (ps.map encE))) (k:Nat) (b:Bool) (z:Int):∃ (j:Nat) (ps1 ps2:List Ent),lookV h true [.int,.bool] (.map mb) (keyV k b) false (.int .i64 0)=some (.int .i64 (getE ps k b)) ∧
  mentV h true [.int,.bool] (.map mb) (keyV k b) (.int .i64 0)=some (.tup [.int .i64 (getE ps k b),.int .i64 j],h.set mb (.map (ps1.map encE))) ∧
  lookV (h.set mb (.map (ps1.map encE))) true [.int,.bool] (.map mb) (keyV k b) false (.int .i64 0)=some (.int .i64 (getE ps k b)) ∧
  mestV (h.set mb (.map (ps1.map encE))) (.map mb) (.int .i64 j) (.int .i64 z)=some (h.set mb (.map (ps2.map encE)))∧∀ k' b',getE ps2 k' b'=if k'=k∧b'=b then z else getE ps k' b':=by
 have hlt:mb<h.length:=(List.getElem?_eq_some_iff.1 hm).1
 have hks:keyShape true [LK.int,.bool] (keyV k b)=true:=rfl
 have hlook:∀ (h':Heap) (ps':List Ent),h'[mb]?=some (.map (ps'.map encE))→lookV h' true [.int,.bool] (.map mb) (keyV k b) false (.int .i64 0)=some (.int .i64 (getE ps' k b)):=by
  intro h' ps' hm'
  simp only [lookV,mapEs,hm',hks,findK_enc]
  cases hf:findE ps' k b 0 with
  | none=>simp [finV,findE_none hf]
  | some q=>simp [finV,(findE_get hf).1]
 cases hf:findE ps k b 0 with
 | some q =>
  obtain ⟨hg,_,hat⟩:=findE_get hf
  simp only [Nat.sub_zero] at hat
  have hself:(ps.map encE).set q.1 (keyV k b,.int .i64 q.2)=ps.map encE:=by
   apply List.ext_getElem?
   intro i
   by_cases hi:q.1=i
   ·subst hi
    have hq:q.1<ps.length:=(List.getElem?_eq_some_iff.1 hat).1
    rw [List.getElem?_set_self (by simpa using hq)]
    simp [hat,encE]
   ·rw [List.getElem?_set_ne hi]
  refine ⟨q.1,ps,ps.set q.1 ((k,b),z),hlook h ps hm,?_,hlook _ ps (by simp [hlt]),?_,?_⟩
  ·simp [mentV,mapEs,hm,hks,findK_enc,hf,okVal,isCell,hself,hg]
  ·have hq:(List.map encE ps)[q.1]?=some (keyV k b,.int .i64 q.2):=by simp [hat,encE]
   simp [mestV,mapEs,hlt,okVal,isCell,hq,List.map_set,encE]
  ·intro k' b'
   exact getE_set (i:=0) (j:=q.1) (v:=q.2) (by rw [hf]; simp) k' b'
 | none =>
  have hg:=findE_none hf
  refine ⟨ps.length,ps++[((k,b),0)],ps++[((k,b),z)],hlook h ps hm,?_,?_,?_,?_⟩
  ·simp [mentV,mapEs,hm,hks,findK_enc,hf,okVal,isCell,hg,encE]
  ·rw [hlook _ (ps++[((k,b),0)]) (by simp [hlt]),getE_snoc hg (fun i=>findE_any i hf)]
   simp [hg]
  ·have hq:(List.map encE (ps++[((k,b),(0:Int))]))[ps.length]?=some (keyV k b,.int .i64 0):=by simp [encE]
   simp only [mestV,mapEs,hlt,List.getElem?_set_self,Int.natCast_nonneg,Int.toNat_natCast,okVal,isCell,Bool.true_or,and_self,if_true,hq,List.set_set]
   simp [encE]
  ·exact getE_snoc hg (fun i=>findE_any i hf)
abbrev ER (rb mb:Nat):Adr:=fun b=>b=rb∨b=mb
structure RunAt (rb mb left:Nat) (fv rv:V) (mn:Int) (h:Heap) (s:St):Prop where
 run:objCells h rb=some (1,6,[fv,rv,.int .i64 mn,.int .i64 left,.int .i64 s.steps,.map mb])
 map:∃ es,h[mb]?=some (.map es)∧MapOk es s.vis s.len
 le:s.steps≤left
 small:left≤1000000
theorem MapOk.upd_vis {ps:List Ent} {vis len:Nat→Int} {k:Nat} {ps2:List Ent} (h:∀ k b,getE ps k b=if b then len k else vis k) {d:Int} (h2:∀ k' b',getE ps2 k' b'=if k'=k∧b'=false then w64 (vis k+d) else getE ps k' b') :
  MapOk (ps2.map encE) (upd vis k d) len:=⟨ps2,rfl,fun k' b'=>by
 rw [h2,h]
 cases b' with
 | true=>simp
 | false=>by_cases hk:k'=k <;> simp [hk,upd]⟩
theorem MapOk.upd_len {ps:List Ent} {vis len:Nat→Int} {k:Nat} {ps2:List Ent} (h:∀ k b,getE ps k b=if b then len k else vis k) {d:Int} (h2:∀ k' b',getE ps2 k' b'=if k'=k∧b'=true then w64 (len k+d) else getE ps k' b') :
  MapOk (ps2.map encE) vis (upd len k d):=⟨ps2,rfl,fun k' b'=>by
 rw [h2,h]
 cases b' with
 | false=>simp
 | true=>by_cases hk:k'=k <;> simp [hk,upd]⟩
section
variable {rb mb left:Nat} {fv rv:V} {mn:Int} {h:Heap} {s:St} {S:Adr} {t:NT} {nb:Nat}
theorem RunAt.ne (hr:RunAt rb mb left fv rv mn h s):rb≠mb:=by
 rintro rfl
 obtain ⟨es,he,_⟩:=hr.map
 have:=hr.run
 simp [objCells,he] at this
theorem RunAt.lt (hr:RunAt rb mb left fv rv mn h s):rb<h.length∧mb<h.length:=by
 obtain ⟨es,he,_⟩:=hr.map
 exact ⟨objCells_lt hr.run,(List.getElem?_eq_some_iff.1 he).1⟩
theorem RunAt.same {h':Heap} (hr:RunAt rb mb left fv rv mn h s) (h1:h'[rb]?=h[rb]?) (h2:h'[mb]?=h[mb]?):RunAt rb mb left fv rv mn h' s:=by
 obtain ⟨es,he,hm⟩:=hr.map
 exact ⟨(objCells_same h1).trans hr.run,⟨es,h2.trans he,hm⟩,hr.le,hr.small⟩
theorem RunAt.grow {S':Adr} {h':Heap} (hr:RunAt rb mb left fv rv mn h s) (g:Grow No S h S' h'):RunAt rb mb left fv rv mn h' s :=
 hr.same (g.same _ hr.lt.1 (fun h=>h)) (g.same _ hr.lt.2 (fun h=>h))
theorem begin_q (hr:RunAt rb mb left fv rv mn h s) (hst:Stab (ER rb mb) S h) (hn:RN S h t nb) (hf:isCell fv=true) (hrv:isCell rv=true) :
  (s.steps<left→∃ h',CC 118 [.ref rb 0 1,.ref nb 0 1] h (.ret (.tup [])) h'∧RunAt rb mb left fv rv mn h' (s.begin t.id)∧Grow (ER rb mb) S h S h') ∧
  (¬ s.steps<left→CC 118 [.ref rb 0 1,.ref nb 0 1] h (.pan (stopV 12 t.id)) h):=by
 have hrun:=hr.run
 obtain ⟨es,he,hm⟩:=hr.map
 have hne:=hr.ne
 have hsm:=hr.small
 have hle:=hr.le
 have n1:=need_q hn true 12
 have n0:=need_q hn false 12
 rw [RO] at n1 n0
 constructor
 ·intro hlt
  have hlt':(s.steps:Int)<(left:Int):=by omega
  have w1:IntKind.i64.wrap ((s.steps:Int)+1)=(s.steps:Int)+1:=wrap64 (by omega) (by omega)
  generalize hh1:h.set rb (.cells 1 6 [fv,rv,.int .i64 mn,.int .i64 left,.int .i64 ((s.steps:Int)+1),.map mb])=h1
  have hstore:storeV h (.ref rb 4 1) (.int .i64 ((s.steps:Int)+1)) 1=some h1:=by simp [storeV,hrun,hh1,isCell,cellsV]
  have hrun1:objCells h1 rb=some (1,6,[fv,rv,.int .i64 mn,.int .i64 left,.int .i64 ((s.steps:Int)+1),.map mb]):=by rw [← hh1]; exact objCells_set hr.lt.1 _ _ _
  have he1:h1[mb]?=some (.map es):=by rw [← hh1,List.getElem?_set_ne hne]; exact he
  have ag1:Agr S h h1:=by rw [← hh1]; exact Agr.set (fun hb=>hst.ne rb hb (.inl rfl)) _
  obtain ⟨lv',kv,rs,_,hnode,_⟩:=(hn.mono (fun _ h=>h) ag1).node
  obtain ⟨ps,rfl,hps⟩:=hm
  obtain ⟨j,ps1,ps2,a1,a2,a3,a4,a5⟩:=map_add he1 t.id false (w64 (s.vis t.id+1))
  have hg0:getE ps t.id false=s.vis t.id:=by rw [hps]; rfl
  rw [hg0] at a1 a2 a3
  have g1:Grow (ER rb mb) S h S h1:=by rw [← hh1]; exact Grow.refl.set (.inr (.inl rfl)) _
  refine ⟨h1.set mb (.map (ps2.map encE)),cc_of (af:=Trmm.a118) rfl rfl fun Q hQ => ?_,⟨?_,⟨_,by simp [(List.getElem?_eq_some_iff.1 he1).1],MapOk.upd_vis hps a5⟩,by simp only [St.begin]; omega,hsm⟩,g1.set (.inr (.inr rfl)) _⟩
  ·simp only [Trmm.a118]
   have ev:eqV (.int .i64 (s.vis t.id)) (.int .i64 (s.vis t.id))=true:=by simp [eqV]
   simp [slotOf,hrun,hlt',n1,w1,hstore,hrun1,hnode,mkV,fill,wrap_w64,a1,a2,a3,a4,ev,callee,rocall]
   exact hQ
  ·rw [objCells_ne (Ne.symm hne)]
   simpa [St.begin] using hrun1
 ·intro hlt
  have hlt':¬ (s.steps:Int)<(left:Int):=by omega
  refine cc_of (af:=Trmm.a118) rfl rfl fun Q hQ => ?_
  simp only [Trmm.a118]
  simp [slotOf,hrun,hlt',n0,mkV,callee,rocall,tailOK,tailAt,tailOps,liveIn,lzT,forget,AOper.writes]
  exact hQ
theorem contains_q (l:List Int) (ex:Bool) (n:Int) (hl:l.length≤4096):PC 93 [.sv ((l.map (V.int .i64)).map fun x=>[x]) ex,.int .i64 n] (.bool (l.contains n)):=by
 have hrs:RSl No [] (.sv ((l.map (V.int .i64)).map fun x=>[x]) ex) (l.map (V.int .i64)):=.sv _ ex
 have hpure:pureL [.sv ((l.map (V.int .i64)).map fun x=>[x]) ex,.int .i64 n]=true:=rfl
 have hlv:=hrs.lenS
 simp only [List.length_map] at hlv
 generalize V.sv ((l.map (V.int .i64)).map fun x=>[x]) ex=v at *
 have key:∃ z:Int,PC 116 [v,.int .i64 n] (.int .i64 z)∧(0≤z↔n∈l):=by
  have key:CallP gl Trmm.aprog 116 [v,.int .i64 n] [] (fun r h'=>h'=[]∧∃ z:Int,r = .ret (.int .i64 z)∧(0≤z↔n∈l)):=by
   refine call_ofQ (af:=Trmm.a116) rfl rfl fun Q hQ => ?_
   simp only [Trmm.a116]
   simp [slotOf,hlv]
   refine loop_nQ l.length (fun i c=>n ∉ l.take i∧∃ s3 fl,c=⟨[v,.int .i64 n,.int .i64 0,s3,.int .i64 l.length,.int .i64 i],[],fl,none,[]⟩) ?_ ⟨by simp,.undef,none,by simp⟩
   rintro I hI i c hil ⟨hni,s3,fl,rfl⟩
   by_cases hlt:i<l.length
   ·have hlt':(i:Int)<l.length:=by omega
    obtain ⟨q,hq1,hq2⟩:=hrs.idx (i:=i) (by simpa using hlt)
    have hq3:=hq2 (by simp [isCell]) [] Agr.refl
    simp only [List.getElem_map] at hq3
    have w5:IntKind.i64.wrap ((i:Int)+1)=(i:Int)+1:=wrap64 (by omega) (by omega)
    have hm:=List.getElem_mem hlt
    by_cases he:n=l[i]
    ·have he':(n == l[i])=true:=by simpa using he
     simp [slotOf,hlt',hq1,hq3,he']
     exact hQ _ _ ⟨rfl,i,rfl,by simp only [Int.natCast_nonneg,true_iff]; rw [he]; exact hm⟩
    ·have he':(n == l[i])=false:=by simpa using he
     simp [slotOf,hlt',hq1,hq3,he',w5]
     refine ⟨hlt,hI _ _ ⟨?_,.int .i64 i,none,by simp⟩⟩
     intro hmem
     rw [← List.take_append_getElem hlt,List.mem_append] at hmem
     rcases hmem with h | h
     ·exact hni h
     ·exact he (List.mem_singleton.1 h)
   ·obtain rfl:i=l.length:=by omega
    rw [List.take_length] at hni
    simp [slotOf]
    exact hQ _ _ ⟨rfl,-1,rfl,by simp [hni]⟩
  obtain ⟨r,h',e,rfl,z,rfl,hz⟩:=OptP.ex key
  exact ⟨z,pc_ro hpure (view_int _ _) e,hz⟩
 obtain ⟨z,hc,hz⟩:=key
 rw [PC] at hc
 refine pc_ro hpure (view_bool _) (cc_of (af:=Trmm.a93) rfl rfl fun Q hQ => ?_)
 simp only [Trmm.a93]
 have e:decide (0≤z)=l.contains n:=by
  rw [Bool.eq_iff_iff]
  simp [hz]
 simp [slotOf,hc,-pcall,-List.contains_eq_mem]
 rw [e]
 exact hQ
theorem counts_q (op:Int):PC 93 [.sv [[.int .i64 17],[.int .i64 18],[.int .i64 16],[.int .i64 19],[.int .i64 23],[.int .i64 24],[.int .i64 25],[.int .i64 26]] true,.int .i64 op] (.bool (counts op)):=by
 have:=contains_q [17,18,16,19,23,24,25,26] true op (by decide)
 have e:[17,18,16,19,23,24,25,26].contains op=counts op:=by
  simp only [counts,List.contains_cons,List.contains_nil,Bool.or_false,Bool.or_assoc]
 rw [e] at this
 exact this
theorem note_q (hr:RunAt rb mb left fv rv mn h s) (hst:Stab (ER rb mb) S h) (hn:RN S h t nb) {v:Val} {x:V} (hv:RV S h v x) (hf:isCell fv=true) (hrv:isCell rv=true) :
  ∃ h',CC 125 [.ref rb 0 1,.ref nb 0 1,x] h (.ret x) h'∧RunAt rb mb left fv rv mn h' (note t v s)∧Grow (ER rb mb) S h S h':=by
 have hrun:=hr.run
 obtain ⟨es,he,hm⟩:=hr.map
 obtain ⟨lv',kv,rs,_,hnode,_⟩:=hn.node
 have hcn:=counts_q t.op
 rw [PC] at hcn
 cases hv with
 | num n =>
  refine ⟨h,cc_of (af:=Trmm.a125) rfl rfl fun Q hQ => ?_,hr,.refl⟩
  simp only [Trmm.a125]
  simp [slotOf]
  exact hQ
 | unit =>
  refine ⟨h,cc_of (af:=Trmm.a125) rfl rfl fun Q hQ => ?_,hr,.refl⟩
  simp only [Trmm.a125]
  simp [slotOf]
  exact hQ
 | fn b p env nb' sv h1 h2 =>
  refine ⟨h,cc_of (af:=Trmm.a125) rfl rfl fun Q hQ => ?_,hr,.refl⟩
  simp only [Trmm.a125]
  simp [slotOf]
  exact hQ
 | many k tt l lv vs hs hl hq =>
  have hlc:=hs.cell
  have hlen:=hs.lenS
  rw [hl] at hlen
  by_cases hk:k=4
  ·subst hk
   cases hct:counts t.op with
   | false =>
    rw [hct] at hcn
    refine ⟨h,cc_of (af:=Trmm.a125) rfl rfl fun Q hQ => ?_,by simpa [note,hct] using hr,.refl⟩
    simp only [Trmm.a125]
    simp [slotOf,hlc,hnode,hcn,mkV,fill,chunks,-pcall]
    exact hQ
   | true =>
    rw [hct] at hcn
    obtain ⟨ps,rfl,hps⟩:=hm
    obtain ⟨j,ps1,ps2,a1,a2,a3,a4,a5⟩:=map_add he t.id true (w64 (s.len t.id+l.length))
    have hg0:getE ps t.id true=s.len t.id:=by rw [hps]; rfl
    rw [hg0] at a1 a2 a3
    have hn2:note t (.many 4 tt l) s=s.add t.id l.length:=by simp [note,hct]
    have ev:eqV (.int .i64 (s.len t.id)) (.int .i64 (s.len t.id))=true:=by simp [eqV]
    refine ⟨h.set mb (.map (ps2.map encE)),cc_of (af:=Trmm.a125) rfl rfl fun Q hQ => ?_,?_,Grow.refl.set (.inr (.inr rfl)) _⟩
    ·simp only [Trmm.a125]
     simp [slotOf,hlc,hnode,hcn,hrun,hlen,mkV,fill,chunks,wrap_w64,a1,a2,a3,a4,ev,-pcall]
     exact hQ
    ·rw [hn2]
     exact ⟨by rw [objCells_ne (Ne.symm hr.ne)]; exact hrun,⟨_,by simp [(List.getElem?_eq_some_iff.1 he).1],MapOk.upd_len hps a5⟩,hr.le,hr.small⟩
  ·have hk':(k == 4)=false:=by simpa using hk
   refine ⟨h,cc_of (af:=Trmm.a125) rfl rfl fun Q hQ => ?_,by simpa [note,hk] using hr,.refl⟩
   simp only [Trmm.a125]
   simp [slotOf,hlc,hk']
   exact hQ
end
theorem RSl.eqv_refs {S:Adr} {h:Heap} {v:V} {l:List V} (hs:RSl S h v l) (hl:∀ x∈l,eqV x x=true):eqV v v=true:=by
 cases hs with
 | nil=>rfl
 | sv l ex =>
  have:eqLL (l.map fun x=>[x]) (l.map fun x=>[x])=true:=by
   induction l with
   | nil=>rfl
   | cons x xs ih=>simp only [List.map_cons,eqLL,eqL,hl x (by simp),ih fun y hy=>hl y (by simp [hy]),Bool.and_self]
  simp [eqV,this]
 | sl b off len g ex cs hS ho hc hl=>simp [eqV]
theorem eqV_ref (b o g:Nat):eqV (.ref b o g) (.ref b o g)=true:=by simp [eqV]
theorem eqV_int (k:IntKind) (n:Int):eqV (.int k n) (.int k n)=true:=by simp [eqV]
abbrev fnV (n:Nat):V:=.func (.func n) [] []
def opsL:List V:=[.nilf,fnV 133,fnV 134,.nilf,.nilf,.nilf,.nilf,.nilf,fnV 135,fnV 136,fnV 137,fnV 138,fnV 139,.nilf,.nilf,fnV 140,fnV 141,.nilf,.nilf,fnV 143,fnV 144,fnV 145,fnV 146,fnV 147,fnV 148,fnV 149,fnV 150]
abbrev cloV (bb eb vb ab:Nat):V:=.func (.func 119) [] [.ref bb 0 1,.ref eb 0 1,.ref vb 0 1,.ref ab 0 1]
structure Cn where
 P:Pg
 left:Nat
 rb:Nat
 mb:Nat
 eb:Nat
 bb:Nat
 vb:Nat
 ab:Nat
 fv:V
 rv:V
 mn:Int
structure Ctx (C:Cn) (S:Adr) (h:Heap):Prop where
 st:Stab (ER C.rb C.mb) S h
 e0:S C.eb
 e1:objCells h C.eb=some (1,1,[cloV C.bb C.eb C.vb C.ab])
 b0:S C.bb
 b1:objCells h C.bb=some (1,1,[.func (.func 118) [.ref C.rb 0 1] []])
 v0:S C.vb
 v1:objCells h C.vb=some (1,1,[.ref C.rb 0 1])
 a0:S C.ab
 a1:objCells h C.ab=some (1,27,opsL)
 rts:∃ roots,RSl S h C.rv roots∧roots.length=C.P.length∧(∀ x∈roots,eqV x x=true)∧∀ i,∀ hi:i<C.P.length,∃ b,roots[i]?=some (.ref b 0 1)∧RN S h C.P[i].2 b
 fns:∀ i,∀ hi:i<C.P.length,∃ a cs,idxV C.fv i 6=some (.pv (a :: .int .i64 C.P[i].1 :: cs))
 fvc:isCell C.fv=true
 fve:eqV C.fv C.fv=true
 ok:PgOk C.P
theorem Ctx.mono {C:Cn} {S S':Adr} {h h':Heap} (c:Ctx C S h) (g:Grow (ER C.rb C.mb) S h S' h') (st:Stab (ER C.rb C.mb) S' h'):Ctx C S' h':=by
 have ag:=g.agr c.st
 obtain ⟨roots,r1,r2,r3,r4⟩:=c.rts
 refine ⟨st,g.sub _ c.e0,(ag _ c.e0).trans c.e1,g.sub _ c.b0,(ag _ c.b0).trans c.b1,g.sub _ c.v0,(ag _ c.v0).trans c.v1,g.sub _ c.a0,(ag _ c.a0).trans c.a1,⟨roots,r1.mono g.sub ag,r2,r3,fun i hi => ?_⟩,c.fns,c.fvc,c.fve,c.ok⟩
 obtain ⟨b,h1,h2⟩:=r4 i hi
 exact ⟨b,h1,h2.mono g.sub ag⟩
theorem Ctx.rvc {C:Cn} {S:Adr} {h:Heap} (c:Ctx C S h):isCell C.rv=true:=by
 obtain ⟨roots,r1,_⟩:=c.rts
 exact r1.cell
theorem Ctx.rve {C:Cn} {S:Adr} {h:Heap} (c:Ctx C S h):eqV C.rv C.rv=true:=by
 obtain ⟨roots,r1,_,r3,_⟩:=c.rts
 exact r1.eqv_refs r3
abbrev Ctx.Run (C:Cn) (h:Heap) (s:St):Prop:=RunAt C.rb C.mb C.left C.fv C.rv C.mn h s
abbrev evArgs (C:Cn) (nb:Nat) (sv:V):List V:=[.ref nb 0 1,sv,.ref C.bb 0 1,.ref C.eb 0 1,.ref C.vb 0 1,.ref C.ab 0 1]
def EvR (C:Cn) (f:Nat) (args:List V) (S:Adr) (h:Heap):Res Val→Prop
 | .ok v s'=>∃ x S' h',CC f args h (.ret x) h'∧Grow (ER C.rb C.mb) S h S' h'∧Stab (ER C.rb C.mb) S' h'∧Ctx.Run C h' s'∧RV S' h' v x
 | .err e i=>∃ h',CC f args h (.pan (stopV e i)) h'∧Grow (ER C.rb C.mb) S h S h'
def EvP (C:Cn) (d:Nat):Prop:=∀ (t:NT) (env:Env) (s:St) (S:Adr) (h:Heap) (nb:Nat) (sv:V),Ctx C S h→Ctx.Run C h s→RN S h t nb→RE S h env sv→Wf C.P.length (env.map (·.1)) t→EnvOk C.P.length env→C.left<s.steps+d →
 EvR C 119 (evArgs C nb sv) S h (evalD C.P C.left d t env s)
structure Pre (C:Cn) (d:Nat) (t:NT) (env:Env) (s1:St) (S:Adr) (h h1:Heap) (nb:Nat) (sv:V):Prop where
 cx:Ctx C S h
 cb:CC 118 [.ref C.rb 0 1,.ref nb 0 1] h (.ret (.tup [])) h1
 g1:Grow (ER C.rb C.mb) S h S h1
 c1:Ctx C S h1
 r1:Ctx.Run C h1 s1
 n1:RN S h1 t nb
 v1:RE S h1 env sv
 wf:Wf C.P.length (env.map (·.1)) t
 eo:EnvOk C.P.length env
 ih:EvP C d
 hd:C.left<s1.steps+d
section
variable {C:Cn} {d:Nat} {t:NT} {env:Env} {s1:St} {S:Adr} {h h1:Heap} {nb:Nat} {sv:V}
theorem Pre.node (p:Pre C d t env s1 S h h1 nb sv):∃ lv kv rs,S nb∧objCells h1 nb=some (1,6,[.int .i64 t.op,.int .i64 t.n,.int .i64 t.m,lv,.int .i64 t.id,kv])∧RSl S h1 kv rs∧eqV kv kv=true ∧
  ∀ k,k<t.l.length→∃ q b,idxV kv k 1=some q∧(∀ h',Agr S h1 h'→loadV h' q 1 false=some (.ref b 0 1))∧RN S h1 (t.kid k) b:=by
 obtain ⟨lv,kv,rs,hS,ho,hk,hl,hr⟩:=p.n1.node
 refine ⟨lv,kv,rs,hS,ho,hk,hk.eqv_refs fun x hx => ?_,fun k hk' => ?_⟩
 ·obtain ⟨i,hi,rfl⟩:=List.mem_iff_getElem.1 hx
  obtain ⟨b,hb,_⟩:=hr i (by omega)
  rw [List.getElem?_eq_getElem hi] at hb
  rw [Option.some.inj hb]
  exact eqV_ref _ _ _
 ·obtain ⟨b,hb,hn⟩:=hr k hk'
  have hlt:k<rs.length:=by omega
  obtain ⟨q,hq1,hq2⟩:=hk.idx hlt
  rw [List.getElem?_eq_getElem hlt] at hb
  have e:=Option.some.inj hb
  rw [e] at hq2
  exact ⟨q,b,hq1,fun h' ha=>hq2 rfl h' ha,hn⟩
theorem Pre.len (p:Pre C d t env s1 S h h1 nb sv) {o k:Int} (ho:t.op=o) (h16:o≠16) (hk:arity o=k):(t.l.length:Int)=k:=by
 have:=p.wf.shape
 rw [ho] at this
 simp only [shape,h16,if_false] at this
 omega
theorem ev0 (p:Pre C d t env s1 S h h1 nb sv) (ho:t.op=0):EvR C 119 (evArgs C nb sv) S h (stepD C.P (evalD C.P C.left d) t env s1):=by
 have hb:=p.cb
 rw [CC] at hb
 obtain ⟨lv,kv,rs,hS,hn,hk,hke,kids⟩:=p.node
 obtain ⟨x,hf,hv⟩:=find_q p.v1 t.n (p.wf.nums.1 ho)
 rw [RO] at hf
 rw [ho] at hn
 rw [show stepD C.P (evalD C.P C.left d) t env s1 = .ok (find env t.n) s1 by simp [stepD,ho]]
 refine ⟨x,S,h1,cc_of (af:=Trmm.a119) rfl rfl fun Q hQ => ?_,p.g1,p.c1.st,p.r1,hv⟩
 simp only [Trmm.a119]
 simp [slotOf,p.cx.b1,hb,hn,hf,mkV,callee,ecallF,rocall]
 exact hQ
end
end Go.Proofs.Mm
set_option linter.unusedVariables false
set_option linter.unusedSimpArgs false
set_option maxHeartbeats 1000000
namespace Go.Proofs.Mm
open Go Go.Am
theorem EvR.lift {C:Cn} {f f':Nat} {args args':List V} {S S3:Adr} {h h3:Heap} {r:Res Val} (hr:EvR C f' args' S3 h3 r) (hg:Grow (ER C.rb C.mb) S h S3 h3)
  (h1:∀ x h4,CC f' args' h3 (.ret x) h4→CC f args h (.ret x) h4) (h2:∀ e i h4,CC f' args' h3 (.pan (stopV e i)) h4→CC f args h (.pan (stopV e i)) h4):EvR C f args S h r:=by
 cases r with
 | ok v s' =>
  obtain ⟨x,S',h',a,b,c,d,e⟩:=hr
  exact ⟨x,S',h',h1 _ _ a,hg.trans b,c,d,e⟩
 | err e i =>
  obtain ⟨h',a,b⟩:=hr
  exact ⟨h',h2 _ _ _ a,(hg.trans b).back⟩
section
variable {C:Cn} {d:Nat} {t:NT} {env:Env} {s1:St} {S:Adr} {h h1:Heap} {nb:Nat} {sv:V}
structure Scp (C:Cn) (S2:Adr) (h2:Heap) (env:Env) (n:Int) (v:Val) (up x:V) (s:St):Prop where
 w:CC 101 [up,.int .i64 n,x] h2 (.ret (.ref h2.length 0 1)) (h2++[.cells 1 3 [.int .i64 n,x,up]])
 g:Grow (ER C.rb C.mb) S2 h2 (fun b=>S2 b∨b=h2.length) (h2++[.cells 1 3 [.int .i64 n,x,up]])
 c:Ctx C (fun b=>S2 b∨b=h2.length) (h2++[.cells 1 3 [.int .i64 n,x,up]])
 r:Ctx.Run C (h2++[.cells 1 3 [.int .i64 n,x,up]]) s
 e:RE (fun b=>S2 b∨b=h2.length) (h2++[.cells 1 3 [.int .i64 n,x,up]]) ((n,v) :: env) (.ref h2.length 0 1)
theorem scope_q {S2:Adr} {h2:Heap} {n:Int} {v:Val} {up x:V} {s:St} (c2:Ctx C S2 h2) (r2:Ctx.Run C h2 s) (he:RE S2 h2 env up) (hv:RV S2 h2 v x):Scp C S2 h2 env n v up x s:=by
 have hlt:=r2.lt
 have g:Grow (ER C.rb C.mb) S2 h2 (fun b=>S2 b∨b=h2.length) (h2++[.cells 1 3 [.int .i64 n,x,up]]):=(Grow.app _).push (Nat.le_refl _)
 have st:Stab (ER C.rb C.mb) (fun b=>S2 b∨b=h2.length) (h2++[.cells 1 3 [.int .i64 n,x,up]]):=(c2.st.len (by simp)).push (by simp) (by rintro (h | h) <;> omega)
 have ag:=g.agr c2.st
 refine ⟨with_q up x n he.cell hv.cell,g,c2.mono g st,r2.same (List.getElem?_append_left hlt.1) (List.getElem?_append_left hlt.2),.cons _ _ _ _ _ _ (.inr rfl) (obj_last _ _ _ _) (hv.mono g.sub ag) (he.mono g.sub ag)⟩
theorem Pre.wfk (p:Pre C d t env s1 S h h1 nb sv) {k:Nat} (hk:k<t.l.length):Wf C.P.length (bnd t.op t.n t.m k (env.map (·.1))) (t.kid k):=p.wf.kid hk
theorem EnvOk.cons {nf:Nat} {env:Env} {n:Int} {v:Val} (he:EnvOk nf env) (hv:VOk nf v):EnvOk nf ((n,v) :: env):=fun x hx=>by
 rcases List.mem_cons.1 hx with rfl | hx
 ·exact hv
 ·exact he x hx
theorem ev3 (p:Pre C d t env s1 S h h1 nb sv) (ho:t.op=3):EvR C 119 (evArgs C nb sv) S h (stepD C.P (evalD C.P C.left d) t env s1):=by
 have hb:=p.cb
 rw [CC] at hb
 obtain ⟨lv,kv,rs,hS,hn,hk,hke,kids⟩:=p.node
 have hl:=p.len ho (by decide) (k:=2) rfl
 obtain ⟨q0,b0,i0,l0,k0⟩:=kids 0 (by omega)
 obtain ⟨q1,b1,i1,l1,k1⟩:=kids 1 (by omega)
 have wf0:=p.wfk (k:=0) (by omega)
 have wf1:=p.wfk (k:=1) (by omega)
 simp only [ho,bnd,show ((3:Int)=4)=False by decide,show ((0:Nat)=1)=False by decide,show ((3:Int)=13)=False by decide,true_or,false_or,and_false,false_and,and_true,and_self,if_true,if_false,or_true] at wf0 wf1
 rw [ho] at hn
 simp only [Int.natCast_zero,Int.natCast_one] at i0 i1
 have r0:=p.ih (t.kid 0) env s1 S h1 b0 sv p.c1 p.r1 k0 p.v1 wf0 p.eo p.hd
 have ok0:=evalD_ok p.c1.ok d (t.kid 0) env s1 wf0 p.eo p.r1.le
 rw [show stepD C.P (evalD C.P C.left d) t env s1=(evalD C.P C.left d (t.kid 0) env s1).bind fun v s=>evalD C.P C.left d (t.kid 1) ((t.n,v) :: env) s by simp [stepD,ho]]
 have e1:=p.c1.e1
 have l01:=l0 h1 Agr.refl
 have l11:=l1 h1 Agr.refl
 have er:=eqV_ref
 have ei:=eqV_int
 have ec:eqV (cloV C.bb C.eb C.vb C.ab) (cloV C.bb C.eb C.vb C.ab)=true:=by simp [eqV,eqL]
 cases he:evalD C.P C.left d (t.kid 0) env s1 with
 | err e i =>
  rw [he] at r0
  obtain ⟨h2,hc,g2⟩:=r0
  rw [CC] at hc
  refine ⟨h2,cc_of (af:=Trmm.a119) rfl rfl fun Q hQ => ?_,p.g1.trans g2⟩
  simp only [Trmm.a119]
  simp [slotOf,p.cx.b1,hb,hn,e1,i0,i1,l01,l11,hc,hke,ec,er,ei,mkV,callee,ecallF,forget,AOper.writes]
  exact hQ
 | ok v s2 =>
  rw [he] at r0
  obtain ⟨x,S2,h2,hc,g2,st2,r2,hv⟩:=r0
  obtain ⟨vok,hst,hle⟩:=ok0 v s2 he
  rw [CC] at hc
  have ag2:=g2.agr p.c1.st
  have c2:=p.c1.mono g2 st2
  have sc:=scope_q (n:=t.n) c2 r2 (p.v1.mono g2.sub ag2) hv
  have ag3:=ag2.trans (fun b hb=>sc.g.agr c2.st b (g2.sub b hb))
  have r1':=p.ih (t.kid 1) ((t.n,v) :: env) s2 _ _ b1 _ sc.c sc.r (k1.mono (fun b hb => .inl (g2.sub b hb)) ag3) sc.e (by simpa using wf1) (p.eo.cons vok) (by have:=p.hd; omega)
  have hw:=sc.w
  rw [CC] at hw
  have e2:=c2.e1
  have e3:=sc.c.e1
  have hn2:=(ag2 nb hS).trans hn
  have hn3:=(ag3 nb hS).trans hn
  have l12:=l1 h2 ag2
  have l13:=l1 _ ag3
  refine r1'.lift ((p.g1.trans g2).trans sc.g) (fun y h4 hc4=>cc_of (af:=Trmm.a119) rfl rfl fun Q hQ => ?_) (fun e i h4 hc4=>cc_of (af:=Trmm.a119) rfl rfl fun Q hQ => ?_)
  ·rw [CC] at hc4
   simp only [Trmm.a119]
   simp [slotOf,p.cx.b1,hb,hn,hn2,hn3,e1,e2,e3,i0,i1,l01,l11,l12,l13,hc,hw,hc4,hke,ec,er,ei,mkV,callee,ecallF]
   exact hQ
  ·rw [CC] at hc4
   simp only [Trmm.a119]
   simp [slotOf,p.cx.b1,hb,hn,hn2,hn3,e1,e2,e3,i0,i1,l01,l11,l12,l13,hc,hw,hc4,hke,ec,er,ei,mkV,callee,ecallF,forget,AOper.writes]
   exact hQ
end
end Go.Proofs.Mm
set_option linter.unusedVariables false
set_option linter.unusedSimpArgs false
set_option maxHeartbeats 1000000
namespace Go.Proofs.Mm
open Go Go.Am
section
variable {C:Cn} {d:Nat} {t:NT} {env:Env} {s1:St} {S:Adr} {h h1:Heap} {nb:Nat} {sv:V}
theorem ev4 (p:Pre C d t env s1 S h h1 nb sv) (ho:t.op=4):EvR C 119 (evArgs C nb sv) S h (stepD C.P (evalD C.P C.left d) t env s1):=by
 have hb:=p.cb
 rw [CC] at hb
 obtain ⟨lv,kv,rs,hS,hn,hk,hke,kids⟩:=p.node
 have hl:=p.len ho (by decide) (k:=1) rfl
 obtain ⟨q0,b0,i0,l0,k0⟩:=kids 0 (by omega)
 rw [ho] at hn
 simp only [Int.natCast_zero] at i0
 rw [show stepD C.P (evalD C.P C.left d) t env s1 = .ok (.fn (t.kid 0) t.n env) s1 by simp [stepD,ho]]
 have l01:=l0 h1 Agr.refl
 have hc:=p.v1.cell
 have hc1:=cellsV_cell hc
 refine ⟨_,S,h1,cc_of (af:=Trmm.a119) rfl rfl fun Q hQ => ?_,p.g1,p.c1.st,p.r1,.fn _ _ _ _ _ k0 p.v1⟩
 simp only [Trmm.a119]
 simp [slotOf,p.cx.b1,hb,hn,i0,l01,hc,hc1,mkV,fill,callee,ecallF]
 exact hQ
theorem Pre.fun_ (p:Pre C d t env s1 S h h1 nb sv) (ho:t.op=6∨t.op=7):∃ a cs q b,idxV C.fv t.n 6=some (.pv (a :: .int .i64 (C.P.getD t.n.toNat default).1 :: cs))∧idxV C.rv t.n 1=some q∧(∀ h',Agr S h1 h'→loadV h' q 1 false=some (.ref b 0 1)) ∧
  RN S h1 (C.P.getD t.n.toNat default).2 b∧Wf C.P.length [(C.P.getD t.n.toNat default).1] (C.P.getD t.n.toNat default).2:=by
 have hnm:=p.wf.nums.2.2.1 ho
 obtain ⟨m,hm⟩:=Int.eq_ofNat_of_zero_le hnm.1
 rw [hm] at hnm ⊢
 have hlt:m<C.P.length:=by omega
 have e:C.P.getD (m:Int).toNat default=C.P[m]:=by rw [List.getD_eq_getElem?_getD,Int.toNat_natCast,List.getElem?_eq_getElem hlt]; rfl
 rw [e]
 obtain ⟨a,cs,h1'⟩:=p.c1.fns m hlt
 obtain ⟨roots,r1,r2,r3,r4⟩:=p.c1.rts
 obtain ⟨b,hb,hn⟩:=r4 m hlt
 have hlr:m<roots.length:=by omega
 obtain ⟨q,hq1,hq2⟩:=r1.idx hlr
 rw [List.getElem?_eq_getElem hlr] at hb
 rw [Option.some.inj hb] at hq2
 exact ⟨a,cs,q,b,h1',hq1,fun h' ha=>hq2 rfl h' ha,hn,p.c1.ok _ (List.getElem_mem hlt)⟩
theorem ev6 (p:Pre C d t env s1 S h h1 nb sv) (ho:t.op=6):EvR C 119 (evArgs C nb sv) S h (stepD C.P (evalD C.P C.left d) t env s1):=by
 have hb:=p.cb
 rw [CC] at hb
 obtain ⟨lv,kv,rs,hS,hn,hk,hke,kids⟩:=p.node
 obtain ⟨a,cs,q,b,hf1,hf2,hf3,hf4,hf5⟩:=p.fun_ (.inl ho)
 rw [ho] at hn
 have l01:=hf3 h1 Agr.refl
 rw [show stepD C.P (evalD C.P C.left d) t env s1 = .ok (.fn (C.P.getD t.n.toNat default).2 (C.P.getD t.n.toNat default).1 []) s1 by simp [stepD,ho]]
 refine ⟨_,S,h1,cc_of (af:=Trmm.a119) rfl rfl fun Q hQ => ?_,p.g1,p.c1.st,p.r1,.fn _ _ _ _ _ hf4 .nil⟩
 have hrun:=p.r1.run
 have hv1:=p.c1.v1
 generalize C.P.getD t.n.toNat default=F at *
 simp only [Trmm.a119]
 simp [slotOf,p.cx.b1,hb,hn,hrun,hv1,hf1,hf2,l01,mkV,fill,callee,ecallF]
 exact hQ
theorem ev7 (p:Pre C d t env s1 S h h1 nb sv) (ho:t.op=7):EvR C 119 (evArgs C nb sv) S h (stepD C.P (evalD C.P C.left d) t env s1):=by
 have hb:=p.cb
 rw [CC] at hb
 obtain ⟨lv,kv,rs,hS,hn,hk,hke,kids⟩:=p.node
 have hl:=p.len ho (by decide) (k:=1) rfl
 obtain ⟨q0,b0,i0,l0,k0⟩:=kids 0 (by omega)
 have wf0:=p.wfk (k:=0) (by omega)
 simp only [ho,bnd,show ((7:Int)=4)=False by decide,show ((7:Int)=3)=False by decide,show ((7:Int)=17)=False by decide,show ((7:Int)=18)=False by decide,show ((7:Int)=13)=False by decide,or_self,false_and,if_false] at wf0
 obtain ⟨a,cs,q,b,hf1,hf2,hf3,hf4,hf5⟩:=p.fun_ (.inr ho)
 rw [ho] at hn
 simp only [Int.natCast_zero] at i0
 have r0:=p.ih (t.kid 0) env s1 S h1 b0 sv p.c1 p.r1 k0 p.v1 wf0 p.eo p.hd
 have ok0:=evalD_ok p.c1.ok d (t.kid 0) env s1 wf0 p.eo p.r1.le
 rw [show stepD C.P (evalD C.P C.left d) t env s1=(evalD C.P C.left d (t.kid 0) env s1).bind fun v s=>evalD C.P C.left d (C.P.getD t.n.toNat default).2 [((C.P.getD t.n.toNat default).1,v)] s by simp [stepD,ho]]
 generalize C.P.getD t.n.toNat default=F at *
 have e1:=p.c1.e1
 have hv1:=p.c1.v1
 have hrun:=p.r1.run
 have l01:=l0 h1 Agr.refl
 have l11:=hf3 h1 Agr.refl
 have er:=eqV_ref
 have ei:=eqV_int
 have ec:eqV (cloV C.bb C.eb C.vb C.ab) (cloV C.bb C.eb C.vb C.ab)=true:=by simp [eqV,eqL]
 have efv:=p.c1.fve
 have erv:=p.c1.rve
 cases he:evalD C.P C.left d (t.kid 0) env s1 with
 | err e i =>
  rw [he] at r0
  obtain ⟨h2,hc,g2⟩:=r0
  rw [CC] at hc
  refine ⟨h2,cc_of (af:=Trmm.a119) rfl rfl fun Q hQ => ?_,p.g1.trans g2⟩
  simp only [Trmm.a119]
  simp [slotOf,p.cx.b1,hb,hn,e1,hv1,hrun,hf1,hf2,i0,l01,l11,hc,hke,ec,er,ei,efv,erv,mkV,callee,ecallF,forget,AOper.writes]
  exact hQ
 | ok v s2 =>
  rw [he] at r0
  obtain ⟨x,S2,h2,hc,g2,st2,r2,hv⟩:=r0
  obtain ⟨vok,hst,hle⟩:=ok0 v s2 he
  rw [CC] at hc
  have ag2:=g2.agr p.c1.st
  have c2:=p.c1.mono g2 st2
  have sc:=scope_q (n:=F.1) (env:=[]) c2 r2 .nil hv
  have ag3:=ag2.trans (fun b hb=>sc.g.agr c2.st b (g2.sub b hb))
  have r1':=p.ih F.2 [(F.1,v)] s2 _ _ b _ sc.c sc.r (hf4.mono (fun b hb => .inl (g2.sub b hb)) ag3) sc.e (by simpa using hf5) (by intro x hx; rw [List.mem_singleton.1 hx]; exact vok) (by have:=p.hd; omega)
  have hw:=sc.w
  rw [CC] at hw
  have e2:=c2.e1
  have e3:=sc.c.e1
  have hv2:=c2.v1
  have hv3:=sc.c.v1
  have hrun2:=r2.run
  have hrun3:=sc.r.run
  have hn2:=(ag2 nb hS).trans hn
  have hn3:=(ag3 nb hS).trans hn
  have l12:=hf3 h2 ag2
  have l13:=hf3 _ ag3
  refine r1'.lift ((p.g1.trans g2).trans sc.g) (fun y h4 hc4=>cc_of (af:=Trmm.a119) rfl rfl fun Q hQ => ?_) (fun e i h4 hc4=>cc_of (af:=Trmm.a119) rfl rfl fun Q hQ => ?_)
  ·rw [CC] at hc4
   simp only [Trmm.a119]
   simp [slotOf,p.cx.b1,hb,hn,hn2,hn3,e1,e2,e3,hv1,hv2,hv3,hrun,hrun2,hrun3,hf1,hf2,i0,l01,l11,l12,l13,hc,hw,hc4,hke,ec,er,ei,efv,erv,mkV,callee,ecallF]
   exact hQ
  ·rw [CC] at hc4
   simp only [Trmm.a119]
   simp [slotOf,p.cx.b1,hb,hn,hn2,hn3,e1,e2,e3,hv1,hv2,hv3,hrun,hrun2,hrun3,hf1,hf2,i0,l01,l11,l12,l13,hc,hw,hc4,hke,ec,er,ei,efv,erv,mkV,callee,ecallF,forget,AOper.writes]
   exact hQ
theorem ev14 (p:Pre C d t env s1 S h h1 nb sv) (ho:t.op=14):EvR C 119 (evArgs C nb sv) S h (stepD C.P (evalD C.P C.left d) t env s1):=by
 have hb:=p.cb
 rw [CC] at hb
 obtain ⟨lv,kv,rs,hS,hn,hk,hke,kids⟩:=p.node
 have hl:=p.len ho (by decide) (k:=3) rfl
 obtain ⟨q0,b0,i0,l0,k0⟩:=kids 0 (by omega)
 obtain ⟨q1,b1,i1,l1,k1⟩:=kids 1 (by omega)
 obtain ⟨q2,b2,i2,l2,k2⟩:=kids 2 (by omega)
 have wf0:=p.wfk (k:=0) (by omega)
 have wf1:=p.wfk (k:=1) (by omega)
 have wf2:=p.wfk (k:=2) (by omega)
 simp only [ho,bnd,show ((14:Int)=4)=False by decide,show ((14:Int)=3)=False by decide,show ((14:Int)=17)=False by decide,show ((14:Int)=18)=False by decide,show ((14:Int)=13)=False by decide,or_self,false_and,if_false] at wf0 wf1 wf2
 rw [ho] at hn
 simp only [Int.natCast_zero,Int.natCast_one,show ((2:Nat):Int)=2 from rfl] at i0 i1 i2
 have r0:=p.ih (t.kid 0) env s1 S h1 b0 sv p.c1 p.r1 k0 p.v1 wf0 p.eo p.hd
 have ok0:=evalD_ok p.c1.ok d (t.kid 0) env s1 wf0 p.eo p.r1.le
 rw [show stepD C.P (evalD C.P C.left d) t env s1=(evalD C.P C.left d (t.kid 0) env s1).bind fun x s=>match asNum x with
   | some n=>if n=0 then evalD C.P C.left d (t.kid 2) env s else evalD C.P C.left d (t.kid 1) env s
   | none => .err ET t.id by simp [stepD,ho]; rfl]
 have e1:=p.c1.e1
 have l01:=l0 h1 Agr.refl
 cases he:evalD C.P C.left d (t.kid 0) env s1 with
 | err e i =>
  rw [he] at r0
  obtain ⟨h2,hc,g2⟩:=r0
  rw [CC] at hc
  refine ⟨h2,cc_of (af:=Trmm.a119) rfl rfl fun Q hQ => ?_,p.g1.trans g2⟩
  simp only [Trmm.a119]
  simp [slotOf,p.cx.b1,hb,hn,e1,i0,l01,hc,mkV,callee,ecallF,forget,AOper.writes]
  exact hQ
 | ok v s2 =>
  rw [he] at r0
  obtain ⟨x,S2,h2,hc,g2,st2,r2,hv⟩:=r0
  obtain ⟨vok,hst,hle⟩:=ok0 v s2 he
  rw [CC] at hc
  have ag2:=g2.agr p.c1.st
  have c2:=p.c1.mono g2 st2
  have n2:=p.n1.mono g2.sub ag2
  have hw:=word_q n2 hv
  rw [RO] at hw
  have e2:=c2.e1
  have hn2:=(ag2 nb hS).trans hn
  have sv2:=p.v1.mono g2.sub ag2
  simp only [Res.bind_ok]
  cases hnum:asNum v with
  | none =>
   rw [hnum] at hw
   refine ⟨h2,cc_of (af:=Trmm.a119) rfl rfl fun Q hQ => ?_,(p.g1.trans g2).back⟩
   simp only [Trmm.a119]
   simp [slotOf,p.cx.b1,hb,hn,e1,i0,l01,hc,hw,mkV,callee,ecallF,rocall,forget,AOper.writes]
   exact hQ
  | some n =>
   rw [hnum] at hw
   show EvR C 119 (evArgs C nb sv) S h (if n=0 then evalD C.P C.left d (t.kid 2) env s2 else evalD C.P C.left d (t.kid 1) env s2)
   by_cases hz:n=0
   ·rw [if_pos hz]
    subst hz
    have l22:=l2 h2 ag2
    refine (p.ih (t.kid 2) env s2 S2 h2 b2 sv c2 r2 (k2.mono g2.sub ag2) sv2 wf2 p.eo (by have:=p.hd; omega)).lift (p.g1.trans g2) (fun y h4 hc4=>cc_of (af:=Trmm.a119) rfl rfl fun Q hQ => ?_) (fun e i h4 hc4=>cc_of (af:=Trmm.a119) rfl rfl fun Q hQ => ?_)
    ·rw [CC] at hc4
     simp only [Trmm.a119]
     simp [slotOf,p.cx.b1,hb,hn,hn2,e1,e2,i0,i2,l01,l22,hc,hw,hc4,mkV,callee,ecallF,rocall]
     exact hQ
    ·rw [CC] at hc4
     simp only [Trmm.a119]
     simp [slotOf,p.cx.b1,hb,hn,hn2,e1,e2,i0,i2,l01,l22,hc,hw,hc4,mkV,callee,ecallF,rocall,forget,AOper.writes]
     exact hQ
   ·rw [if_neg hz]
    have hz':(n != 0)=true:=by simpa using hz
    have l12:=l1 h2 ag2
    refine (p.ih (t.kid 1) env s2 S2 h2 b1 sv c2 r2 (k1.mono g2.sub ag2) sv2 wf1 p.eo (by have:=p.hd; omega)).lift (p.g1.trans g2) (fun y h4 hc4=>cc_of (af:=Trmm.a119) rfl rfl fun Q hQ => ?_) (fun e i h4 hc4=>cc_of (af:=Trmm.a119) rfl rfl fun Q hQ => ?_)
    ·rw [CC] at hc4
     simp only [Trmm.a119]
     simp [slotOf,p.cx.b1,hb,hn,hn2,e1,e2,i0,i1,l01,l12,hc,hw,hz',hc4,mkV,callee,ecallF,rocall]
     exact hQ
    ·rw [CC] at hc4
     simp only [Trmm.a119]
     simp [slotOf,p.cx.b1,hb,hn,hn2,e1,e2,i0,i1,l01,l12,hc,hw,hz',hc4,mkV,callee,ecallF,rocall,forget,AOper.writes]
     exact hQ
theorem ev5 (p:Pre C d t env s1 S h h1 nb sv) (ho:t.op=5):EvR C 119 (evArgs C nb sv) S h (stepD C.P (evalD C.P C.left d) t env s1):=by
 have hb:=p.cb
 rw [CC] at hb
 obtain ⟨lv,kv,rs,hS,hn,hk,hke,kids⟩:=p.node
 have hl:=p.len ho (by decide) (k:=2) rfl
 obtain ⟨q0,b0,i0,l0,k0⟩:=kids 0 (by omega)
 obtain ⟨q1,b1,i1,l1,k1⟩:=kids 1 (by omega)
 have wf0:=p.wfk (k:=0) (by omega)
 have wf1:=p.wfk (k:=1) (by omega)
 simp only [ho,bnd,show ((5:Int)=4)=False by decide,show ((5:Int)=3)=False by decide,show ((5:Int)=17)=False by decide,show ((5:Int)=18)=False by decide,show ((5:Int)=13)=False by decide,or_self,false_and,if_false] at wf0 wf1
 rw [ho] at hn
 simp only [Int.natCast_zero,Int.natCast_one] at i0 i1
 have r0:=p.ih (t.kid 0) env s1 S h1 b0 sv p.c1 p.r1 k0 p.v1 wf0 p.eo p.hd
 have ok0:=evalD_ok p.c1.ok d (t.kid 0) env s1 wf0 p.eo p.r1.le
 rw [show stepD C.P (evalD C.P C.left d) t env s1=(evalD C.P C.left d (t.kid 0) env s1).bind fun f s=>(evalD C.P C.left d (t.kid 1) env s).bind fun x s=>match f with
   | .fn b p e=>evalD C.P C.left d b ((p,x) :: e) s
   | _ => .err ET t.id by simp [stepD,ho]; rfl]
 have e1:=p.c1.e1
 have l01:=l0 h1 Agr.refl
 have l11:=l1 h1 Agr.refl
 have er:=eqV_ref
 have ei:=eqV_int
 have ec:eqV (cloV C.bb C.eb C.vb C.ab) (cloV C.bb C.eb C.vb C.ab)=true:=by simp [eqV,eqL]
 cases he:evalD C.P C.left d (t.kid 0) env s1 with
 | err e i =>
  rw [he] at r0
  obtain ⟨h2,hc,g2⟩:=r0
  rw [CC] at hc
  refine ⟨h2,cc_of (af:=Trmm.a119) rfl rfl fun Q hQ => ?_,p.g1.trans g2⟩
  simp only [Trmm.a119]
  simp [slotOf,p.cx.b1,hb,hn,e1,i0,i1,l01,l11,hc,hke,ec,er,ei,mkV,callee,ecallF,tailOK,tailAt,tailOps,liveIn,lzT,forget,AOper.writes]
  exact hQ
 | ok v s2 =>
  rw [he] at r0
  obtain ⟨x,S2,h2,hc,g2,st2,r2,hv⟩:=r0
  obtain ⟨vok,hst,hle⟩:=ok0 v s2 he
  rw [CC] at hc
  have ag2:=g2.agr p.c1.st
  have c2:=p.c1.mono g2 st2
  have e2:=c2.e1
  have hn2:=(ag2 nb hS).trans hn
  have l12:=l1 h2 ag2
  have sv2:=p.v1.mono g2.sub ag2
  have r1':=p.ih (t.kid 1) env s2 S2 h2 b1 sv c2 r2 (k1.mono g2.sub ag2) sv2 wf1 p.eo (by have:=p.hd; omega)
  have ok1:=evalD_ok p.c1.ok d (t.kid 1) env s2 wf1 p.eo hle
  simp only [Res.bind_ok]
  cases he1:evalD C.P C.left d (t.kid 1) env s2 with
  | err e i =>
   rw [he1] at r1'
   obtain ⟨h3,hc3,g3⟩:=r1'
   rw [CC] at hc3
   refine ⟨h3,cc_of (af:=Trmm.a119) rfl rfl fun Q hQ => ?_,((p.g1.trans g2).trans g3).back⟩
   simp only [Trmm.a119]
   simp [slotOf,p.cx.b1,hb,hn,hn2,e1,e2,i0,i1,l01,l11,l12,hc,hc3,hke,ec,er,ei,mkV,callee,ecallF,forget,AOper.writes]
   exact hQ
  | ok y s3 =>
   rw [he1] at r1'
   obtain ⟨z,S3,h3,hc3,g3,st3,r3,hz⟩:=r1'
   obtain ⟨yok,hst3,hle3⟩:=ok1 y s3 he1
   rw [CC] at hc3
   have ag3:=g3.agr c2.st
   have c3:=c2.mono g3 st3
   have e3:=c3.e1
   have hn3:=(ag3 nb (g2.sub _ hS)).trans hn2
   have hv3:=hv.mono g3.sub ag3
   have n3:=(p.n1.mono g2.sub ag2).mono g3.sub ag3
   have nd1:=need_q n3 true 15
   have nd0:=need_q n3 false 15
   rw [RO] at nd1 nd0
   have fin:∀ {v:Val} {x:V},RV S3 h3 v x→(lim gl Trmm.aprog).call 119 [.ref b0 0 1,sv,.ref C.bb 0 1,.ref C.eb 0 1,.ref C.vb 0 1,.ref C.ab 0 1] h1=some (.ret x,h2)→(∀ b q e,v ≠ .fn b q e)→CC 119 (evArgs C nb sv) h (.pan (stopV 15 t.id)) h3:=by
    intro v x hv3 hc hnf
    refine cc_of (af:=Trmm.a119) rfl rfl fun Q hQ => ?_
    simp only [Trmm.a119]
    cases hv3 with
    | num n =>
     simp [slotOf,p.cx.b1,hb,hn,hn2,e1,e2,i0,i1,l01,l11,l12,hc,hc3,hke,ec,er,ei,nd0,mkV,callee,ecallF,rocall]
     exact hQ
    | unit =>
     simp [slotOf,p.cx.b1,hb,hn,hn2,e1,e2,i0,i1,l01,l11,l12,hc,hc3,hke,ec,er,ei,nd0,mkV,callee,ecallF,rocall]
     exact hQ
    | many k tt l lv vs h1 h2 h3 =>
     simp [slotOf,p.cx.b1,hb,hn,hn2,e1,e2,i0,i1,l01,l11,l12,hc,hc3,hke,ec,er,ei,nd0,mkV,callee,ecallF,rocall]
     exact hQ
    | fn b q e nb' sv' h1 h2=>exact absurd rfl (hnf b q e)
   simp only [Res.bind_ok]
   cases v with
   | num n=>exact ⟨h3,fin hv3 hc (by intro b q e h; cases h),((p.g1.trans g2).trans g3).back⟩
   | unit=>exact ⟨h3,fin hv3 hc (by intro b q e h; cases h),((p.g1.trans g2).trans g3).back⟩
   | many k tt l=>exact ⟨h3,fin hv3 hc (by intro b q e h; cases h),((p.g1.trans g2).trans g3).back⟩
   | fn B pp env' =>
    obtain ⟨wfB,eoB⟩:Wf C.P.length (pp :: env'.map (·.1)) B∧∀ x∈env',VOk C.P.length x.2:=by
     cases vok; exact ⟨by assumption,by assumption⟩
    obtain ⟨nb',sv',rfl,hB,hE⟩:∃ nb' sv',x = .iface 197 (.agg [.ref nb' 0 1,.int .i64 pp,sv'])∧RN S3 h3 B nb'∧RE S3 h3 env' sv':=by
     cases hv3; exact ⟨_,_,rfl,by assumption,by assumption⟩
    have sc:=scope_q (n:=pp) c3 r3 hE hz
    have ag4:=sc.g.agr c3.st
    have r4:=p.ih B ((pp,y) :: env') s3 _ _ nb' _ sc.c sc.r (hB.mono sc.g.sub ag4) sc.e (by simpa using wfB) (EnvOk.cons eoB yok) (by have:=p.hd; omega)
    have hw:=sc.w
    rw [CC] at hw
    have e4:=sc.c.e1
    have hsc:=hE.cell
    refine r4.lift (((p.g1.trans g2).trans g3).trans sc.g) (fun y h4 hc4=>cc_of (af:=Trmm.a119) rfl rfl fun Q hQ => ?_) (fun e i h4 hc4=>cc_of (af:=Trmm.a119) rfl rfl fun Q hQ => ?_)
    ·rw [CC] at hc4
     simp only [Trmm.a119]
     simp [slotOf,p.cx.b1,hb,hn,hn2,hn3,e1,e2,e3,e4,i0,i1,l01,l11,l12,hc,hc3,hw,hc4,hke,ec,er,ei,nd1,hsc,mkV,callee,ecallF,rocall]
     exact hQ
    ·rw [CC] at hc4
     simp only [Trmm.a119]
     simp [slotOf,p.cx.b1,hb,hn,hn2,hn3,e1,e2,e3,e4,i0,i1,l01,l11,l12,hc,hc3,hw,hc4,hke,ec,er,ei,nd1,hsc,mkV,callee,ecallF,rocall,forget,AOper.writes]
     exact hQ
theorem ev13 (p:Pre C d t env s1 S h h1 nb sv) (ho:t.op=13):EvR C 119 (evArgs C nb sv) S h (stepD C.P (evalD C.P C.left d) t env s1):=by
 have hb:=p.cb
 rw [CC] at hb
 obtain ⟨lv,kv,rs,hS,hn,hk,hke,kids⟩:=p.node
 have hl:=p.len ho (by decide) (k:=3) rfl
 obtain ⟨q0,b0,i0,l0,k0⟩:=kids 0 (by omega)
 obtain ⟨q1,b1,i1,l1,k1⟩:=kids 1 (by omega)
 obtain ⟨q2,b2,i2,l2,k2⟩:=kids 2 (by omega)
 have wf0:=p.wfk (k:=0) (by omega)
 have wf1:=p.wfk (k:=1) (by omega)
 have wf2:=p.wfk (k:=2) (by omega)
 simp [ho,bnd] at wf0 wf1 wf2
 rw [ho] at hn
 simp only [Int.natCast_zero,Int.natCast_one,show ((2:Nat):Int)=2 from rfl] at i0 i1 i2
 have r0:=p.ih (t.kid 0) env s1 S h1 b0 sv p.c1 p.r1 k0 p.v1 wf0 p.eo p.hd
 have ok0:=evalD_ok p.c1.ok d (t.kid 0) env s1 wf0 p.eo p.r1.le
 rw [show stepD C.P (evalD C.P C.left d) t env s1=(evalD C.P C.left d (t.kid 0) env s1).bind fun x s=>match x with
   | .many k tag l=>if k=3 then (if tag=0 then evalD C.P C.left d (t.kid 1) ((t.n,l.getD 0 .unit) :: env) s else evalD C.P C.left d (t.kid 2) ((t.m,l.getD 0 .unit) :: env) s) else .err ET t.id
   | _ => .err ET t.id by simp [stepD,ho]; rfl]
 have e1:=p.c1.e1
 have l01:=l0 h1 Agr.refl
 have er:=eqV_ref
 have ei:=eqV_int
 have ec:eqV (cloV C.bb C.eb C.vb C.ab) (cloV C.bb C.eb C.vb C.ab)=true:=by simp [eqV,eqL]
 cases he:evalD C.P C.left d (t.kid 0) env s1 with
 | err e i =>
  rw [he] at r0
  obtain ⟨h2,hc,g2⟩:=r0
  rw [CC] at hc
  refine ⟨h2,cc_of (af:=Trmm.a119) rfl rfl fun Q hQ => ?_,p.g1.trans g2⟩
  simp only [Trmm.a119]
  simp [slotOf,p.cx.b1,hb,hn,e1,i0,l01,hc,mkV,callee,ecallF,forget,AOper.writes,tailOK,tailAt,tailOps,liveIn,lzT]
  exact hQ
 | ok v s2 =>
  rw [he] at r0
  obtain ⟨x,S2,h2,hc,g2,st2,r2,hv⟩:=r0
  obtain ⟨vok,hst,hle⟩:=ok0 v s2 he
  rw [CC] at hc
  have ag2:=g2.agr p.c1.st
  have c2:=p.c1.mono g2 st2
  have n2:=p.n1.mono g2.sub ag2
  have hm:=many_q n2 3 hv
  have e2:=c2.e1
  have hn2:=(ag2 nb hS).trans hn
  have sv2:=p.v1.mono g2.sub ag2
  simp only [Res.bind_ok]
  have bad:asMany 3 v=none→EvR C 119 (evArgs C nb sv) S h (.err ET t.id):=by
   intro hnone
   rw [hnone] at hm
   simp only [RO] at hm
   refine ⟨h2,cc_of (af:=Trmm.a119) rfl rfl fun Q hQ => ?_,(p.g1.trans g2).back⟩
   simp only [Trmm.a119]
   simp [slotOf,p.cx.b1,hb,hn,e1,i0,l01,hc,hm,mkV,callee,ecallF,rocall,forget,AOper.writes,tailOK,tailAt,tailOps,liveIn,lzT]
   exact hQ
  cases v with
  | num n=>exact bad rfl
  | unit=>exact bad rfl
  | fn b q e=>exact bad rfl
  | many k tag l =>
   show EvR C 119 (evArgs C nb sv) S h (if k=3 then (if tag=0 then evalD C.P C.left d (t.kid 1) ((t.n,l.getD 0 .unit) :: env) s2 else evalD C.P C.left d (t.kid 2) ((t.m,l.getD 0 .unit) :: env) s2) else .err ET t.id)
   by_cases hk3:k=3
   ·rw [if_pos hk3]
    subst hk3
    simp only [asMany,if_true,RO] at hm
    obtain ⟨a,b',c,tt,lv2,vs2,hm,hs,hq,hvv,ia,ib,ic⟩:=hm
    cases hvv
    have hlc:=hs.cell
    have hlen:l.length=1∧(tag=0∨tag=1):=by
     cases vok with
     | many _ _ _ hk _=>rcases hk with h | h | h <;> first | omega | exact ⟨h.2.2,h.2.1⟩
    have hvl:=hq.len
    obtain ⟨q,hq1,hq2⟩:=hs.idx (i:=0) (by omega)
    have hv0:=hq.at_ 0 (by omega) (by omega)
    have hq3:=hq2 hv0.cell h2 Agr.refl
    have e0:l.getD 0 .unit=l[0]'(by omega):=by rw [List.getD_eq_getElem?_getD,List.getElem?_eq_getElem (by omega)]; rfl
    rw [e0]
    have vok0:VOk C.P.length (l[0]'(by omega)):=by
     cases vok with
     | many _ _ _ _ hl=>exact hl _ (List.getElem_mem _)
    simp only [Int.natCast_zero] at hq1
    have htag:=hlen.2
    generalize l[0]'(by omega)=v0 at *
    generalize vs2[0]'(by omega)=x0 at *
    rcases htag with rfl | rfl
    ·rw [if_pos rfl]
     have w1:IntKind.i64.wrap (1:Int)=1:=by decide
     have sc:=scope_q (n:=t.n) c2 r2 sv2 hv0
     have ag3:=ag2.trans (fun b hb=>sc.g.agr c2.st b (g2.sub b hb))
     have r1':=p.ih (t.kid 1) ((t.n,v0) :: env) s2 _ _ b1 _ sc.c sc.r (k1.mono (fun b hb => .inl (g2.sub b hb)) ag3) sc.e (by simpa using wf1) (p.eo.cons vok0) (by have:=p.hd; omega)
     have hw:=sc.w
     rw [CC] at hw
     have e3:=sc.c.e1
     have hn3:=(ag3 nb hS).trans hn
     have l12:=l1 h2 ag2
     have l13:=l1 _ ag3
     refine r1'.lift ((p.g1.trans g2).trans sc.g) (fun y h4 hc4=>cc_of (af:=Trmm.a119) rfl rfl fun Q hQ => ?_) (fun e i h4 hc4=>cc_of (af:=Trmm.a119) rfl rfl fun Q hQ => ?_)
     ·rw [CC] at hc4
      simp only [Trmm.a119]
      simp [slotOf,p.cx.b1,hb,hn,hn2,hn3,e1,e2,e3,i0,i1,w1,l01,l12,l13,hc,hm,ia,ib,ic,hlc,hq1,hq3,hw,hc4,hke,ec,er,ei,mkV,fill,callee,ecallF,rocall]
      exact hQ
     ·rw [CC] at hc4
      simp only [Trmm.a119]
      simp [slotOf,p.cx.b1,hb,hn,hn2,hn3,e1,e2,e3,i0,i1,w1,l01,l12,l13,hc,hm,ia,ib,ic,hlc,hq1,hq3,hw,hc4,hke,ec,er,ei,mkV,fill,callee,ecallF,rocall,forget,AOper.writes]
      exact hQ
    ·rw [if_neg (by decide)]
     have w2:IntKind.i64.wrap (2:Int)=2:=by decide
     have sc:=scope_q (n:=t.m) c2 r2 sv2 hv0
     have ag3:=ag2.trans (fun b hb=>sc.g.agr c2.st b (g2.sub b hb))
     have r1':=p.ih (t.kid 2) ((t.m,v0) :: env) s2 _ _ b2 _ sc.c sc.r (k2.mono (fun b hb => .inl (g2.sub b hb)) ag3) sc.e (by simpa using wf2) (p.eo.cons vok0) (by have:=p.hd; omega)
     have hw:=sc.w
     rw [CC] at hw
     have e3:=sc.c.e1
     have hn3:=(ag3 nb hS).trans hn
     have l22:=l2 h2 ag2
     have l23:=l2 _ ag3
     refine r1'.lift ((p.g1.trans g2).trans sc.g) (fun y h4 hc4=>cc_of (af:=Trmm.a119) rfl rfl fun Q hQ => ?_) (fun e i h4 hc4=>cc_of (af:=Trmm.a119) rfl rfl fun Q hQ => ?_)
     ·rw [CC] at hc4
      simp only [Trmm.a119]
      simp [slotOf,p.cx.b1,hb,hn,hn2,hn3,e1,e2,e3,i0,i2,w2,l01,l22,l23,hc,hm,ia,ib,ic,hlc,hq1,hq3,hw,hc4,hke,ec,er,ei,mkV,fill,callee,ecallF,rocall]
      exact hQ
     ·rw [CC] at hc4
      simp only [Trmm.a119]
      simp [slotOf,p.cx.b1,hb,hn,hn2,hn3,e1,e2,e3,i0,i2,w2,l01,l22,l23,hc,hm,ia,ib,ic,hlc,hq1,hq3,hw,hc4,hke,ec,er,ei,mkV,fill,callee,ecallF,rocall,forget,AOper.writes]
      exact hQ
   ·rw [if_neg hk3]
    exact bad (by simp [asMany,hk3])
end
end Go.Proofs.Mm
set_option linter.unusedVariables false
set_option linter.unusedSimpArgs false
set_option maxHeartbeats 1000000
namespace Go.Proofs.Mm
open Go Go.Am
theorem Ctx.monoA {C:Cn} {S S':Adr} {h h':Heap} (c:Ctx C S h) (hS:∀ b,S b→S' b) (ag:Agr S h h') (st:Stab (ER C.rb C.mb) S' h'):Ctx C S' h':=by
 obtain ⟨roots,r1,r2,r3,r4⟩:=c.rts
 refine ⟨st,hS _ c.e0,(ag _ c.e0).trans c.e1,hS _ c.b0,(ag _ c.b0).trans c.b1,hS _ c.v0,(ag _ c.v0).trans c.v1,hS _ c.a0,(ag _ c.a0).trans c.a1,⟨roots,r1.mono hS ag,r2,r3,fun i hi => ?_⟩,c.fns,c.fvc,c.fve,c.ok⟩
 obtain ⟨b,h1,h2⟩:=r4 i hi
 exact ⟨b,h1,h2.mono hS ag⟩
def OB (v:V):Adr:=fun b=>∃ off len g sz ex,v = .sl b off len g sz ex
theorem OB.nils {b:Nat} (h:OB .nils b):False:=by obtain ⟨_,_,_,_,_,h⟩:=h; cases h
theorem OB.sl {b b' off len g sz:Nat} {ex:Bool} (h:OB (.sl b' off len g sz ex) b):b=b':=by obtain ⟨_,_,_,_,_,h⟩:=h; cases h; rfl
theorem OwnL.ob {base:Nat} {H:Heap} {v:V} {l:List V} (h:OwnL base H v l) {b:Nat} (hb:OB v b):base≤b∧b<H.length:=by
 cases h with
 | nil=>exact hb.nils.elim
 | sl b' l hb' ho=>have:=hb.sl; subst this; exact ⟨hb',objCells_lt ho⟩
theorem OwnL.same {base:Nat} {H H':Heap} {v:V} {l:List V} (h:OwnL base H v l) (hs:∀ b,OB v b→objCells H' b=objCells H b):OwnL base H' v l:=by
 cases h with
 | nil=>exact .nil
 | sl b l hb ho=>exact .sl b l hb ((hs b ⟨_,_,_,_,_,rfl⟩).trans ho)
theorem OwnL.app2 {base:Nat} {H:Heap} {v y x:V} {l:List V} (h:OwnL base H v l) (hb:base≤H.length) {bytes:Nat} (hy:sliceLen y=some 1) (hy2:sliceCells H y=some [x]) (hr:(l.length+1) * bytes≤room) :
  ∃ v' H',appV H v y 1 bytes=some (v',H')∧OwnL base H' v' (l++[x])∧H.length≤H'.length∧(∀ b,b<H.length→¬ OB v b→H'[b]?=H[b]?)∧(∀ b,OB v' b→OB v b∨H.length≤b):=by
 cases h with
 | nil =>
  simp only [List.length_nil,Nat.zero_add] at hr
  refine ⟨.sl H.length 0 1 1 1 false,H++[.cells 1 1 [x]],?_,OwnL.sl H.length [x] hb (obj_last H 1 1 [x]),by simp,fun a ha _=>List.getElem?_append_left ha,fun b hb => .inr (by rw [hb.sl]; exact Nat.le_refl _)⟩
  simp [appV,hy,hy2]
  simpa using hr
 | sl b l hb' ho =>
  have hlt:=objCells_lt ho
  refine ⟨_,_,appV_own (objCells_at ho) hy hy2 (by simp) hr,?_,by simp,fun a ha hn => ?_,fun a ha => .inl (by rw [ha.sl]; exact ⟨_,_,_,_,_,rfl⟩)⟩
  ·have:=OwnL.sl (base:=base) (H:=H.set b (.cells (l.length+1) 1 (l++[x]))) b (l++[x]) hb' (by simpa using objCells_set hlt (l.length+1) 1 (l++[x]))
   simpa using this
  ·have:b≠a:=by rintro rfl; exact hn ⟨_,_,_,_,_,rfl⟩
   rw [List.getElem?_set_ne this]
abbrev efi (nv ev ov:Nat):List V:=[.ref nv 0 1,.ref ev 0 1,.ref ov 0 1]
section
variable {C:Cn} {d:Nat} {t:NT} {env:Env}
structure EIn (C:Cn) (t:NT) (nb nv ev ov lb base:Nat) (S:Adr) (H:Heap) (s:St) (v:V) (outs:List Val) (ovs:List V):Prop where
 cx:Ctx C S H
 rn:Ctx.Run C H s
 nd:RN S H t nb
 n0:S nv
 n1:objCells H nv=some (1,1,[.ref nb 0 1])
 e0:S ev
 e1:objCells H ev=some (1,1,[cloV C.bb C.eb C.vb C.ab])
 o0:¬ S ov
 o1:objCells H ov=some (1,1,[v])
 l0:¬ S lb
 l1:∃ pd,pd=none∧H[lb]?=some (.loop 11230 (efi nv ev ov) .ready pd)
 ow:OwnL base H v ovs
 ob:∀ b,OB v b→¬ S b
 rv:RVs S H outs ovs
 lt:ov<base∧lb<base∧C.rb<base∧C.mb<base
 bl:base≤H.length
 ne:ov≠C.rb∧ov≠C.mb∧lb≠C.rb∧lb≠C.mb
 ol:outs.length≤4096
abbrev EE (C:Cn) (ov lb:Nat) (v:V):Adr:=fun b=>ER C.rb C.mb b∨b=ov∨b=lb∨OB v b
theorem EIn.agr {nb nv ev ov lb base:Nat} {S S':Adr} {H H':Heap} {s:St} {v:V} {outs:List Val} {ovs:List V} (e:EIn C t nb nv ev ov lb base S H s v outs ovs) (g:Grow (EE C ov lb v) S H S' H'):Agr S H H':=fun b hb =>
 g.cells (e.cx.st.lt b hb) (by
  rintro (h | rfl | rfl | h)
  ·exact e.cx.st.ne b hb h
  ·exact e.o0 hb
  ·exact e.l0 hb
  ·exact e.ob b h hb)
theorem round_each {nb nv ev ov lb base:Nat} {S:Adr} {H:Heap} {s:St} {v:V} {outs:List Val} {ovs:List V} (e:EIn C t nb nv ev ov lb base S H s v outs ovs) (ho:t.op=17∨t.op=18) (hw:Wf C.P.length (t.n :: env.map (·.1)) (t.kid 1)) (he:EnvOk C.P.length env) (ih:EvP C d) (hd:C.left<s.steps+d)
  {xv:Val} {x:V} (hx:RV S H xv x) (hxo:VOk C.P.length xv) {sc:V} (hsc:RE S H ((t.n,xv) :: env) sc) (hl2:t.l.length=2) (hroom:outs.length<4096) :
  match evalD C.P C.left d (t.kid 1) ((t.n,xv) :: env) s with
  | .err er i=>∃ H',(lim gl Trmm.aprog).round 11230 lb (efi nv ev ov++[x,sc]) H=some (.pan (stopV er i),H')∧Grow (EE C ov lb v) S H S H'
  | .ok r s'=>match (if t.op=17 then some [r] else (asNum r).map fun n=>if n=0 then [] else [xv]) with
   | none=>∃ H',(lim gl Trmm.aprog).round 11230 lb (efi nv ev ov++[x,sc]) H=some (.pan (stopV ET t.id),H')∧Grow (EE C ov lb v) S H S H'
   | some more=>∃ S' H' v' ovs',(lim gl Trmm.aprog).round 11230 lb (efi nv ev ov++[x,sc]) H=some (.norm,H')∧Grow (EE C ov lb v) S H S' H'∧EIn C t nb nv ev ov lb base S' H' s' v' (outs++more) ovs'∧(∀ b,OB v' b→OB v b∨H.length≤b):=by
 obtain ⟨pd,hpd,hlp⟩:=e.l1
 have hlb:lb<H.length:=(List.getElem?_eq_some_iff.1 hlp).1
 generalize hB:H.set lb (.loop 11230 (efi nv ev ov) .busy pd)=B
 have hc:∀ b,objCells B b=objCells H b:=fun b=>by rw [← hB]; exact objCells_setloop hlp _ _ _ _ b
 have hBl:B[lb]?=some (.loop 11230 (efi nv ev ov) .busy pd):=by rw [← hB]; simp [hlb]
 have hBn:B.length=H.length:=by rw [← hB]; simp
 have hBs:∀ b,b≠lb→B[b]?=H[b]?:=fun b hb=>by rw [← hB,List.getElem?_set_ne (Ne.symm hb)]
 have agB:Agr S H B:=fun b _=>hc b
 have cB:Ctx C S B:=e.cx.monoA (fun _ h=>h) agB ⟨fun b hb=>by have:=e.cx.st.lt b hb; omega,e.cx.st.ne⟩
 have rB:Ctx.Run C B s:=e.rn.same (hBs _ (Ne.symm e.ne.2.2.1)) (hBs _ (Ne.symm e.ne.2.2.2))
 have ndB:=e.nd.mono (fun _ h=>h) agB
 have hlo:lb≠ov:=by
  rintro rfl
  have:=objCells_loop hlp
  rw [e.o1] at this; cases this
 -- the node
 obtain ⟨lv,kv,rs,hS,hn,hk,hl,hr⟩:=ndB.node
 obtain ⟨b1,hb1,hk1⟩:=hr 1 (by omega)
 obtain ⟨q1,i1,l1⟩:=hk.idx (i:=1) (by omega)
 rw [List.getElem?_eq_getElem (by omega)] at hb1
 rw [Option.some.inj hb1] at l1
 have l11:=l1 rfl B Agr.refl
 simp only [Int.natCast_one] at i1
 have nB1:objCells B nv=some (1,1,[.ref nb 0 1]):=(hc nv).trans e.n1
 have eB1:objCells B ev=some (1,1,[cloV C.bb C.eb C.vb C.ab]):=(hc ev).trans e.e1
 have r0:=ih (t.kid 1) ((t.n,xv) :: env) s S B b1 sc cB rB hk1 (hsc.mono (fun _ h=>h) agB) (by simpa using hw) (he.cons hxo) hd
 have gHB:Grow (EE C ov lb v) S H S B:=by rw [← hB]; exact Grow.refl.set (.inr (.inr (.inr (.inl rfl)))) _
 have start:∀ (Q:Out→Heap→Prop),WX (lim gl Trmm.aprog) gl Trmm.a11230.body ⟨[.ref nv 0 1,.ref ev 0 1,.ref ov 0 1,x,sc,.undef,x,sc],[],none,none,B⟩ (roundE lb Q)→OptP ((lim gl Trmm.aprog).round 11230 lb (efi nv ev ov++[x,sc]) H) Q:=by
  intro Q hQ
  refine round_of (af:=Trmm.a11230) (c1:=⟨[.ref nv 0 1,.ref ev 0 1,.ref ov 0 1,x,sc,.undef,x,sc],[],none,none,H⟩) (fi:=efi nv ev ov) (pd:=pd) rfl rfl rfl ?_ hlp ?_
  ·simp [Trmm.a11230,exec,regA,runOps,wanted,stepOp,setSlot,pushD,find2,putSlot,outA,Go.Am.ev]
  ·rw [hB]; exact hQ
 cases hev:evalD C.P C.left d (t.kid 1) ((t.n,xv) :: env) s with
 | err er i =>
  rw [hev] at r0
  obtain ⟨h2,hcall,g2⟩:=r0
  rw [CC] at hcall
  have key:=start (fun o H'=>o = .pan (stopV er i)∧H'=h2) (by
   simp only [Trmm.a11230]
   simp [slotOf,nB1,eB1,hn,i1,l11,hcall,mkV,callee,ecallF,forget,AOper.writes,roundE])
  obtain ⟨o,H',e',rfl,rfl⟩:=OptP.ex key
  exact ⟨_,e',gHB.trans (g2.weak fun b h => .inl h)⟩
 | ok r s' =>
  rw [hev] at r0
  obtain ⟨y,S2,h2,hcall,g2,st2,r2,hy⟩:=r0
  rw [CC] at hcall
  have g2':Grow (EE C ov lb v) S B S2 h2:=g2.weak fun b h => .inl h
  have gH2:=gHB.trans g2'
  have ag2:=g2.agr cB.st
  have c2:=cB.mono g2 st2
  have hovB:ov<B.length:=by have:=e.lt; have:=e.bl; omega
  have nER:∀ b,b=ov∨b=lb→¬ ER C.rb C.mb b:=by
   rintro b (rfl | rfl) (h | h)
   ·exact e.ne.1 h
   ·exact e.ne.2.1 h
   ·exact e.ne.2.2.1 h
   ·exact e.ne.2.2.2 h
  have ov2:objCells h2 ov=some (1,1,[v]):=by rw [g2.cells hovB (nER _ (.inl rfl)),hc]; exact e.o1
  have nv2:objCells h2 nv=some (1,1,[.ref nb 0 1]):=(ag2 nv e.n0).trans nB1
  have ev2:objCells h2 ev=some (1,1,[cloV C.bb C.eb C.vb C.ab]):=(ag2 ev e.e0).trans eB1
  have nd2:=ndB.mono g2.sub ag2
  have hn2:=(ag2 nb hS).trans hn
  have hl2:h2[lb]?=some (.loop 11230 (efi nv ev ov) .busy pd):=by rw [g2.same lb (by omega) (nER _ (.inr rfl))]; exact hBl
  have ow2:OwnL base h2 v ovs:=(e.ow.same fun b hb=>hc b).same fun b hb=>by
   have hob:=e.ow.ob hb
   refine g2.cells (by omega) ?_
   rintro (h | h)
   ·have:=e.lt; omega
   ·have:=e.lt; omega
  have ob2:∀ b,OB v b→¬ S2 b:=fun b hb hS2=>by
   rcases g2.new b hS2 with h | h
   ·exact e.ob b hb h
   ·have:=e.ow.ob hb; omega
  have o02:¬ S2 ov:=g2.notS (by omega) e.o0
  have l02:¬ S2 lb:=g2.notS (by omega) e.l0
  have agH2:Agr S H h2:=agB.trans ag2
  have rv2:=e.rv.mono g2.sub agH2
  -- something is put behind
  have put:∀ {xv2:Val} {x2:V},RV S2 h2 xv2 x2→∃ v' H1,appV h2 v (.vs [x2] 1 1) 1 16=some (v',H1)∧objCells H1 ov=some (1,1,[v])∧H1[lb]?=some (.loop 11230 (efi nv ev ov) .busy pd)∧isCell v'=true∧objCells H1 nv=some (1,1,[.ref nb 0 1]) ∧
    Grow (EE C ov lb v) S H S2 ((H1.set ov (.cells 1 1 [v'])).set lb (.loop 11230 (efi nv ev ov) .ready none)) ∧
    EIn C t nb nv ev ov lb base S2 ((H1.set ov (.cells 1 1 [v'])).set lb (.loop 11230 (efi nv ev ov) .ready none)) s' v' (outs++[xv2]) (ovs++[x2])∧(∀ b,OB v' b→OB v b∨H.length≤b):=by
   intro xv2 x2 hx2
   have hol:=e.rv.len
   obtain ⟨v',H1,ha,how,hlen,hsame,hob'⟩:=ow2.app2 (y:=.vs [x2] 1 1) (x:=x2) (bytes:=16) (by have:=g2.len; have:=e.bl; omega) rfl rfl (by simp only [room]; omega)
   have hnb:∀ b,b<base→¬ OB v b:=fun b hb h=>by have:=e.ow.ob h; omega
   have hlt:=e.lt
   have hbl:=e.bl
   have hg2l:=g2.len
   have cS:∀ b,S2 b→H1[b]?=h2[b]?:=fun b hb=>hsame b (st2.lt b hb) (fun h=>ob2 b h hb)
   have ov1:objCells H1 ov=some (1,1,[v]):=(objCells_same (hsame ov (by omega) (hnb _ hlt.1))).trans ov2
   have lb1:H1[lb]?=some (.loop 11230 (efi nv ev ov) .busy pd):=(hsame lb (by omega) (hnb _ hlt.2.1)).trans hl2
   have hlb1:lb<(H1.set ov (.cells 1 1 [v'])).length:=by simp; omega
   let HF:=(H1.set ov (Am.Obj.cells 1 1 [v'])).set lb (.loop 11230 (efi nv ev ov) .ready none)
   have fS:∀ b,b≠ov→b≠lb→HF[b]?=H1[b]?:=fun b h1 h2=>by
    simp only [HF]
    rw [List.getElem?_set_ne (Ne.symm h2),List.getElem?_set_ne (Ne.symm h1)]
   have agF:Agr S2 h2 HF:=fun b hb=>objCells_same ((fS b (fun h=>o02 (h ▸ hb)) (fun h=>l02 (h ▸ hb))).trans (cS b hb))
   have stF:Stab (ER C.rb C.mb) S2 HF:=⟨fun b hb=>by have:=st2.lt b hb; simp only [HF,List.length_set]; omega,st2.ne⟩
   refine ⟨v',H1,ha,ov1,lb1,how.cell,(objCells_same (cS nv (g2.sub _ e.n0))).trans nv2,?_,?_,fun b hb => ?_⟩
   ·refine ⟨gH2.sub,gH2.new,by have:=gH2.len; simp only [List.length_set]; omega,fun b hb hE => ?_⟩
    have h1:b≠ov:=fun h=>hE (.inr (.inl h))
    have h3:b≠lb:=fun h=>hE (.inr (.inr (.inl h)))
    have h4:¬ OB v b:=fun h=>hE (.inr (.inr (.inr h)))
    rw [show ((H1.set ov (Am.Obj.cells 1 1 [v'])).set lb (.loop 11230 (efi nv ev ov) .ready none))[b]?=H1[b]? from fS b h1 h3,hsame b (by have:=gH2.len; omega) h4]
    exact gH2.same b hb hE
   ·have hrb:=hnb _ hlt.2.2.1
    have hmb:=hnb _ hlt.2.2.2
    have rl:=r2.lt
    refine ⟨c2.monoA (fun _ h=>h) agF stF,r2.same ((fS _ (Ne.symm e.ne.1) (Ne.symm e.ne.2.2.1)).trans (hsame _ rl.1 hrb)) ((fS _ (Ne.symm e.ne.2.1) (Ne.symm e.ne.2.2.2)).trans (hsame _ rl.2 hmb)),nd2.mono (fun _ h=>h) agF,g2.sub _ e.n0,(agF _ (g2.sub _ e.n0)).trans nv2,g2.sub _ e.e0,(agF _ (g2.sub _ e.e0)).trans ev2,o02,?_,l02,
     ⟨none,rfl,by rw [List.getElem?_set_self hlb1]⟩,?_,fun b hb => ?_,(rv2.snoc hx2).mono (fun _ h=>h) agF,e.lt,by simp only [List.length_set]; omega,e.ne,by simp; omega⟩
    ·rw [objCells_ne hlo]
     exact objCells_set (objCells_lt ov1) _ _ _
    ·exact (how.set hlt.1 _).set hlt.2.1 _
    ·rcases hob' b hb with h | h
     ·exact ob2 b h
     ·intro hS2; have:=st2.lt b hS2; omega
   ·rcases hob' b hb with h | h
    ·exact .inl h
    ·exact .inr (by omega)
  have nothing:Grow (EE C ov lb v) S H S2 (h2.set lb (.loop 11230 (efi nv ev ov) .ready none))∧EIn C t nb nv ev ov lb base S2 (h2.set lb (.loop 11230 (efi nv ev ov) .ready none)) s' v (outs++[]) ovs:=by
   have hlt:=e.lt
   have hbl:=e.bl
   have hg2l:=g2.len
   have fS:∀ b,b≠lb→(h2.set lb (Am.Obj.loop 11230 (efi nv ev ov) .ready none))[b]?=h2[b]?:=fun b h2=>List.getElem?_set_ne (Ne.symm h2)
   have agF:Agr S2 h2 (h2.set lb (.loop 11230 (efi nv ev ov) .ready none)):=Agr.set l02 _
   have stF:Stab (ER C.rb C.mb) S2 (h2.set lb (.loop 11230 (efi nv ev ov) .ready none)):=st2.len (by simp)
   refine ⟨gH2.set (.inr (.inr (.inr (.inl rfl)))) _,?_⟩
   rw [List.append_nil]
   exact ⟨c2.monoA (fun _ h=>h) agF stF,r2.same (fS _ (Ne.symm e.ne.2.2.1)) (fS _ (Ne.symm e.ne.2.2.2)),nd2.mono (fun _ h=>h) agF,g2.sub _ e.n0,(agF _ (g2.sub _ e.n0)).trans nv2,g2.sub _ e.e0,(agF _ (g2.sub _ e.e0)).trans ev2,o02,by rw [objCells_ne hlo]; exact ov2,l02,
     ⟨none,rfl,by rw [List.getElem?_set_self (by omega)]⟩,ow2.set hlt.2.1 _,ob2,rv2.mono (fun _ h=>h) agF,e.lt,by simp only [List.length_set]; omega,e.ne,e.ol⟩
  simp only
  by_cases h17:t.op=17
  ·rw [if_pos h17]
   obtain ⟨v',H1,ha,ho1,hlb1,hvc,hnv1,hG,hE,hO⟩:=put hy
   have hv1:=cellsV_cell hvc
   rw [h17] at hn2
   have hl3:(H1.set ov (Am.Obj.cells 1 1 [v']))[lb]?=some (.loop 11230 (efi nv ev ov) .busy pd):=by rw [List.getElem?_set_ne (Ne.symm hlo)]; exact hlb1
   have hyc:=hy.cell
   have hyc1:=cellsV_cell hyc
   have key:=start (fun o H'=>o = .norm∧H'=(H1.set ov (.cells 1 1 [v'])).set lb (.loop 11230 (efi nv ev ov) .ready none)) (by
    simp only [Trmm.a11230]
    simp [slotOf,nB1,eB1,hn,hn2,nv2,ov2,i1,l11,hcall,ha,ho1,hvc,hv1,hyc,hyc1,storeV,fill,mkV,callee,ecallF,roundE,hl3])
   obtain ⟨o,H',e',rfl,rfl⟩:=OptP.ex key
   exact ⟨S2,_,v',_,e',hG,hE,hO⟩
  ·rw [if_neg h17]
   have h18:t.op=18:=ho.resolve_left h17
   rw [h18] at hn2
   have hw2:=word_q nd2 hy
   rw [RO] at hw2
   cases hnum:asNum r with
   | none =>
    rw [hnum] at hw2
    simp only [Option.map_none]
    have key:=start (fun o H'=>o = .pan (stopV 15 t.id)∧H'=h2) (by
     simp only [Trmm.a11230]
     simp [slotOf,nB1,eB1,hn,hn2,nv2,i1,l11,hcall,hw2,mkV,callee,ecallF,rocall,roundE])
    obtain ⟨o,H',e',rfl,rfl⟩:=OptP.ex key
    exact ⟨_,e',gH2.back⟩
   | some n =>
    rw [hnum] at hw2
    simp only [Option.map_some]
    by_cases hz:n=0
    ·subst hz
     simp only [if_true]
     have key:=start (fun o H'=>o = .norm∧H'=h2.set lb (.loop 11230 (efi nv ev ov) .ready none)) (by
      simp only [Trmm.a11230]
      simp [slotOf,nB1,eB1,hn,hn2,nv2,i1,l11,hcall,hw2,mkV,callee,ecallF,rocall,roundE,hl2])
     obtain ⟨o,H',e',rfl,rfl⟩:=OptP.ex key
     exact ⟨S2,_,v,_,e',nothing.1,nothing.2,fun b h => .inl h⟩
    ·rw [if_neg hz]
     have hz':(n != 0)=true:=by simpa using hz
     have hx2:=hx.mono g2.sub agH2
     obtain ⟨v',H1,ha,ho1,hlb1,hvc,hnv1,hG,hE,hO⟩:=put hx2
     have hv1:=cellsV_cell hvc
     have hl3:(H1.set ov (Am.Obj.cells 1 1 [v']))[lb]?=some (.loop 11230 (efi nv ev ov) .busy pd):=by rw [List.getElem?_set_ne (Ne.symm hlo)]; exact hlb1
     have hxc:=hx.cell
     have hxc1:=cellsV_cell hxc
     have key:=start (fun o H'=>o = .norm∧H'=(H1.set ov (.cells 1 1 [v'])).set lb (.loop 11230 (efi nv ev ov) .ready none)) (by
      simp only [Trmm.a11230]
      simp [slotOf,nB1,eB1,hn,hn2,nv2,ov2,i1,l11,hcall,hw2,hz',ha,ho1,hvc,hv1,hxc,hxc1,storeV,fill,mkV,callee,ecallF,rocall,roundE,hl3])
     obtain ⟨o,H',e',rfl,rfl⟩:=OptP.ex key
     exact ⟨S2,_,v',_,e',hG,hE,hO⟩
end
end Go.Proofs.Mm
set_option linter.unusedVariables false
set_option linter.unusedSimpArgs false
set_option maxHeartbeats 1000000
namespace Go.Proofs.Mm
open Go Go.Am
section
variable {C:Cn} {d:Nat} {t:NT} {env:Env}
theorem EIn.app {nb nv ev ov lb base:Nat} {S:Adr} {H:Heap} {s:St} {v:V} {outs:List Val} {ovs:List V} (e:EIn C t nb nv ev ov lb base S H s v outs ovs) (o:Am.Obj):EIn C t nb nv ev ov lb base (fun b=>S b∨b=H.length) (H++[o]) s v outs ovs:=by
 have hlt:=e.lt
 have hbl:=e.bl
 obtain ⟨pd,hpd,hlp⟩:=e.l1
 have rl:=e.rn.lt
 have old:∀ b,b<H.length→(H++[o])[b]?=H[b]?:=fun b hb=>List.getElem?_append_left hb
 have ag:Agr S H (H++[o]):=Agr.app e.cx.st.lt _
 have st:Stab (ER C.rb C.mb) (fun b=>S b∨b=H.length) (H++[o]):=(e.cx.st.len (by simp)).push (by simp) (by rintro (h | h) <;> omega)
 refine ⟨e.cx.monoA (fun _ h => .inl h) ag st,e.rn.same (old _ rl.1) (old _ rl.2),e.nd.mono (fun _ h => .inl h) ag,.inl e.n0,(ag _ e.n0).trans e.n1,.inl e.e0,(ag _ e.e0).trans e.e1,?_,(objCells_same (old ov (by omega))).trans e.o1,?_,⟨pd,hpd,(old lb (by omega)).trans hlp⟩,
  e.ow.same fun b hb=>objCells_same (old b (e.ow.ob hb).2),fun b hb => ?_,e.rv.mono (fun _ h => .inl h) ag,e.lt,by simp; omega,e.ne,e.ol⟩
 ·rintro (h | h)
  ·exact e.o0 h
  ·omega
 ·rintro (h | h)
  ·exact e.l0 h
  ·omega
 ·rintro (h | h)
  ·exact e.ob b hb h
  ·have:=(e.ow.ob hb).2; omega
abbrev E0 (C:Cn) (ov lb:Nat):Adr:=fun b=>ER C.rb C.mb b∨b=ov∨b=lb
theorem grow_ee {ov lb:Nat} {v:V} {S0 S1 S2:Adr} {H0 H1 H2:Heap} (g:Grow (E0 C ov lb) S0 H0 S1 H1) (g2:Grow (EE C ov lb v) S1 H1 S2 H2) (hv:∀ b,OB v b→H0.length≤b):Grow (E0 C ov lb) S0 H0 S2 H2 :=
 ⟨fun b hb=>g2.sub b (g.sub b hb),fun b hb=>by
  rcases g2.new b hb with h | h
  ·exact g.new b h
  ·exact .inr (Nat.le_trans g.len h),Nat.le_trans g.len g2.len,fun b hb hE=>by
  rw [g2.same b (Nat.lt_of_lt_of_le hb g.len) ?_,g.same b hb hE]
  rintro (h | h | h | h)
  ·exact hE (.inl h)
  ·exact hE (.inr (.inl h))
  ·exact hE (.inr (.inr h))
  ·have:=hv b h; omega⟩
theorem elems_q {nb nv ev ov lb:Nat} {S0:Adr} {H0:Heap} {s0:St} (e:EIn C t nb nv ev ov lb H0.length S0 H0 s0 .nils [] []) (ho:t.op=17∨t.op=18) (hw:Wf C.P.length (t.n :: env.map (·.1)) (t.kid 1)) (he:EnvOk C.P.length env) (ih:EvP C d) (hd:C.left<s0.steps+d) (hl2:t.l.length=2)
  {l:List Val} {lv:V} {vs:List V} (hs:RSl S0 H0 lv vs) (hq:RVs S0 H0 l vs) (hl:l.length≤4096) (hlo:∀ x∈l,VOk C.P.length x) {sv:V} (hsv:RE S0 H0 env sv) {al as an:Nat} (a1:S0 al) (a2:objCells H0 al=some (1,1,[lv])) (b1:S0 as) (b2:objCells H0 as=some (1,1,[sv])) (c1:S0 an) (c2:objCells H0 an=some (1,1,[.ref nb 0 1])) :
  match eachD (evalD C.P C.left d (t.kid 1)) t env l s0 with
  | .ok out s'=>∃ H S' v ovs,CC 161 [.yf lb,.ref al 0 1,.ref as 0 1,.ref an 0 1] H0 (.ret (.tup [])) H∧EIn C t nb nv ev ov lb H0.length S' H s' v out ovs∧Grow (E0 C ov lb) S0 H0 S' H
  | .err er i=>∃ H,CC 161 [.yf lb,.ref al 0 1,.ref as 0 1,.ref an 0 1] H0 (.pan (stopV er i)) H∧Grow (E0 C ov lb) S0 H0 S0 H:=by
 have hlv:=hs.lenS
 rw [hq.len] at hlv
 have key:CallP gl Trmm.aprog 161 [.yf lb,.ref al 0 1,.ref as 0 1,.ref an 0 1] H0 (fun r H=>match eachD (evalD C.P C.left d (t.kid 1)) t env l s0 with
  | .ok out s'=>r = .ret (.tup [])∧∃ S' v ovs,EIn C t nb nv ev ov lb H0.length S' H s' v out ovs∧Grow (E0 C ov lb) S0 H0 S' H
  | .err er i=>r = .pan (stopV er i)∧Grow (E0 C ov lb) S0 H0 S0 H):=by
  refine call_ofQ (af:=Trmm.a161) rfl rfl fun Q hQ => ?_
  simp only [Trmm.a161]
  simp [slotOf,a2,hlv,mkV]
  refine loop_nQ l.length (fun i c=>∃ S' H s' v outs ovs s4 fl,EIn C t nb nv ev ov lb H0.length S' H s' v outs ovs∧Grow (E0 C ov lb) S0 H0 S' H ∧
   eachD (evalD C.P C.left d (t.kid 1)) t env l s0=(eachD (evalD C.P C.left d (t.kid 1)) t env (l.drop i) s').bind (fun vs s => .ok (outs++vs) s)∧outs.length≤i∧C.left<s'.steps+d ∧
   c=⟨[.yf lb,.ref al 0 1,.ref as 0 1,.ref an 0 1,s4,lv,.int .i64 l.length,.int .i64 i],[],fl,none,H⟩) ?_
   ⟨S0,H0,s0,.nils,[],[],.undef,none,e,.refl,?_,by simp,hd,by simp⟩
  rotate_left 1
  ·rw [List.drop_zero]
   cases eachD (evalD C.P C.left d (t.kid 1)) t env l s0 <;> simp
  rintro I hI i c hil ⟨S',H,s',v,outs,ovs,s4,fl,ei,g,heq,hol,hd',rfl⟩
  have agS:Agr S0 H0 H:=g.agr ⟨e.cx.st.lt,fun b hb=>by
   rintro (h | rfl | rfl)
   ·exact e.cx.st.ne b hb h
   ·exact e.o0 hb
   ·exact e.l0 hb⟩
  by_cases hlt:i<l.length
  ·have hlt':(i:Int)<l.length:=by omega
   obtain ⟨q,q1,q2⟩:=hs.idx (i:=i) (by rw [hq.len]; exact hlt)
   have hv':=hq.at_ i hlt (by rw [hq.len]; exact hlt)
   have q3:=q2 hv'.cell H agS
   have hxo:=hlo _ (List.getElem_mem hlt)
   rw [List.drop_eq_getElem_cons hlt] at heq
   have as2:=(agS as b1).trans b2
   have an2:=(agS an c1).trans c2
   have hv2:=hv'.mono g.sub agS
   have sv2:=hsv.mono g.sub agS
   generalize vs[i]'(by rw [hq.len]; exact hlt)=x at *
   generalize l[i]=xv at *
   obtain ⟨lvn,kvn,rsn,hSn,hnn,_⟩:=ei.nd.node
   have sc:=scope_q (n:=t.n) ei.cx ei.rn sv2 hv2
   have hwq:=sc.w
   rw [CC] at hwq
   have e3:=ei.app (.cells 1 3 [.int .i64 t.n,x,sv])
   have r3:=round_each e3 ho hw he ih hd' (hv2.mono sc.g.sub (sc.g.agr ei.cx.st)) hxo sc.e hl2 (by omega)
   have g3:Grow (EE C ov lb v) S' H (fun b=>S' b∨b=H.length) (H++[.cells 1 3 [.int .i64 t.n,x,sv]]):=(Grow.app _).push (Nat.le_refl _)
   have hvo:∀ b,OB v b→H0.length≤b:=fun b hb=>(ei.ow.ob hb).1
   have g4:=grow_ee g g3 hvo
   obtain ⟨pd,hpd,hlp⟩:=e3.l1
   have w5:IntKind.i64.wrap ((i:Int)+1)=(i:Int)+1:=wrap64 (by omega) (by omega)
   have okr:=evalD_ok e.cx.ok d (t.kid 1) ((t.n,xv) :: env) s' (by simpa using hw) (he.cons hxo) ei.rn.le
   cases hev:evalD C.P C.left d (t.kid 1) ((t.n,xv) :: env) s' with
   | err er j =>
    rw [hev] at r3
    obtain ⟨H5,hr5,g5⟩:=r3
    have hy:=ycall_pan (args:=[x,.ref H.length 0 1]) hlp hr5
    simp only [eachD,hev,Res.bind_err] at heq
    rw [heq] at hQ
    simp [slotOf,hlt',q1,q3,as2,an2,hnn,hwq,hy,mkV,callee,ecallF,forget,AOper.writes]
    exact hQ _ _ ⟨rfl,(grow_ee g4 g5 hvo).back⟩
   | ok r s2 =>
    rw [hev] at r3
    have okr':=okr r s2 hev
    simp only at r3
    by_cases h17:t.op=17
    ·rw [if_pos h17] at r3
     obtain ⟨S5,H5,v5,ovs5,hr5,g5,e5,_⟩:=r3
     have hy:=ycall_norm (args:=[x,.ref H.length 0 1]) hlp hr5
     simp [slotOf,hlt',q1,q3,as2,an2,hnn,hwq,hy,w5,mkV,callee,ecallF]
     refine ⟨hlt,hI _ _ ⟨S5,H5,s2,v5,_,ovs5,x,none,e5,grow_ee g4 g5 hvo,?_,by simp; omega,by omega,by simp⟩⟩
     rw [heq]
     simp only [eachD,hev,Res.bind_ok,h17,if_true]
     cases eachD (evalD C.P C.left d (t.kid 1)) t env (l.drop (i+1)) s2 <;> simp
    ·rw [if_neg h17] at r3
     cases hnum:asNum r with
     | none =>
      rw [hnum] at r3
      simp only [Option.map_none] at r3
      obtain ⟨H5,hr5,g5⟩:=r3
      have hy:=ycall_pan (args:=[x,.ref H.length 0 1]) hlp hr5
      simp only [eachD,hev,Res.bind_ok,h17,if_false,hnum,Res.bind_err] at heq
      rw [heq] at hQ
      simp [slotOf,hlt',q1,q3,as2,an2,hnn,hwq,hy,mkV,callee,ecallF,forget,AOper.writes]
      exact hQ _ _ ⟨rfl,(grow_ee g4 g5 hvo).back⟩
     | some n =>
      rw [hnum] at r3
      simp only [Option.map_some] at r3
      obtain ⟨S5,H5,v5,ovs5,hr5,g5,e5,_⟩:=r3
      have hy:=ycall_norm (args:=[x,.ref H.length 0 1]) hlp hr5
      simp [slotOf,hlt',q1,q3,as2,an2,hnn,hwq,hy,w5,mkV,callee,ecallF]
      refine ⟨hlt,hI _ _ ⟨S5,H5,s2,v5,_,ovs5,x,none,e5,grow_ee g4 g5 hvo,?_,by split <;> simp <;> omega,by omega,by simp⟩⟩
      rw [heq]
      simp only [eachD,hev,Res.bind_ok,h17,if_false,hnum]
      cases eachD (evalD C.P C.left d (t.kid 1)) t env (l.drop (i+1)) s2 with
      | err _ _=>simp
      | ok vs s3=>by_cases hz:n=0 <;> simp [hz]
  ·obtain rfl:i=l.length:=by omega
   rw [List.drop_length] at heq
   simp only [eachD,Res.bind_ok,List.append_nil] at heq
   rw [heq] at hQ
   simp [slotOf]
   exact hQ _ _ ⟨rfl,S',v,ovs,ei,g⟩
 cases hE:eachD (evalD C.P C.left d (t.kid 1)) t env l s0 with
 | ok out s' =>
  rw [hE] at key
  obtain ⟨r,H,e',rfl,S',v,ovs,h1,h2⟩:=OptP.ex key
  exact ⟨H,S',v,ovs,e',h1,h2⟩
 | err er i =>
  rw [hE] at key
  obtain ⟨r,H,e',rfl,h2⟩:=OptP.ex key
  exact ⟨H,e',h2⟩
end
end Go.Proofs.Mm
set_option linter.unusedVariables false
set_option linter.unusedSimpArgs false
set_option maxHeartbeats 1000000
namespace Go.Proofs.Mm
open Go Go.Am
section
variable {C:Cn} {d:Nat} {t:NT} {env:Env}
theorem elf_q {h:Heap} (a b c:V) (h1:isCell a=true) (h2:isCell b=true) (h3:isCell c=true):CC 151 [a,b,c] h (.ret (.func (.func 161) [] [.ref (h.length+2) 0 1,.ref (h.length+1) 0 1,.ref h.length 0 1])) (h++[.cells 1 1 [a],.cells 1 1 [b],.cells 1 1 [c]]):=by
 have e1:=cellsV_cell h1
 have e2:=cellsV_cell h2
 have e3:=cellsV_cell h3
 refine cc_of (af:=Trmm.a151) rfl rfl fun Q hQ => ?_
 simp only [Trmm.a151]
 simp [slotOf,h1,h2,h3,e1,e2,e3]
 exact hQ
theorem each214 {S:Adr} {h:Heap} {s:St} {nb:Nat} {sv:V} (c:Ctx C S h) (r:Ctx.Run C h s) (hn:RN S h t nb) (hsv:RE S h env sv) (ho:t.op=17∨t.op=18) (hw:Wf C.P.length (t.n :: env.map (·.1)) (t.kid 1)) (he:EnvOk C.P.length env) (ih:EvP C d) (hd:C.left<s.steps+d) (hl2:t.l.length=2)
  {l:List Val} {lv:V} {vs:List V} (hs:RSl S h lv vs) (hq:RVs S h l vs) (hl:l.length≤4096) (hlo:∀ x∈l,VOk C.P.length x) :
  match eachD (evalD C.P C.left d (t.kid 1)) t env l s with
  | .ok out s'=>∃ x S' h',CC 123 [.ref C.rb 0 1,.ref nb 0 1,sv,lv,cloV C.bb C.eb C.vb C.ab] h (.ret x) h'∧Grow (ER C.rb C.mb) S h S' h'∧Stab (ER C.rb C.mb) S' h'∧Ctx.Run C h' (note t (seqV out) s')∧RV S' h' (seqV out) x
  | .err er i=>∃ h',CC 123 [.ref C.rb 0 1,.ref nb 0 1,sv,lv,cloV C.bb C.eb C.vb C.ab] h (.pan (stopV er i)) h'∧Grow (ER C.rb C.mb) S h S h':=by
 have rl:=r.lt
 let L:Heap:=[.cells 1 1 [.ref nb 0 1],.cells 1 1 [cloV C.bb C.eb C.vb C.ab],.cells 1 1 [.nils],.cells 1 1 [.ref nb 0 1],.cells 1 1 [sv],.cells 1 1 [lv],.loop 11230 (efi h.length (h.length+1) (h.length+2)) .ready none]
 let H0:Heap:=h++L
 have hH0:H0.length=h.length+7:=by simp [H0,L]
 have atL:∀ k,H0[h.length+k]?=L[k]?:=fun k=>by
  simp only [H0]
  rw [List.getElem?_append_right (by omega)]
  congr 1
  omega
 have old:∀ b,b<h.length→H0[b]?=h[b]?:=fun b hb=>List.getElem?_append_left hb
 have agH:Agr S h H0:=fun b hb=>objCells_same (old b (c.st.lt b hb))
 let S0:Adr:=fun b=>S b∨b=h.length∨b=h.length+1∨b=h.length+3∨b=h.length+4∨b=h.length+5
 have stS0:Stab (ER C.rb C.mb) S0 H0:=⟨fun b hb=>by
  rcases hb with hb | hb
  ·have:=c.st.lt b hb; omega
  ·omega,fun b hb hE=>by
  rcases hb with hb | hb
  ·exact c.st.ne b hb hE
  ·rcases hE with h | h <;> omega⟩
 have hcl:=hsv.cell
 have hcl2:=hs.cell
 have ein:EIn C t nb h.length (h.length+1) (h.length+2) (h.length+6) H0.length S0 H0 s .nils [] []:=by
  refine ⟨c.monoA (fun _ h => .inl h) agH stS0,r.same (old _ rl.1) (old _ rl.2),hn.mono (fun _ h => .inl h) agH,.inr (.inl rfl),objCells_of (atL 0),.inr (.inr (.inl rfl)),objCells_of (atL 1),?_,objCells_of (atL 2),?_,⟨none,rfl,atL 6⟩,.nil,fun b hb=>hb.nils.elim,RVs.nil,by omega,Nat.le_refl _,by omega,by simp⟩
  ·rintro (hb | hb)
   ·have:=c.st.lt _ hb; omega
   ·omega
  ·rintro (hb | hb)
   ·have:=c.st.lt _ hb; omega
   ·omega
 have hel:=elems_q ein ho hw he ih hd hl2 (hs.mono (fun _ h => .inl h) agH) (hq.mono (fun _ h => .inl h) agH) hl hlo (hsv.mono (fun _ h => .inl h) agH) (al:=h.length+5) (as:=h.length+4) (an:=h.length+3)
  (.inr (.inr (.inr (.inr (.inr rfl))))) (objCells_of (atL 5)) (.inr (.inr (.inr (.inr (.inl rfl))))) (objCells_of (atL 4)) (.inr (.inr (.inr (.inl rfl)))) (objCells_of (atL 3))
 have hfe:=elf_q (h:=h++[.cells 1 1 [.ref nb 0 1],.cells 1 1 [cloV C.bb C.eb C.vb C.ab],.cells 1 1 [.nils]]) (.ref nb 0 1) sv lv rfl hcl hcl2
 rw [CC] at hfe
 simp only [List.length_append,List.length_cons,List.length_nil,Nat.zero_add,List.append_assoc,List.cons_append,List.nil_append] at hfe
 have oh1:objCells (h++[.cells 1 1 [.ref nb 0 1],.cells 1 1 [cloV C.bb C.eb C.vb C.ab],.cells 1 1 [.nils]]) h.length=some (1,1,[.ref nb 0 1]):=by simp [objCells]
 cases hE:eachD (evalD C.P C.left d (t.kid 1)) t env l s with
 | err er i =>
  rw [hE] at hel
  obtain ⟨H,hcall,g⟩:=hel
  rw [CC] at hcall
  refine ⟨H,cc_of (af:=Trmm.a123) rfl rfl fun Q hQ => ?_,⟨fun _ h=>h,fun _ h => .inl h,by have:=g.len; omega,fun b hb hE => ?_⟩⟩
  ·simp only [Trmm.a123]
   simp [slotOf,oh1,hfe,mkV,callee,ecallF,isCell,cellsV]
   refine WX_range_pan (h':=H) (n:=161) (as:=[.yf (h.length+6),.ref (h.length+5) 0 1,.ref (h.length+4) 0 1,.ref (h.length+3) 0 1]) (v:=stopV er i) ?_ ?_ ?_
   ·simp [callee]
   ·simpa [H0,L] using hcall
   simp [slotOf]
   exact hQ
  ·rw [g.same b (by omega) ?_,old b hb]
   rintro (h | h | h)
   ·exact hE h
   ·omega
   ·omega
 | ok out s' =>
  rw [hE] at hel
  obtain ⟨H,S',v,ovs,hcall,ei,g⟩:=hel
  rw [CC] at hcall
  obtain ⟨pd,hpd,hlp⟩:=ei.l1
  have hgl:=g.len
  let H1:Heap:=H.set (h.length+6) (.loop 11230 (efi h.length (h.length+1) (h.length+2)) .exhausted none)
  let S1:Adr:=fun b=>S' b∨OB v b
  have agL:∀ b,objCells H1 b=objCells H b:=fun b=>objCells_setloop hlp _ _ _ _ b
  have h1l:H1.length=H.length:=by simp [H1]
  have old1:∀ b,b≠h.length+6→H1[b]?=H[b]?:=fun b hb=>List.getElem?_set_ne (Ne.symm hb)
  have hob:∀ b,OB v b→H0.length≤b∧b<H.length:=fun b hb=>ei.ow.ob hb
  have st1:Stab (ER C.rb C.mb) S1 H1:=⟨fun b hb=>by
   rcases hb with hb | hb
   ·have:=ei.cx.st.lt b hb; omega
   ·have:=hob b hb; omega,fun b hb hE=>by
   rcases hb with hb | hb
   ·exact ei.cx.st.ne b hb hE
   ·have:=hob b hb; rcases hE with h | h <;> omega⟩
  have r1:Ctx.Run C H1 s':=ei.rn.same (old1 _ (by omega)) (old1 _ (by omega))
  have g1:Grow (ER C.rb C.mb) S h S1 H1:=⟨fun b hb => .inl (g.sub b (.inl hb)),fun b hb=>by
   rcases hb with hb | hb
   ·rcases g.new b hb with hb | hb
    ·rcases hb with hb | hb
     ·exact .inl hb
     ·exact .inr (by omega)
    ·exact .inr (by omega)
   ·exact .inr (by have:=hob b hb; omega),by omega,fun b hb hE=>by
   rw [old1 b (by omega),g.same b (by omega) ?_,old b hb]
   rintro (h | h | h)
   ·exact hE h
   ·omega
   ·omega⟩
  have n1:RN S1 H1 t nb:=ei.nd.mono (fun _ h => .inl h) fun b _=>agL b
  have q1:RVs S1 H1 out ovs:=ei.rv.mono (fun _ h => .inl h) fun b _=>agL b
  have s1:RSl S1 H1 v ovs:=by
   have ow:=ei.ow
   have ol:=ei.o1
   have:RSl S1 H v ovs:=by
    clear_value H1
    cases ow with
    | nil=>exact .nil
    | sl b _ hb hoo =>
     have:=RSl.sl (S:=S1) b 0 ovs.length ovs.length false ovs (.inr ⟨_,_,_,_,_,rfl⟩) hoo rfl (by omega)
     simpa using this
   exact this.mono (fun _ h=>h) fun b _=>agL b
  have hm:=made_q s1 q1 (by have:=ei.ol; omega) 4 0
  have hv:RV S1 H1 (seqV out) _:=RV.ofMany s1 q1
  obtain ⟨h',hnote,r2,g2⟩:=note_q r1 st1 n1 hv c.fvc c.rvc
  rw [CC] at hm hnote
  have nv1:objCells H1 h.length=some (1,1,[.ref nb 0 1]):=(agL _).trans ei.n1
  have ov1:objCells H1 (h.length+2)=some (1,1,[v]):=(agL _).trans ei.o1
  refine ⟨_,S1,h',cc_of (af:=Trmm.a123) rfl rfl fun Q hQ => ?_,g1.trans g2,st1.len g2.len,r2,hv.mono (fun _ h=>h) (g2.agr st1)⟩
  simp only [Trmm.a123]
  simp [slotOf,oh1,hfe,mkV,callee,ecallF,isCell,cellsV]
  refine WX_range_ret (h':=H) (n:=161) (as:=[.yf (h.length+6),.ref (h.length+5) 0 1,.ref (h.length+4) 0 1,.ref (h.length+3) 0 1]) (v:=.tup []) (y':=11230) (fi:=efi h.length (h.length+1) (h.length+2)) (st:=.ready) ?_ ?_ ?_ (by decide) ?_
  ·simp [callee]
  ·simpa [H0,L] using hcall
  ·simp
   subst hpd
   exact hlp
  ·have eH1:H.set (h.length+6) (.loop 11230 (efi h.length (h.length+1) (h.length+2)) .exhausted none)=H1:=rfl
   have er:=eqV_ref
   clear_value H1
   simp [slotOf,eH1,nv1,ov1,hm,hnote,er,mkV,callee,ecallF]
   exact hQ
theorem ev17 {s1:St} {S:Adr} {h h1:Heap} {nb:Nat} {sv:V} (p:Pre C d t env s1 S h h1 nb sv) (ho:t.op=17∨t.op=18):EvR C 119 (evArgs C nb sv) S h (stepD C.P (evalD C.P C.left d) t env s1):=by
 have hb:=p.cb
 rw [CC] at hb
 obtain ⟨lv,kv,rs,hS,hn,hk,hke,kids⟩:=p.node
 have hl:(t.l.length:Int)=2:=by
  rcases ho with ho | ho
  ·exact p.len ho (by decide) rfl
  ·exact p.len ho (by decide) rfl
 obtain ⟨q0,b0,i0,l0,k0⟩:=kids 0 (by omega)
 have wf0:=p.wfk (k:=0) (by omega)
 have wf1:=p.wfk (k:=1) (by omega)
 have ew0:bnd t.op t.n t.m 0 (env.map (·.1))=env.map (·.1):=by rcases ho with ho | ho <;> simp [bnd,ho]
 have ew1:bnd t.op t.n t.m 1 (env.map (·.1))=t.n :: env.map (·.1):=by rcases ho with ho | ho <;> simp [bnd,ho]
 rw [ew0] at wf0
 rw [ew1] at wf1
 simp only [Int.natCast_zero] at i0
 have r0:=p.ih (t.kid 0) env s1 S h1 b0 sv p.c1 p.r1 k0 p.v1 wf0 p.eo p.hd
 have ok0:=evalD_ok p.c1.ok d (t.kid 0) env s1 wf0 p.eo p.r1.le
 rw [show stepD C.P (evalD C.P C.left d) t env s1=(evalD C.P C.left d (t.kid 0) env s1).bind fun x s=>match asMany 4 x with
   | some l=>(eachD (evalD C.P C.left d (t.kid 1)) t env l s).bind fun out s => .ok (seqV out) (note t (seqV out) s)
   | none => .err ET t.id by rcases ho with ho | ho <;> · simp [stepD,ho]; rfl]
 have e1:=p.c1.e1
 have v1:=p.c1.v1
 have l01:=l0 h1 Agr.refl
 have er:=eqV_ref
 have ec:eqV (cloV C.bb C.eb C.vb C.ab) (cloV C.bb C.eb C.vb C.ab)=true:=by simp [eqV,eqL]
 cases he:evalD C.P C.left d (t.kid 0) env s1 with
 | err e i =>
  rw [he] at r0
  obtain ⟨h2,hc,g2⟩:=r0
  rw [CC] at hc
  refine ⟨h2,cc_of (af:=Trmm.a119) rfl rfl fun Q hQ => ?_,p.g1.trans g2⟩
  rcases ho with ho | ho
  all_goals
   rw [ho] at hn
   simp only [Trmm.a119]
   simp [slotOf,p.cx.b1,hb,hn,e1,v1,i0,l01,hc,er,ec,mkV,callee,ecallF,forget,AOper.writes,tailOK,tailAt,tailOps,liveIn,lzT]
   exact hQ
 | ok v s2 =>
  rw [he] at r0
  obtain ⟨x,S2,h2,hc,g2,st2,r2,hv⟩:=r0
  obtain ⟨vok,hst,hle⟩:=ok0 v s2 he
  rw [CC] at hc
  have ag2:=g2.agr p.c1.st
  have c2:=p.c1.mono g2 st2
  have n2:=p.n1.mono g2.sub ag2
  have hm:=list_q n2 hv
  have e2:=c2.e1
  have v2:=c2.v1
  have sv2:=p.v1.mono g2.sub ag2
  simp only [Res.bind_ok]
  cases hmv:asMany 4 v with
  | none =>
   rw [hmv] at hm
   simp only [RO] at hm
   show EvR C 119 (evArgs C nb sv) S h (.err ET t.id)
   refine ⟨h2,cc_of (af:=Trmm.a119) rfl rfl fun Q hQ => ?_,(p.g1.trans g2).back⟩
   rcases ho with ho | ho
   all_goals
    rw [ho] at hn
    simp only [Trmm.a119]
    simp [slotOf,p.cx.b1,hb,hn,e1,e2,v1,v2,i0,l01,hc,hm,er,ec,mkV,callee,ecallF,rocall,forget,AOper.writes,tailOK,tailAt,tailOps,liveIn,lzT]
    exact hQ
  | some l =>
   rw [hmv] at hm
   simp only [RO] at hm
   obtain ⟨lv2,vs2,hm,hs,hq⟩:=hm
   obtain ⟨hlo,hll⟩:=asSeq_ok vok hmv
   have he14:=each214 c2 r2 n2 sv2 ho wf1 p.eo p.ih (by have:=p.hd; omega) (by omega) hs hq hll hlo
   show EvR C 119 (evArgs C nb sv) S h ((eachD (evalD C.P C.left d (t.kid 1)) t env l s2).bind fun out s => .ok (seqV out) (note t (seqV out) s))
   cases hE:eachD (evalD C.P C.left d (t.kid 1)) t env l s2 with
   | err er' i =>
    rw [hE] at he14
    obtain ⟨h3,hc3,g3⟩:=he14
    rw [CC] at hc3
    refine ⟨h3,cc_of (af:=Trmm.a119) rfl rfl fun Q hQ => ?_,((p.g1.trans g2).trans g3).back⟩
    rcases ho with ho | ho
    all_goals
     rw [ho] at hn
     simp only [Trmm.a119]
     simp [slotOf,p.cx.b1,hb,hn,e1,e2,v1,v2,i0,l01,hc,hm,hc3,er,ec,mkV,callee,ecallF,rocall,forget,AOper.writes]
     exact hQ
   | ok out s3 =>
    rw [hE] at he14
    obtain ⟨y,S3,h3,hc3,g3,st3,r3,hy⟩:=he14
    rw [CC] at hc3
    refine ⟨y,S3,h3,cc_of (af:=Trmm.a119) rfl rfl fun Q hQ => ?_,(p.g1.trans g2).trans g3,st3,r3,hy⟩
    rcases ho with ho | ho
    all_goals
     rw [ho] at hn
     simp only [Trmm.a119]
     simp [slotOf,p.cx.b1,hb,hn,e1,e2,v1,v2,i0,l01,hc,hm,hc3,er,ec,mkV,callee,ecallF,rocall]
     exact hQ
end
end Go.Proofs.Mm
set_option linter.unusedVariables false
set_option linter.unusedSimpArgs false
set_option maxHeartbeats 1000000
namespace Go.Proofs.Mm
open Go Go.Am
abbrev ctl (o:Int):Prop:=o=0∨o=3∨o=4∨o=6∨o=7∨o=5∨o=13∨o=14∨o=17∨o=18
theorem op_all {t:NT} {vars:List Int} {nf:Nat} (hw:Wf nf vars t) (hc:¬ ctl t.op):∃ f n:Nat,t.op=(n:Int)∧n<27∧opsL[n]?=some (fnV f) ∧
  ∀ {S:Adr} {h:Heap} {nb:Nat} {lv:V} {l:List Val} {vs:List V},OpIn nf S h t nb lv l vs→OpG S h f t nb lv (opV t.op t.n l):=by
 have hs:=hw.shape
 have hr:0≤t.op∧t.op≤26:=by
  unfold shape at hs
  split at hs
  ·omega
  ·exact ⟨hs.1,hs.2.1⟩
 have hcase:t.op=1∨t.op=2∨t.op=8∨t.op=9∨t.op=10∨t.op=11∨t.op=12∨t.op=15∨t.op=16∨t.op=19∨t.op=20∨t.op=21∨t.op=22∨t.op=23∨t.op=24∨t.op=25∨t.op=26:=by
  simp only [ctl,not_or] at hc
  omega
 rcases hcase with h | h | h | h | h | h | h | h | h | h | h | h | h | h | h | h | h
 ·exact ⟨133,1,h,by omega,rfl,fun hi=>op1 hi h⟩
 ·exact ⟨134,2,h,by omega,rfl,fun hi=>op2 hi h⟩
 ·exact ⟨135,8,h,by omega,rfl,fun hi=>op8 hi h⟩
 ·exact ⟨136,9,h,by omega,rfl,fun hi=>op9 hi h⟩
 ·exact ⟨137,10,h,by omega,rfl,fun hi=>op10 hi h⟩
 ·exact ⟨138,11,h,by omega,rfl,fun hi=>op11 hi h⟩
 ·exact ⟨139,12,h,by omega,rfl,fun hi=>op12 hi h⟩
 ·exact ⟨140,15,h,by omega,rfl,fun hi=>op15 hi h⟩
 ·exact ⟨141,16,h,by omega,rfl,fun hi=>op16 hi h⟩
 ·exact ⟨143,19,h,by omega,rfl,fun hi=>op19 hi h⟩
 ·exact ⟨144,20,h,by omega,rfl,fun hi=>op20 hi h⟩
 ·exact ⟨145,21,h,by omega,rfl,fun hi=>op21 hi h⟩
 ·exact ⟨146,22,h,by omega,rfl,fun hi=>op22 hi h⟩
 ·exact ⟨147,23,h,by omega,rfl,fun hi=>op23 hi h⟩
 ·exact ⟨148,24,h,by omega,rfl,fun hi=>op24 hi h⟩
 ·exact ⟨149,25,h,by omega,rfl,fun hi=>op25 hi h⟩
 ·exact ⟨150,26,h,by omega,rfl,fun hi=>op26 hi h⟩
section
variable {C:Cn} {d:Nat} {t:NT} {env:Env} {s1:St} {S:Adr} {h h1:Heap} {nb:Nat} {sv:V}
theorem evOp (p:Pre C d t env s1 S h h1 nb sv) (hnc:¬ ctl t.op):EvR C 119 (evArgs C nb sv) S h (stepD C.P (evalD C.P C.left d) t env s1):=by
 have hb:=p.cb
 rw [CC] at hb
 obtain ⟨lv,kv,rs,hS,hn,hk,hke,kids⟩:=p.node
 obtain ⟨f,n,hop,hn27,hopf,hOp⟩:=op_all p.wf hnc
 have hc0:=hnc
 simp only [ctl,not_or] at hnc
 obtain ⟨n0,n3,n4,n6,n7,n5,n13,n14,n17,n18⟩:=hnc
 rw [show stepD C.P (evalD C.P C.left d) t env s1=(evalL (evalD C.P C.left d) env t.l s1).bind fun l s=>match opV t.op t.n l with
   | .error e => .err e t.id
   | .ok v => .ok v (note t v s) by
  rw [stepD,if_neg n0,if_neg n3,if_neg n4,if_neg n6,if_neg n7,if_neg n5,if_neg n13,if_neg n14,if_neg (by simp [n17,n18])]; rfl]
 have b0:(t.op == 0)=false:=by simpa using n0
 have b3:(t.op == 3)=false:=by simpa using n3
 have b4:(t.op == 4)=false:=by simpa using n4
 have b5:(t.op == 5)=false:=by simpa using n5
 have b6:(t.op == 6)=false:=by simpa using n6
 have b7:(t.op == 7)=false:=by simpa using n7
 have b13:(t.op == 13)=false:=by simpa using n13
 have b14:(t.op == 14)=false:=by simpa using n14
 have b17:(t.op == 17)=false:=by simpa using n17
 have b18:(t.op == 18)=false:=by simpa using n18
 have rl:=p.r1.lt
 have ag1:Agr S h1 (h1++[.cells 0 1 []]):=Agr.app p.c1.st.lt _
 have hn':objCells (h1++[.cells 0 1 []]) nb=_:=(ag1 nb hS).trans hn
 have hlv:=hk.lenS
 obtain ⟨_,_,rs',_,_,hk',hl',_⟩:=p.n1.node
 have hkl:lenV kv=some (.int .i64 t.l.length):=by
  obtain ⟨lvx,kvx,rsx,_,hox,hkx,hlx,_⟩:=p.n1.node
  rw [hn] at hox
  simp only [Option.some.injEq,Prod.mk.injEq,List.cons.injEq,true_and,and_true] at hox
  obtain ⟨rfl,rfl⟩:lv=lvx∧kv=kvx:=by simpa using hox
  rw [hkx.lenS,hlx]
 have hlen8:t.l.length≤8:=by
  have:=p.wf.shape
  unfold shape at this
  split at this
  ·exact this
  ·obtain ⟨h1,h2,h3⟩:=this
   unfold arity at h3
   repeat' split at h3
   all_goals omega
 have key:CallP gl Trmm.aprog 119 (evArgs C nb sv) h (fun r H=>match (evalL (evalD C.P C.left d) env t.l s1).bind fun l s=>match opV t.op t.n l with
   | .error e => .err e t.id
   | .ok v => .ok v (note t v s) with
  | .ok v s'=>∃ x S',r = .ret x∧Grow (ER C.rb C.mb) S h S' H∧Stab (ER C.rb C.mb) S' H∧Ctx.Run C H s'∧RV S' H v x
  | .err e i=>r = .pan (stopV e i)∧Grow (ER C.rb C.mb) S h S H):=by
  refine call_ofQ (af:=Trmm.a119) rfl rfl fun Q hQ => ?_
  simp only [Trmm.a119]
  simp [slotOf,p.cx.b1,hb,hn,hn',b0,b3,b4,b5,b6,b7,b13,b14,b17,b18,hkl,mkV,callee,ecallF]
  refine loop_nQ t.l.length (fun i c=>∃ S' H s' vals vs s14 fl,Grow (ER C.rb C.mb) S h1 S' H∧Ctx C S' H∧Ctx.Run C H s'∧¬ S' h1.length∧objCells H h1.length=some (i,1,vs)∧RVs S' H vals vs∧(∀ v∈vals,VOk C.P.length v)∧vals.length=i ∧
   evalL (evalD C.P C.left d) env t.l s1=(evalL (evalD C.P C.left d) env (t.l.drop i) s').bind (fun us s => .ok (vals++us) s)∧C.left<s'.steps+d ∧
   c=⟨[.ref nb 0 1,sv,.ref C.bb 0 1,.ref C.eb 0 1,.ref C.vb 0 1,.ref C.ab 0 1,.nili,.undef,.undef,.undef,.undef,.undef,.undef,.sl h1.length 0 i i 1 false,s14,.int .i64 t.op,.bool false,kv,.int .i64 t.l.length,.int .i64 i],[],fl,none,H⟩) ?_
   ⟨S,h1++[.cells 0 1 []],s1,[],[],.undef,none,.app _,p.c1.mono (.app _) (p.c1.st.len (by simp)),p.r1.same (List.getElem?_append_left rl.1) (List.getElem?_append_left rl.2),fun hx=>by have:=p.c1.st.lt _ hx; omega,obj_last _ _ _ _,RVs.nil,by simp,rfl,?_,p.hd,by simp⟩
  rotate_left 1
  ·rw [List.drop_zero]
   cases evalL (evalD C.P C.left d) env t.l s1 <;> simp
  rintro I hI i c hil ⟨S',H,s',vals,vs,s14,fl,g,cx,rn,hno,ho,hv,hvo,hvl,heq,hd',rfl⟩
  have agS:=g.agr p.c1.st
  have hol:=objCells_lt ho
  by_cases hlt:i<t.l.length
  ·have hlt':(i:Int)<t.l.length:=by omega
   obtain ⟨q,b,q1,q2,q3⟩:=kids i hlt
   have q4:=q2 H agS
   have ew:bnd t.op t.n t.m i (env.map (·.1))=env.map (·.1):=by simp [bnd,n4,n3,n17,n18,n13]
   have wfi:=p.wfk hlt
   rw [ew] at wfi
   have ri:=p.ih (t.kid i) env s' S' H b sv cx rn (q3.mono g.sub agS) (p.v1.mono g.sub agS) wfi p.eo hd'
   have oki:=evalD_ok cx.ok d (t.kid i) env s' wfi p.eo rn.le
   have ekid:t.l[i]=t.kid i:=by
    show _=t.l.getD i default
    rw [List.getD_eq_getElem?_getD,List.getElem?_eq_getElem hlt]; rfl
   rw [List.drop_eq_getElem_cons hlt,ekid] at heq
   have e1:=cx.e1
   have w5:IntKind.i64.wrap ((i:Int)+1)=(i:Int)+1:=wrap64 (by omega) (by omega)
   cases hev:evalD C.P C.left d (t.kid i) env s' with
   | err e j =>
    rw [hev] at ri
    obtain ⟨H2,hc2,g2⟩:=ri
    rw [CC] at hc2
    simp only [evalL,hev,Res.bind_err] at heq
    rw [heq] at hQ
    simp [slotOf,hlt',q1,q4,e1,hc2,callee,ecallF,mkV]
    exact hQ _ _ ⟨rfl,((p.g1.trans g).trans g2).back⟩
   | ok v s2 =>
    rw [hev] at ri
    obtain ⟨x,S2,H2,hc2,g2,st2,r2,hx⟩:=ri
    obtain ⟨vok,hst,hle⟩:=oki v s2 hev
    rw [CC] at hc2
    have hne:¬ ER C.rb C.mb h1.length:=by rintro (h | h) <;> omega
    have ho2:objCells H2 h1.length=some (i,1,vs):=by rw [g2.cells hol hne]; exact ho
    have hno2:¬ S2 h1.length:=g2.notS hol hno
    have hxc:=hx.cell
    have hxc1:=cellsV_cell hxc
    have ha:=appV_own (bytes:=16) (y:=.vs [x] 1 1) (k:=1) (ys:=[x]) (objCells_at ho2) rfl rfl rfl (by simp only [room]; omega)
    have agF:Agr S2 H2 (H2.set h1.length (.cells (i+1) 1 (vs++[x]))):=Agr.set hno2 _
    have ag2:=g2.agr cx.st
    have c2:=cx.mono g2 st2
    simp [slotOf,hlt',q1,q4,e1,hc2,ha,hxc,hxc1,w5,fill,callee,ecallF,mkV]
    refine ⟨hlt,hI _ _ ⟨S2,_,s2,vals++[v],vs++[x],.ref b 0 1,none,(g.trans g2).set (.inl (Nat.le_refl _)) _,c2.monoA (fun _ h=>h) agF (st2.len (by simp)),r2.same (List.getElem?_set_ne (by omega)) (List.getElem?_set_ne (by omega)),hno2,objCells_set (objCells_lt ho2) _ _ _,
     (hv.mono g2.sub (ag2.trans fun b hb=>agF b (g2.sub b hb))).snoc (hx.mono (fun _ h=>h) agF),?_,by simp [hvl],?_,by omega,rfl⟩⟩
    ·intro w hw
     rcases List.mem_append.1 hw with hw | hw
     ·exact hvo w hw
     ·rw [List.mem_singleton.1 hw]; exact vok
    ·rw [heq]
     simp only [evalL,hev,Res.bind_ok]
     cases evalL (evalD C.P C.left d) env (t.l.drop (i+1)) s2 <;> simp
  ·obtain rfl:i=t.l.length:=by omega
   rw [List.drop_length] at heq
   simp only [evalL,Res.bind_ok,List.append_nil] at heq
   rw [heq] at hQ
   simp only [Res.bind_ok] at hQ
   have hvl2:=hv.len
   let S2:Adr:=fun b=>S' b∨b=h1.length
   have hne:¬ ER C.rb C.mb h1.length:=by rintro (h | h) <;> omega
   have st2:Stab (ER C.rb C.mb) S2 H:=cx.st.push hol hne
   have g2:Grow (ER C.rb C.mb) S h1 S2 H:=g.push (Nat.le_refl _)
   have hn2:=(agS nb hS).trans hn
   have rs2:RSl S2 H (.sl h1.length 0 t.l.length t.l.length 1 false) vs:=by
    have:=RSl.sl (S:=S2) h1.length 0 vs.length vs.length false vs (.inr rfl) (by rw [ho]; congr 2; omega) rfl (by omega)
    have e:vs.length=t.l.length:=by omega
    rw [e] at this
    simpa [List.take_of_length_le (Nat.le_of_eq e)] using this
   have oi:OpIn C.P.length S2 H t nb (.sl h1.length 0 t.l.length t.l.length 1 false) vals vs:=⟨st2.no,p.n1.mono g2.sub (g2.agr p.c1.st),rs2,hv.mono (fun _ h => .inl h) Agr.refl,hvo,by rw [hvl]; exact p.wf.shape,⟨_,p.wf.nums⟩⟩
   have hO:=hOp oi
   have a1:=cx.a1
   have v1:=cx.v1
   have hop27:(n:Int)<27:=by omega
   have hop':t.op<27:=by omega
   have hop0:0≤t.op:=by omega
   have htn:t.op.toNat=n:=by omega
   have hle27:n+1≤opsL.length:=by simp [opsL]; omega
   have hld:(opsL.drop n).take 1=[fnV f]:=by
    have hl:n<opsL.length:=by omega
    rw [List.drop_eq_getElem_cons hl]
    rw [List.getElem?_eq_getElem hl] at hopf
    rw [Option.some.inj hopf]
    rfl
   have er:=eqV_ref
   cases hov:opV t.op t.n vals with
   | error e =>
    rw [hov] at hO hQ
    obtain ⟨H3,hc3,g3⟩:=hO
    rw [CC] at hc3
    simp [slotOf,hn2,a1,v1,hop0,hop',htn,hle27,hld,hc3,er,callee,ecallF,mkV,forget,AOper.writes]
    exact hQ _ _ ⟨rfl,((p.g1.trans g2).trans g3.any).back⟩
   | ok v =>
    rw [hov] at hO hQ
    obtain ⟨x,S3,H3,hc3,g3,st3,hx⟩:=hO
    have st3':Stab (ER C.rb C.mb) S3 H3:=st2.grow g3 st3 (by rintro b (h | h) <;> · have:=rn.lt; omega)
    have r3:Ctx.Run C H3 s':=rn.grow g3
    obtain ⟨H4,hc4,r4,g4⟩:=note_q r3 st3' (oi.rn.mono g3.sub (g3.agr st2.no)) hx cx.fvc cx.rvc
    rw [CC] at hc3 hc4
    have v3:objCells H3 C.vb=some (1,1,[.ref C.rb 0 1]):=(g3.agr st2.no C.vb (.inl cx.v0)).trans v1
    simp [slotOf,hn2,a1,v1,v3,hop0,hop',htn,hle27,hld,hc3,hc4,er,callee,ecallF,mkV]
    exact hQ _ _ ⟨x,S3,rfl,((p.g1.trans g2).trans g3.any).trans g4,st3'.len g4.len,r4,hx.mono (fun _ h=>h) (g4.agr st3')⟩
 generalize ((evalL (evalD C.P C.left d) env t.l s1).bind fun l s=>match opV t.op t.n l with
   | .error e => .err e t.id
   | .ok v => .ok v (note t v s))=res at key ⊢
 cases res with
 | ok v s' =>
  obtain ⟨r,H,e,x,S',rfl,a,b,c,d⟩:=OptP.ex key
  exact ⟨x,S',H,e,a,b,c,d⟩
 | err er i =>
  obtain ⟨r,H,e,rfl,a⟩:=OptP.ex key
  exact ⟨H,e,a⟩
end
theorem eval_q (C:Cn):∀ d,EvP C d
 | 0=>fun t env s S h nb sv cx rn hn hsv wf he hd=>by
  have:=rn.le
  exact absurd hd (by omega)
 | d+1=>fun t env s S h nb sv cx rn hn hsv wf he hd=>by
  have hbq:=begin_q rn cx.st hn cx.fvc cx.rvc
  rw [evalD]
  by_cases hlt:C.left≤s.steps
  ·rw [if_pos hlt]
   have hb:=hbq.2 (by omega)
   rw [CC] at hb
   have b1:=cx.b1
   refine ⟨h,cc_of (af:=Trmm.a119) rfl rfl fun Q hQ => ?_,.refl⟩
   simp only [Trmm.a119]
   simp [slotOf,b1,hb,callee,ecallF,mkV]
   exact hQ
  ·rw [if_neg hlt]
   obtain ⟨h1,hb,r1,g1⟩:=hbq.1 (by omega)
   have st1:Stab (ER C.rb C.mb) S h1:=cx.st.len g1.len
   have ag:=g1.agr cx.st
   have p:Pre C d t env (s.begin t.id) S h h1 nb sv:=⟨cx,hb,g1,cx.mono g1 st1,r1,hn.mono (fun _ h=>h) ag,hsv.mono (fun _ h=>h) ag,wf,he,eval_q C d,by simp only [St.begin]; omega⟩
   by_cases hc:ctl t.op
   ·rcases hc with h | h | h | h | h | h | h | h | h | h
    ·exact ev0 p h
    ·exact ev3 p h
    ·exact ev4 p h
    ·exact ev6 p h
    ·exact ev7 p h
    ·exact ev5 p h
    ·exact ev13 p h
    ·exact ev14 p h
    ·exact ev17 p (.inl h)
    ·exact ev17 p (.inr h)
   ·exact evOp p hc
def is64 (n:Int):Prop:=-9223372036854775808≤n∧n≤9223372036854775807
inductive Tr where
 | mk (k n:Int) (v:V) (l:List Tr)
 deriving Inhabited
namespace Tr
def k:Tr→Int | mk k _ _ _=>k
def n:Tr→Int | mk _ n _ _=>n
def v:Tr→V | mk _ _ v _=>v
def l:Tr→List Tr | mk _ _ _ l=>l
def cs:Tr→List V | mk k n v _=>[.int .i64 k,.int .i64 n,v]
@[simp] theorem cs_length (t:Tr):t.cs.length=3:=by cases t; rfl
@[simp] theorem cs_take (t:Tr):t.cs.take 3=t.cs:=by cases t; rfl
inductive Ok:Tr→Prop
 | mk (k n:Int) (v:V) (l:List Tr) (hk:is64 k) (hn:is64 n) (hv:SlV (l.map cs) v) (hl:∀ x∈l,Ok x):Ok (.mk k n v l)
theorem Ok.inv {k n:Int} {v:V} {l:List Tr} (h:Ok (.mk k n v l)):is64 k∧is64 n∧SlV (l.map cs) v∧∀ x∈l,Ok x:=by
 cases h with
 | mk _ _ _ _ a b c d=>exact ⟨a,b,c,d⟩
theorem ind {P:Tr→Prop} (h:∀ k n v l,(∀ x∈l,P x)→P (.mk k n v l)):∀ t,P t
 | .mk k n v l=>h k n v l fun x hx=>ind h x
termination_by t=>SizeOf.sizeOf t
decreasing_by
 have:=List.sizeOf_lt_of_mem hx
 simp only [mk.sizeOf_spec]
 omega
mutual
def nodes:Tr→Nat
 | .mk _ _ _ l=>1+nodesL l
def nodesL:List Tr→Nat
 | []=>0
 | t :: ts=>nodes t+nodesL ts
end
mutual
def levels:Tr→Nat
 | .mk _ _ _ l=>levelsL l+1
def levelsL:List Tr→Nat
 | []=>0
 | t :: ts=>max (levels t) (levelsL ts)
end
theorem nodes_pos (t:Tr):1≤t.nodes:=by cases t; simp only [nodes]; omega
theorem nodesL_append (a b:List Tr):nodesL (a++b)=nodesL a+nodesL b:=by
 induction a with
 | nil=>simp [nodesL]
 | cons t ts ih=>simp only [List.cons_append,nodesL,ih]; omega
theorem nodesL_take {l:List Tr} {i:Nat} (h:i<l.length):nodesL (l.take (i+1))=nodesL (l.take i)+l[i].nodes:=by
 rw [← List.take_append_getElem h,nodesL_append]; simp [nodesL]
theorem nodesL_mem:∀ {l:List Tr} {t:Tr},t∈l→t.nodes≤nodesL l
 | u :: us,t,h=>by
  simp only [nodesL]
  rcases List.mem_cons.1 h with rfl | h
  ·omega
  ·have:=nodesL_mem h; omega
theorem levelsL_mem:∀ {l:List Tr} {t:Tr},t∈l→t.levels≤levelsL l
 | u :: us,t,h=>by
  simp only [levelsL]
  rcases List.mem_cons.1 h with rfl | h
  ·omega
  ·have:=levelsL_mem h; omega
theorem nodesL_length:∀ l:List Tr,l.length≤nodesL l
 | []=>by simp [nodesL]
 | t :: ts=>by have:=nodesL_length ts; have:=nodes_pos t; simp only [nodesL,List.length_cons]; omega
theorem nodesL_take_le {l:List Tr} (i:Nat):nodesL (l.take i)≤nodesL l:=by
 have:=nodesL_append (l.take i) (l.drop i)
 rw [List.take_append_drop] at this
 omega
end Tr
theorem idx_tr {l:List Tr} {v:V} (hv:SlV (l.map Tr.cs) v) {i:Nat} (hi:i<l.length):idxV v i 3=some (.pv l[i].cs):=by
 rw [hv.idx]
 simp [hi]
theorem len_tr {l:List Tr} {v:V} (hv:SlV (l.map Tr.cs) v):lenV v=some (.int .i64 l.length):=by
 rw [hv.len]; simp
theorem pure_tr {t:Tr} (h:t.Ok):pureL t.cs=true:=by
 cases h with
 | mk k n v l _ _ hv _=>simp [Tr.cs,pureL,pureV,hv.pure]
mutual
def plainF:V→Bool
 | .func (.func _) fi ca=>plainFL fi&&plainFL ca
 | .func .. => false
 | .iface _ v=>plainF v
 | .agg cs | .tup cs | .pv cs | .vs cs _ _=>plainFL cs
 | .sv es _=>plainFLL es
 | _=>true
def plainFL:List V→Bool
 | []=>true
 | v :: vs=>plainF v&&plainFL vs
def plainFLL:List (List V)→Bool
 | []=>true
 | v :: vs=>plainFL v&&plainFLL vs
end
mutual
theorem eqV_self:∀ v:V,plainF v=true→eqV v v=true
 | .undef,_ | .nilp,_ | .nils,_ | .nilm,_ | .nilf,_ | .nili,_=>by simp [eqV]
 | .bool _,_ | .int _ _,_ | .str _,_ | .ref _ _ _,_ | .sl _ _ _ _ _ _,_ | .map _,_ | .yf _,_=>by simp [eqV]
 | .pv cs,h=>by rw [plainF] at h; simp [eqV,eqL_self cs h]
 | .sv es e,h=>by rw [plainF] at h; simp [eqV,eqLL_self es h]
 | .func (.func _) fi ca,h=>by
  rw [plainF,Bool.and_eq_true] at h
  simp [eqV,eqL_self fi h.1,eqL_self ca h.2]
 | .func (.method _) _ _,h | .func (.methodOf _ _) _ _,h | .func (.via _ _ _ _) _ _,h | .func (.yield _) _ _,h=>by simp [plainF] at h
 | .iface t v,h=>by rw [plainF] at h; simp [eqV,eqV_self v h]
 | .agg cs,h=>by rw [plainF] at h; simp [eqV,eqL_self cs h]
 | .tup cs,h=>by rw [plainF] at h; simp [eqV,eqL_self cs h]
 | .vs cs n z,h=>by rw [plainF] at h; simp [eqV,eqL_self cs h]
theorem eqL_self:∀ l:List V,plainFL l=true→eqL l l=true
 | [],_=>rfl
 | v :: vs,h=>by
  rw [plainFL,Bool.and_eq_true] at h
  simp [eqL,eqV_self v h.1,eqL_self vs h.2]
theorem eqLL_self:∀ l:List (List V),plainFLL l=true→eqLL l l=true
 | [],_=>rfl
 | v :: vs,h=>by
  rw [plainFLL,Bool.and_eq_true] at h
  simp [eqLL,eqL_self v h.1,eqLL_self vs h.2]
end
theorem eqH_self:∀ h:Heap,(∀ o∈h,eqObj o o=true)→eqH h h=true
 | [],_=>rfl
 | o :: h,hh=>by simp [eqH,hh o (by simp),eqH_self h fun x hx=>hh x (by simp [hx])]
def plainO:Am.Obj→Bool
 | .cells _ _ cs=>plainFL cs
 | .map es=>es.all fun (a,b)=>plainF a&&plainF b
 | .loop _ fi _ _=>plainFL fi
 | .gone=>true
theorem eqPs_self:∀ es:List (V×V),(es.all fun (a,b)=>plainF a&&plainF b)=true→eqPs es es=true
 | [],_=>rfl
 | (a,b) :: es,h=>by
  simp only [List.all_cons,Bool.and_eq_true] at h
  simp [eqPs,eqV_self a h.1.1,eqV_self b h.1.2,eqPs_self es h.2]
theorem eqObj_self (o:Am.Obj) (h:plainO o=true):eqObj o o=true:=by
 cases o with
 | cells n z cs=>simp [eqObj,eqL_self cs h]
 | map es=>simp [eqObj,eqPs_self es h]
 | loop y fi st pd=>simp [eqObj,eqL_self fi h]
 | gone=>rfl
def plainH (h:Heap):Prop:=∀ o∈h,plainO o=true
variable {H:Heap}
theorem plainH.at (hp:plainH H) {b n sz:Nat} {cs:List V} (h:objCells H b=some (n,sz,cs)):plainFL cs=true :=
 hp _ (List.mem_of_getElem? (objCells_at h))
theorem plainH.set (hp:plainH H) {b n sz:Nat} {cs:List V} (h:plainFL cs=true):plainH (H.set b (.cells n sz cs)):=fun o ho=>by
 rcases List.mem_or_eq_of_mem_set ho with ho | rfl
 ·exact hp o ho
 ·exact h
theorem plainH.app (hp:plainH H) {X:Heap} (hx:plainH X):plainH (H++X):=fun o ho=>by
 rcases List.mem_append.1 ho with ho | ho
 ·exact hp o ho
 ·exact hx o ho
theorem plainH.one {n sz:Nat} {cs:List V} (h:plainFL cs=true):plainH [.cells n sz cs]:=fun o ho=>by rw [List.mem_singleton.1 ho]; exact h
end Go.Proofs.Mm
set_option linter.unusedVariables false
set_option linter.unusedSimpArgs false
set_option maxHeartbeats 1000000
namespace Go.Proofs.Mm
open Go Go.Am
def ofTr:Tr→Val
 | .mk k n _ l=>if k=1 then .num n else if k=0 then .unit else .many k n (l.map ofTr)
theorem ofTr_mk (k n:Int) (v:V) (l:List Tr):ofTr (.mk k n v l)=if k=1 then .num n else if k=0 then .unit else .many k n (l.map ofTr):=by rw [ofTr]
theorem ofv_q:∀ t:Tr,t.Ok→t.nodes<2 ^ 40→∀ h:Heap,∃ x X,CC 85 [.agg t.cs] h (.ret x) (h++X)∧pureV x=true∧isCell x=true∧plainH X∧∀ S h',RV S h' (ofTr t) x:=by
 intro t
 induction t using Tr.ind with
 | h k n v l ih =>
 intro ho hnn h
 obtain ⟨_,_,hv,hl⟩:=ho.inv
 have hlv:=len_tr hv
 simp only [Tr.nodes] at hnn
 have hlen:=Tr.nodesL_length l
 by_cases h1:k=1
 ·subst h1
  refine ⟨numV n,[],?_,rfl,rfl,fun _ h=>by simp at h,fun S h'=>by rw [ofTr_mk]; exact .num n⟩
  rw [List.append_nil]
  refine cc_of (af:=Trmm.a85) rfl rfl fun Q hQ => ?_
  simp only [Trmm.a85]
  simp [Tr.cs,slotOf,hv.cell,mkV]
  exact hQ
 have hk1:(k == 1)=false:=by simpa using h1
 by_cases h0:k=0
 ·subst h0
  refine ⟨.iface 175 (.agg []),[],?_,rfl,rfl,fun _ h=>by simp at h,fun S h'=>by rw [ofTr_mk]; exact .unit⟩
  rw [List.append_nil]
  refine cc_of (af:=Trmm.a85) rfl rfl fun Q hQ => ?_
  simp only [Trmm.a85]
  simp [Tr.cs,slotOf,hv.cell,mkV,fill]
  exact hQ
 have hk0:(k == 0)=false:=by simpa using h0
 -- the parts
 have key:CallP gl Trmm.aprog 103 [v,.func (.func 85) [] []] h (fun r h'=>∃ xs:List V,r = .ret (.sv (xs.map fun x=>[x]) false)∧xs.length=l.length∧pureL xs=true∧(∃ X,h'=h++X∧plainH X)∧∀ S h'',RVs S h'' (l.map ofTr) xs):=by
  refine call_ofQ (af:=Trmm.a103) rfl rfl fun Q hQ => ?_
  simp only [Trmm.a103]
  simp [slotOf,hlv]
  refine loop_nQ l.length (fun i c=>∃ xs:List V,∃ X s4 fl,plainH X∧xs.length=i∧pureL xs=true∧(∀ S h'',RVs S h'' ((l.take i).map ofTr) xs)∧c=⟨[v,.func (.func 85) [] [],.nils,.sl h.length 0 i i 1 false,s4,v,.int .i64 l.length,.int .i64 i],[],fl,none,(h++[.cells i 1 xs])++X⟩) ?_ ⟨[],[],.undef,none,fun _ h=>by simp at h,rfl,rfl,fun S h''=>by simpa using RVs.nil,by simp⟩
  rintro I hI i c hil ⟨xs,X,s4,fl,hXp,hxl,hxp,hxr,rfl⟩
  have hob:objCells ((h++[.cells i 1 xs])++X) h.length=some (i,1,xs):=by simp [objCells]
  have hset:∀ o,((h++[Am.Obj.cells i 1 xs])++X).set h.length o=(h++[o])++X:=fun o=>by simp
  by_cases hlt:i<l.length
  ·have hlt':(i:Int)<l.length:=by omega
   have hi1:=idx_tr hv hlt
   have hm:=List.getElem_mem hlt
   obtain ⟨x,Y,hc,hp,hxc,hYp,hxv⟩:=ih l[i] hm (hl _ hm) (by have:=Tr.nodesL_mem hm; omega) ((h++[.cells i 1 xs])++X)
   rw [CC] at hc
   have hcs:(l[i]).cs.all isCell=true:=by
    have:=hl _ hm
    cases e:l[i] with
    | mk a b c d =>
     rw [e] at this
     have hcc:=this.inv.2.2.1.cell
     simp only [Tr.cs,List.all_cons,List.all_nil,hcc]
     rfl
   have ht:(l.take (i+1)).map ofTr=(l.take i).map ofTr++[ofTr l[i]]:=by rw [← List.take_append_getElem hlt,List.map_append]; rfl
   have hcl:=Tr.cs_length l[i]
   have hct:=Tr.cs_take l[i]
   generalize l[i]=u at *
   have hob2:objCells (((h++[.cells i 1 xs])++X)++Y) h.length=some (i,1,xs):=by simp [objCells]
   have hxc1:=cellsV_cell hxc
   have ha:=appV_own (bytes:=16) (y:=.vs [x] 1 1) (k:=1) (ys:=[x]) (objCells_at hob2) rfl rfl rfl (by simp only [room]; omega)
   have hset2:(((h++[Am.Obj.cells i 1 xs])++X)++Y).set h.length (.cells (i+1) 1 (xs++[x]))=(h++[.cells (i+1) 1 (xs++[x])])++(X++Y):=by simp
   rw [hset2] at ha
   have w5:IntKind.i64.wrap ((i:Int)+1)=(i:Int)+1:=wrap64 (by omega) (by omega)
   simp only [List.append_assoc,List.cons_append,List.nil_append] at hc ha
   simp [slotOf,hlt',hi1,hcl,hct,hcs,hc,ha,hxc,hxc1,w5,fill,callee,ecallF,mkV,-List.all_eq_true]
   refine ⟨hlt,hI _ _ ⟨xs++[x],X++Y,.agg u.cs,none,hXp.app hYp,by simp [hxl],?_,fun S h'' => ?_,by simp⟩⟩
   ·have:∀ (a:List V),pureL a=true→pureL (a++[x])=true:=by
     intro a
     induction a with
     | nil=>intro _; simp [pureL,hp]
     | cons y ys ih=>intro h; simp only [pureL,Bool.and_eq_true] at h; simp [pureL,h.1,ih h.2]
    exact this xs hxp
   ·rw [ht]
    exact (hxr S h'').snoc (hxv S h'')
  ·obtain rfl:i=l.length:=by omega
   have hch:=chunks_one xs
   rw [hxl] at hch
   have hf:frzV ((h++[.cells l.length 1 xs])++X) (.sl h.length 0 l.length l.length 1 false)=some (.sv (xs.map fun x=>[x]) false,(h++[.gone])++X):=by
    simp only [frzV,viewV,hob,hxp,hset]
    simp [hch]
   simp only [List.append_assoc,List.cons_append,List.nil_append] at hf
   rw [List.take_length] at hxr
   simp [slotOf,hf]
   exact hQ _ _ ⟨xs,rfl,hxl,hxp,⟨_,rfl,plainH.app (H:=[.gone]) (fun o ho=>by rw [List.mem_singleton.1 ho]; rfl) hXp⟩,hxr⟩
 obtain ⟨r,h',e,xs,rfl,hxl,hxp,⟨X,rfl,hXp⟩,hxr⟩:=OptP.ex key
 have hm:=made_q (S:=No) (h:=h++X) (RSl.sv xs false) (hxr No (h++X)) (by simp; omega) k n
 rw [CC] at hm
 refine ⟨.iface 200 (.agg [.int .i64 (szNL 1 (l.map ofTr)),.int .i64 (szDL 1 (l.map ofTr)),.bool (szFL false (l.map ofTr)),.int .i64 k,.int .i64 n,.sv (xs.map fun x=>[x]) false]),X,cc_of (af:=Trmm.a85) rfl rfl fun Q hQ => ?_,rfl,rfl,hXp,fun S h' => ?_⟩
 rotate_left 1
 ·rw [ofTr_mk,if_neg h1,if_neg h0]
  exact RV.ofMany (RSl.sv xs false) (hxr S h')
 ·simp only [Trmm.a85]
  simp [Tr.cs,slotOf,hv.cell,hk1,hk0,mkV,e,hm,callee,ecallF]
  exact hQ
end Go.Proofs.Mm
set_option linter.unusedVariables false
set_option linter.unusedSimpArgs false
set_option maxHeartbeats 1000000
namespace Go.Proofs.Mm
open Go Go.Am
inductive Sk where
 | mk (k n:Int) (l:List Sk)
 deriving Inhabited
def Tr.sk:Tr→Sk
 | .mk k n _ l => .mk k n (l.map Tr.sk)
def Val.sk:Val→Sk
 | .num n => .mk 1 n []
 | .unit => .mk 0 0 []
 | .many k t l => .mk k t (l.map Val.sk)
 | .fn .. => .mk 0 0 []
theorem Tr.sk_mk (k n:Int) (v:V) (l:List Tr):(Tr.mk k n v l).sk = .mk k n (l.map Tr.sk):=by rw [Tr.sk]
theorem Val.sk_many (k t:Int) (l:List Val):(Val.many k t l).sk = .mk k t (l.map Val.sk):=by rw [Val.sk]
abbrev toldTbl:List (Nat×Nat):=[(173,204),(175,206),(197,208),(200,210)]
theorem chunks3:∀ ts:List Tr,chunks 3 ts.length (ts.map Tr.cs).flatten=ts.map Tr.cs
 | []=>rfl
 | t :: ts=>by
  have h3:=Tr.cs_length t
  simp only [List.length_cons,chunks,List.map_cons,List.flatten_cons]
  rw [List.take_left' h3,List.drop_left' h3,chunks3 ts]
theorem cells_tr {t:Tr} (ho:t.Ok):t.cs.all isCell=true:=by
 cases t with
 | mk a b c d =>
  have hcc:=ho.inv.2.2.1.cell
  simp only [Tr.cs,List.all_cons,List.all_nil,hcc]
  rfl
theorem pureL_append:∀ {a b:List V},pureL a=true→pureL b=true→pureL (a++b)=true
 | [],b,_,h=>h
 | x :: xs,b,h1,h2=>by
  simp only [pureL,Bool.and_eq_true] at h1
  simp [pureL,h1.1,pureL_append h1.2 h2]
theorem pureL_trs:∀ {ts:List Tr},(∀ t∈ts,t.Ok)→pureL (ts.map Tr.cs).flatten=true
 | [],_=>rfl
 | t :: ts,h=>by
  simp only [List.map_cons,List.flatten_cons]
  exact pureL_append (pure_tr (h t (by simp))) (pureL_trs fun u hu=>h u (by simp [hu]))
theorem told_v {nf:Nat}:∀ v:Val,VOk nf v→∀ (S:Adr) (h:Heap) (x:V),(∀ b,S b→b<h.length)→RV S h v x→∃ f y,∃ tr:Tr,∃ X,methV toldTbl x=some (.func (.func f) [y] [])∧CC f [y] h (.ret (.agg tr.cs)) (h++X)∧tr.Ok∧tr.sk=v.sk:=by
 intro v
 induction v using Val.ind with
 | hn n =>
  intro hv S h x hst hr
  cases hr
  cases hv with
  | num _ hw =>
  have hw':=isWord_iff.1 hw
  refine ⟨204,.int .i64 n,.mk 1 n .nils [],[],rfl,?_,.mk _ _ _ _ (by constructor <;> omega) (by constructor <;> omega) (.nil rfl) (by simp),by simp [Tr.sk_mk,Val.sk]⟩
  rw [List.append_nil]
  refine cc_of (af:=Trmm.a204) rfl rfl fun Q hQ => ?_
  simp only [Trmm.a204]
  simp [slotOf,fill]
  exact hQ
 | hu =>
  intro hv S h x hst hr
  cases hr
  refine ⟨206,.agg [],.mk 0 0 .nils [],[],rfl,?_,.mk _ _ _ _ (by constructor <;> omega) (by constructor <;> omega) (.nil rfl) (by simp),by simp [Tr.sk_mk,Val.sk]⟩
  rw [List.append_nil]
  refine cc_of (af:=Trmm.a206) rfl rfl fun Q hQ => ?_
  simp only [Trmm.a206]
  simp [slotOf,fill]
  exact hQ
 | hf b p env _ =>
  intro hv S h x hst hr
  cases hr with
  | fn _ _ _ nb sv hn he =>
  have hc:=he.cell
  refine ⟨208,_,.mk 0 0 .nils [],[],rfl,?_,.mk _ _ _ _ (by constructor <;> omega) (by constructor <;> omega) (.nil rfl) (by simp),by simp [Tr.sk_mk,Val.sk]⟩
  rw [List.append_nil]
  refine cc_of (af:=Trmm.a208) rfl rfl fun Q hQ => ?_
  simp only [Trmm.a208]
  simp [slotOf,fill,hc]
  exact hQ
 | hm k t l ih =>
  intro hv S h x hst hr
  obtain ⟨lv,vs,rfl,hs,hq⟩:=hr.manyI
  have hvl:=hq.len
  have hlv:=hs.lenS
  rw [hvl] at hlv
  obtain ⟨hmo,hlo⟩:manyOk k t l.length∧∀ x∈l,VOk nf x:=by cases hv; exact ⟨by assumption,by assumption⟩
  have hkt:is64 k∧is64 t∧l.length≤4096:=by
   rcases hmo with h | h | h <;> (refine ⟨?_,?_,by omega⟩ <;> constructor <;> omega)
  have hlc:=hs.cell
  -- the parts
  have key:CallP gl Trmm.aprog 211 [lv,.func (.methodOf 145 "sheafworks/mean.told") [] []] h (fun r h'=>∃ ts:List Tr,r = .ret (.sv (ts.map Tr.cs) false)∧(∀ u∈ts,u.Ok)∧ts.map Tr.sk=l.map Val.sk∧∃ X,h'=h++X):=by
   refine call_ofQ (af:=Trmm.a211) rfl rfl fun Q hQ => ?_
   simp only [Trmm.a211]
   simp [slotOf,hlv]
   refine loop_nQ l.length (fun i c=>∃ ts:List Tr,∃ X s4 fl,ts.length=i∧(∀ u∈ts,u.Ok)∧ts.map Tr.sk=(l.take i).map Val.sk∧c=⟨[lv,.func (.methodOf 145 "sheafworks/mean.told") [] [],.nils,.sl h.length 0 i i 3 false,s4,lv,.int .i64 l.length,.int .i64 i],[],fl,none,(h++[.cells i 3 (ts.map Tr.cs).flatten])++X⟩) ?_ ⟨[],[],.undef,none,rfl,by simp,by simp,by simp⟩
   rintro I hI i c hil ⟨ts,X,s4,fl,htl,hto,hts,rfl⟩
   have hob:∀ Y,objCells (((h++[.cells i 3 (ts.map Tr.cs).flatten])++X)++Y) h.length=some (i,3,(ts.map Tr.cs).flatten):=fun Y=>by simp [objCells]
   by_cases hlt:i<l.length
   ·have hlt':(i:Int)<l.length:=by omega
    obtain ⟨q,q1,q2⟩:=hs.idx (i:=i) (by omega)
    have hv':=hq.at_ i hlt (by omega)
    have agX:Agr S h ((h++[.cells i 3 (ts.map Tr.cs).flatten])++X):=by rw [List.append_assoc]; exact Agr.app hst _
    have q3:=q2 hv'.cell _ agX
    have hmem:=List.getElem_mem hlt
    obtain ⟨f,y,tr,Y,m1,m2,m3,m4⟩:=ih l[i] hmem (hlo _ hmem) S ((h++[.cells i 3 (ts.map Tr.cs).flatten])++X) vs[i] (fun b hb=>by have:=hst b hb; simp; omega) (hv'.mono (fun _ h=>h) agX)
    rw [CC] at m2
    have ht:(l.take (i+1)).map Val.sk=(l.take i).map Val.sk++[l[i].sk]:=by rw [← List.take_append_getElem hlt,List.map_append]; rfl
    generalize vs[i]=x at *
    generalize l[i]=u at *
    have hcl:=Tr.cs_length tr
    have hct:=cells_tr m3
    have ha:=appV_own (bytes:=40) (y:=.sv [tr.cs] true) (k:=1) (ys:=tr.cs) (objCells_at (hob Y)) rfl (by simp [sliceCells]) (by simp [hcl]) (by simp only [room]; omega)
    have hset:((((h++[Am.Obj.cells i 3 (ts.map Tr.cs).flatten])++X)++Y).set h.length (.cells (i+1) 3 ((ts.map Tr.cs).flatten++tr.cs)))=(h++[.cells (i+1) 3 ((ts++[tr]).map Tr.cs).flatten])++(X++Y):=by simp
    rw [hset] at ha
    have hpure:=pure_tr m3
    have hch:chunks 3 1 tr.cs=[tr.cs]:=by simp [chunks,Tr.cs_take]
    have hfill:fill [.int .i64 0,.int .i64 0,.nils] [(0,3,.agg tr.cs)]=some tr.cs:=by
     have hcc:(cellsV (.agg tr.cs))=tr.cs:=rfl
     simp only [fill,hcc,hcl]
     rw [if_pos ⟨trivial,by simp,hct⟩]
     simp [splice,hcl]
    have w5:IntKind.i64.wrap ((i:Int)+1)=(i:Int)+1:=wrap64 (by omega) (by omega)
    simp only [List.append_assoc,List.cons_append,List.nil_append] at q3 m2 ha
    simp [slotOf,hlt',q1,q3,m1,m2,ha,hpure,hct,hch,hfill,w5,callee,ecallF,mkV,-List.all_eq_true]
    exact ⟨hlt,hI _ _ ⟨ts++[tr],X++Y,x,none,by simp [htl],by intro u hu; rcases List.mem_append.1 hu with h | h; exact hto u h; rw [List.mem_singleton.1 h]; exact m3,by rw [ht,List.map_append,hts]; simp [m4],by simp⟩⟩
   ·obtain rfl:i=l.length:=by omega
    have hch:=chunks3 ts
    rw [htl] at hch
    have hpu:=pureL_trs hto
    have hob':=hob []
    rw [List.append_nil] at hob'
    have hset:∀ o,((h++[Am.Obj.cells l.length 3 (ts.map Tr.cs).flatten])++X).set h.length o=(h++[o])++X:=fun o=>by simp
    have hf:frzV ((h++[.cells l.length 3 (ts.map Tr.cs).flatten])++X) (.sl h.length 0 l.length l.length 3 false)=some (.sv (ts.map Tr.cs) false,(h++[.gone])++X):=by
     simp only [frzV,viewV,hob',hpu,hset]
     simp [hch]
    simp only [List.append_assoc,List.cons_append,List.nil_append] at hf
    rw [List.take_length] at hts
    simp [slotOf,hf]
    exact hQ _ _ ⟨ts,rfl,hto,hts,_,rfl⟩
  obtain ⟨r,h',e,ts,rfl,hto,hts,X,rfl⟩:=OptP.ex key
  refine ⟨210,_,.mk k t (.sv (ts.map Tr.cs) false) ts,X,rfl,cc_of (af:=Trmm.a210) rfl rfl fun Q hQ => ?_,.mk _ _ _ _ hkt.1 hkt.2.1 (.sv false) hto,by rw [Tr.sk_mk,Val.sk_many,hts]⟩
  simp only [Trmm.a210]
  simp [slotOf,hlc,e,fill,callee,ecallF,mkV]
  exact hQ
end Go.Proofs.Mm
set_option linter.unusedVariables false
set_option linter.unusedSimpArgs false
set_option maxHeartbeats 1000000
namespace Go.Proofs.Mm
open Go Go.Am
theorem mem_ready {deps:List (List Nat)} {l:List Bool} {j:Nat} (h:j∈readyL deps l):j<l.length∧l.getD j false=false∧∀ i∈deps.getD j [],l.getD i false=true:=by
 simp only [readyL,List.mem_filter,List.mem_range,Bool.and_eq_true,Bool.not_eq_true',List.all_eq_true] at h
 exact ⟨h.1,h.2.1,h.2.2⟩
theorem ready_nil {deps:List (List Nat)} {l:List Bool} (h:readyL deps l=[]) {j:Nat} (hj:j<l.length) (hd:∀ i∈deps.getD j [],l.getD i false=true):l.getD j false=true:=by
 cases e:l.getD j false with
 | true=>rfl
 | false =>
  have:j∈readyL deps l:=by
   simp only [readyL,List.mem_filter,List.mem_range,Bool.and_eq_true,Bool.not_eq_true',List.all_eq_true]
   exact ⟨hj,e,hd⟩
  rw [h] at this
  cases this
theorem allO_ok {F:Nat→Option Unit}:∀ {js:List Nat},(∀ j∈js,F j=some ())→allO F js=some ()
 | [],_=>rfl
 | j :: js,h=>by
  simp only [allO,h j (by simp)]
  exact allO_ok fun i hi=>h i (by simp [hi])
theorem count_set {l:List Bool} {j:Nat} (hj:j<l.length) (h:l.getD j false=false):(l.set j true).count false+1=l.count false:=by
 rw [List.getD_eq_getElem?_getD,List.getElem?_eq_getElem hj] at h
 simp only [Option.getD_some] at h
 have hc:=List.count_pos_iff.2 (h ▸ List.getElem_mem hj:false∈l)
 rw [List.count_set hj,h]
 simp
 omega
section
variable {rec:Rec} {g:Nat→List V} {ops:List AOper} {deps:List (List Nat)} {envF:List V} {cF:Cfg}
theorem brt_ok (I:List Bool→List V→Cfg→Prop) (hend:∀ l env c,I l env c→readyL deps l=[]→(eqL env envF&&sameC c cF)=true)
  (hstep:∀ l env c j,I l env c→j∈readyL deps l→∃ o v wr df pn hp,ops[j]?=some o∧wanted env o.guard=some true∧stepOp rec g o env c.slots c.pn c.h=some (.ok v wr df pn hp) ∧
   I (l.set j true) (env.set j v) { c with slots:=setSlot c.slots wr,dfs:=pushD df c.dfs,pn:=pn.or c.pn,h:=hp.getD c.h }):∀ fuel l env c,I l env c→l.count false≤fuel→brtO rec g ops deps envF cF fuel l env c=some ():=by
 intro fuel
 induction fuel with
 | zero =>
  intro l env c hI hl
  have hr:readyL deps l=[]:=by
   rw [List.eq_nil_iff_forall_not_mem]
   intro j hj
   obtain ⟨h1,h2,_⟩:=mem_ready hj
   have:=count_set h1 h2
   omega
  simp only [brtO,hr,hend l env c hI hr,if_true]
 | succ fuel ih =>
  intro l env c hI hl
  simp only [brtO]
  split
  ·rename_i hr
   simp only [hend l env c hI hr,if_true]
  ·rename_i j js hr
   refine allO_ok fun i hi => ?_
   rw [← hr] at hi
   obtain ⟨h1,h2,_⟩:=mem_ready hi
   obtain ⟨o,v,wr,df,pn,hp,e1,e2,e3,hI'⟩:=hstep l env c i hI hi
   simp only [e1,e2,e3]
   have:=count_set h1 h2
   exact ih _ _ _ hI' (by omega)
theorem WX_brt {fl:Option (Nat×Nat)} {c c':Cfg} {env:List V} {Q:Out→Cfg→Prop} (hp:c.pn=none) (hr:runOps rec g ops [] c=some (.norm env c')) (hb:brtO rec g ops deps env c' ops.length (List.replicate ops.length false) (List.replicate ops.length .undef) c=some ())
  (hq:Q .norm { c' with flag:=fl.map fun (t,j)=>(t,env.getD j .undef) }):WX rec g (.brt fl deps ops) c Q:=by
 unfold WX
 simp only [exec,hp,Option.isSome_none,Bool.false_eq_true,if_false,hr,hb]
 exact hq
end
theorem WX_pre (rec:Rec) (g:Nat→List V) (sz:Nat) (a:ACode) (c:Cfg) (Q:Out→Cfg→Prop):WX rec g (.pre sz a) c Q=WX rec g a { c with h:=c.h++[.cells 0 sz []] } Q:=rfl
def holeB (sz:Nat):Am.Obj→Bool
 | .cells 0 s []=>s == sz
 | _=>false
theorem holeG_cons (sz:Nat) (o:Am.Obj) (h:Heap) (i:Nat):holeG sz (o :: h) i=match holeG sz h (i+1) with
  | some j=>some j
  | none=>if holeB sz o then some i else none:=by
 simp only [holeG]
 cases holeG sz h (i+1) with
 | some j=>rfl
 | none =>
  cases o with
  | cells n z cs =>
   cases n with
   | zero=>cases cs <;> simp [holeB]
   | succ n=>rfl
  | _=>rfl
theorem holeG_snoc (sz:Nat) (o:Am.Obj):∀ (h:Heap) (i:Nat),holeG sz (h++[o]) i=if holeB sz o then some (i+h.length) else holeG sz h i
 | [],i=>by
  rw [List.nil_append,holeG_cons]
  rfl
 | x :: xs,i=>by
  rw [List.cons_append,holeG_cons,holeG_snoc sz o xs (i+1),holeG_cons,List.length_cons]
  cases holeB sz o with
  | true=>simp only [if_true]; congr 1; omega
  | false=>rfl
theorem ops_q:PC 117 [] (.agg opsL):=by
 refine pc_ro rfl (fun h=>rfl) (cc_of (af:=Trmm.a117) rfl rfl fun Q hQ => ?_)
 simp only [Trmm.a117]
 simp [slotOf,fill]
 exact hQ
abbrev nil27:List V:=[.nilf,.nilf,.nilf,.nilf,.nilf,.nilf,.nilf,.nilf,.nilf,.nilf,.nilf,.nilf,.nilf,.nilf,.nilf,.nilf,.nilf,.nilf,.nilf,.nilf,.nilf,.nilf,.nilf,.nilf,.nilf,.nilf,.nilf]
abbrev ops173:List AOper:=[olf 117 [],oll (.load (.s 1) 1 false),olp (.mkf (.func 118) [.r 1] []),ose 3 (.hat (.c (.agg nil27))),ose 4 (.hat (.c .nilf)),one (.store (.s 3) (.r 0) 27),one (.store (.s 4) (.r 2) 1)]
abbrev deps173:List (List Nat):=[[],[],[1],[],[],[3,0,0,0,3,4],[4,2,5,0,1,2,3,4,5]]
def o4 (rv:V) (b4 b6:Bool):Am.Obj:=if b6 then .cells 1 1 [.func (.func 118) [rv] []] else if b4 then .cells 1 1 [.nilf] else .cells 0 1 []
def o3 (b3 b5:Bool):Am.Obj:=if b5 then .cells 1 27 opsL else if b3 then .cells 1 27 nil27 else .cells 0 27 []
def I173 (h:Heap) (rv:V) (l:List Bool) (env:List V) (c:Cfg):Prop:=∃ b0 b1 b2 b3 b4 b5 b6:Bool,l=[b0,b1,b2,b3,b4,b5,b6]∧(b5=true→b3=true)∧(b6=true→b4=true) ∧
 env=[if b0 then .agg opsL else .undef,if b1 then rv else .undef,if b2 then .func (.func 118) [rv] [] else .undef,.undef,.undef,.undef,.undef] ∧
 c=⟨[rv,.ref h.length 0 1,.nilf,if b3 then .ref (h.length+2) 0 1 else .undef,if b4 then .ref (h.length+1) 0 1 else .undef,.undef],[],none,none,h++[.cells 1 1 [rv],o4 rv b4 b6,o3 b3 b5]⟩
theorem step173 (h:Heap) (rv:V) (hrv:isCell rv=true):∀ l env c j,I173 h rv l env c→j∈readyL deps173 l→∃ o v wr df pn hp,ops173[j]?=some o∧wanted env o.guard=some true∧stepOp (lim gl Trmm.aprog) gl o env c.slots c.pn c.h=some (.ok v wr df pn hp) ∧
   I173 h rv (l.set j true) (env.set j v) { c with slots:=setSlot c.slots wr,dfs:=pushD df c.dfs,pn:=pn.or c.pn,h:=hp.getD c.h }:=by
 rintro l env c j ⟨b0,b1,b2,b3,b4,b5,b6,rfl,c5,c6,rfl,rfl⟩ hj
 obtain ⟨hj1,hj2,hj3⟩:=mem_ready hj
 have hop:=ops_q
 rw [PC] at hop
 have hoc:∀ x y,objCells (h++[.cells 1 1 [rv],x,y]) h.length=some (1,1,[rv]):=fun x y=>by simp [objCells]
 have hset1:∀ x y z,(h++[Am.Obj.cells 1 1 [rv],x,y]).set (h.length+1) z=h++[.cells 1 1 [rv],z,y]:=fun x y z=>by simp
 have hset2:∀ x y z,(h++[Am.Obj.cells 1 1 [rv],x,y]).set (h.length+2) z=h++[.cells 1 1 [rv],x,z]:=fun x y z=>by simp
 have hg2:∀ x y,objCells (h++[.cells 1 1 [rv],x,y]) (h.length+1)=objCells [x] 0:=fun x y=>by simp [objCells]
 have hg3:∀ x y,objCells (h++[.cells 1 1 [rv],x,y]) (h.length+2)=objCells [y] 0:=fun x y=>by simp [objCells]
 simp only [List.length_cons,List.length_nil] at hj1
 match j,hj1 with
 | 0,_ =>
  simp only [List.getD_cons_zero] at hj2
  subst hj2
  refine ⟨_,.agg opsL,none,none,none,none,rfl,rfl,?_,true,b1,b2,b3,b4,b5,b6,rfl,c5,c6,rfl,rfl⟩
  simp [hop,-pcall]
 | 1,_ =>
  simp only [List.getD_cons_zero,List.getD_cons_succ] at hj2
  subst hj2
  refine ⟨_,rv,none,none,none,none,rfl,rfl,?_,b0,true,b2,b3,b4,b5,b6,rfl,c5,c6,rfl,rfl⟩
  simp [hoc,mkV]
 | 2,_ =>
  simp only [List.getD_cons_zero,List.getD_cons_succ] at hj2
  subst hj2
  have h1:=hj3 1 (by simp)
  simp only [List.getD_cons_zero,List.getD_cons_succ] at h1
  subst h1
  refine ⟨_,.func (.func 118) [rv] [],none,none,none,none,rfl,rfl,?_,b0,true,true,b3,b4,b5,b6,rfl,c5,c6,rfl,rfl⟩
  simp
 | 3,_ =>
  simp only [List.getD_cons_zero,List.getD_cons_succ] at hj2
  subst hj2
  have h5:b5=false:=by cases b5 <;> simp_all
  subst h5
  have hh:holeG 27 (h++[.cells 1 1 [rv],o4 rv b4 b6,o3 false false]) 0=some (h.length+2):=by
   rw [show h++[Am.Obj.cells 1 1 [rv],o4 rv b4 b6,o3 false false]=(h++[.cells 1 1 [rv],o4 rv b4 b6])++[o3 false false] by simp,holeG_snoc]
   simp [holeB,o3]
  refine ⟨_,.undef,some (3,.ref (h.length+2) 0 1),none,none,some (h++[.cells 1 1 [rv],o4 rv b4 b6,o3 true false]),rfl,rfl,?_,b0,b1,b2,true,b4,false,b6,rfl,by simp,c6,rfl,rfl⟩
  simp [hh,hset2]
  rfl
 | 4,_ =>
  simp only [List.getD_cons_zero,List.getD_cons_succ] at hj2
  subst hj2
  have h6:b6=false:=by cases b6 <;> simp_all
  subst h6
  have hh:holeG 1 (h++[.cells 1 1 [rv],o4 rv false false,o3 b3 b5]) 0=some (h.length+1):=by
   rw [show h++[Am.Obj.cells 1 1 [rv],o4 rv false false,o3 b3 b5]=((h++[.cells 1 1 [rv]])++[o4 rv false false])++[o3 b3 b5] by simp,holeG_snoc,holeG_snoc]
   cases b3 <;> cases b5 <;> simp [holeB,o3,o4]
  refine ⟨_,.undef,some (4,.ref (h.length+1) 0 1),none,none,some (h++[.cells 1 1 [rv],o4 rv true false,o3 b3 b5]),rfl,rfl,?_,b0,b1,b2,b3,true,b5,false,rfl,c5,by simp,rfl,rfl⟩
  simp [hh,hset1]
  rfl
 | 5,_ =>
  simp only [List.getD_cons_zero,List.getD_cons_succ] at hj2
  subst hj2
  have h3:=hj3 3 (by simp)
  have h0:=hj3 0 (by simp)
  simp only [List.getD_cons_zero,List.getD_cons_succ] at h3 h0
  subst h3 h0
  refine ⟨_,.undef,none,none,none,some (h++[.cells 1 1 [rv],o4 rv b4 b6,o3 true true]),rfl,rfl,?_,true,b1,b2,true,b4,true,b6,rfl,by simp,c6,rfl,rfl⟩
  have hs:storeV (h++[.cells 1 1 [rv],o4 rv b4 b6,o3 true false]) (.ref (h.length+2) 0 1) (.agg opsL) 27=some (h++[.cells 1 1 [rv],o4 rv b4 b6,o3 true true]):=by
   simp only [storeV,hg3]
   simp [objCells,o3,cellsV,opsL,isCell,splice]
  simp [hs]
 | 6,_ =>
  simp only [List.getD_cons_zero,List.getD_cons_succ] at hj2
  subst hj2
  have h4:=hj3 4 (by simp)
  have h2:=hj3 2 (by simp)
  simp only [List.getD_cons_zero,List.getD_cons_succ] at h4 h2
  subst h4 h2
  refine ⟨_,.undef,none,none,none,some (h++[.cells 1 1 [rv],o4 rv true true,o3 b3 b5]),rfl,rfl,?_,b0,b1,true,b3,true,b5,true,rfl,c5,by simp,rfl,rfl⟩
  have hs:storeV (h++[.cells 1 1 [rv],o4 rv true false,o3 b3 b5]) (.ref (h.length+1) 0 1) (.func (.func 118) [rv] []) 1=some (h++[.cells 1 1 [rv],o4 rv true true,o3 b3 b5]):=by
   simp only [storeV,hg2]
   simp [objCells,o4,cellsV,isCell]
  simp [hs]
 | j+7,hj=>omega
theorem evaluation_q (h:Heap) (rb:Nat) (hp:plainH h):CC 100 [.ref rb 0 1] h (.ret (cloV (h.length+1) (h.length+3) h.length (h.length+2)))
  (h++[.cells 1 1 [.ref rb 0 1],.cells 1 1 [.func (.func 118) [.ref rb 0 1] []],.cells 1 27 opsL,.cells 1 1 [cloV (h.length+1) (h.length+3) h.length (h.length+2)]]):=by
 have hop:=ops_q
 rw [PC] at hop
 have hoc:∀ x y,objCells (h++[.cells 1 1 [.ref rb 0 1],x,y]) h.length=some (1,1,[.ref rb 0 1]):=fun x y=>by simp [objCells]
 have hset1:∀ x y z,(h++[Am.Obj.cells 1 1 [V.ref rb 0 1],x,y]).set (h.length+1) z=h++[.cells 1 1 [.ref rb 0 1],z,y]:=fun x y z=>by simp
 have hset2:∀ x y z,(h++[Am.Obj.cells 1 1 [V.ref rb 0 1],x,y]).set (h.length+2) z=h++[.cells 1 1 [.ref rb 0 1],x,z]:=fun x y z=>by simp
 have hh1:holeG 27 (h++[.cells 1 1 [.ref rb 0 1],.cells 0 1 [],.cells 0 27 []]) 0=some (h.length+2):=by
  rw [show h++[Am.Obj.cells 1 1 [V.ref rb 0 1],.cells 0 1 [],.cells 0 27 []]=(h++[.cells 1 1 [.ref rb 0 1],.cells 0 1 []])++[.cells 0 27 []] by simp,holeG_snoc]
  simp [holeB]
 have hh2:holeG 1 (h++[.cells 1 1 [.ref rb 0 1],.cells 0 1 [],.cells 1 27 nil27]) 0=some (h.length+1):=by
  rw [show h++[Am.Obj.cells 1 1 [V.ref rb 0 1],.cells 0 1 [],.cells 1 27 nil27]=((h++[.cells 1 1 [.ref rb 0 1]])++[.cells 0 1 []])++[.cells 1 27 nil27] by simp,holeG_snoc,holeG_snoc]
  simp [holeB]
 have s5:storeV (h++[.cells 1 1 [.ref rb 0 1],.cells 1 1 [.nilf],.cells 1 27 nil27]) (.ref (h.length+2) 0 1) (.agg opsL) 27=some (h++[.cells 1 1 [.ref rb 0 1],.cells 1 1 [.nilf],.cells 1 27 opsL]):=by
  simp [storeV,objCells,cellsV,opsL,isCell,splice]
 have s6:storeV (h++[.cells 1 1 [.ref rb 0 1],.cells 1 1 [.nilf],.cells 1 27 opsL]) (.ref (h.length+1) 0 1) (.func (.func 118) [.ref rb 0 1] []) 1=some (h++[.cells 1 1 [.ref rb 0 1],.cells 1 1 [.func (.func 118) [.ref rb 0 1] []],.cells 1 27 opsL]):=by
  simp [storeV,objCells,cellsV,isCell,splice]
 refine cc_of (af:=Trmm.a100) rfl rfl fun Q hQ => ?_
 simp only [Trmm.a100]
 simp [slotOf,WX_pre]
 refine WX_brt (c':=⟨[.ref rb 0 1,.ref h.length 0 1,.nilf,.ref (h.length+2) 0 1,.ref (h.length+1) 0 1,.undef],[],none,none,h++[.cells 1 1 [.ref rb 0 1],.cells 1 1 [.func (.func 118) [.ref rb 0 1] []],.cells 1 27 opsL]⟩)
  (env:=[.agg opsL,.ref rb 0 1,.func (.func 118) [.ref rb 0 1] [],.undef,.undef,.undef,.undef]) rfl ?_ ?_ ?_
 ·simp [hop,hoc,hh1,hh2,hset1,hset2,s5,s6,mkV,isCell,cellsV,-pcall,setSlot]
 ·refine brt_ok (I173 h (.ref rb 0 1)) ?_ (step173 h (.ref rb 0 1) rfl) _ _ _ _ ⟨false,false,false,false,false,false,false,rfl,by simp,by simp,rfl,rfl⟩ (by simp)
  rintro l env c ⟨b0,b1,b2,b3,b4,b5,b6,rfl,c5,c6,rfl,rfl⟩ hr
  have hall:b0=true∧b1=true∧b2=true∧b3=true∧b4=true∧b5=true∧b6=true:=by
   have n:=fun j=>ready_nil hr (j:=j)
   have h0:b0=true:=n 0 (by simp) (by simp)
   have h1:b1=true:=n 1 (by simp) (by simp)
   have h3:b3=true:=n 3 (by simp) (by simp)
   have h4:b4=true:=n 4 (by simp) (by simp)
   have h2:b2=true:=n 2 (by simp) (by simpa using h1)
   have h5:b5=true:=n 5 (by simp) (by simp [h0,h3,h4])
   exact ⟨h0,h1,h2,h3,h4,h5,n 6 (by simp) (by simp [h0,h1,h2,h3,h4,h5])⟩
  obtain ⟨rfl,rfl,rfl,rfl,rfl,rfl,rfl⟩:=hall
  have e1:eqL ([.agg opsL,.ref rb 0 1,.func (.func 118) [.ref rb 0 1] [],.undef,.undef,.undef,.undef]:List V) [.agg opsL,.ref rb 0 1,.func (.func 118) [.ref rb 0 1] [],.undef,.undef,.undef,.undef]=true:=eqL_self _ rfl
  simp only [if_true,e1,Bool.true_and]
  have e2:sameC ⟨[.ref rb 0 1,.ref h.length 0 1,.nilf,.ref (h.length+2) 0 1,.ref (h.length+1) 0 1,.undef],[],none,none,h++[.cells 1 1 [.ref rb 0 1],.cells 1 1 [.func (.func 118) [.ref rb 0 1] []],.cells 1 27 opsL]⟩
    ⟨[.ref rb 0 1,.ref h.length 0 1,.nilf,.ref (h.length+2) 0 1,.ref (h.length+1) 0 1,.undef],[],none,none,h++[.cells 1 1 [.ref rb 0 1],.cells 1 1 [.func (.func 118) [.ref rb 0 1] []],.cells 1 27 opsL]⟩=true:=by
   have e3:=eqH_self (h++[.cells 1 1 [.ref rb 0 1],.cells 1 1 [.func (.func 118) [.ref rb 0 1] []],.cells 1 27 opsL]) fun o ho=>by
    rcases List.mem_append.1 ho with ho | ho
    ·exact eqObj_self o (hp o ho)
    ·simp only [List.mem_cons,List.not_mem_nil,or_false] at ho
     rcases ho with rfl | rfl | rfl <;> exact eqObj_self _ rfl
   simp only [sameC,e3,eqDs,eqL_self _ (show plainFL [.ref rb 0 1,.ref h.length 0 1,.nilf,.ref (h.length+2) 0 1,.ref (h.length+1) 0 1,.undef]=true from rfl),Bool.and_self]
  exact e2
 ·simp [slotOf,objCells,storeV,mkV,isCell,cellsV,splice]
  exact hQ
end Go.Proofs.Mm
set_option linter.unusedVariables false
set_option linter.unusedSimpArgs false
set_option maxHeartbeats 1000000
namespace Go.Proofs.Mm
open Go Go.Am
inductive Ex where
 | mk (op n m:Int) (v:V) (l:List Ex)
 deriving Inhabited
namespace Ex
def cs:Ex→List V | mk o n m v _=>[.int .i64 o,.int .i64 n,.int .i64 m,v]
@[simp] theorem cs_length (t:Ex):t.cs.length=4:=by cases t; rfl
@[simp] theorem cs_take (t:Ex):t.cs.take 4=t.cs:=by cases t; rfl
inductive Ok:Ex→Prop
 | mk (o n m:Int) (v:V) (l:List Ex) (ho:is64 o) (hn:is64 n) (hm:is64 m) (hv:SlV (l.map cs) v) (hl:∀ x∈l,Ok x):Ok (.mk o n m v l)
theorem Ok.inv {o n m:Int} {v:V} {l:List Ex} (h:Ok (.mk o n m v l)):is64 o∧is64 n∧is64 m∧SlV (l.map cs) v∧∀ x∈l,Ok x:=by
 cases h with
 | mk _ _ _ _ _ a b c d e=>exact ⟨a,b,c,d,e⟩
theorem ind {P:Ex→Prop} (h:∀ o n m v l,(∀ x∈l,P x)→P (.mk o n m v l)):∀ t,P t
 | .mk o n m v l=>h o n m v l fun x hx=>ind h x
termination_by t=>SizeOf.sizeOf t
decreasing_by
 have:=List.sizeOf_lt_of_mem hx
 simp only [mk.sizeOf_spec]
 omega
mutual
def size:Ex→Nat
 | .mk _ _ _ _ l=>1+sizeL l
def sizeL:List Ex→Nat
 | []=>0
 | t :: ts=>size t+sizeL ts
end
mutual
def nt (i:Nat):Ex→NT
 | .mk o n m _ l => .mk i o n m (ntL (i+1) l)
def ntL (i:Nat):List Ex→List NT
 | []=>[]
 | t :: ts=>nt i t :: ntL (i+size t) ts
end
theorem sizeL_append (a b:List Ex):sizeL (a++b)=sizeL a+sizeL b:=by
 induction a with
 | nil=>simp [sizeL]
 | cons t ts ih=>simp only [List.cons_append,sizeL,ih]; omega
theorem sizeL_take {l:List Ex} {i:Nat} (h:i<l.length):sizeL (l.take (i+1))=sizeL (l.take i)+l[i].size:=by
 rw [← List.take_append_getElem h,sizeL_append]; simp [sizeL]
theorem size_pos (t:Ex):1≤t.size:=by cases t; simp only [size]; omega
theorem sizeL_length:∀ l:List Ex,l.length≤sizeL l
 | []=>by simp [sizeL]
 | t :: ts=>by have:=sizeL_length ts; have:=size_pos t; simp only [sizeL,List.length_cons]; omega
theorem sizeL_mem:∀ {l:List Ex} {t:Ex},t∈l→t.size≤sizeL l
 | u :: us,t,h=>by
  simp only [sizeL]
  rcases List.mem_cons.1 h with rfl | h
  ·omega
  ·have:=sizeL_mem h; omega
theorem sizeL_take_le {l:List Ex} (i:Nat):sizeL (l.take i)≤sizeL l:=by
 have:=sizeL_append (l.take i) (l.drop i)
 rw [List.take_append_drop] at this
 omega
theorem ntL_length:∀ (i:Nat) (l:List Ex),(ntL i l).length=l.length
 | i,[]=>rfl
 | i,t :: ts=>by simp [ntL,ntL_length]
theorem ntL_get:∀ {i:Nat} {l:List Ex} {k:Nat} (h:k<(ntL i l).length) (h2:k<l.length),(ntL i l)[k]=nt (i+sizeL (l.take k)) l[k]
 | i,[],k,h,h2=>by simp at h2
 | i,t :: ts,0,h,h2=>by simp [ntL,sizeL]
 | i,t :: ts,k+1,h,h2=>by
  simp only [ntL,List.getElem_cons_succ,List.take_succ_cons,sizeL]
  rw [ntL_get (h2:=by simpa using h2)]
  congr 1
  omega
end Ex
theorem idx_ex {l:List Ex} {v:V} (hv:SlV (l.map Ex.cs) v) {i:Nat} (hi:i<l.length):idxV v i 4=some (.pv l[i].cs):=by
 rw [hv.idx]
 simp [hi]
theorem len_ex {l:List Ex} {v:V} (hv:SlV (l.map Ex.cs) v):lenV v=some (.int .i64 l.length):=by
 rw [hv.len]; simp
theorem cells_ex {t:Ex} (ho:t.Ok):t.cs.all isCell=true:=by
 cases t with
 | mk a b c d e =>
  have hcc:=ho.inv.2.2.2.1.cell
  simp only [Ex.cs,List.all_cons,List.all_nil,hcc]
  rfl
abbrev runCells (fv rts:V) (many left steps:Int) (mb:Nat):List V:=[fv,rts,.int .i64 many,.int .i64 left,.int .i64 steps,.map mb]
theorem plainFLL_mem:∀ {es:List (List V)},(∀ e∈es,plainFL e=true)→plainFLL es=true
 | [],_=>rfl
 | e :: es,h=>by rw [plainFLL,h e (List.mem_cons_self ..),plainFLL_mem (es:=es) fun x hx=>h x (List.mem_cons_of_mem _ hx)]; rfl
theorem plain_ex:∀ {t:Ex},t.Ok→plainFL t.cs=true:=by
 intro t
 induction t using Ex.ind with
 | h o n m v l ih =>
 intro ho
 obtain ⟨_,_,_,hv,hl⟩:=ho.inv
 have:plainF v=true:=by
  cases hv with
  | nil h=>rfl
  | sv ex =>
   rw [plainF]
   refine plainFLL_mem fun e he => ?_
   obtain ⟨u,hu,rfl⟩:=List.mem_map.1 he
   exact ih u hu (hl u hu)
 simp [Ex.cs,plainFL,plainF,this]
theorem plainFL_append:∀ {a b:List V},plainFL a=true→plainFL b=true→plainFL (a++b)=true
 | [],b,_,h=>h
 | x :: xs,b,h1,h2=>by
  simp only [plainFL,Bool.and_eq_true] at h1
  simp [plainFL,h1.1,plainFL_append h1.2 h2]
variable {H:Heap}
theorem OwnL.plain {base:Nat} {v:V} {l:List V} (h:OwnL base H v l):plainF v=true:=by cases h <;> rfl
theorem OwnL.app3 {base:Nat} {H:Heap} {v y x:V} {l:List V} (h:OwnL base H v l) (hb:base≤H.length) {bytes:Nat} (hy:sliceLen y=some 1) (hy2:sliceCells H y=some [x]) (hr:(l.length+1) * bytes≤room) (hp:plainH H) (hx:plainF x=true) :
  ∃ v' H',appV H v y 1 bytes=some (v',H')∧OwnL base H' v' (l++[x])∧H.length≤H'.length∧(∀ b,b<H.length→¬ OB v b→H'[b]?=H[b]?)∧(∀ b,OB v' b→OB v b∨H.length≤b)∧plainH H':=by
 cases h with
 | nil =>
  simp only [List.length_nil,Nat.zero_add] at hr
  refine ⟨.sl H.length 0 1 1 1 false,H++[.cells 1 1 [x]],?_,OwnL.sl H.length [x] hb (obj_last H 1 1 [x]),by simp,fun a ha _=>List.getElem?_append_left ha,fun b hb => .inr (by rw [hb.sl]; exact Nat.le_refl _),hp.app (plainH.one (by simp [plainFL,hx]))⟩
  simp [appV,hy,hy2]
  simpa using hr
 | sl b l hb' ho =>
  have hlt:=objCells_lt ho
  refine ⟨_,_,appV_own (objCells_at ho) hy hy2 (by simp) hr,?_,by simp,fun a ha hn => ?_,fun a ha => .inl (by rw [ha.sl]; exact ⟨_,_,_,_,_,rfl⟩),hp.set (plainFL_append (hp.at ho) (by simp [plainFL,hx]))⟩
  ·have:=OwnL.sl (base:=base) (H:=H.set b (.cells (l.length+1) 1 (l++[x]))) b (l++[x]) hb' (by simpa using objCells_set hlt (l.length+1) 1 (l++[x]))
   simpa using this
  ·have:b≠a:=by rintro rfl; exact hn ⟨_,_,_,_,_,rfl⟩
   rw [List.getElem?_set_ne this]
theorem walk_q:∀ e:Ex,e.Ok→e.size<2 ^ 40→∀ (H:Heap) (rv wv rb mb i:Nat) (fv rts:V) (left steps:Int),i+e.size<2 ^ 41→objCells H rv=some (1,1,[.ref rb 0 1])→objCells H wv=some (1,1,[.func (.func 83) [] [.ref rv 0 1,.ref wv 0 1]])→objCells H rb=some (1,6,runCells fv rts i left steps mb) →
  rv≠rb→wv≠rb→isCell fv=true→isCell rts=true→plainH H →
  ∃ H',CC 83 [.agg e.cs,.ref rv 0 1,.ref wv 0 1] H (.ret (.ref H.length 0 1)) H'∧H.length<H'.length∧(∀ a,a<H.length→a≠rb→H'[a]?=H[a]?)∧objCells H' rb=some (1,6,runCells fv rts ((i+e.size:Nat):Int) left steps mb) ∧
   RN (fun a=>H.length≤a∧a<H'.length) H' (e.nt i) H.length∧plainH H':=by
 intro e
 induction e using Ex.ind with
 | h o n m v l ih =>
 intro hok hsz H rv wv rb mb i fv rts left steps hi hrv hwv hrb hne1 hne2 hfc hrc hpl
 obtain ⟨_,_,_,hv,hl⟩:=hok.inv
 have hlv:=len_ex hv
 simp only [Ex.size] at hsz hi
 have hll:=Ex.sizeL_length l
 have hplx:=plain_ex hok
 have hvp:plainF v=true:=by
  simp only [Ex.cs,plainFL,Bool.and_eq_true] at hplx
  exact hplx.2.2.2.1
 have rvl:=objCells_lt hrv
 have wvl:=objCells_lt hwv
 have rbl:=objCells_lt hrb
 -- the node and the run
 let N:V→Am.Obj:=fun kv => .cells 1 6 [.int .i64 o,.int .i64 n,.int .i64 m,v,.int .i64 i,kv]
 let H1:Heap:=H++[N .nils]
 let H2:Heap:=H1.set rb (.cells 1 6 (runCells fv rts ((i+1:Nat):Int) left steps mb))
 have h1l:H1.length=H.length+1:=by simp [H1]
 have h2l:H2.length=H.length+1:=by simp [H2,h1l]
 have old2:∀ a,a<H.length→a≠rb→H2[a]?=H[a]?:=fun a ha hr=>by
  simp only [H2]
  rw [List.getElem?_set_ne (Ne.symm hr)]
  exact List.getElem?_append_left ha
 have n2:objCells H2 H.length=some (1,6,[.int .i64 o,.int .i64 n,.int .i64 m,v,.int .i64 i,.nils]):=by
  simp only [H2]
  rw [objCells_ne (by omega)]
  exact obj_last _ _ _ _
 have r2:objCells H2 rb=some (1,6,runCells fv rts ((i+1:Nat):Int) left steps mb):=objCells_set (by omega) _ _ _
 have hfp:plainFL (runCells fv rts (i:Int) left steps mb)=true:=hpl.at hrb
 have hfp2:plainF fv=true∧plainF rts=true:=by
  simp only [runCells,plainFL,Bool.and_eq_true] at hfp
  exact ⟨hfp.1,hfp.2.1⟩
 have p2:plainH H2:=(hpl.app (plainH.one (by simp [plainFL,plainF,hvp]))).set (by simp [runCells,plainFL,plainF,hfp2.1,hfp2.2])
 have hrb1:objCells H1 rb=some (1,6,runCells fv rts (i:Int) left steps mb):=(objCells_same (List.getElem?_append_left rbl)).trans hrb
 have hrv1:objCells H1 rv=some (1,1,[.ref rb 0 1]):=(objCells_same (List.getElem?_append_left rvl)).trans hrv
 have w1:IntKind.i64.wrap ((i:Int)+1)=(i:Int)+1:=wrap64 (by omega) (by omega)
 have st2:storeV H1 (.ref rb 2 1) (.int .i64 ((i:Int)+1)) 1=some H2:=by
  simp only [storeV,hrb1,runCells,cellsV,true_and]
  rw [if_pos ⟨by simp,rfl,rfl⟩]
  rfl
 have hvc:=hv.cell
 have eH1:H++[Am.Obj.cells 1 6 [.int .i64 o,.int .i64 n,.int .i64 m,v,.int .i64 i,.nils]]=H1:=rfl
 have key:CallP gl Trmm.aprog 83 [.agg (Ex.mk o n m v l).cs,.ref rv 0 1,.ref wv 0 1] H (fun r H'=>r = .ret (.ref H.length 0 1)∧H.length<H'.length∧(∀ a,a<H.length→a≠rb→H'[a]?=H[a]?)∧objCells H' rb=some (1,6,runCells fv rts ((i+(1+Ex.sizeL l):Nat):Int) left steps mb) ∧
   RN (fun a=>H.length≤a∧a<H'.length) H' (.mk i o n m (Ex.ntL (i+1) l)) H.length∧plainH H'):=by
  refine call_ofQ (af:=Trmm.a83) rfl rfl fun Q hQ => ?_
  clear_value H1 H2
  simp only [Trmm.a83]
  simp [slotOf,Ex.cs,hvc,hrv,hrb,runCells,mkV,fill,eH1,hrv1,hrb1,w1,st2,hlv]
  refine loop_nQ l.length (fun k c=>∃ Hk kv refs s6 fl,H.length+1≤Hk.length∧objCells Hk H.length=some (1,6,[.int .i64 o,.int .i64 n,.int .i64 m,v,.int .i64 i,kv])∧OwnL (H.length+1) Hk kv refs∧refs.length=k ∧
   (∀ j,∀ hj:j<l.length,j<k→∃ b,refs[j]?=some (.ref b 0 1)∧RN (fun a=>H.length<a∧a<Hk.length∧¬ OB kv a) Hk (l[j].nt (i+1+Ex.sizeL (l.take j))) b)∧(∀ a,a<H.length→a≠rb→Hk[a]?=H[a]?) ∧
   objCells Hk rb=some (1,6,runCells fv rts ((i+1+Ex.sizeL (l.take k):Nat):Int) left steps mb)∧plainH Hk ∧
   c=⟨[.agg [.int .i64 o,.int .i64 n,.int .i64 m,v],.ref rv 0 1,.ref wv 0 1,.agg [.int .i64 o,.int .i64 n,.int .i64 m,v],.nilp,.ref H.length 0 1,s6,v,.int .i64 l.length,.int .i64 k],[],fl,none,Hk⟩) ?_
   ⟨H2,.nils,[],.undef,none,by omega,n2,.nil,rfl,fun j _ hj=>by omega,old2,by simpa [Ex.sizeL] using r2,p2,by simp⟩
  rintro I hI k c hkl ⟨Hk,kv,refs,s6,fl,hHl,hnk,how,hrl,hkids,hold,hrk,hpk,rfl⟩
  by_cases hlt:k<l.length
  ·have hlt':(k:Int)<l.length:=by omega
   have hi1:=idx_ex hv hlt
   have hm:=List.getElem_mem hlt
   have hst:=Ex.sizeL_take hlt
   have hsle:=Ex.sizeL_take_le (l:=l) (k+1)
   have hsm:=Ex.sizeL_mem hm
   have rvk:objCells Hk rv=some (1,1,[.ref rb 0 1]):=(objCells_same (hold rv rvl hne1)).trans hrv
   have wvk:objCells Hk wv=some (1,1,[.func (.func 83) [] [.ref rv 0 1,.ref wv 0 1]]):=(objCells_same (hold wv wvl hne2)).trans hwv
   obtain ⟨H3,hc3,hl3,ho3,hr3,hn3,hp3⟩:=ih l[k] hm (hl _ hm) (by omega) Hk rv wv rb mb (i+1+Ex.sizeL (l.take k)) fv rts left steps (by omega) rvk wvk hrk hne1 hne2 hfc hrc hpk
   rw [CC] at hc3
   have hcl:=Ex.cs_length l[k]
   have hct:=Ex.cs_take l[k]
   have hcc:=cells_ex (hl _ hm)
   have how3:OwnL (H.length+1) H3 kv refs:=how.same fun b hb=>objCells_same (ho3 b (how.ob hb).2 (by have:=(how.ob hb).1; omega))
   have hnk3:objCells H3 H.length=some (1,6,[.int .i64 o,.int .i64 n,.int .i64 m,v,.int .i64 i,kv]):=(objCells_same (ho3 _ (by omega) (by omega))).trans hnk
   obtain ⟨kv',H4,ha,how4,hl4,hs4,hob4,hp4⟩:=how3.app3 (y:=.vs [.ref Hk.length 0 1] 1 1) (x:=.ref Hk.length 0 1) (bytes:=8) (by omega) rfl rfl (by simp only [room]; omega) hp3 rfl
   have hnob:∀ a,a<H.length+1→¬ OB kv a:=fun a ha h=>by have:=(how.ob h).1; omega
   have hn4:objCells H4 H.length=some (1,6,[.int .i64 o,.int .i64 n,.int .i64 m,v,.int .i64 i,kv]):=(objCells_same (hs4 _ (by omega) (hnob _ (by omega)))).trans hnk3
   let H5:Heap:=H4.set H.length (N kv')
   have st5:storeV H4 (.ref H.length 5 1) kv' 1=some H5:=by
    have hkc:=cellsV_cell how4.cell
    simp only [storeV,hn4,hkc,true_and]
    rw [if_pos ⟨by simp,rfl,by simp [how4.cell]⟩]
    rfl
   have ekv:=how.eqv
   have w5:IntKind.i64.wrap ((k:Int)+1)=(k:Int)+1:=wrap64 (by omega) (by omega)
   have s5:∀ a,a≠H.length→H5[a]?=H4[a]?:=fun a ha=>List.getElem?_set_ne (Ne.symm ha)
   have hpkv:plainF kv'=true:=how4.plain
   have hp5:plainH H5:=hp4.set (by simp [plainFL,plainF,hvp,hpkv])
   have h5l:H5.length=H4.length:=by simp [H5]
   have n5:objCells H5 H.length=some (1,6,[.int .i64 o,.int .i64 n,.int .i64 m,v,.int .i64 i,kv']):=objCells_set (by omega) _ _ _
   have ow5:OwnL (H.length+1) H5 kv' (refs++[.ref Hk.length 0 1]):=how4.same fun b hb=>objCells_same (s5 b (by have:=(how4.ob hb).1; omega))
   clear_value H5
   generalize hx:l[k]=x at *
   simp [slotOf,hlt',hi1,hcl,hct,hcc,wvk,hnk,hnk3,hc3,ha,st5,ekv,w5,fill,callee,ecallF,mkV,-List.all_eq_true]
   refine ⟨hlt,hI _ _ ⟨H5,kv',refs++[.ref Hk.length 0 1],.agg x.cs,none,by omega,n5,ow5,by simp [hrl],fun j hj hjk => ?_,fun a ha hr => ?_,?_,hp5,by simp⟩⟩
   ·by_cases hjk':j<k
    ·obtain ⟨b,hb,hn⟩:=hkids j hj hjk'
     refine ⟨b,by rw [List.getElem?_append_left (by omega)]; exact hb,hn.mono (fun a ⟨a1,a2,a3⟩=>⟨a1,by omega,fun h => ?_⟩) fun a ⟨a1,a2,a3⟩ => ?_⟩
     ·rcases hob4 a h with h | h
      ·exact a3 h
      ·omega
     ·refine objCells_same ?_
      rw [s5 a (by omega),hs4 a (by omega) a3,ho3 a a2 (by omega)]
    ·obtain rfl:j=k:=by omega
     refine ⟨Hk.length,by simp [hrl],?_⟩
     rw [hx]
     refine hn3.mono (fun a ⟨a1,a2⟩=>⟨by omega,by omega,fun h => ?_⟩) fun a ⟨a1,a2⟩ => ?_
     ·rcases hob4 a h with h | h
      ·have:=(how.ob h).2; omega
      ·omega
     ·refine objCells_same ?_
      rw [s5 a (by omega),hs4 a a2 (fun h=>by have:=(how.ob h).2; omega)]
   ·rw [s5 a (by omega),hs4 a (by omega) (hnob a (by omega)),ho3 a (by omega) hr,hold a ha hr]
   ·rw [objCells_same (s5 rb (by omega)),objCells_same (hs4 rb (by omega) (hnob rb (by omega))),hr3,hst]
    congr 5
    omega
  ·obtain rfl:k=l.length:=by omega
   simp [slotOf]
   refine hQ _ _ ⟨rfl,by omega,hold,?_,?_,hpk⟩
   ·rw [List.take_length] at hrk
    rw [hrk]
    congr 5
    omega
   ·obtain ⟨bs,hbs⟩:=Classical.axiomOfChoice (r:=fun (j b:Nat)=>∀ hj:j<l.length,refs[j]?=some (.ref b 0 1)∧RN (fun a=>H.length<a∧a<Hk.length∧¬ OB kv a) Hk (l[j].nt (i+1+Ex.sizeL (l.take j))) b) (by
     intro j
     by_cases hj:j<l.length
     ·obtain ⟨b,h1,h2⟩:=hkids j hj hj
      exact ⟨b,fun _=>⟨h1,h2⟩⟩
     ·exact ⟨0,fun h=>absurd h hj⟩)
    refine .mk H.length i o n m _ v kv refs bs ⟨Nat.le_refl _,by omega⟩ hnk (how.rsl fun b h1 h2=>⟨by omega,h2⟩) (by rw [Ex.ntL_length,hrl]) (fun j hj => ?_) (fun j hj => ?_)
    ·rw [Ex.ntL_length] at hj
     exact (hbs j hj).1
    ·have hj2:=hj
     rw [Ex.ntL_length] at hj2
     rw [Ex.ntL_get hj hj2]
     exact (hbs j hj2).2.mono (fun a ⟨a1,a2,a3⟩=>⟨by omega,a2⟩) Agr.refl
 obtain ⟨r,H',e,rfl,h1,h2,h3,h4,h5⟩:=OptP.ex key
 exact ⟨H',e,h1,h2,by simpa [Ex.size] using h3,by simpa [Ex.nt] using h4,h5⟩
end Go.Proofs.Mm
set_option linter.unusedVariables false
set_option linter.unusedSimpArgs false
set_option maxHeartbeats 1000000
namespace Go.Proofs.Mm
open Go Go.Am
structure Fn where
 name:ByteArray
 par:Int
 body:Ex
def Fn.cs (f:Fn):List V:=.str f.name :: .int .i64 f.par :: f.body.cs
@[simp] theorem Fn.cs_length (f:Fn):f.cs.length=6:=by simp [Fn.cs]
@[simp] theorem Fn.cs_take (f:Fn):f.cs.take 6=f.cs:=by rw [← Fn.cs_length f]; exact List.take_length
def Fn.Ok (f:Fn):Prop:=is64 f.par∧f.body.Ok
def szFn:List Fn→Nat
 | []=>0
 | f :: fs=>f.body.size+szFn fs
def pgN (i:Nat):List Fn→Pg
 | []=>[]
 | f :: fs=>(f.par,f.body.nt i) :: pgN (i+f.body.size) fs
theorem szFn_append (a b:List Fn):szFn (a++b)=szFn a+szFn b:=by
 induction a with
 | nil=>simp [szFn]
 | cons t ts ih=>simp only [List.cons_append,szFn,ih]; omega
theorem szFn_take {l:List Fn} {i:Nat} (h:i<l.length):szFn (l.take (i+1))=szFn (l.take i)+l[i].body.size:=by
 rw [← List.take_append_getElem h,szFn_append]; simp [szFn]
theorem szFn_length:∀ l:List Fn,l.length≤szFn l
 | []=>by simp [szFn]
 | t :: ts=>by have:=szFn_length ts; have:=t.body.size_pos; simp only [szFn,List.length_cons]; omega
theorem szFn_mem:∀ {l:List Fn} {t:Fn},t∈l→t.body.size≤szFn l
 | u :: us,t,h=>by
  simp only [szFn]
  rcases List.mem_cons.1 h with rfl | h
  ·omega
  ·have:=szFn_mem h; omega
theorem szFn_take_le {l:List Fn} (i:Nat):szFn (l.take i)≤szFn l:=by
 have:=szFn_append (l.take i) (l.drop i)
 rw [List.take_append_drop] at this
 omega
@[simp] theorem pgN_length:∀ (i:Nat) (l:List Fn),(pgN i l).length=l.length
 | i,[]=>rfl
 | i,t :: ts=>by simp [pgN,pgN_length]
theorem pgN_get:∀ {i:Nat} {l:List Fn} {k:Nat} (h:k<(pgN i l).length) (h2:k<l.length),(pgN i l)[k]=(l[k].par,l[k].body.nt (i+szFn (l.take k)))
 | i,[],k,h,h2=>by simp at h2
 | i,t :: ts,0,h,h2=>by simp [pgN,szFn]
 | i,t :: ts,k+1,h,h2=>by
  simp only [pgN,List.getElem_cons_succ,List.take_succ_cons,szFn]
  rw [pgN_get (h2:=by simpa using h2)]
  congr 2
  omega
theorem idx_fn {l:List Fn} {v:V} (hv:SlV (l.map Fn.cs) v) {i:Nat} (hi:i<l.length):idxV v i 6=some (.pv l[i].cs):=by
 rw [hv.idx]
 simp [hi]
theorem cells_fn {t:Fn} (ho:t.Ok):t.cs.all isCell=true:=by
 have:=cells_ex ho.2
 simp only [Fn.cs,List.all_cons,this]
 rfl
theorem plain_fn {t:Fn} (ho:t.Ok):plainFL t.cs=true:=by
 have:=plain_ex ho.2
 simp [Fn.cs,plainFL,plainF,this]
theorem plain_fns {l:List Fn} {v:V} (hv:SlV (l.map Fn.cs) v) (ho:∀ f∈l,f.Ok):plainF v=true:=by
 cases hv with
 | nil h=>rfl
 | sv ex =>
  rw [plainF]
  refine plainFLL_mem fun e he => ?_
  obtain ⟨u,hu,rfl⟩:=List.mem_map.1 he
  exact plain_fn (ho u hu)
theorem begun_q {fs:List Fn} {fv:V} (hv:SlV (fs.map Fn.cs) fv) (hok:∀ f∈fs,f.Ok) (hsz:szFn fs<2 ^ 40) (main left:Int) (H:Heap) (hpl:plainH H) :
  ∃ H' rts refs,CC 58 [.agg [fv,.int .i64 main],.int .i64 left] H (.ret (.ref (H.length+1) 0 1)) H'∧H.length+2≤H'.length∧(∀ a,a<H.length→H'[a]?=H[a]?) ∧
   objCells H' (H.length+1)=some (1,6,[fv,rts,.int .i64 (szFn fs),.int .i64 left,.int .i64 0,.map H.length])∧H'[H.length]?=some (.map []) ∧
   RSl (fun a=>H.length+1<a∧a<H'.length) H' rts refs∧refs.length=fs.length∧(∀ x∈refs,eqV x x=true) ∧
   (∀ j,∀ hj:j<fs.length,∃ b,refs[j]?=some (.ref b 0 1)∧RN (fun a=>H.length+1<a∧a<H'.length) H' (fs[j].body.nt (szFn (fs.take j))) b)∧plainH H':=by
 have hlv:lenV fv=some (.int .i64 fs.length):=by rw [hv.len]; simp
 have hll:=szFn_length fs
 have hvc:=hv.cell
 have hvp:=plain_fns hv hok
 have hvcs:=cellsV_cell hvc
 let X:V→Int→V→Am.Obj:=fun a n b => .cells 1 6 [fv,b,.int .i64 n,.int .i64 left,.int .i64 0,.map H.length]
 let H1:Heap:=H++[.map [],.cells 1 6 (runCells fv .nils 0 left 0 H.length),.cells 1 1 [.ref (H.length+1) 0 1],.cells 1 1 [.func (.func 83) [] [.ref (H.length+2) 0 1,.ref (H.length+3) 0 1]]]
 have h1l:H1.length=H.length+4:=by simp [H1]
 have r1:objCells H1 (H.length+1)=some (1,6,runCells fv .nils 0 left 0 H.length):=by simp [H1,objCells]
 have v1:objCells H1 (H.length+2)=some (1,1,[.ref (H.length+1) 0 1]):=by simp [H1,objCells]
 have w1:objCells H1 (H.length+3)=some (1,1,[.func (.func 83) [] [.ref (H.length+2) 0 1,.ref (H.length+3) 0 1]]):=by simp [H1,objCells]
 have m1:H1[H.length]?=some (.map []):=by simp [H1]
 have old1:∀ a,a<H.length→H1[a]?=H[a]?:=fun a ha=>List.getElem?_append_left ha
 have p1:plainH H1:=hpl.app fun o ho=>by
  simp only [List.mem_cons,List.not_mem_nil,or_false] at ho
  rcases ho with rfl | rfl | rfl | rfl
  ·rfl
  ·simp [plainO,runCells,plainFL,plainF,hvp]
  ·rfl
  ·rfl
 have s1:storeV (H++[.map [],.cells 1 6 (runCells fv .nils 0 left 0 H.length),.cells 1 1 [.nilp]]) (.ref (H.length+2) 0 1) (.ref (H.length+1) 0 1) 1=some (H++[.map [],.cells 1 6 (runCells fv .nils 0 left 0 H.length),.cells 1 1 [.ref (H.length+1) 0 1]]):=by
  simp [storeV,objCells,isCell,cellsV,splice]
 have s2:storeV (H++[.map [],.cells 1 6 (runCells fv .nils 0 left 0 H.length),.cells 1 1 [.ref (H.length+1) 0 1],.cells 1 1 [.nilf]]) (.ref (H.length+3) 0 1) (.func (.func 83) [] [.ref (H.length+2) 0 1,.ref (H.length+3) 0 1]) 1=some H1:=by
  simp [storeV,objCells,isCell,cellsV,splice,H1]
 have key:CallP gl Trmm.aprog 58 [.agg [fv,.int .i64 main],.int .i64 left] H (fun r H'=>r = .ret (.ref (H.length+1) 0 1)∧∃ rts refs,H.length+2≤H'.length∧(∀ a,a<H.length→H'[a]?=H[a]?) ∧
   objCells H' (H.length+1)=some (1,6,[fv,rts,.int .i64 (szFn fs),.int .i64 left,.int .i64 0,.map H.length])∧H'[H.length]?=some (.map []) ∧
   RSl (fun a=>H.length+1<a∧a<H'.length) H' rts refs∧refs.length=fs.length∧(∀ x∈refs,eqV x x=true) ∧
   (∀ j,∀ hj:j<fs.length,∃ b,refs[j]?=some (.ref b 0 1)∧RN (fun a=>H.length+1<a∧a<H'.length) H' (fs[j].body.nt (szFn (fs.take j))) b)∧plainH H'):=by
  refine call_ofQ (af:=Trmm.a58) rfl rfl fun Q hQ => ?_
  clear_value H1
  simp only [Trmm.a58]
  simp [slotOf,hvc,hvcs,mkV,fill,s1,s2,hlv]
  refine loop_nQ fs.length (fun k c=>∃ Hk kv refs s2 s6 fl,H.length+4≤Hk.length∧OwnL (H.length+4) Hk kv refs∧refs.length=k ∧
   (∀ j,∀ hj:j<fs.length,j<k→∃ b,refs[j]?=some (.ref b 0 1)∧RN (fun a=>H.length+3<a∧a<Hk.length∧¬ OB kv a) Hk (fs[j].body.nt (szFn (fs.take j))) b)∧(∀ a,a<H.length+4→a≠H.length+1→Hk[a]?=H1[a]?) ∧
   objCells Hk (H.length+1)=some (1,6,runCells fv kv ((szFn (fs.take k):Nat):Int) left 0 H.length)∧plainH Hk ∧
   c=⟨[.agg [fv,.int .i64 main],.int .i64 left,s2,.nilp,.ref (H.length+2) 0 1,.ref (H.length+3) 0 1,s6,fv,.int .i64 fs.length,.int .i64 k],[],fl,none,Hk⟩) ?_
   ⟨H1,.nils,[],.agg [fv,.int .i64 main],.undef,none,by omega,.nil,rfl,fun j _ hj=>by omega,fun _ _ _=>rfl,by simpa [szFn] using r1,p1,by simp⟩
  rintro I hI k c hkl ⟨Hk,kv,refs,s2,s6,fl,hHl,how,hrl,hkids,hold,hrk,hpk,rfl⟩
  have ekv:=how.eqv
  by_cases hlt:k<fs.length
  ·have hlt':(k:Int)<fs.length:=by omega
   have hi1:=idx_fn hv hlt
   have hm:=List.getElem_mem hlt
   have hst:=szFn_take hlt
   have hsle:=szFn_take_le (l:=fs) (k+1)
   have hsm:=szFn_mem hm
   have rvk:objCells Hk (H.length+2)=some (1,1,[.ref (H.length+1) 0 1]):=(objCells_same (hold _ (by omega) (by omega))).trans v1
   have wvk:objCells Hk (H.length+3)=some (1,1,[.func (.func 83) [] [.ref (H.length+2) 0 1,.ref (H.length+3) 0 1]]):=(objCells_same (hold _ (by omega) (by omega))).trans w1
   obtain ⟨H3,hc3,hl3,ho3,hr3,hn3,hp3⟩:=walk_q fs[k].body (hok _ hm).2 (by omega) Hk (H.length+2) (H.length+3) (H.length+1) H.length (szFn (fs.take k)) fv kv left 0 (by omega) rvk wvk hrk (by omega) (by omega) hvc how.cell hpk
   rw [CC] at hc3
   have hcl:=Fn.cs_length fs[k]
   have hct:=Fn.cs_take fs[k]
   have hcc:=cells_fn (hok _ hm)
   have hbl:=Ex.cs_length fs[k].body
   have hbc:=cells_ex (hok _ hm).2
   have hbt:=Ex.cs_take fs[k].body
   have how3:OwnL (H.length+4) H3 kv refs:=how.same fun b hb=>objCells_same (ho3 b (how.ob hb).2 (by have:=(how.ob hb).1; omega))
   have rv3:objCells H3 (H.length+2)=some (1,1,[.ref (H.length+1) 0 1]):=(objCells_same (ho3 _ (by omega) (by omega))).trans rvk
   obtain ⟨kv',H4,ha,how4,hl4,hs4,hob4,hp4⟩:=how3.app3 (y:=.vs [.ref Hk.length 0 1] 1 1) (x:=.ref Hk.length 0 1) (bytes:=8) (by omega) rfl rfl (by simp only [room]; omega) hp3 rfl
   have hnob:∀ a,a<H.length+4→¬ OB kv a:=fun a ha h=>by have:=(how.ob h).1; omega
   have rv4:objCells H4 (H.length+2)=some (1,1,[.ref (H.length+1) 0 1]):=(objCells_same (hs4 _ (by omega) (hnob _ (by omega)))).trans rv3
   have hr4:objCells H4 (H.length+1)=some (1,6,runCells fv kv ((szFn (fs.take k)+fs[k].body.size:Nat):Int) left 0 H.length):=(objCells_same (hs4 _ (by omega) (hnob _ (by omega)))).trans hr3
   let H5:Heap:=H4.set (H.length+1) (.cells 1 6 (runCells fv kv' ((szFn (fs.take k)+fs[k].body.size:Nat):Int) left 0 H.length))
   have st5:storeV H4 (.ref (H.length+1) 1 1) kv' 1=some H5:=by
    have hkc:=cellsV_cell how4.cell
    simp only [storeV,hr4,hkc,runCells,true_and]
    rw [if_pos ⟨by simp,rfl,by simp [how4.cell]⟩]
    rfl
   have w5:IntKind.i64.wrap ((k:Int)+1)=(k:Int)+1:=wrap64 (by omega) (by omega)
   have s5:∀ a,a≠H.length+1→H5[a]?=H4[a]?:=fun a ha=>List.getElem?_set_ne (Ne.symm ha)
   have hpkv:plainF kv'=true:=how4.plain
   have hp5:plainH H5:=hp4.set (by simp [runCells,plainFL,plainF,hvp,hpkv])
   have h5l:H5.length=H4.length:=by simp [H5]
   have r5:objCells H5 (H.length+1)=some (1,6,runCells fv kv' ((szFn (fs.take (k+1)):Nat):Int) left 0 H.length):=by
    rw [hst]
    exact objCells_set (by omega) _ _ _
   have ow5:OwnL (H.length+4) H5 kv' (refs++[.ref Hk.length 0 1]):=how4.same fun b hb=>objCells_same (s5 b (by have:=(how4.ob hb).1; omega))
   clear_value H5
   generalize hx:fs[k]=x at *
   have hcs:x.cs = .str x.name :: .int .i64 x.par :: x.body.cs:=rfl
   have hrk':objCells Hk (H.length+1)=some (1,6,[fv,kv,.int .i64 (szFn (fs.take k)),.int .i64 left,.int .i64 0,.map H.length]):=hrk
   have hr3':objCells H3 (H.length+1)=some (1,6,[fv,kv,.int .i64 ((szFn (fs.take k)+x.body.size:Nat):Int),.int .i64 left,.int .i64 0,.map H.length]):=hr3
   simp [slotOf,hlt',hi1,hcl,hct,hcc,hcs,hbl,hbc,hbt,rvk,rv3,rv4,wvk,hrk',hr3',hc3,ha,st5,ekv,w5,fill,callee,ecallF,mkV,eqV_ref,-List.all_eq_true]
   refine ⟨hlt,hI _ _ ⟨H5,kv',refs++[.ref Hk.length 0 1],s2,.agg (.str x.name :: .int .i64 x.par :: x.body.cs),none,by omega,ow5,by simp [hrl],fun j hj hjk => ?_,fun a ha hr => ?_,r5,hp5,by simp⟩⟩
   ·by_cases hjk':j<k
    ·obtain ⟨b,hb,hn⟩:=hkids j hj hjk'
     refine ⟨b,by rw [List.getElem?_append_left (by omega)]; exact hb,hn.mono (fun a ⟨a1,a2,a3⟩=>⟨a1,by omega,fun h => ?_⟩) fun a ⟨a1,a2,a3⟩ => ?_⟩
     ·rcases hob4 a h with h | h
      ·exact a3 h
      ·omega
     ·refine objCells_same ?_
      rw [s5 a (by omega),hs4 a (by omega) a3,ho3 a a2 (by omega)]
    ·obtain rfl:j=k:=by omega
     refine ⟨Hk.length,by simp [hrl],?_⟩
     rw [hx]
     refine hn3.mono (fun a ⟨a1,a2⟩=>⟨by omega,by omega,fun h => ?_⟩) fun a ⟨a1,a2⟩ => ?_
     ·rcases hob4 a h with h | h
      ·have:=(how.ob h).2; omega
      ·omega
     ·refine objCells_same ?_
      rw [s5 a (by omega),hs4 a a2 (fun h=>by have:=(how.ob h).2; omega)]
   ·rw [s5 a hr,hs4 a (by omega) (hnob a (by omega)),ho3 a (by omega) hr,hold a ha hr]
  ·obtain rfl:k=fs.length:=by omega
   have rvk:objCells Hk (H.length+2)=some (1,1,[.ref (H.length+1) 0 1]):=(objCells_same (hold _ (by omega) (by omega))).trans v1
   simp [slotOf,rvk]
   refine hQ _ _ ⟨rfl,kv,refs,by omega,fun a ha => ?_,?_,?_,how.rsl fun b h1 h2=>⟨by omega,h2⟩,hrl,fun x hx => ?_,fun j hj => ?_,hpk⟩
   ·rw [hold a (by omega) (by omega),old1 a ha]
   ·rw [List.take_length] at hrk
    exact hrk
   ·rw [hold _ (by omega) (by omega),m1]
   ·obtain ⟨i,hi,rfl⟩:=List.mem_iff_getElem.1 hx
    obtain ⟨b,hb,_⟩:=hkids i (by omega) (by omega)
    rw [List.getElem?_eq_getElem hi] at hb
    rw [Option.some.inj hb]
    exact eqV_ref _ _ _
   ·obtain ⟨b,h1,h2⟩:=hkids j hj hj
    exact ⟨b,h1,h2.mono (fun a ⟨a1,a2,a3⟩=>⟨by omega,a2⟩) Agr.refl⟩
 obtain ⟨r,H',e,rfl,rts,refs,h1,h2,h3,h4,h5,h6,h7,h8,h9⟩:=OptP.ex key
 exact ⟨H',rts,refs,e,h1,h2,h3,h4,h5,h6,h7,h8,h9⟩
end Go.Proofs.Mm
set_option linter.unusedVariables false
set_option linter.unusedSimpArgs false
set_option maxHeartbeats 1000000
namespace Go.Proofs.Mm
open Go Go.Am
structure Ready (P:Pg) (left rb mb:Nat) (fv rv:V) (mn:Int) (s:St) (S:Adr) (h:Heap):Prop where
 run:RunAt rb mb left fv rv mn h s
 st:Stab (ER rb mb) S h
 rts:∃ roots,RSl S h rv roots∧roots.length=P.length∧(∀ x∈roots,eqV x x=true)∧∀ i,∀ hi:i<P.length,∃ b,roots[i]?=some (.ref b 0 1)∧RN S h P[i].2 b
 fns:∀ i,∀ hi:i<P.length,∃ a cs,idxV fv i 6=some (.pv (a :: .int .i64 P[i].1 :: cs))
 fvc:isCell fv=true
 fve:eqV fv fv=true
 ok:PgOk P
 pl:plainH h
section
variable {P:Pg} {left rb mb:Nat} {fv rv:V} {mn:Int} {s:St} {S:Adr} {h:Heap}
theorem Ready.app (r:Ready P left rb mb fv rv mn s S h) {X:Heap} (hX:plainH X):Ready P left rb mb fv rv mn s S (h++X):=by
 have hlt:=r.run.lt
 have ag:=Agr.app r.st.lt X
 obtain ⟨roots,r1,r2,r3,r4⟩:=r.rts
 refine ⟨r.run.same (List.getElem?_append_left hlt.1) (List.getElem?_append_left hlt.2),r.st.len (by simp),⟨roots,r1.mono (fun _ h=>h) ag,r2,r3,fun i hi => ?_⟩,r.fns,r.fvc,r.fve,r.ok,r.pl.app hX⟩
 obtain ⟨b,h1,h2⟩:=r4 i hi
 exact ⟨b,h1,h2.mono (fun _ h=>h) ag⟩
abbrev cnOf (P:Pg) (left rb mb:Nat) (fv rv:V) (mn:Int) (n:Nat):Cn:=⟨P,left,rb,mb,n+3,n+1,n,n+2,fv,rv,mn⟩
theorem Ready.ctx (r:Ready P left rb mb fv rv mn s S h) :
  Ctx (cnOf P left rb mb fv rv mn h.length) (fun a=>S a∨(h.length≤a∧a<h.length+4)) (h++[.cells 1 1 [.ref rb 0 1],.cells 1 1 [.func (.func 118) [.ref rb 0 1] []],.cells 1 27 opsL,.cells 1 1 [cloV (h.length+1) (h.length+3) h.length (h.length+2)]]):=by
 have hlt:=r.run.lt
 have ag:=Agr.app r.st.lt [.cells 1 1 [.ref rb 0 1],.cells 1 1 [.func (.func 118) [.ref rb 0 1] []],.cells 1 27 opsL,.cells 1 1 [cloV (h.length+1) (h.length+3) h.length (h.length+2)]]
 obtain ⟨roots,r1,r2,r3,r4⟩:=r.rts
 refine ⟨⟨fun b hb => ?_,fun b hb he => ?_⟩,.inr (by simp only [cnOf]; omega),by simp [objCells],.inr (by simp only [cnOf]; omega),by simp [objCells],.inr (by simp only [cnOf]; omega),by simp [objCells],.inr (by simp only [cnOf]; omega),by simp [objCells],⟨roots,r1.mono (fun _ h => .inl h) ag,r2,r3,fun i hi => ?_⟩,r.fns,r.fvc,r.fve,r.ok⟩
 ·simp only [List.length_append,List.length_cons,List.length_nil]
  rcases hb with hb | hb
  ·have:=r.st.lt b hb; omega
  ·omega
 ·rcases hb with hb | hb
  ·exact r.st.ne b hb he
  ·rcases he with rfl | rfl <;> omega
 ·obtain ⟨b,h1,h2⟩:=r4 i hi
  exact ⟨b,h1,h2.mono (fun _ h => .inl h) ag⟩
theorem call_q (r:Ready P left rb mb fv rv mn s S h) {f:Nat} (hf:f<P.length) {v:Val} {x:V} (hv:∀ S h,RV S h v x) (vok:VOk P.length v) :
  EvR (cnOf P left rb mb fv rv mn h.length) 84 [.ref rb 0 1,.int .i64 f,x] S h (evalD P left (left+1) P[f].2 [(P[f].1,v)] s):=by
 have hev:=evaluation_q h rb r.pl
 have cx:=r.ctx
 generalize hH2:h++[Am.Obj.cells 1 1 [.ref rb 0 1],.cells 1 1 [.func (.func 118) [.ref rb 0 1] []],.cells 1 27 opsL,.cells 1 1 [cloV (h.length+1) (h.length+3) h.length (h.length+2)]]=h2 at *
 rw [CC] at hev
 have hl2:h2.length=h.length+4:=by rw [← hH2]; simp
 have ag2:Agr S h h2:=by rw [← hH2]; exact Agr.app r.st.lt _
 have g2:Grow (ER rb mb) S h (fun a=>S a∨(h.length≤a∧a<h.length+4)) h2:=by
  refine ⟨fun b hb => .inl hb,fun b hb => ?_,by omega,fun b hb _=>by rw [← hH2]; exact List.getElem?_append_left hb⟩
  rcases hb with hb | hb
  ·exact .inl hb
  ·exact .inr hb.1
 have hlt:=r.run.lt
 have run2:Ctx.Run (cnOf P left rb mb fv rv mn h.length) h2 s:=r.run.same (by rw [← hH2]; exact List.getElem?_append_left hlt.1) (by rw [← hH2]; exact List.getElem?_append_left hlt.2)
 have sc:=scope_q (n:=P[f].1) (env:=[]) cx run2 .nil (hv _ h2)
 obtain ⟨roots,r1,r2,r3,r4⟩:=r.rts
 obtain ⟨b,hb,hn⟩:=r4 f hf
 obtain ⟨a,cs,hfn⟩:=r.fns f hf
 have hlr:f<roots.length:=by omega
 obtain ⟨q,hq1,hq2⟩:=r1.idx hlr
 rw [List.getElem?_eq_getElem hlr] at hb
 rw [Option.some.inj hb] at hq2
 have hq3:∀ h',Agr S h h'→loadV h' q 1 false=some (.ref b 0 1):=fun h' ha=>hq2 rfl h' ha
 have ag3:=ag2.trans (fun b hb=>sc.g.agr cx.st b (.inl hb))
 have hok:=r.ok _ (List.getElem_mem hf)
 have ev:=eval_q (cnOf P left rb mb fv rv mn h.length) (left+1) P[f].2 [(P[f].1,v)] s _ _ b _ sc.c sc.r (hn.mono (fun b hb => .inl (.inl hb)) ag3) sc.e (by simpa using hok) (by intro x hx; rw [List.mem_singleton.1 hx]; exact vok) (by simp only; omega)
 have hw:=sc.w
 rw [CC] at hw
 have hrun:=r.run.run
 have hrun2:=run2.run
 have hrun3:=sc.r.run
 have l2:=hq3 h2 ag2
 have l3:=hq3 _ ag3
 have er:=eqV_ref
 have ei:=eqV_int
 have erv:=cx.rve
 have hxc:=(hv S h).cell
 refine ev.lift (g2.trans sc.g) (fun y h4 hc4=>cc_of (af:=Trmm.a84) rfl rfl fun Q hQ => ?_) (fun e i h4 hc4=>cc_of (af:=Trmm.a84) rfl rfl fun Q hQ => ?_)
 ·rw [CC] at hc4
  simp only [Trmm.a84]
  simp [slotOf,hev,hrun,hrun2,hrun3,hfn,hq1,l2,l3,hw,hc4,er,ei,erv,mkV,callee,ecallF,forget,AOper.writes]
  exact hQ
 ·rw [CC] at hc4
  simp only [Trmm.a84]
  simp [slotOf,hev,hrun,hrun2,hrun3,hfn,hq1,l2,l3,hw,hc4,er,ei,erv,mkV,callee,ecallF,forget,AOper.writes]
  exact hQ
end
end Go.Proofs.Mm
set_option linter.unusedVariables false
set_option linter.unusedSimpArgs false
set_option maxHeartbeats 1000000
namespace Go.Proofs.Mm
open Go Go.Am
def wholeD (P:Pg) (left f:Nat) (v:Val) (s:St):Res Val :=
 (evalD P left (left+1) (P.getD f default).2 [((P.getD f default).1,v)] s).bind fun y s' =>
  if szF y=true then .err 15 (P.getD f default).2.id else if szN y≤20000∧szD y≤12 then .ok y s' else .err 9 (P.getD f default).2.id
section
variable {P:Pg} {left rb mb:Nat} {fv rv:V} {mn:Int} {s:St} {S:Adr} {h:Heap}
def WhR (rb mb left:Nat) (fv rv:V) (mn:Int) (S:Adr) (f:Nat) (args:List V) (h:Heap):Res Val→Prop
 | .ok y s'=>∃ tr:Tr,∃ h',CC f args h (.ret (.agg tr.cs)) h'∧tr.Ok∧tr.sk=y.sk∧Grow (ER rb mb) S h S h'∧RunAt rb mb left fv rv mn h' s'
 | .err e i=>∃ h',CC f args h (.pan (stopV e i)) h'∧Grow (ER rb mb) S h S h'
theorem whole_q (r:Ready P left rb mb fv rv mn s S h) {f:Nat} (hf:f<P.length) {t:Tr} (ht:t.Ok) (htn:t.nodes<2 ^ 40) (vok:VOk P.length (ofTr t)) :
  WhR rb mb left fv rv mn S 60 [.ref rb 0 1,.int .i64 f,.agg t.cs] h (wholeD P left f (ofTr t) s):=by
 have ePf:P.getD f default=P[f]:=by rw [List.getD_eq_getElem?_getD,List.getElem?_eq_getElem hf]; rfl
 rw [wholeD,ePf]
 obtain ⟨x,X,hof,hxp,hxc,hXp,hxv⟩:=ofv_q t ht htn h
 rw [CC] at hof
 have r1:=r.app hXp
 have gX:Grow (ER rb mb) S h S (h++X):=.app X
 have hc:=call_q r1 hf hxv vok
 have hok:=evalD_ok r.ok (left+1) P[f].2 [(P[f].1,ofTr t)] s (by simpa using r.ok _ (List.getElem_mem hf)) (by intro x hx; rw [List.mem_singleton.1 hx]; exact vok) r.run.le
 have hcc:t.cs.all isCell=true:=cells_tr ht
 have htl:=Tr.cs_length t
 have htt:=Tr.cs_take t
 cases he:evalD P left (left+1) P[f].2 [(P[f].1,ofTr t)] s with
 | err e i =>
  rw [he] at hc
  obtain ⟨h2,c2,g2⟩:=hc
  rw [CC] at c2
  refine ⟨h2,cc_of (af:=Trmm.a60) rfl rfl fun Q hQ => ?_,gX.trans g2⟩
  simp only [Trmm.a60]
  simp [slotOf,hcc,htl,htt,hof,c2,mkV,callee,ecallF,forget,AOper.writes,-List.all_eq_true]
  exact hQ
 | ok y s2 =>
  rw [he] at hc
  obtain ⟨w,S2,h2,c2,g2,st2,run2,hv2⟩:=hc
  rw [CC] at c2
  have g2':=gX.trans g2
  obtain ⟨roots,q1,q2,q3,q4⟩:=r.rts
  obtain ⟨b,hb,hn⟩:=q4 f hf
  have hlr:f<roots.length:=by omega
  obtain ⟨q,hq1,hq2⟩:=q1.idx hlr
  rw [List.getElem?_eq_getElem hlr] at hb
  rw [Option.some.inj hb] at hq2
  have ag2:Agr S h h2:=g2'.agr r.st
  have l2:=hq2 rfl h2 ag2
  have hn2:RN S2 h2 P[f].2 b:=hn.mono g2'.sub ag2
  have hrun2:=run2.run
  obtain ⟨sf,sy,hm,hsz⟩:=size_q hv2 ⟨[],[],none,none,h⟩ []
  rw [CC] at hsz
  simp only [Res.bind_ok]
  cases hF:szF y with
  | true =>
   have nd:=need_q hn2 false 15
   rw [RO] at nd
   rw [if_pos rfl]
   refine ⟨h2,cc_of (af:=Trmm.a60) rfl rfl fun Q hQ => ?_,g2'.back⟩
   rw [hF] at hsz
   simp only [Trmm.a60]
   simp [slotOf,hcc,htl,htt,hof,c2,hm,hsz,hrun2,hq1,l2,nd,mkV,callee,ecallF,rocall,forget,AOper.writes,-List.all_eq_true]
   exact hQ
  | false =>
   have nd:=need_q hn2 true 15
   rw [RO] at nd
   rw [hF] at hsz
   rw [if_neg (by simp)]
   by_cases hsm:szN y≤20000∧szD y≤12
   ·rw [if_pos hsm]
    have nd2:=need_q hn2 true 9
    rw [RO] at nd2
    obtain ⟨vy,hs2,hle2⟩:=hok y s2 he
    obtain ⟨tf,ty,tr,Y,m1,m2,m3,m4⟩:=told_v y vy S2 h2 w (fun b hb=>st2.lt b hb) hv2
    rw [CC] at m2
    have trc:=cells_tr m3
    have trl:=Tr.cs_length tr
    have trt:=Tr.cs_take tr
    have k1:(szN y:Int)≤20000:=by omega
    have k2:(szD y:Int)≤12:=by omega
    have hlt2:=run2.lt
    refine ⟨tr,h2++Y,cc_of (af:=Trmm.a60) rfl rfl fun Q hQ => ?_,m3,m4,(g2'.trans (.app Y)).back,run2.same (List.getElem?_append_left hlt2.1) (List.getElem?_append_left hlt2.2)⟩
    simp only [Trmm.a60]
    simp [slotOf,hcc,htl,htt,hof,c2,hm,hsz,hrun2,hq1,l2,nd,nd2,k1,k2,m1,m2,trc,trl,trt,mkV,callee,ecallF,rocall,forget,AOper.writes,-List.all_eq_true]
    exact hQ
   ·rw [if_neg hsm]
    have nd2:=need_q hn2 false 9
    rw [RO] at nd2
    refine ⟨h2,cc_of (af:=Trmm.a60) rfl rfl fun Q hQ => ?_,g2'.back⟩
    by_cases k1:(szN y:Int)≤20000
    ·have k2:¬ (szD y:Int)≤12:=by omega
     simp only [Trmm.a60]
     simp [slotOf,hcc,htl,htt,hof,c2,hm,hsz,hrun2,hq1,l2,nd,nd2,k1,k2,mkV,callee,ecallF,rocall,forget,AOper.writes,-List.all_eq_true]
     exact hQ
    ·simp only [Trmm.a60]
     simp [slotOf,hcc,htl,htt,hof,c2,hm,hsz,hrun2,hq1,l2,nd,nd2,k1,mkV,callee,ecallF,rocall,forget,AOper.writes,-List.all_eq_true]
     exact hQ
end
end Go.Proofs.Mm
set_option linter.unusedVariables false
set_option linter.unusedSimpArgs false
set_option maxHeartbeats 1000000
namespace Go.Proofs.Mm
open Go Go.Am
section
variable {P:Pg} {left rb mb:Nat} {fv rv:V} {mn:Int} {s:St} {S:Adr} {h:Heap}
theorem rec0_q (b:Nat):(lim gl Trmm.aprog).dcall 59 [.ref b 0 1] none h=some (none,h):=by
 refine dcall_of (af:=Trmm.a59) rfl rfl ?_
 simp only [Trmm.a59]
 simp [slotOf,resultV]
theorem rec1_q {b:Nat} {cs:List V} (e i:Int) (hb:objCells h b=some (1,2,cs)) (hc:cs.length=2):(lim gl Trmm.aprog).dcall 59 [.ref b 0 1] (some (.iface 91 (.agg [.int .i64 e,.int .i64 i]))) h=some (none,h.set b (.cells 1 2 [.int .i64 e,.int .i64 i])):=by
 have st:storeV h (.ref b 0 1) (.agg [.int .i64 e,.int .i64 i]) 2=some (h.set b (.cells 1 2 [.int .i64 e,.int .i64 i])):=by
  simp [storeV,hb,hc,cellsV,isCell,splice,List.drop_of_length_le (Nat.le_of_eq hc)]
 refine dcall_of (af:=Trmm.a59) rfl rfl ?_
 simp only [Trmm.a59]
 simp [slotOf,st,mkV,resultV]
def EnR (rb mb left:Nat) (fv rv:V) (mn:Int) (S:Adr) (f:Nat) (args:List V) (h:Heap):Res Val→Prop
 | .ok y s'=>∃ tr:Tr,∃ h',CC f args h (.ret (.tup [.agg tr.cs,.agg [.int .i64 0,.int .i64 0]])) h'∧tr.Ok∧tr.sk=y.sk∧Grow (ER rb mb) S h S h'∧RunAt rb mb left fv rv mn h' s'
 | .err e i=>∃ h',CC f args h (.ret (.tup [.agg [.int .i64 0,.int .i64 0,.nils],.agg [.int .i64 e,.int .i64 i]])) h'∧Grow (ER rb mb) S h S h'
theorem end_q (r:Ready P left rb mb fv rv mn s S h) {f:Nat} (hf:f<P.length) {t:Tr} (ht:t.Ok) (htn:t.nodes<2 ^ 40) (vok:VOk P.length (ofTr t)) :
  EnR rb mb left fv rv mn S 36 [.ref rb 0 1,.int .i64 f,.agg t.cs] h (wholeD P left f (ofTr t) s):=by
 have r1:=r.app (X:=[.cells 1 2 [.int .i64 0,.int .i64 0]]) fun o ho=>by rw [List.mem_singleton.1 ho]; rfl
 have gX:Grow (ER rb mb) S h S (h++[.cells 1 2 [.int .i64 0,.int .i64 0]]):=.app _
 have hw:=whole_q r1 hf ht htn vok
 have hcc:t.cs.all isCell=true:=cells_tr ht
 have htl:=Tr.cs_length t
 have htt:=Tr.cs_take t
 have hlt:=r.run.lt
 have hob:objCells (h++[.cells 1 2 [.int .i64 0,.int .i64 0]]) h.length=some (1,2,[.int .i64 0,.int .i64 0]):=obj_last _ _ _ _
 cases he:wholeD P left f (ofTr t) s with
 | err e i =>
  rw [he] at hw
  obtain ⟨h2,c2,g2⟩:=hw
  rw [CC] at c2
  have hb2:objCells h2 h.length=some (1,2,[.int .i64 0,.int .i64 0]):=(g2.cells (by simp) (by rintro (h | h) <;> omega)).trans hob
  have hr:=rec1_q e i hb2 rfl
  have l2:objCells (h2.set h.length (.cells 1 2 [.int .i64 e,.int .i64 i])) h.length=some (1,2,[.int .i64 e,.int .i64 i]):=objCells_set (objCells_lt hb2) _ _ _
  refine ⟨_,cc_of (af:=Trmm.a36) rfl rfl fun Q hQ => ?_,(gX.trans g2).set (.inl (Nat.le_refl _)) (.cells 1 2 [.int .i64 e,.int .i64 i])⟩
  simp only [Trmm.a36]
  simp [slotOf,hcc,htl,htt,c2,mkV,fill,callee,ecallF,leave,hr,resultV,l2,-List.all_eq_true]
  exact hQ
 | ok y s2 =>
  rw [he] at hw
  obtain ⟨tr,h2,c2,to,ts,g2,run2⟩:=hw
  rw [CC] at c2
  have hb2:objCells h2 h.length=some (1,2,[.int .i64 0,.int .i64 0]):=(g2.cells (by simp) (by rintro (h | h) <;> omega)).trans hob
  have st2:storeV h2 (.ref h.length 0 1) (.agg [.int .i64 0,.int .i64 0]) 2=some (h2.set h.length (.cells 1 2 [.int .i64 0,.int .i64 0])):=by
   simp [storeV,hb2,cellsV,isCell,splice]
  have l2:objCells (h2.set h.length (.cells 1 2 [.int .i64 0,.int .i64 0])) h.length=some (1,2,[.int .i64 0,.int .i64 0]):=objCells_set (objCells_lt hb2) _ _ _
  have hr:=rec0_q (h:=h2.set h.length (.cells 1 2 [.int .i64 0,.int .i64 0])) h.length
  have trc:=cells_tr to
  have trl:=Tr.cs_length tr
  have trt:=Tr.cs_take tr
  refine ⟨tr,_,cc_of (af:=Trmm.a36) rfl rfl fun Q hQ => ?_,to,ts,(gX.trans g2).set (.inl (Nat.le_refl _)) (.cells 1 2 [.int .i64 0,.int .i64 0]),run2.same (List.getElem?_set_ne (by omega)) (List.getElem?_set_ne (by omega))⟩
  simp only [Trmm.a36]
  simp [slotOf,hcc,htl,htt,trc,trl,trt,c2,st2,mkV,fill,callee,ecallF,leave,hr,resultV,l2,-List.all_eq_true]
  exact hQ
end
end Go.Proofs.Mm
set_option linter.unusedVariables false
set_option linter.unusedSimpArgs false
set_option maxHeartbeats 1000000
namespace Go.Proofs.Mm
open Go Go.Am
def St.zero:St:=⟨0,fun _=>0,fun _=>0⟩
structure Prg (fs:List Fn) (fv:V) (main:Int):Prop where
 sl:SlV (fs.map Fn.cs) fv
 ok:∀ f∈fs,f.Ok
 sz:szFn fs<2 ^ 40
 pg:PgOk (pgN 0 fs)
 check:PC 19 [.agg [fv,.int .i64 main]] (.int .i64 0)
structure Arg (nf:Nat) (t:Tr):Prop where
 ok:t.Ok
 nodes:t.nodes<2 ^ 40
 val:VOk nf (ofTr t)
 valid:PC 57 [.agg t.cs] (.bool true)
section
variable {fs:List Fn} {fv:V} {main:Int} {t:Tr}
theorem opened_q (hp:Prg fs fv main) (ht:Arg fs.length t) {f fuel:Nat} (hf:f<fs.length) (hfu:fuel≤1000000) (H:Heap) (hpl:plainH H) :
  ∃ H' rts,CC 35 [.agg [fv,.int .i64 main],.int .i64 f,.agg t.cs,.int .i64 fuel] H (.ret (.tup [.ref (H.length+1) 0 1,.int .i64 0])) H'∧(∀ a,a<H.length→H'[a]?=H[a]?)∧H.length+2≤H'.length ∧
   Ready (pgN 0 fs) fuel (H.length+1) H.length fv rts (szFn fs) .zero (fun a=>H.length+1<a∧a<H'.length) H':=by
 obtain ⟨H',rts,refs,c,hl,old,run,map,rs,rl,re,rn,pl⟩:=begun_q hp.sl hp.ok hp.sz main fuel H hpl
 rw [CC] at c
 have hvc:=hp.sl.cell
 have hck:=hp.check
 have hvd:=ht.valid
 rw [PC] at hck hvd
 have hcc:t.cs.all isCell=true:=cells_tr ht.ok
 have htl:=Tr.cs_length t
 have htt:=Tr.cs_take t
 have hlv:lenV fv=some (.int .i64 fs.length):=by rw [hp.sl.len]; simp
 refine ⟨H',rts,cc_of (af:=Trmm.a35) rfl rfl fun Q hQ => ?_,old,hl,?_⟩
 ·have k1:(f:Int)<fs.length:=by omega
  have k2:¬ (fs.length:Int)≤f:=by omega
  have k3:¬ (fuel:Int) > 1000000:=by omega
  have k4:¬ (1000000:Int)<fuel:=by omega
  have k5:¬ (f:Int)<0:=by omega
  have k6:¬ (fuel:Int)<0:=by omega
  have k7:(fuel:Int)≤1000000:=by omega
  simp only [Trmm.a35]
  simp [slotOf,hvc,hcc,htl,htt,hck,hvd,hlv,c,k1,k2,k3,k4,k5,k6,k7,hf,hfu,mkV,callee,ecallF,-pcall,-List.all_eq_true]
  exact hQ
 ·refine ⟨⟨run,⟨[],map,⟨[],rfl,fun k b=>by simp [getE,findE,St.zero]⟩⟩,Nat.zero_le _,hfu⟩,⟨fun b hb=>hb.2,fun b hb he => ?_⟩,⟨refs,rs,by rw [rl,pgN_length],re,fun i hi => ?_⟩,fun i hi => ?_,hvc,eqV_self _ (plain_fns hp.sl hp.ok),hp.pg,pl⟩
  ·rcases he with rfl | rfl <;> omega
  ·have hi2:=hi
   rw [pgN_length] at hi2
   obtain ⟨b,h1,h2⟩:=rn i hi2
   refine ⟨b,h1,?_⟩
   rw [pgN_get hi hi2,Nat.zero_add]
   exact h2
  ·have hi2:=hi
   rw [pgN_length] at hi2
   exact ⟨.str fs[i].name,fs[i].body.cs,by rw [idx_fn hp.sl hi2,pgN_get hi hi2]; rfl⟩
def RunR (f:Nat) (args:List V) (H:Heap):Res Val→Prop
 | .ok y s'=>∃ tr:Tr,∃ H',CC f args H (.ret (.tup [.agg tr.cs,.int .i64 s'.steps,.int .i64 0])) H'∧tr.Ok∧tr.sk=y.sk
 | .err e i=>e≠0→∃ H',CC f args H (.ret (.tup [.agg [.int .i64 0,.int .i64 0,.nils],.int .i64 0,.int .i64 e])) H'
theorem Call_q (hp:Prg fs fv main) (ht:Arg fs.length t) {f fuel:Nat} (hf:f<fs.length) (hfu:fuel≤1000000) (H:Heap) (hpl:plainH H) :
  RunR 21 [.agg [fv,.int .i64 main],.int .i64 f,.agg t.cs,.int .i64 fuel] H (wholeD (pgN 0 fs) fuel f (ofTr t) .zero):=by
 obtain ⟨H1,rts,c,old,hl,rd⟩:=opened_q hp ht hf hfu H hpl
 rw [CC] at c
 have hvc:=hp.sl.cell
 have hcc:t.cs.all isCell=true:=cells_tr ht.ok
 have htl:=Tr.cs_length t
 have htt:=Tr.cs_take t
 have he:=end_q rd (f:=f) (by rw [pgN_length]; exact hf) ht.ok ht.nodes (by rw [pgN_length]; exact ht.val)
 cases hw:wholeD (pgN 0 fs) fuel f (ofTr t) .zero with
 | err e i =>
  rw [hw] at he
  obtain ⟨H2,c2,g2⟩:=he
  rw [CC] at c2
  intro h0
  refine ⟨H2,cc_of (af:=Trmm.a21) rfl rfl fun Q hQ => ?_⟩
  simp only [Trmm.a21]
  simp [slotOf,hvc,hcc,htl,htt,c,c2,h0,mkV,fill,callee,ecallF,-List.all_eq_true]
  exact hQ
 | ok y s2 =>
  rw [hw] at he
  obtain ⟨tr,H2,c2,to,ts,g2,run2⟩:=he
  rw [CC] at c2
  have trc:=cells_tr to
  have trl:=Tr.cs_length tr
  have trt:=Tr.cs_take tr
  have hrun2:=run2.run
  refine ⟨tr,H2,cc_of (af:=Trmm.a21) rfl rfl fun Q hQ => ?_,to,ts⟩
  simp only [Trmm.a21]
  simp [slotOf,hvc,hcc,htl,htt,c,c2,trc,trl,trt,hrun2,mkV,fill,callee,ecallF,-List.all_eq_true]
  exact hQ
end
end Go.Proofs.Mm
set_option linter.unusedVariables false
set_option linter.unusedSimpArgs false
set_option maxHeartbeats 1000000
namespace Go.Proofs.Mm
open Go Go.Am
mutual
theorem viewV_pure (lo:Nat) (hp:Heap):∀ v:V,pureV v=true→viewV lo hp v=some v
 | .undef,_ | .bool _,_ | .int ..,_ | .str _,_ | .nilp,_ | .nils,_ | .nilm,_ | .nilf,_ | .nili,_ | .pv _,_ | .sv ..,_=>by simp [viewV]
 | .ref ..,h | .sl ..,h | .map _,h | .vs ..,h | .yf _,h=>by simp [pureV] at h
 | .func f fi ca,h=>by simp only [pureV] at h; simp [viewV,h]
 | .iface t v,h=>by simp only [pureV] at h; simp [viewV,viewV_pure lo hp v h]
 | .agg cs,h=>by simp only [pureV] at h; simp [viewV,viewL_pure lo hp cs h]
 | .tup cs,h=>by simp only [pureV] at h; simp [viewV,viewL_pure lo hp cs h]
theorem viewL_pure (lo:Nat) (hp:Heap):∀ l:List V,pureL l=true→viewL lo hp l=some l
 | [],_=>rfl
 | v :: vs,h=>by simp only [pureL,Bool.and_eq_true] at h; simp [viewL,viewV_pure lo hp v h.1,viewL_pure lo hp vs h.2]
end
theorem view1_pure (lo:Nat) (hp:Heap) {v:V} (h:pureV v=true):view1 lo hp v=some v:=by simp [view1,viewV_pure lo hp v h]
theorem viewWL_pure (lo:Nat) (hp:Heap):∀ l:List V,pureL l=true→viewWL lo hp l=some l
 | [],_=>rfl
 | v :: vs,h=>by simp only [pureL,Bool.and_eq_true] at h; simp [viewWL,view1_pure lo hp h.1,viewWL_pure lo hp vs h.2]
theorem viewW_tup (lo:Nat) (hp:Heap) {l:List V} (h:pureL l=true):viewW lo hp (.tup l)=some (.tup l):=by simp [viewW,viewWL_pure lo hp l h]
theorem pc_cc {f:Nat} {args:List V} {l:List V} {H':Heap} (hp:pureL args=true) (hc:CC f args [] (.ret (.tup l)) H') (hl:pureL l=true):PC f args (.tup l):=by
 rw [CC] at hc
 simp [PC,pcall,callee,hp,hc,viewW_tup 0 H' hl]
theorem plainH_nil:plainH []:=fun o ho=>by simp at ho
def RunP (f:Nat) (args:List V):Res Val→Prop
 | .ok y s'=>∃ tr:Tr,PC f args (.tup [.agg tr.cs,.int .i64 s'.steps,.int .i64 0])∧tr.Ok∧tr.sk=y.sk
 | .err e i=>e≠0→PC f args (.tup [.agg [.int .i64 0,.int .i64 0,.nils],.int .i64 0,.int .i64 e])
section
variable {fs:List Fn} {fv:V} {main:Int} {t:Tr}
theorem Call_p (hp:Prg fs fv main) (ht:Arg fs.length t) {f fuel:Nat} (hf:f<fs.length) (hfu:fuel≤1000000) :
  RunP 21 [.agg [fv,.int .i64 main],.int .i64 f,.agg t.cs,.int .i64 fuel] (wholeD (pgN 0 fs) fuel f (ofTr t) .zero):=by
 have h:=Call_q hp ht hf hfu [] plainH_nil
 have hpa:pureL [.agg [fv,.int .i64 main],.int .i64 f,.agg t.cs,.int .i64 fuel]=true:=by simp [pureL,pureV,hp.sl.pure,pure_tr ht.ok]
 cases hw:wholeD (pgN 0 fs) fuel f (ofTr t) .zero with
 | ok y s2 =>
  rw [hw] at h
  obtain ⟨tr,H',c,to,ts⟩:=h
  exact ⟨tr,pc_cc hpa c (by simp [pureL,pureV,pure_tr to]),to,ts⟩
 | err e i =>
  rw [hw] at h
  intro h0
  obtain ⟨H',c⟩:=h h0
  exact pc_cc hpa c rfl
theorem Run_p {f fuel:Nat} (hp:Prg fs fv f) (ht:Arg fs.length t) (hf:f<fs.length) (hfu:fuel≤1000000) :
  RunP 11 [.agg [fv,.int .i64 f],.agg t.cs,.int .i64 fuel] (wholeD (pgN 0 fs) fuel f (ofTr t) .zero):=by
 have h:=Call_p hp ht hf hfu
 have hpa:pureL [.agg [fv,.int .i64 f],.agg t.cs,.int .i64 fuel]=true:=by simp [pureL,pureV,hp.sl.pure,pure_tr ht.ok]
 have hvc:=hp.sl.cell
 have hcc:t.cs.all isCell=true:=cells_tr ht.ok
 have htl:=Tr.cs_length t
 have htt:=Tr.cs_take t
 cases hw:wholeD (pgN 0 fs) fuel f (ofTr t) .zero with
 | ok y s2 =>
  rw [hw] at h
  obtain ⟨tr,c,to,ts⟩:=h
  rw [PC] at c
  have trc:=cells_tr to
  have trl:=Tr.cs_length tr
  have trt:=Tr.cs_take tr
  refine ⟨tr,pc_cc (H':=[]) hpa (cc_of (af:=Trmm.a11) rfl rfl fun Q hQ => ?_) (by simp [pureL,pureV,pure_tr to]),to,ts⟩
  simp only [Trmm.a11]
  simp [slotOf,hvc,hcc,htl,htt,c,trc,trl,trt,mkV,fill,-pcall,-List.all_eq_true]
  exact hQ
 | err e i =>
  rw [hw] at h
  intro h0
  have c:=h h0
  rw [PC] at c
  refine pc_cc (H':=[]) hpa (cc_of (af:=Trmm.a11) rfl rfl fun Q hQ => ?_) rfl
  simp only [Trmm.a11]
  simp [slotOf,hvc,hcc,htl,htt,c,mkV,fill,-pcall,-List.all_eq_true]
  exact hQ
end
theorem vo_set {h:Heap} {a:Nat} {o:Am.Obj} (ho:h[a]?=some o) (n sz:Nat) (cs:List V):objCells (h.set a (.cells n sz cs)) a=some (n,sz,cs):=by
 have:=(List.getElem?_eq_some_iff.1 ho).1
 simp [objCells,this]
theorem vo_ne {h:Heap} {a b:Nat} (hne:a≠b) (o:Am.Obj):objCells (h.set a o) b=objCells h b:=by
 simp [objCells,hne]
theorem vo_of {h:Heap} {a n sz:Nat} {cs:List V} (ho:h[a]?=some (.cells n sz cs)):objCells h a=some (n,sz,cs):=by
 simp [objCells,ho]
namespace Tr
mutual
def long:Tr→Bool
 | .mk k _ _ l=>(k == 4&&decide (4096<l.length))||longL l
def longL:List Tr→Bool
 | []=>false
 | t :: ts=>long t||longL ts
end
def numOk (k n m:Int):Bool :=
 if k=0 then n == 0&&m == 0 else if k=1 then decide (-2147483648≤n∧n≤2147483647)&&m == 0 else if k=2 then n == 0&&m == 2
 else if k=3 then decide (0≤n∧n≤1)&&m == 1 else if k=4 then n == 0 else false
mutual
def allNum:Tr→Bool
 | .mk k n _ l=>numOk k n l.length&&allNumL l
def allNumL:List Tr→Bool
 | []=>true
 | t :: ts=>allNum t&&allNumL ts
end
theorem longL_iff {l:List Tr}:longL l=true↔∃ t∈l,t.long=true:=by
 induction l with
 | nil=>simp [longL]
 | cons t ts ih=>simp [longL,ih]
theorem allNumL_iff {l:List Tr}:allNumL l=true↔∀ t∈l,t.allNum=true:=by
 induction l with
 | nil=>simp [allNumL]
 | cons t ts ih=>simp [allNumL,ih]
end Tr
theorem number_q (t:Tr) (ho:t.Ok):PC 80 [.agg t.cs] (.bool (Tr.numOk t.k t.n t.l.length)):=by
 cases ho with
 | mk k n v l hk hn hv hl =>
 have hlv:=len_tr hv
 refine pc_of (by simp [pureL,pureV,Tr.cs,hv.pure]) (fun h=>rfl) ?_
 refine call_ofQ (af:=Trmm.a80) rfl rfl fun Q hQ => ?_
 have hq:∀ b,b=Tr.numOk k n l.length→∀ h',Q (.ret (.bool b)) h':=fun b hb h'=>hQ _ _ (by rw [hb]; rfl)
 simp only [Trmm.a80]
 have h5:k=0∨k=1∨k=2∨k=3∨k=4∨¬ (k=0∨k=1∨k=2∨k=3∨k=4):=by omega
 rcases h5 with rfl | rfl | rfl | rfl | rfl | h5
 ·cases e:n == 0 <;> simp [Tr.cs,hv.cell,hlv,e,slotOf] <;> refine hq _ ?_ _ <;> simp [Tr.numOk,e]
 ·by_cases e : -2147483648≤n <;> by_cases e2:n≤2147483647 <;> simp [Tr.cs,hv.cell,hlv,e,e2,slotOf] <;> refine hq _ ?_ _ <;> simp [Tr.numOk,e,e2]
 ·cases e:n == 0 <;> simp [Tr.cs,hv.cell,hlv,e,slotOf] <;> refine hq _ ?_ _ <;> simp [Tr.numOk,e]
 ·have e3:decide (0≤n∧n≤1)=(n == 0||n == 1):=by rw [Bool.eq_iff_iff]; simp; omega
  cases e:n == 0 <;> cases e2:n == 1 <;> rw [e,e2] at e3 <;> simp [Tr.cs,hv.cell,hlv,e,e2,slotOf] <;> refine hq _ ?_ _ <;> simp only [Tr.numOk,e3] <;> simp
 ·simp [Tr.cs,hv.cell,hlv,slotOf]
  refine hq _ ?_ _
  simp [Tr.numOk]
 ·have e0:(k == 0)=false:=by simp; omega
  have e1:(k == 1)=false:=by simp; omega
  have e2:(k == 2)=false:=by simp; omega
  have e3:(k == 3)=false:=by simp; omega
  have e4:(k == 4)=false:=by simp; omega
  simp [Tr.cs,hv.cell,hlv,e0,e1,e2,e3,e4,slotOf]
  refine hq _ ?_ _
  simp at e0 e1 e2 e3 e4
  simp [Tr.numOk,e0,e1,e2,e3,e4]
theorem mem_take_succ {α:Type} {l:List α} {i:Nat} (h:i<l.length) {u:α} (hu:u∈l.take (i+1)):u∈l.take i∨u=l[i]:=by
 rw [← List.take_append_getElem h] at hu
 rcases List.mem_append.1 hu with hu | hu
 ·exact .inl hu
 ·exact .inr (List.mem_singleton.1 hu)
theorem Tr.longL_take_false {l:List Tr} {i:Nat} (h:i<l.length) (h1:longL (l.take i)=false) (h2:l[i].long=false):longL (l.take (i+1))=false:=by
 rw [← List.take_append_getElem h,Bool.eq_false_iff]
 intro hq
 rw [Bool.eq_false_iff] at h1 h2
 obtain ⟨t,hm,h3⟩:=longL_iff.1 hq
 rcases List.mem_append.1 hm with hm | hm
 ·exact h1 (longL_iff.2 ⟨t,hm,h3⟩)
 ·rw [List.mem_singleton.1 hm] at h3; exact h2 h3
abbrev clo83 (a b:Nat):V:=.func (.func 98) [] [.ref a 0 1,.ref b 0 1]
theorem size1_q:∀ t:Tr,t.Ok→t.nodes<2 ^ 60→∀ (M:Nat) (h:Heap) (a b:Nat),M≤20000→a≠b→h[a]?=some (.cells 1 1 [.int .i64 M])→h[b]?=some (.cells 1 1 [clo83 a b]) →
  ∃ (ok:Bool) (M':Int),CC 98 [.agg t.cs,.ref a 0 1,.ref b 0 1] h (.ret (.bool ok)) (h.set a (.cells 1 1 [.int .i64 M']))∧(ok=true↔M+t.nodes≤20000∧t.long=false)∧(ok=true→M'=M+t.nodes):=by
 intro t
 induction t using Tr.ind with
 | h k n v l ih =>
 intro ho hnn M h a b hM hab ha hb
 obtain ⟨_,_,hv,hl⟩:=ho.inv
 have hlv:=len_tr hv
 simp only [Tr.nodes] at hnn
 have hlen:=Tr.nodesL_length l
 have key:CallP gl Trmm.aprog 98 [.agg (Tr.mk k n v l).cs,.ref a 0 1,.ref b 0 1] h (fun r h'=>∃ (ok:Bool) (M':Int),r = .ret (.bool ok)∧h'=h.set a (.cells 1 1 [.int .i64 M'])∧(ok=true↔M+(Tr.mk k n v l).nodes≤20000∧(Tr.mk k n v l).long=false)∧(ok=true→M'=M+(Tr.mk k n v l).nodes)):=by
  refine call_ofQ (af:=Trmm.a98) rfl rfl fun Q hQ => ?_
  have oa:=vo_of ha
  have ob:∀ x,objCells (h.set a (.cells 1 1 [.int .i64 x])) b=some (1,1,[clo83 a b]):=fun x=>by rw [vo_ne hab]; exact vo_of hb
  have oa':∀ x,objCells (h.set a (.cells 1 1 [.int .i64 x])) a=some (1,1,[.int .i64 x]):=fun x=>vo_set ha _ _ _
  have hw:IntKind.i64.wrap ((M:Int)+1)=(M:Int)+1:=wrap64 (by omega) (by omega)
  simp only [Trmm.a98,WX_seq]
  refine WX_last _ _ (c':=⟨[.agg [.int .i64 k,.int .i64 n,v],.ref a 0 1,.ref b 0 1,.agg [.int .i64 k,.int .i64 n,v],.bool false,.undef,.undef,.undef,.undef],[],none,none,h⟩) ?_ ?_
  ·simp [Tr.cs,hv.cell,slotOf]
  simp only [seqQ_norm,WX_seq]
  refine WX_last _ _ (c':=⟨[.agg [.int .i64 k,.int .i64 n,v],.ref a 0 1,.ref b 0 1,.agg [.int .i64 k,.int .i64 n,v],.bool false,.undef,.undef,.undef,.undef],[],none,none,h.set a (.cells 1 1 [.int .i64 ((M:Int)+1)])⟩) ?_ ?_
  ·simp [oa,hw,storeV,slotOf]
  simp only [seqQ_norm,WX_seq]
  refine WX_last _ _ (c':=⟨[.agg [.int .i64 k,.int .i64 n,v],.ref a 0 1,.ref b 0 1,.agg [.int .i64 k,.int .i64 n,v],.bool false,.undef,.undef,.undef,.undef],[],some (21,.bool (decide ((20000:Int)<M+1)||(k == 4&&decide ((4096:Int)<l.length)))),none,h.set a (.cells 1 1 [.int .i64 ((M:Int)+1)])⟩) ?_ ?_
  ·by_cases e1:(20000:Int)<M+1
   ·simp [oa',e1,slotOf]
   ·cases e2:k == 4 <;> simp [oa',e1,e2,hv.cell,hlv,slotOf]
  simp only [seqQ_norm,WX_seq,WX_ite]
  have e:decide ((4096:Int)<l.length)=decide (4096<l.length):=decide_eq_decide.2 (by omega)
  rw [e]
  split
  ·rename_i h4
   simp [slotOf]
   refine hQ _ _ ⟨false,_,rfl,rfl,?_,by simp⟩
   simp only [Bool.false_eq_true,false_iff,Tr.nodes,Tr.long]
   rintro ⟨h5,h6⟩
   rw [Bool.or_eq_false_iff] at h6
   rw [h6.1] at h4
   simp at h4
   omega
  rename_i h4
  rw [Bool.not_eq_true,Bool.or_eq_false_iff] at h4
  have hM1:M+1≤20000:=by have:=h4.1; simp at this; omega
  simp [hv.cell,hlv,slotOf]
  refine loop_nQ l.length (fun i c=>M+1+Tr.nodesL (l.take i)≤20000∧Tr.longL (l.take i)=false∧∃ x y,c=⟨[.agg [.int .i64 k,.int .i64 n,v],.ref a 0 1,.ref b 0 1,.agg [.int .i64 k,.int .i64 n,v],.bool false,x,v,.int .i64 l.length,.int .i64 i],[],y,none,h.set a (.cells 1 1 [.int .i64 (M+1+Tr.nodesL (l.take i):Nat)])⟩) ?_ ⟨by simp [Tr.nodesL]; omega,by simp [Tr.longL],.undef,none,by simp [Tr.nodesL]⟩
  rintro I hI i c hi ⟨hn1,hl1,x,y,rfl⟩
  by_cases hlt:i<l.length
  ·have hlt':(i:Int)<l.length:=by omega
   have hi1:=idx_tr hv hlt
   have htn:=Tr.nodesL_take hlt
   have htl:=Tr.longL_take_false hlt hl1
   have hle:=Tr.nodesL_take_le (l:=l) (i+1)
   have ha2:(h.set a (.cells 1 1 [.int .i64 (M+1+Tr.nodesL (l.take i):Nat)]))[a]?=some (.cells 1 1 [.int .i64 (M+1+Tr.nodesL (l.take i):Nat)]):=by
    have:=(List.getElem?_eq_some_iff.1 ha).1
    simp [this]
   have hb2:(h.set a (.cells 1 1 [.int .i64 (M+1+Tr.nodesL (l.take i):Nat)]))[b]?=some (.cells 1 1 [clo83 a b]):=by simp [hab,hb]
   have hcall:=Tr.nodesL_mem (List.getElem_mem hlt)
   obtain ⟨ok,M',hc,h2,h3⟩:=ih l[i] (List.getElem_mem hlt) (hl _ (List.getElem_mem hlt)) (by omega) (M+1+Tr.nodesL (l.take i)) _ a b hn1 hab ha2 hb2
   have hok:=hl _ (List.getElem_mem hlt)
   have hw2:IntKind.i64.wrap ((i:Int)+1)=(i:Int)+1:=wrap64 (by omega) (by omega)
   have hcc:=cells_tr hok
   have hlm:l[i].long=true→Tr.longL l=true:=fun h=>Tr.longL_iff.2 ⟨_,List.getElem_mem hlt,h⟩
   simp only [List.set_set] at hc
   generalize l[i]=u at *
   generalize hN:M+1+Tr.nodesL (l.take i)=N at *
   cases ok with
   | true =>
    have h3:=h3 rfl
    have h2:=h2.1 rfl
    simp [hv.cell,hlv,hlt',hi1,ob,oa',hc,hcc,hw2,slotOf,-List.all_eq_true]
    refine ⟨hlt,hI _ _ ⟨by omega,htl h2.2,.agg u.cs,none,?_⟩⟩
    have e:M'=((M+1+Tr.nodesL (l.take (i+1)):Nat):Int):=by omega
    rw [e]
    rfl
   | false =>
    simp [hv.cell,hlv,hlt',hi1,ob,oa',hc,hcc,slotOf,-List.all_eq_true]
    refine hQ _ _ ⟨false,M',rfl,rfl,?_,by simp⟩
    simp only [Bool.false_eq_true,false_iff] at h2 ⊢
    simp only [Tr.nodes,Tr.long,Bool.or_eq_false_iff]
    rintro ⟨h5,h6,h7⟩
    refine h2 ⟨by omega,?_⟩
    rw [Bool.eq_false_iff]
    intro h8
    rw [hlm h8] at h7
    cases h7
  ·obtain rfl:i=l.length:=by omega
   rw [List.take_length] at hn1 hl1
   simp [hv.cell,hlv,slotOf]
   refine hQ _ _ ⟨true,_,rfl,rfl,?_,fun _ => ?_⟩
   ·simp only [Tr.nodes,Tr.long,true_iff,h4.2,hl1,Bool.or_self,and_true]; omega
   ·simp only [Tr.nodes]; omega
 obtain ⟨r,h',e,ok,L',rfl,rfl,h1,h2⟩:=OptP.ex key
 exact ⟨ok,L',e,h1,h2⟩
def Tr.sized (t:Tr):Bool:=decide (t.nodes≤20000) && !t.long
theorem vsize_q (t:Tr) (ho:t.Ok) (hn:t.nodes<2 ^ 60):∃ m:Int,PC 78 [.agg t.cs] (.tup [.int .i64 m,.bool t.sized])∧(t.sized=true→m=t.nodes):=by
 obtain ⟨ok,M',hc,h1,h2⟩:=size1_q t ho hn 0 [.cells 1 1 [.int .i64 0],.cells 1 1 [clo83 0 1]] 0 1 (by omega) (by omega) rfl rfl
 have hok:ok=t.sized:=by
  rw [Bool.eq_iff_iff,h1]
  simp [Tr.sized]
 subst hok
 refine ⟨M',?_,fun h=>by have:=h2 h; omega⟩
 refine pc_of (by simp [pureL,pureV,pure_tr ho]) (fun h=>rfl) ?_
 refine call_ofQ (af:=Trmm.a78) rfl rfl fun Q hQ => ?_
 simp only [Trmm.a78]
 have hcc:=cells_tr ho
 have hc':(lim gl Trmm.aprog).call 98 [.agg t.cs,.ref 0 0 1,.ref 1 0 1] [.cells 1 1 [.int .i64 0],.cells 1 1 [clo83 0 1]]=some (.ret (.bool t.sized),_):=hc
 simp [hcc,hc',storeV,objCells,slotOf,-List.all_eq_true]
 exact hQ _ _ rfl
abbrev clo61 (a:Nat):V:=.func (.func 79) [] [.ref a 0 1]
def Tr.fits (d:Nat) (t:Tr):Bool:=decide (t.levels≤d)&&t.allNum
theorem Tr.levelsL_le {l:List Tr} {d:Nat}:levelsL l≤d↔∀ u∈l,u.levels≤d:=by
 induction l with
 | nil=>simp [levelsL]
 | cons u us ih =>
  simp only [levelsL,List.mem_cons,forall_eq_or_imp,← ih]
  omega
theorem Tr.fits_iff {k n:Int} {v:V} {l:List Tr} {d:Nat}:(Tr.mk k n v l).fits d=true↔0<d∧numOk k n l.length=true∧∀ u∈l,u.fits (d - 1)=true:=by
 simp only [fits,Bool.and_eq_true,decide_eq_true_eq]
 simp only [levels,allNum,Bool.and_eq_true,allNumL_iff]
 constructor
 ·rintro ⟨h1,h2,h3⟩
  refine ⟨by omega,h2,fun u hu=>⟨?_,h3 u hu⟩⟩
  have:=levelsL_mem hu
  omega
 ·rintro ⟨h1,h2,h3⟩
  have:=levelsL_le.2 fun u hu=>(h3 u hu).1
  exact ⟨by omega,h2,fun u hu=>(h3 u hu).2⟩
theorem v64_q (u:Tr) (ho:u.Ok) (d:Nat) (hd:d<2 ^ 60) (hd0:0<d) (H:Heap) (a e:Nat) (ha:H[a]?=some (.cells 1 1 [clo61 a])) (he:H[e]?=some (.cells 1 1 [.int .i64 d]))
  (ih:∀ (h:Heap),h[a]?=some (.cells 1 1 [clo61 a])→∃ X,CC 79 [.agg u.cs,.int .i64 (d - 1:Nat),.ref a 0 1] h (.ret (.bool (u.fits (d - 1)))) (h++X)) :
  ∃ X,CC 82 [.agg u.cs,.ref a 0 1,.ref e 0 1] H (.ret (.bool (!u.fits (d - 1)))) (H++X):=by
 obtain ⟨X,hc⟩:=ih H ha
 have hdi:((d - 1:Nat):Int)=(d:Int) - 1:=by omega
 rw [hdi] at hc
 have oa:=vo_of ha
 have oe:=vo_of he
 have hcc:=cells_tr ho
 have hw:IntKind.i64.wrap ((d:Int) - 1)=(d:Int) - 1:=wrap64 (by omega) (by omega)
 refine ⟨X,CallP.eq (call_ofQ (af:=Trmm.a82) rfl rfl fun Q hQ => ?_)⟩
 simp only [Trmm.a82]
 simp [hcc,oa,oe,hw,hc,slotOf,-List.all_eq_true]
 exact hQ _ _ ⟨rfl,rfl⟩
theorem v86_q (l:List Tr) (v:V) (hv:SlV (l.map Tr.cs) v) (hl:∀ x∈l,x.Ok) (hlen:l.length<2 ^ 60) (d:Nat) (hd:d<2 ^ 60) (hd0:0<d) (H:Heap) (a e:Nat) (ha:H[a]?=some (.cells 1 1 [clo61 a])) (he:H[e]?=some (.cells 1 1 [.int .i64 d]))
  (ih:∀ u∈l,∀ (h:Heap),h[a]?=some (.cells 1 1 [clo61 a])→∃ X,CC 79 [.agg u.cs,.int .i64 (d - 1:Nat),.ref a 0 1] h (.ret (.bool (u.fits (d - 1)))) (h++X)) :
  ∃ X,∃ r:Int,CC 99 [v,.func (.func 82) [] [.ref a 0 1,.ref e 0 1]] H (.ret (.int .i64 r)) (H++X)∧(0≤r↔∃ u∈l,u.fits (d - 1)=false):=by
 have hlv:=len_tr hv
 have key:CallP gl Trmm.aprog 99 [v,.func (.func 82) [] [.ref a 0 1,.ref e 0 1]] H (fun r h'=>∃ X,∃ i:Int,r = .ret (.int .i64 i)∧h'=H++X∧(0≤i↔∃ u∈l,u.fits (d - 1)=false)):=by
  refine call_ofQ (af:=Trmm.a99) rfl rfl fun Q hQ => ?_
  simp only [Trmm.a99]
  simp [hlv,slotOf]
  refine loop_nQ l.length (fun i c=>(∀ u∈l.take i,u.fits (d - 1)=true)∧∃ X x y,c=⟨[v,.func (.func 82) [] [.ref a 0 1,.ref e 0 1],.int .i64 0,x,.int .i64 l.length,.int .i64 i],[],y,none,H++X⟩) ?_ ⟨by simp,[],.undef,none,by simp⟩
  rintro I hI i c hi ⟨hu,X,x,y,rfl⟩
  by_cases hlt:i<l.length
  ·have hlt':(i:Int)<l.length:=by omega
   have hi1:=idx_tr hv hlt
   have hm:=List.getElem_mem hlt
   have hw2:IntKind.i64.wrap ((i:Int)+1)=(i:Int)+1:=wrap64 (by omega) (by omega)
   have halt:a<H.length:=(List.getElem?_eq_some_iff.1 ha).1
   have helt:e<H.length:=(List.getElem?_eq_some_iff.1 he).1
   obtain ⟨Y,hc⟩:=v64_q l[i] (hl _ hm) d hd hd0 (H++X) a e (by rw [List.getElem?_append_left halt]; exact ha) (by rw [List.getElem?_append_left helt]; exact he) (ih _ hm)
   have htk:∀ u∈l.take (i+1),u∈l.take i∨u=l[i]:=fun u hu=>mem_take_succ hlt hu
   generalize l[i]=u at *
   cases hf:u.fits (d - 1)
   ·rw [hf] at hc
    simp [hlv,hlt',hi1,hc,slotOf]
    exact hQ _ _ ⟨X++Y,i,rfl,by simp,by simp only [Int.natCast_nonneg,true_iff]; exact ⟨u,hm,hf⟩⟩
   ·rw [hf] at hc
    simp [hlv,hlt',hi1,hc,hw2,slotOf]
    refine ⟨hlt,hI _ _ ⟨?_,X++Y,.int .i64 i,none,by simp⟩⟩
    intro w hw
    rcases htk w hw with hw | rfl
    ·exact hu w hw
    ·exact hf
  ·obtain rfl:i=l.length:=by omega
   simp [hlv,slotOf]
   refine hQ _ _ ⟨X,-1,rfl,rfl,?_⟩
   rw [List.take_length] at hu
   constructor
   ·intro h; omega
   ·rintro ⟨u,hm,hf⟩
    rw [hu u hm] at hf
    cases hf
 obtain ⟨r,h',e,X,i,rfl,rfl,h1⟩:=OptP.ex key
 exact ⟨X,i,e,h1⟩
theorem v61_q:∀ t:Tr,t.Ok→t.nodes<2 ^ 60→∀ (d:Nat) (h:Heap) (a:Nat),d<2 ^ 60→h[a]?=some (.cells 1 1 [clo61 a]) →
  ∃ X,CC 79 [.agg t.cs,.int .i64 d,.ref a 0 1] h (.ret (.bool (t.fits d))) (h++X):=by
 intro t
 induction t using Tr.ind with
 | h k n v l ih =>
 intro ho hnn d h a hd ha
 obtain ⟨_,_,hv,hl⟩:=ho.inv
 have hlv:=len_tr hv
 simp only [Tr.nodes] at hnn
 have hlen:=Tr.nodesL_length l
 have hnum:=number_q _ ho
 rw [PC] at hnum
 simp only [Tr.k,Tr.n,Tr.l] at hnum
 have he:∀ x:V,objCells (h++[.cells 1 1 [x]]) h.length=some (1,1,[x]):=fun x=>by simp [objCells]
 have hcs:(Tr.mk k n v l).cs=[.int .i64 k,.int .i64 n,v]:=rfl
 rw [hcs] at hnum ⊢
 by_cases hd0:d=0
 ·subst hd0
  refine ⟨[.cells 1 1 [.int .i64 0]],CallP.eq (call_ofQ (af:=Trmm.a79) rfl rfl fun Q hQ => ?_)⟩
  simp only [Trmm.a79]
  simp [hv.cell,he,slotOf]
  refine hQ _ _ ⟨?_,rfl⟩
  simp [Tr.fits,Tr.levels]
 have hdp:0<d:=by omega
 cases hnb:Tr.numOk k n l.length
 ·rw [hnb] at hnum
  refine ⟨[.cells 1 1 [.int .i64 d]],CallP.eq (call_ofQ (af:=Trmm.a79) rfl rfl fun Q hQ => ?_)⟩
  simp only [Trmm.a79]
  simp [hv.cell,he,hdp,hnum,slotOf,-pcall]
  refine hQ _ _ ⟨?_,rfl⟩
  simp [Tr.fits,Tr.allNum,hnb]
 rw [hnb] at hnum
 have halt:a<h.length:=(List.getElem?_eq_some_iff.1 ha).1
 obtain ⟨X,r,hc,hr⟩:=v86_q l v hv hl (by omega) d hd (by omega) (h++[.cells 1 1 [.int .i64 d]]) a h.length (by rw [List.getElem?_append_left halt]; exact ha) (by simp)
  (fun u hu h' ha'=>ih u hu (hl u hu) (by have:=Tr.nodesL_mem hu; omega) (d - 1) h' a (by omega) ha')
 have hc63:CC 81 [v,.func (.func 82) [] [.ref a 0 1,.ref h.length 0 1]] (h++[.cells 1 1 [.int .i64 d]]) (.ret (.bool (decide (0≤r)))) (h++[.cells 1 1 [.int .i64 d]]++X):=by
  refine CallP.eq (call_ofQ (af:=Trmm.a81) rfl rfl fun Q hQ => ?_)
  simp only [Trmm.a81]
  simp only [List.append_assoc] at hc
  simp [hc,slotOf]
  exact hQ _ _ ⟨rfl,by simp⟩
 refine ⟨[.cells 1 1 [.int .i64 d]]++X,CallP.eq (call_ofQ (af:=Trmm.a79) rfl rfl fun Q hQ => ?_)⟩
 have hfit:(Tr.mk k n v l).fits d = !decide (0≤r):=by
  rw [Bool.eq_iff_iff,Tr.fits_iff]
  simp only [Bool.not_eq_true',decide_eq_false_iff_not,hr]
  constructor
  ·rintro ⟨_,_,h1⟩ ⟨u,hu,h2⟩
   rw [h1 u hu] at h2
   cases h2
  ·intro h1
   refine ⟨by omega,hnb,fun u hu => ?_⟩
   cases h2:u.fits (d - 1)
   ·exact absurd ⟨u,hu,h2⟩ h1
   ·rfl
 simp only [Trmm.a79]
 simp only [List.append_assoc] at hc63
 simp [hv.cell,he,hdp,hnum,hc63,slotOf,-pcall]
 refine hQ _ _ ⟨?_,rfl⟩
 first
  | (rw [hfit]; done)
  | (rw [hfit]; simp)
theorem valid_q (t:Tr) (ho:t.Ok) (hn:t.nodes<2 ^ 60):PC 57 [.agg t.cs] (.bool (t.sized&&t.fits 12)):=by
 obtain ⟨m,hs,hm⟩:=vsize_q t ho hn
 rw [PC] at hs
 have hcc:=cells_tr ho
 refine pc_of (by simp [pureL,pureV,pure_tr ho]) (fun h=>rfl) ?_
 refine call_ofQ (af:=Trmm.a57) rfl rfl fun Q hQ => ?_
 simp only [Trmm.a57]
 cases e:t.sized
 ·rw [e] at hs hQ
  simp [hcc,hs,slotOf,-pcall,-List.all_eq_true]
  exact hQ _ _ rfl
 ·rw [e] at hs hQ
  obtain ⟨X,hc⟩:=v61_q t ho hn 12 [.cells 1 1 [clo61 0]] 0 (by omega) rfl
  have hc':(lim gl Trmm.aprog).call 79 [.agg t.cs,.int .i64 12,.ref 0 0 1] [.cells 1 1 [clo61 0]]=some (.ret (.bool (t.fits 12)),_):=hc
  simp [hcc,hs,hc',storeV,objCells,slotOf,-pcall,-List.all_eq_true]
  refine hQ _ _ ?_
  simp
end Go.Proofs.Mm
set_option linter.unusedVariables false
set_option linter.unusedSimpArgs false
set_option maxHeartbeats 1000000
namespace Go.Proofs.Mm
open Go Go.Am
theorem awake_q:PC 6 [] (.bool true):=by
 have h:=MmF.k24
 simp only [TE.ok,MmF.e24] at h
 simp [PC,pcall,callee,h,viewW,view1,viewV]
theorem exp_q (o n:Int) (l:V) (hc:isCell l=true) (hp:pureV l=true):PC 9 [.int .i64 o,.int .i64 n,l] (.agg [.int .i64 o,.int .i64 n,.int .i64 0,l]):=by
 have hcs:=cellsV_cell hc
 refine pc_ro (by simp [pureL,pureV,hp]) (fun h=>by simp [viewW,view1_pure 0 h (v:=.agg [.int .i64 o,.int .i64 n,.int .i64 0,l]) (by simp [pureL,pureV,hp])]) (cc_of (af:=Trmm.a9) rfl rfl fun Q hQ => ?_)
 simp only [Trmm.a9]
 simp [slotOf,fill,hc,hcs,mkV]
 exact hQ
theorem var_q (n:Int):PC 10 [.int .i64 n] (.agg [.int .i64 0,.int .i64 n,.int .i64 0,.nils]):=by
 have h:=exp_q 0 n .nils rfl rfl
 rw [PC] at h
 refine pc_ro rfl (fun h=>rfl) (cc_of (af:=Trmm.a10) rfl rfl fun Q hQ => ?_)
 simp only [Trmm.a10]
 simp [slotOf,h,mkV,-pcall]
 exact hQ
theorem num_q (n:Int):PC 8 [.int .i64 n] (.agg [.int .i64 1,.int .i64 n,.nils]):=by
 refine pc_ro rfl (fun h=>rfl) (cc_of (af:=Trmm.a8) rfl rfl fun Q hQ => ?_)
 simp only [Trmm.a8]
 simp [slotOf,fill,mkV]
 exact hQ
abbrev nameF:ByteArray:=⟨#[102]⟩
theorem prog_q (o n m:Int) (l:V) (hc:isCell l=true) (hp:pureV l=true):PC 12 [.agg [.int .i64 o,.int .i64 n,.int .i64 m,l]] (.agg [.sv [[.str nameF,.int .i64 0,.int .i64 o,.int .i64 n,.int .i64 m,l]] true,.int .i64 0]):=by
 have hcs:=cellsV_cell hc
 refine pc_ro (by simp [pureL,pureV,hp]) (fun h=>rfl) (cc_of (af:=Trmm.a12) rfl rfl fun Q hQ => ?_)
 simp only [Trmm.a12]
 simp [slotOf,fill,hc,hcs,mkV,chunks,hp,pureL,pureV]
 exact hQ
end Go.Proofs.Mm
