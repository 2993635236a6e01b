/- The abstract machine: code and functions are sound. -/
import Derived.Test.YtloeagdggmolcaaGreatDoorCoreB
import Derived.Test.YtloeagdggmolcaaGreatDoorCoreA
import Derived.OrdersIn
set_option linter.unusedVariables false
set_option linter.unusedSimpArgs false
namespace Go.Am
def locTmp (ops:Array Oper) (aops:List AOper) (j:Nat):Option Nat :=
 match ops[j]?,aops[j]? with
 | some o,some ao=>match ao.dst with
  | .loc=>o.dst
  | _=>none
 | _,_=>none
def AOp.isPa:AOp→Bool
 | .pa .. => true
 | _=>false
def paOf (aops:List AOper) (j:Nat):Bool :=
 match aops[j]? with
 | some ao=>ao.op.isPa
 | none=>true
def okOf (cx:Cx) (ops:Array Oper) (aops:List AOper):Operand→Opd→Bool
 | .tmp t,.s i=>cx.slots[i]? == some t && !cx.pr i
 | .tmp t,.r j=>locTmp ops aops j == some t && !paOf aops j
 | .const c,.c v=>constOk v c
 | .func f,.c (.func (.func n) [] [])=>f == n
 | .global n,.g m=>n == m&&cx.gs.contains n
 | _,_=>false
def LR (cx:Cx) (tmps:Array Value) (g:G) (ao:AOper) (v:V) (x:Value):Prop :=
 match ao.op with
 | .pa s _ _ _=>v = .undef∨(v = .tup []∧x=undef)∨∃ (n:Nat) (blk t:Nat),v = .int .i64 n∧x = .pointer (some ⟨blk,n,none⟩)∧cx.slots[s]?=some t∧tmps.getD t undef = .pointer (some ⟨blk,0,none⟩)
 | _=>RV g v x
def ER (cx:Cx) (ops:Array Oper) (aops:List AOper) (env:List V) (g:G) (tmps:Array Value):Prop :=
 ∀ j v d ao,env[j]?=some v→locTmp ops aops j=some d→aops[j]?=some ao→LR cx tmps g ao v (tmps.getD d undef)
def MarkR (g:G) (h:Heap) (w:World) (n0 D:Nat):Prop:=n0≤D∧g.M D=none∧¬ Live g h D∧w.heap[D]?=some (.deferred (some []))
theorem MarkR.step {g g':G} {h h':Heap} {w w':World} {n0 D:Nat} (hm:MarkR g h w n0 D) (hs:Step g h w g' h' w'):MarkR g' h' w' n0 D:=by
 obtain ⟨h1,h2,h3,h4⟩:=hm
 have hlt:D<w.heap.size:=(Array.getElem?_eq_some_iff.1 h4).1
 refine ⟨h1,?_,fun hl => ?_,by rw [hs.fr.block D hlt h3]; exact h4⟩
 ·cases hM:g'.M D with
  | none=>rfl
  | some a =>
   rcases hs.newM D a hM with q | q | q
   ·rw [h2] at q; cases q
   ·omega
   ·exact (h3 q).elim
 ·rcases hs.newL D hl with q | q
  ·exact h3 q
  ·omega
theorem MarkR.other {g:G} {h:Heap} {w w':World} {n0 D:Nat} (hm:MarkR g h w n0 D) (hw:w'.heap[D]?=w.heap[D]?):MarkR g h w' n0 D:=⟨hm.1,hm.2.1,hm.2.2.1,by rw [hw]; exact hm.2.2.2⟩
def DfR (P:Program) (g:G) (h:Heap) (w:World) (n0:Nat):Nat→List (V×List V)→List Deferred→Prop
 | _,[],[]=>True
 | top,(f,as) :: ds,d :: ds'=>(f = .undef∧∃ D,d.target = .collected D∧D<top∧MarkR g h w n0 D∧DfR P g h w n0 D ds ds') ∨
   ((∃ n vs fv cap,∃ us:Array Value,callee f as=some (n,vs)∧d.target = .fn fv cap∧RVs g vs us.toList∧∀ w,(invoke d.target d.args).run P w=(callFunc n us).run P w)∧DfR P g h w n0 top ds ds')
 | _,_,_=>False
theorem DfR.map {P:Program} {g g':G} {h h':Heap} {w w':World} {n0:Nat} (hg:g.le g') (hm:∀ D,MarkR g h w n0 D→MarkR g' h' w' n0 D):∀ {top top':Nat} {ds:List (V×List V)} {ds':List Deferred},top≤top'→DfR P g h w n0 top ds ds'→DfR P g' h' w' n0 top' ds ds'
 | _,_,[],[],_,_=>trivial
 | top,top',(f,as) :: ds,d :: ds',ht,.inl ⟨h1,D,h2,h3,h4,h5⟩ => .inl ⟨h1,D,h2,by omega,hm D h4,DfR.map hg hm (Nat.le_refl _) h5⟩
 | top,top',(f,as) :: ds,d :: ds',ht,.inr ⟨⟨n,vs,fv,cap,us,h1,h2,h3,h4⟩,h5⟩ => .inr ⟨⟨n,vs,fv,cap,us,h1,h2,h3.mono hg,h4⟩,DfR.map hg hm ht h5⟩
 | _,_,[],_ :: _,_,h=>h
 | _,_,_ :: _,[],_,h=>by simp [DfR] at h
theorem DfR.step {P:Program} {g g':G} {h h':Heap} {w w':World} {n0:Nat} {ds:List (V×List V)} {ds':List Deferred} (hd:DfR P g h w n0 w.heap.size ds ds') (hs:Step g h w g' h' w'):DfR P g' h' w' n0 w'.heap.size ds ds' :=
 DfR.map hs.le (fun D hm=>hm.step hs) hs.fr.size hd
theorem DfR.other {P:Program} {g:G} {h:Heap} {w w':World} {n0:Nat} {ds:List (V×List V)} {ds':List Deferred} (hd:DfR P g h w n0 w.heap.size ds ds') (hw:∀ D:Nat,w.heap[D]?=some (Go.Obj.deferred (some []))→w'.heap[D]?=w.heap[D]?) (hsz:w.heap.size≤w'.heap.size):DfR P g h w' n0 w'.heap.size ds ds' :=
 DfR.map (G.le_refl g) (fun D hm=>hm.other (hw D hm.2.2.2)) hsz hd
structure CR (cx:Cx) (c:Cfg) (g:G) (a:Act) (w:World):Prop where
 step:Step cx.g0 cx.h0 cx.w0 g c.h w
 sr:SlR cx c.slots g c.h w a.tmps
 df:DfR cx.P g c.h w cx.w0.heap.size w.heap.size c.dfs a.defers
 gl:GlOk cx.gl cx.gs g.M
def dstOk (cx:Cx) (ao:AOper) (o:Oper):Bool :=
 match ao.dst,o.dst with
 | .no,none=>true
 | .loc,some d=>decide (d<cx.nt) && !cx.slots.contains d
 | .slot s,some t=>cx.slots[s]? == some t&&decide (t<cx.nt)
 | _,_=>false
def notProm (cx:Cx) (ao:AOper):Bool :=
 match ao.dst with
 | .slot s => !cx.pr s
 | _=>true
def padr (cx:Cx) (ops:Array Oper) (aops:List AOper) (s:Nat) (b:Option Nat):Operand→Bool
 | .tmp t=>match b with
  | none=>cx.slots[s]? == some t
  | some i=>locTmp ops aops i == some t&&(match aops[i]? with | some ⟨_,.pa s' _ _ _,_⟩=>s' == s | _=>false)
 | _=>false
def chkA (cx:Cx) (ops:Array Oper) (aops:List AOper) (o:Oper) (ao:AOper):Bool :=
 dstOk cx ao o&&(match ao.op with
  | .p p=>notProm cx ao&&chkP cx.P (okOf cx ops aops) o.op p
  | .pc f as=>notProm cx ao&&(match o.op with | .call ⟨.value x,args,_⟩=>okOf cx ops aops x f&&okL (okOf cx ops aops) args.toList as | _=>false)
  | .l l=>notProm cx ao&&chkL cx.P (okOf cx ops aops) o.op l
  | .e e=>notProm cx ao&&chkE cx.P (okOf cx ops aops) o.op e
  | .np x=>ao.guard.isNone&&(match ao.dst with | .slot s=>cx.pr s | _=>false)&&chkE cx.P (okOf cx ops aops) o.op (.hnew x)
  | .lz l _ _=>notProm cx ao&&chkL cx.P (okOf cx ops aops) o.op l
  | .no=>notProm cx ao
  | .pa s b k ix=>(match ao.dst with | .loc=>true | _=>false)&&cx.pr s&&(match o.op,ix with
   | .fieldAddr t x fi,none=>padr cx ops aops s b x&&(match fieldIs cx.P t fi k with | some ft=>(match cx.P.info? ft with | some i=>i.size != 0 | none=>false) | none=>false)
   | .indexAddr t x (.const (.int _ n)),none=>padr cx ops aops s b x&&(match cx.P.underlying t with
    | some (.array m e)=>decide (0≤n∧n<m)&&(match cx.P.info? e with | some i=>n.toNat * i.size == k | none=>false)
    | _=>false)
   | .indexAddr t x i,some (i',m,sz)=>k == 0&&padr cx ops aops s b x&&okOf cx ops aops i i'&&(match cx.P.underlying t with
    | some (.array m' e)=>m' == m&&sizeIs cx.P e sz
    | _=>false)
   | _,_=>false)
  | .pl s b size ag=>notProm cx ao&&cx.pr s&&(match o.op with | .load t x=>padr cx ops aops s b x&&tyOk cx.P t size ag | _=>false)
  | .pu s b size y=>(match ao.dst with | .no=>true | _=>false)&&cx.pr s&&(match o.op with | .store t x y'=>padr cx ops aops s b x&&okOf cx ops aops y' y&&sizeIs cx.P t size | _=>false)
  | .pan x=>(match ao.dst with | .no=>true | _=>false)&&(match o.op with | .panic y=>okOf cx ops aops y x | _=>false)
  | .dfr f as=>(match ao.dst with | .no=>true | _=>false)&&(match o.op with | .defer ⟨.value x,args,_⟩=>okOf cx ops aops x f&&okL (okOf cx ops aops) args.toList as | _=>false)
  | .rcv=>notProm cx ao&&(match o.op with | .call ⟨.builtin .recover,args,_⟩=>args.isEmpty | _=>false))
section
variable {cx:Cx} {ops:Array Oper} {aops:List AOper} {env:List V} {c:Cfg} {g:G} {a:Act} {w:World}
theorem eval_tmp (a:Act) (t:Nat):a.eval (.tmp t)=a.tmps.getD t undef:=rfl
theorem ok_rv (cr:CR cx c g a w) (er:ER cx ops aops env g a.tmps) (x:Operand) (y:Opd) (h:okOf cx ops aops x y=true):RV g (ev cx.gl env c.slots y) (a.eval x):=by
 unfold okOf at h
 split at h
 ·rename_i t i
  simp only [Bool.and_eq_true,beq_iff_eq,Bool.not_eq_true'] at h
  exact cr.sr.get h.1 h.2
 ·rename_i t j
  simp only [Bool.and_eq_true,beq_iff_eq,Bool.not_eq_true'] at h
  simp only [ev,eval_tmp]
  cases hv:env[j]? with
  | none=>simp [List.getD,hv]; exact .d _ _ (.undef _)
  | some v =>
   simp only [List.getD,hv,Option.getD_some]
   obtain ⟨h1,h2⟩:=h
   unfold paOf at h2
   cases ha:aops[j]? with
   | none=>simp [ha] at h2
   | some ao =>
    have:=er j v t ao hv h1 ha
    simp only [ha] at h2
    unfold LR at this
    split at this
    ·rename_i heq; simp [heq,AOp.isPa] at h2
    ·exact this
 ·exact .d _ _ (constOk_rd _ _ _ h)
 ·rename_i f n
  simp only [beq_iff_eq] at h
  subst h
  exact .d _ _ (.func _ _ _ #[] #[] .nil .nil)
 ·rename_i n m
  simp only [Bool.and_eq_true,beq_iff_eq] at h
  obtain ⟨rfl,h2⟩:=h
  obtain ⟨arr,hM,hr⟩:=cr.gl n (by simpa using h2)
  refine .d _ _ (.pv _ arr.toList ⟨n,0,none⟩ arr rfl hM ?_ hr)
  show arr.toList=(arr.toList.drop 0).take arr.toList.length
  rw [List.drop_zero,List.take_length]
 ·cases h
theorem CR.value (hn:cx.slots.Nodup) (cr:CR cx c g a w) {ao:AOper} {o:Oper} (hd:dstOk cx ao o=true) (hp:notProm cx ao=true) {h':Heap} {w':World} {g':G} {v:V} {x:Value} (hs:Step g c.h w g' h' w') (hv:RV g' v x) :
  CR cx { c with slots:=setSlot c.slots ((slotOf ao.dst).map (·,v)),h:=h' } g' (a.put o.dst x) w':=by
 have hsr:=cr.sr.step hs
 refine ⟨cr.step.trans hs,?_,?_,cr.gl.mono hs.le.1⟩
 ·unfold dstOk at hd
  split at hd
  ·rename_i h1 h2
   rw [h1,h2]
   simpa [slotOf,Am.setSlot,Act.put] using hsr
  ·rename_i d h1 h2
   rw [h1,h2]
   simp only [Bool.and_eq_true,Bool.not_eq_true',decide_eq_true_eq] at hd
   simp only [slotOf,Option.map_none,Am.setSlot,Act.put]
   exact hsr.put (by simpa using hd.2) x
  ·rename_i s t h1 h2
   rw [h1,h2]
   simp only [Bool.and_eq_true,beq_iff_eq,decide_eq_true_eq] at hd
   simp only [slotOf,Option.map_some,Am.setSlot,Act.put]
   simp only [notProm,h1,Bool.not_eq_true'] at hp
   exact hsr.setSlot hn hd.1 hp hd.2 hv
  ·cases hd
 ·have:(a.put o.dst x).defers=a.defers:=by cases o.dst <;> rfl
  rw [this]
  exact cr.df.step hs
theorem CR.of_step (cr:CR cx c g a w) {h':Heap} {w':World} {g':G} (hs:Step g c.h w g' h' w'):CR cx { c with h:=h' } g' a w' :=
 ⟨cr.step.trans hs,cr.sr.step hs,cr.df.step hs,cr.gl.mono hs.le.1⟩
structure Outc (cx:Cx) (c:Cfg) (o:Oper) (ao:AOper) (g:G) (a:Act) (r:Am.SR) (next:Act→World→Prop) (Q:Exit→Act→World→Prop):Prop where
 ok:∀ v wr df pn hp d x g' w',r = .ok v wr df pn hp→g.le g' →
  CR cx { c with slots:=setSlot c.slots wr,dfs:=pushD df c.dfs,h:=hp.getD c.h } g' (({ a with defers:=d }:Act).put o.dst x) w' →
  (ao.dst = .loc→LR cx (({ a with defers:=d }:Act).put o.dst x).tmps g' ao v x)→next (({ a with defers:=d }:Act).put o.dst x) w'
 pan:∀ v hp x g' w',r = .pan v hp→g.le g'→RV g' v x→CR cx { c with h:=hp.getD c.h } g' a w'→Q (.panic [{ v:=x,recovered:=false }]) a w'
theorem upon_good (hn:cx.slots.Nodup) (cr:CR cx c g a w) {ao:AOper} {o:Oper} (hd:dstOk cx ao o=true) (hp:notProm cx ao=true) (hpa:ao.op.isPa=false) {s:Sem Next} {r:ERef} (hg:OpGood cx.P g c.h w s r) {r':Am.SR}
  (hr':(∃ v,r = .val v c.h∧r'=putSlot ao.dst v)∨(∃ v,r = .pan v c.h∧r' = .pan v none)∨r'=ofERef ao.dst r) {next:Act→World→Prop} {Q:Exit→Act→World→Prop} (out:Outc cx c o ao g a r' next Q) :
  o.upon cx.P a next Q (s.run cx.P w):=by
 have hlr:∀ (v:V) (x:Value) (g':G) tm,RV g' v x→LR cx tm g' ao v x:=by
  intro v x g' tm h
  unfold LR
  split
  ·rename_i heq; simp [heq,AOp.isPa] at hpa
  ·exact h
 refine hg.upon (fun v h' vv w' g' hr hv hs => ?_) (fun v h' x w' g' hr hv hs => ?_)
 ·have hcr:=CR.value hn cr hd hp hs hv
  have hcr':∀ wr,wr=(slotOf ao.dst).map (·,v)→∀ hp:Option Heap,hp.getD c.h=h'→CR cx { c with slots:=setSlot c.slots wr,h:=hp.getD c.h } g' (a.put o.dst vv) w':=by
   rintro wr rfl hp rfl
   exact hcr
  have go:∀ v' wr hp,r' = .ok v' wr none none hp→wr=(slotOf ao.dst).map (·,v)→hp.getD c.h=h'→(ao.dst = .loc→v'=v)→next (a.put o.dst vv) w':=by
   intro v' wr hp h1 h2 h3 h4
   refine out.ok v' wr none none hp a.defers vv g' w' h1 hs.le (hcr' wr h2 hp h3) (fun hl => ?_)
   rw [h4 hl]
   exact hlr _ _ _ _ hv
  rcases hr' with ⟨u,h1,h2⟩ | ⟨u,h1,h2⟩ | h2
  ·rw [hr] at h1
   cases h1
   cases hdst:ao.dst with
   | no=>exact go v none none (by simp [h2,putSlot,hdst]) (by simp [hdst,slotOf]) rfl (fun _=>rfl)
   | loc=>exact go v none none (by simp [h2,putSlot,hdst]) (by simp [hdst,slotOf]) rfl (fun _=>rfl)
   | slot s=>exact go .undef (some (s,v)) none (by simp [h2,putSlot,hdst]) (by simp [hdst,slotOf]) rfl (fun h=>by rw [hdst] at h; cases h)
  ·rw [hr] at h1; cases h1
  ·rw [hr] at h2
   cases hdst:ao.dst with
   | no=>exact go v none (some h') (by simp [h2,ofERef,hdst]) (by simp [hdst,slotOf]) rfl (fun _=>rfl)
   | loc=>exact go v none (some h') (by simp [h2,ofERef,hdst]) (by simp [hdst,slotOf]) rfl (fun _=>rfl)
   | slot s=>exact go .undef (some (s,v)) (some h') (by simp [h2,ofERef,hdst]) (by simp [hdst,slotOf]) rfl (fun h=>by rw [hdst] at h; cases h)
 ·have hcr:=cr.of_step hs
  rcases hr' with ⟨u,h1,h2⟩ | ⟨u,h1,h2⟩ | h2
  ·rw [hr] at h1; cases h1
  ·rw [hr] at h1
   cases h1
   exact out.pan v none x g' w' h2 hs.le hv hcr
  ·rw [hr] at h2
   exact out.pan v (some h') x g' w' h2 hs.le hv hcr
theorem padr_run (cr:CR cx c g a w) (er:ER cx ops aops env g a.tmps) {s:Nat} {b:Option Nat} {x:Operand} (hp:cx.pr s=true) (hx:padr cx ops aops s b x=true) {n:Nat} (hn:pOff env b=some n) {v:V} (hv:c.slots[s]?=some v) (hu:v ≠ .undef) :
  ∃ t blk,cx.slots[s]?=some t∧a.tmps.getD t undef = .pointer (some ⟨blk,0,none⟩)∧a.eval x = .pointer (some ⟨blk,n,none⟩)∧PromR g c.h w cx.w0.heap.size blk v (a.tmps.getD t undef):=by
 unfold padr at hx
 split at hx
 ·rename_i t
  split at hx
  ·simp only [beq_iff_eq] at hx
   obtain ⟨blk,hpr⟩:=cr.sr.prm s t v hx hv hp hu
   simp only [pOff,Option.some.injEq] at hn
   subst hn
   exact ⟨t,blk,hx,hpr.1,hpr.1,hpr⟩
  ·rename_i i
   simp only [Bool.and_eq_true,beq_iff_eq] at hx
   obtain ⟨h1,h2⟩:=hx
   split at h2
   ·rename_i d' s' b' k' ix' gd' ha
    simp only [beq_iff_eq] at h2
    subst h2
    simp only [pOff] at hn
    split at hn
    ·rename_i k m hm
     cases hn
     have:=er i _ t _ hm h1 ha
     simp only [LR] at this
     rcases this with h | ⟨h,_⟩ | ⟨n,blk,t',hv',hx',ht',hb'⟩
     ·cases h
     ·cases h
     ·cases hv'
      obtain ⟨blk',hpr⟩:=cr.sr.prm _ _ v ht' hv hp hu
      have:=hpr.1
      rw [hb'] at this
      cases this
      exact ⟨t',blk,ht',hb',by rw [eval_tmp,hx']; simp,hpr⟩
    ·cases hn
   ·cases h2
 ·cases hx
end
section
variable {cx:Cx} {ops:Array Oper} {aops:List AOper} {env:List V} {c:Cfg} {g:G} {a:Act} {w:World}
theorem defd_spec {sl:List V} {s:Nat} (h:defd sl s=true):∃ v,sl[s]?=some v∧v ≠ .undef:=by
 unfold defd at h
 split at h
 ·cases h
 ·cases h
 ·rename_i x hx hu
  cases hv:sl[s]? with
  | none=>exact absurd hv hx
  | some v=>exact ⟨v,rfl,fun e=>hu (by rw [hv,e])⟩
theorem np_core (hn:cx.slots.Nodup) (cr:CR cx c g a w) (er:ER cx ops aops env g a.tmps) {o:Oper} {ao:AOper} {x:Opd} (hop:ao.op = .np x) (hchk:chkA cx ops aops o ao=true) {rec:Rec} {r:Am.SR}
  (hstep:stepOp rec cx.gl ao env c.slots c.pn c.h=some r) {next:Act→World→Prop} {Q:Exit→Act→World→Prop} (out:Outc cx c o ao g a r next Q) :
  o.upon cx.P a next Q ((execOp a.eval o).run cx.P w):=by
 simp only [chkA,hop,Bool.and_eq_true] at hchk
 obtain ⟨hd,⟨hg,hp⟩,hc⟩:=hchk
 cases hdst:ao.dst <;> simp only [hdst,Bool.false_eq_true] at hp
 case slot s =>
  simp only [stepOp,hop,hdst] at hstep
  split at hstep
  ·rename_i hcell
   cases hstep
   unfold dstOk at hd
   rw [hdst] at hd
   cases hod:o.dst with
   | none=>simp [hod] at hd
   | some d =>
    simp only [hod,Bool.and_eq_true,beq_iff_eq,decide_eq_true_eq] at hd
    obtain ⟨hs,hdt⟩:=hd
    have hrv:∃ xv t,(execOp a.eval o).run cx.P w = .ok (.value (.pointer (some ⟨w.heap.size,0,none⟩))) (w.alloc (.cells xv t (0,0)))∧RVs g (cellsV (ev cx.gl env c.slots x)) xv.toList∧∀ u∈xv.toList,u.oneCell'=true:=by
     cases ho:o.op <;> simp only [ho] at hc
     case alloc t =>
      cases x <;> simp only [chkE,Bool.false_eq_true] at hc
      case c v =>
       obtain ⟨z,hz,hrv⟩:=zeroIs_rv (g:=g) hc
       obtain ⟨hrun,_,_⟩:=box_new (P:=cx.P) (t:=t) cr.step.rep hrv hcell
       obtain ⟨h1,h2⟩:=hrv.cells hcell
       exact ⟨z.cells,t,by simp [execOp,ho,Instr.alloc,hz,hrun],h1,h2⟩
     case box t y =>
      have hx:okOf cx ops aops y x=true:=by cases x <;> exact hc
      have hrv:=ok_rv cr er _ _ hx
      obtain ⟨hrun,_,_⟩:=box_new (P:=cx.P) (t:=t) cr.step.rep hrv hcell
      obtain ⟨h1,h2⟩:=hrv.cells hcell
      exact ⟨(a.eval y).cells,t,by simp [execOp,ho,Instr.box,hrun],h1,h2⟩
     all_goals (cases x <;> simp [chkE] at hc)
    obtain ⟨xv,t,hrun,h1,h2⟩:=hrv
    rw [hrun]
    have hsz:=cr.step.fr.size
    have hM:g.M w.heap.size=none:=by
     cases hM:g.M w.heap.size with
     | none=>rfl
     | some b =>
      obtain ⟨e,fz,hh⟩:=cr.step.rep.mem _ _ hM
      have:=(Array.getElem?_eq_some_iff.1 hh).1
      omega
    have hL:¬ Live g c.h w.heap.size:=fun hl=>by have:=(cr.step.rep.live_lt hl).1; omega
    refine out.ok _ _ _ _ _ a.defers (.pointer (some ⟨w.heap.size,0,none⟩)) g (w.alloc (.cells xv t (0,0))) rfl (G.le_refl g) ?_ (fun h=>by rw [hdst] at h; cases h)
    refine ⟨?_,?_,?_,cr.gl⟩
    ·exact cr.step.priv hsz hM hL rfl rfl rfl (by simp) (fun i hi _=>am_old w _ i hi)
    ·simp only [Am.setSlot,hod,Act.put]
     exact SlR.fresh hn cr.sr cr.step.rep hsz hs hp hdt h1 h2
    ·simp only [hod,Act.put]
     exact cr.df.other (fun D hD=>am_old w _ D (Array.getElem?_eq_some_iff.1 hD).1) (by simp)
  ·cases hstep
theorem pa_core (cr:CR cx c g a w) (er:ER cx ops aops env g a.tmps) {o:Oper} {ao:AOper} {s:Nat} {b:Option Nat} {k:Nat} {ix:Option (Opd×Nat×Nat)} (hop:ao.op = .pa s b k ix) (hchk:chkA cx ops aops o ao=true) {rec:Rec} {r:Am.SR}
  (hdef:defd c.slots s=true)
  (hstep:stepOp rec cx.gl ao env c.slots c.pn c.h=some r) {next:Act→World→Prop} {Q:Exit→Act→World→Prop} (out:Outc cx c o ao g a r next Q) :
  o.upon cx.P a next Q ((execOp a.eval o).run cx.P w):=by
 simp only [chkA,hop,Bool.and_eq_true] at hchk
 obtain ⟨hd,⟨hdl,hp⟩,hc⟩:=hchk
 cases hdst:ao.dst <;> simp only [hdst,Bool.false_eq_true] at hdl
 case loc =>
  unfold dstOk at hd
  rw [hdst] at hd
  cases hod:o.dst with
  | none=>simp [hod] at hd
  | some d =>
   simp only [hod,Bool.and_eq_true,decide_eq_true_eq,Bool.not_eq_true'] at hd
   obtain ⟨hdt,hds⟩:=hd
   have hds':d ∉ cx.slots:=by simpa using hds
   have fin:∀ (m:Nat) t blk,r = .ok (.int .i64 m) none none none none→cx.slots[s]?=some t→a.tmps.getD t undef = .pointer (some ⟨blk,0,none⟩) →
     (execOp a.eval o).run cx.P w = .ok (.value (.pointer (some ⟨blk,m,none⟩))) w→o.upon cx.P a next Q ((execOp a.eval o).run cx.P w):=by
    intro m t blk hr ht hb hrun
    rw [hrun]
    refine out.ok _ _ _ _ _ a.defers (.pointer (some ⟨blk,m,none⟩)) g w hr (G.le_refl g) ?_ (fun _ => ?_)
    ·refine ⟨cr.step,?_,?_,cr.gl⟩
     ·simp only [Am.setSlot,hod,Act.put]
      exact cr.sr.put hds' _
     ·simp only [hod,Act.put]
      exact cr.df
    ·simp only [LR,hop,hod,Act.put]
     refine .inr (.inr ⟨m,blk,t,rfl,rfl,ht,?_⟩)
     rw [getD_put _ (fun (e:d=t)=>hds' (by rw [e]; exact List.mem_of_getElem? ht))]
     exact hb
   obtain ⟨v,hv,hu⟩:=defd_spec hdef
   simp only [stepOp,hop] at hstep
   rw [if_pos hdef] at hstep
   split at hstep
   ·rename_i n hn'
    split at hc
    ·rename_i t x fi ho
     simp only [Bool.and_eq_true] at hc
     simp only [Option.some.injEq] at hstep
     obtain ⟨t',blk,h1,h2,h3,_⟩:=padr_run cr er hp hc.1 hn' hv hu
     have h5:=hc.2
     split at h5
     ·rename_i ft hft
      obtain ⟨fs,fd,hu',hf,hoff,hty⟩:=fieldIs_run hft
      subst hoff hty
      cases hi:cx.P.info? fd.type with
      | none=>simp [hi] at h5
      | some i =>
       simp only [hi,bne_iff_ne,ne_eq] at h5
       refine fin _ t' blk hstep.symm h1 h2 ?_
       simp [execOp,ho,h3,Instr.fieldAt,run_underlying hu',hf,Instr.sureAddr,fieldPlace,sizeOf,typeInfo,hi,h5,add_none]
     ·cases h5
    ·rename_i t x kk m ho
     simp only [Bool.and_eq_true] at hc
     simp only [Option.some.injEq] at hstep
     obtain ⟨t',blk,h1,h2,h3,_⟩:=padr_run cr er hp hc.1 hn' hv hu
     have h5:=hc.2
     split at h5
     ·rename_i m' e hu'
      simp only [Bool.and_eq_true,decide_eq_true_eq] at h5
      obtain ⟨⟨h6,h7⟩,h8⟩:=h5
      cases hi:cx.P.info? e with
      | none=>simp [hi] at h8
      | some i =>
       simp only [hi,beq_iff_eq] at h8
       subst h8
       refine fin _ t' blk hstep.symm h1 h2 ?_
       have hev:∀ z,a.eval (.const z)=z:=fun _=>rfl
       simp [execOp,ho,h3,hev,Instr.indexAt,asIntOf,run_underlying hu',Instr.sureAddr,h6,h7,sizeOf,typeInfo,hi,add_none]
     ·cases h5
    ·rename_i t x i i' m sz ho
     simp only [Bool.and_eq_true,beq_iff_eq] at hc
     obtain ⟨⟨⟨rfl,hx⟩,hi⟩,h5⟩:=hc
     obtain ⟨t',blk,h1,h2,h3,_⟩:=padr_run cr er hp hx hn' hv hu
     simp only at hstep
     split at hstep
     ·rename_i kk j hj
      split at hstep
      ·rename_i hcond
       obtain ⟨c1,c2,c3⟩:=hcond
       simp only [Option.some.injEq] at hstep
       have hiv:=(hj ▸ ok_rv cr er _ _ hi).int_inv
       split at h5
       ·rename_i m' e hu'
        simp only [Bool.and_eq_true,beq_iff_eq] at h5
        obtain ⟨rfl,h6⟩:=h5
        have hsz:=sizeIs_map h6
        refine fin _ t' blk hstep.symm h1 h2 ?_
        simp [execOp,ho,h3,hiv,Instr.indexAt,asIntOf,run_underlying hu',Instr.sureAddr,c1,c2,run_sizeOf hsz,add_none]
       ·cases h5
      ·cases hstep
     ·cases hstep
    ·cases hc
   ·cases hstep
theorem pl_core (hn:cx.slots.Nodup) (cr:CR cx c g a w) (er:ER cx ops aops env g a.tmps) {o:Oper} {ao:AOper} {s:Nat} {b:Option Nat} {size:Nat} {ag:Bool} (hop:ao.op = .pl s b size ag) (hchk:chkA cx ops aops o ao=true) {rec:Rec} {r:Am.SR}
  (hdef:defd c.slots s=true)
  (hstep:stepOp rec cx.gl ao env c.slots c.pn c.h=some r) {next:Act→World→Prop} {Q:Exit→Act→World→Prop} (out:Outc cx c o ao g a r next Q) :
  o.upon cx.P a next Q ((execOp a.eval o).run cx.P w):=by
 simp only [chkA,hop,Bool.and_eq_true] at hchk
 obtain ⟨hd,⟨hnp,hp⟩,hc⟩:=hchk
 obtain ⟨v,hv,hu⟩:=defd_spec hdef
 simp only [stepOp,hop] at hstep
 rw [if_pos hdef] at hstep
 split at hstep
 ·rename_i n hn'
  split at hstep
  ·rename_i hle
   simp only [Option.map_eq_some_iff] at hstep
   obtain ⟨u,hmk,rfl⟩:=hstep
   have hgd:c.slots.getD s .undef=v:=by simp [List.getD,hv]
   rw [hgd] at hle hmk
   split at hc
   ·rename_i t x ho
    simp only [Bool.and_eq_true] at hc
    obtain ⟨t',blk,h1,h2,h3,hpr⟩:=padr_run cr er hp hc.1 hn' hv hu
    obtain ⟨_,_,_,_,arr,e,lo,hi,hh,_,hrv,_⟩:=hpr
    have hlen:=hrv.length
    simp only [Array.length_toList] at hlen
    have ht:=hc.2
    refine upon_good hn cr hd hnp (by simp [hop,AOp.isPa]) (r:=.val u c.h) ?_ (.inl ⟨u,rfl,rfl⟩) out
    by_cases h0:size=0
    ·subst h0
     have hag:ag=true:=by
      cases ag with
      | true=>rfl
      | false=>have:=mkV_one hmk rfl; simp at this
     subst hag
     simp [mkV] at hmk
     subst hmk
     exact .inl ⟨_,_,rfl,.agg #[],w,g,.inl (by simp [execOp,ho,Instr.loadAt,Instr.sureAddr,h3,run_loadVar_none ht]),.agg _ _ (by simpa using RVs.nil),Step.refl cr.step.rep⟩
    ·obtain ⟨vv,hrun,hvv⟩:=run_loadVar_blk (P:=cx.P) ht hh (off:=n) (by omega) (fun ha=>by subst ha; have:=mkV_one hmk rfl; simp at this; omega)
     refine .inl ⟨_,_,rfl,vv,w,g,.inl (by simp [execOp,ho,Instr.loadAt,Instr.sureAddr,h3,hrun]),?_,Step.refl cr.step.rep⟩
     refine mkV_rv ((hrv.drop n).take size) hmk vv ?_
     cases ag with
     | true=>simpa using hvv
     | false =>
      simp only [Bool.false_eq_true,if_false] at hvv ⊢
      rw [List.getElem?_take_of_lt (by omega)]
      simpa using hvv
   ·cases hc
  ·cases hstep
 ·cases hstep
theorem splice_one {v:V} {l:List V} (h:l.length=1):splice [v] 0 l=l:=by
 unfold splice
 rw [h]
 simp
theorem pu_core (hn:cx.slots.Nodup) (cr:CR cx c g a w) (er:ER cx ops aops env g a.tmps) {o:Oper} {ao:AOper} {s:Nat} {b:Option Nat} {size:Nat} {y:Opd} (hop:ao.op = .pu s b size y) (hchk:chkA cx ops aops o ao=true) {rec:Rec} {r:Am.SR}
  (hdef:defd c.slots s=true)
  (hstep:stepOp rec cx.gl ao env c.slots c.pn c.h=some r) {next:Act→World→Prop} {Q:Exit→Act→World→Prop} (out:Outc cx c o ao g a r next Q) :
  o.upon cx.P a next Q ((execOp a.eval o).run cx.P w):=by
 simp only [chkA,hop,Bool.and_eq_true] at hchk
 obtain ⟨hd,⟨hdn,hp⟩,hc⟩:=hchk
 cases hdst:ao.dst <;> simp only [hdst,Bool.false_eq_true] at hdn
 have hod:o.dst=none:=by
  unfold dstOk at hd
  rw [hdst] at hd
  cases hod:o.dst with
  | none=>rfl
  | some d=>simp [hod] at hd
 obtain ⟨v,hv,hu⟩:=defd_spec hdef
 have hgd:c.slots.getD s .undef=v:=by simp [List.getD,hv]
 simp only [stepOp,hop] at hstep
 rw [if_pos hdef] at hstep
 split at hstep
 ·rename_i n hn'
  rw [hgd] at hstep
  split at hstep
  ·rename_i hcond
   obtain ⟨hle,hsz,hcell,hag⟩:=hcond
   cases hstep
   split at hc
   ·rename_i t x y' ho
    simp only [Bool.and_eq_true] at hc
    obtain ⟨⟨hx,hy⟩,ht⟩:=hc
    have ht:=sizeIs_map ht
    obtain ⟨t',blk,h1,h2,h3,hpr⟩:=padr_run cr er hp hx hn' hv hu
    obtain ⟨p1,p2,p3,p4,arr,e,lo,hi,hh,hfz,hrv,hone⟩:=hpr
    have hlen:=hrv.length
    simp only [Array.length_toList] at hlen
    have hyv:=ok_rv cr er _ _ hy
    obtain ⟨hcs,hcone⟩:=hyv.cells hcell
    have hxl:(a.eval y').cells.size=size:=by have:=hcs.length; simp at this; omega
    have hst:=run_storeCells_blk (P:=cx.P) blk n e lo hi (a.eval y').cells.toList 0 arr w hh (by simp; omega) hfz hcone
    simp only [Nat.add_zero] at hst
    have hrun:(execOp a.eval o).run cx.P w = .ok .skip (w.setRow blk (arr.toList.take n++(a.eval y').cells.toList++arr.toList.drop (n+(a.eval y').cells.toList.length)).toArray):=by
     simp only [execOp,ho,Instr.storeAt,Instr.sureAddr,h3,storeVar,Sem.run_bind,Sem.run_pure,Result.andThen_ok,run_sizeOf ht,hxl,ne_eq,not_true_eq_false,if_false]
     rw [hst]
     rfl
    rw [hrun]
    have hL:w.heap.size≤(w.setRow blk (arr.toList.take n++(a.eval y').cells.toList++arr.toList.drop (n+(a.eval y').cells.toList.length)).toArray).heap.size:=by
     simp [World.setRow]
    have hcr:=hcs.length
    have hx2:(a.eval y').cells.toList.length=size:=by simpa using hxl
    have hnew:∀ v',cellsV v'=splice (cellsV v) n (cellsV (ev cx.gl env c.slots y))→SlR cx (c.slots.set s v') g c.h (w.setRow blk (arr.toList.take n++(a.eval y').cells.toList++arr.toList.drop (n+(a.eval y').cells.toList.length)).toArray) a.tmps:=by
     intro v' hv'
     refine SlR.wrote hn cr.sr h1 hp hv hu h2 hh ?_ ?_ ?_
     ·simp only [List.size_toArray,List.length_append,List.length_take,List.length_drop,Array.length_toList,hx2]
      omega
     ·rw [hv']
      simp only [List.toList_toArray,splice]
      rw [hx2,← hsz]
      exact ((hrv.take n).append hcs).append (hrv.drop _)
     ·simp only [List.toList_toArray]
      intro u hu'
      rcases List.mem_append.1 hu' with hu' | hu'
      ·rcases List.mem_append.1 hu' with hu' | hu'
       ·exact hone u (List.mem_of_mem_take hu')
       ·exact hcone u hu'
      ·exact hone u (List.mem_of_mem_drop hu')
    refine out.ok _ _ _ _ _ a.defers undef g _ rfl (G.le_refl g) ?_ (fun h=>by rw [hdst] at h; cases h)
    refine ⟨?_,?_,?_,cr.gl⟩
    ·exact cr.step.priv p2 p3 p4 rfl rfl rfl hL (fun i _ hi=>setRow_other w blk i _ hi)
    ·simp only [Am.setSlot,hod,Act.put]
     refine hnew _ ?_
     cases v with
     | agg cs=>simp [cellsV]
     | _ =>
      have hle':n+size≤1:=hle
      have hs1:size=1:=by simpa [Am.isAggV] using hag
      have hn0:n=0:=by omega
      subst hn0
      exact (splice_one (hsz.trans hs1)).symm
    ·simp only [hod,Act.put]
     exact cr.df.other (fun D hD=>setRow_other w blk D _ (fun e=>by subst e; rw [hh] at hD; cases hD)) hL
   ·cases hc
  ·cases hstep
 ·cases hstep
end
section
variable {cx:Cx} {ops:Array Oper} {aops:List AOper} {env:List V} {c:Cfg} {g:G} {a:Act} {w:World}
theorem ecall_F {rec:Rec} {h:Heap} {fz:Bool} {f:V} {as:List V} (hy:∀ b,f ≠ .yf b):ecall rec h fz f as=ecallF rec h fz f as:=by
 cases f <;> first | rfl | exact absurd rfl (hy _)
def NoY (gl:Nat→List V) (ao:AOper) (env slots:List V):Prop:=∀ fn as fz b,ao.op = .e (.call fn as fz)→ev gl env slots fn ≠ .yf b
theorem lzV_lop {rec:Rec} {h:Heap} {f:Opd→V} {l:LOp} {v:V} (hv:lzV h f l=some v):lopV rec h f l=some (.val v):=by
 cases l <;> simp only [lzV] at hv <;> first | (cases hv; done) | simp only [lopV,hv,Option.map_some]
theorem op_core (hn:cx.slots.Nodup) {rec:Rec} (hrec:RecS cx.P cx.gl cx.gs cx.g0.Y rec) (cr:CR cx c g a w) (er:ER cx ops aops env g a.tmps) {o:Oper} {ao:AOper} (hchk:chkA cx ops aops o ao=true) (hnr:ao.op ≠ .rcv) (hy:NoY cx.gl ao env c.slots) {r:Am.SR}
  (hstep:stepOp rec cx.gl ao env c.slots c.pn c.h=some r) {next:Act→World→Prop} {Q:Exit→Act→World→Prop} (out:Outc cx c o ao g a r next Q) :
  o.upon cx.P a next Q ((execOp a.eval o).run cx.P w):=by
 have hρ:=ok_rv cr er
 cases hop:ao.op with
 | p p =>
  have hchk':=hchk
  simp only [chkA,hop,Bool.and_eq_true] at hchk'
  simp only [stepOp,hop,Option.map_eq_some_iff] at hstep
  obtain ⟨v,hv,rfl⟩:=hstep
  have hp:=pop_sound (P:=cx.P) (o:=o) cr.step.rep.memOk hρ (fun _=>rfl) hchk'.2.2 hv
  exact upon_good hn cr hchk'.1 hchk'.2.1 (by simp [hop,AOp.isPa]) (hp.op cr.step.rep) (.inl ⟨v,rfl,rfl⟩) out
 | pc fn as =>
  have hchk':=hchk
  simp only [chkA,hop,Bool.and_eq_true] at hchk'
  obtain ⟨hd,hnp,hc⟩:=hchk'
  simp only [stepOp,hop,Option.map_eq_some_iff] at hstep
  obtain ⟨rf,hv,rfl⟩:=hstep
  split at hc
  ·rename_i x args ts ho
   simp only [Bool.and_eq_true] at hc
   refine upon_good hn cr hd hnp (by simp [hop,AOp.isPa]) (pcall_sound hrec.call cr.step.rep cr.gl cr.step.le.3 hρ ho hc.1 hc.2 hv) ?_ out
   cases rf with
   | val v=>exact .inl ⟨v,rfl,rfl⟩
   | pan v=>exact .inr (.inl ⟨v,rfl,rfl⟩)
  ·cases hc
 | l l =>
  have hchk':=hchk
  simp only [chkA,hop,Bool.and_eq_true] at hchk'
  obtain ⟨hd,hnp,hc⟩:=hchk'
  simp only [stepOp,hop,Option.map_eq_some_iff] at hstep
  obtain ⟨rf,hv,rfl⟩:=hstep
  refine upon_good hn cr hd hnp (by simp [hop,AOp.isPa]) (lop_sound hrec.call hrec.ro cr.step.rep cr.gl cr.step.le.3 hρ hc hv) ?_ out
  cases rf with
  | val v=>exact .inl ⟨v,rfl,rfl⟩
  | pan v=>exact .inr (.inl ⟨v,rfl,rfl⟩)
 | e e =>
  have hchk':=hchk
  simp only [chkA,hop,Bool.and_eq_true] at hchk'
  obtain ⟨hd,hnp,hc⟩:=hchk'
  simp only [stepOp,hop,Option.map_eq_some_iff] at hstep
  obtain ⟨rf,hv,rfl⟩:=hstep
  refine upon_good hn cr hd hnp (by simp [hop,AOp.isPa]) (r:=rf) ?_ (.inr (.inr rfl)) out
  cases hcall:e.isCall with
  | false =>
   obtain ⟨v,h',rfl,hg⟩:=eop_sound (P:=cx.P) cr.step.rep hρ (fun _=>rfl) (fun _=>rfl) hcall hc hv
   exact .inl ⟨v,h',rfl,hg⟩
  | true =>
   cases e <;> simp only [EOp.isCall,Bool.false_eq_true] at hcall
   case inv x tbl args fz =>
    cases ho:o.op <;> simp only [chkE,ho,Bool.false_eq_true] at hc
    case call cc =>
     obtain ⟨cl,args',ts⟩:=cc
     cases cl <;> first | (simp [chkE] at hc; done) | skip
     case invoke y name =>
      simp only [chkE,Bool.and_eq_true] at hc
      have hv':=hv
      simp only [eopV] at hv'
      split at hv'
      ·rename_i fv hm
       exact inv_sound hrec.call cr.step.rep cr.gl cr.step.le.3 hρ ho hc.1.1 hc.1.2 hc.2 hm hv'
      ·cases hv'
   case mtv t0 nm fn x tbl args fz =>
    cases ho:o.op <;> simp only [chkE,ho,Bool.false_eq_true] at hc
    case call cc =>
     obtain ⟨cl,args',ts⟩:=cc
     cases cl <;> first | (simp [chkE] at hc; done) | skip
     case value y =>
      simp only [chkE,Bool.and_eq_true] at hc
      obtain ⟨⟨⟨c1,c2⟩,c3⟩,c4⟩:=hc
      have hv':=hv
      simp only [eopV] at hv'
      split at hv'
      case h_2=>cases hv'
      rename_i t' nm' hfn
      split at hv'
      case isFalse=>cases hv'
      rename_i he
      obtain ⟨rfl,rfl⟩:=he
      split at hv'
      case h_2=>cases hv'
      rename_i fv hm
      refine mtv_sound hrec.call cr.step.rep cr.gl cr.step.le.3 hρ ho c1 c2 ?_ c4 hfn hm hv'
      split at c3
      ·exact ⟨_,by assumption⟩
      ·cases c3
   case call fn args fz =>
    cases ho:o.op <;> simp only [chkE,ho,Bool.false_eq_true] at hc
    case call cc =>
     obtain ⟨cl,args',ts⟩:=cc
     cases cl <;> first | (simp [chkE] at hc; done) | skip
     case value x =>
      simp only [chkE,Bool.and_eq_true] at hc
      have hv':=hv
      simp only [eopV] at hv'
      rw [ecall_F (fun b=>hy fn args fz b hop)] at hv'
      exact call_sound hrec.call cr.step.rep cr.gl cr.step.le.3 hρ ho hc.1 hc.2 hv'
 | no=>simp [stepOp,hop] at hstep
 | lz l lo hi =>
  have hchk':=hchk
  simp only [chkA,hop,Bool.and_eq_true] at hchk'
  obtain ⟨hd,hnp,hc⟩:=hchk'
  simp only [stepOp,hop,Option.map_eq_some_iff] at hstep
  obtain ⟨v,hv,rfl⟩:=hstep
  have hv':lopV rec c.h (ev cx.gl env c.slots) l=some (.val v):=lzV_lop hv
  refine upon_good hn cr hd hnp (by simp [hop,AOp.isPa]) (lop_sound hrec.call hrec.ro cr.step.rep cr.gl cr.step.le.3 hρ hc hv') ?_ out
  exact .inl ⟨v,rfl,rfl⟩
 | np x=>exact np_core hn cr er hop hchk hstep out
 | pa s b k ix =>
  have hdef:defd c.slots s=true:=by
   cases hd:defd c.slots s with
   | true=>rfl
   | false=>simp [stepOp,hop,hd] at hstep
  exact pa_core cr er hop hchk hdef hstep out
 | pl s b size ag =>
  have hdef:defd c.slots s=true:=by
   cases hd:defd c.slots s with
   | true=>rfl
   | false=>simp [stepOp,hop,hd] at hstep
  exact pl_core hn cr er hop hchk hdef hstep out
 | pu s b size x =>
  have hdef:defd c.slots s=true:=by
   cases hd:defd c.slots s with
   | true=>rfl
   | false=>simp [stepOp,hop,hd] at hstep
  exact pu_core hn cr er hop hchk hdef hstep out
 | pan x =>
  have hchk':=hchk
  simp only [chkA,hop,Bool.and_eq_true] at hchk'
  obtain ⟨hd,-,hc⟩:=hchk'
  simp only [stepOp,hop] at hstep
  split at hstep
  ·rename_i t v hx
   cases hstep
   split at hc
   ·rename_i y ho
    have hv:=hρ _ _ hc
    rw [hx] at hv
    obtain ⟨x',hx',hv'⟩:=hv.iface_inv
    have hrun:(execOp a.eval o).run cx.P w = .halt (.panic (.iface t x')) w:=by
     simp [execOp,ho,hx',Instr.panic]
    rw [hrun]
    exact out.pan _ _ _ g w rfl (G.le_refl g) (.iface _ _ _ hv') cr
   ·cases hc
  ·cases hstep
 | dfr fn as =>
  have hchk':=hchk
  simp only [chkA,hop,Bool.and_eq_true] at hchk'
  obtain ⟨hd,hdn,hc⟩:=hchk'
  simp only [stepOp,hop] at hstep
  split at hstep
  ·rename_i nvs hcal
   cases hstep
   split at hc
   ·rename_i x args ts ho
    simp only [Bool.and_eq_true] at hc
    obtain ⟨n,vs⟩:=nvs
    have hcal':=hcal
    unfold callee at hcal'
    split at hcal'
    ·rename_i n' fi ca hf
     cases hcal'
     obtain ⟨fi',ca',hx,hfi,hca⟩:=(hf ▸ hρ _ _ hc.1).func_inv
     have hrun:(execOp a.eval o).run cx.P w = .ok (.defer { target:=.fn (.func n) ca',args:=fi'++args.map a.eval }) w:=by
      simp [execOp,ho,resolve,hx,Deferred.ofValue]
     rw [hrun]
     cases hdst:ao.dst <;> simp only [hdst,Bool.false_eq_true] at hdn
     have hod:o.dst=none:=by
      unfold dstOk at hd
      rw [hdst] at hd
      cases hod:o.dst with
      | none=>rfl
      | some d=>simp [hod] at hd
     refine out.ok _ _ _ _ _ ({ target:=.fn (.func n) ca',args:=fi'++args.map a.eval } :: a.defers) undef g w rfl (G.le_refl g) ?_ (fun h=>by rw [hdst] at h; cases h)
     refine ⟨cr.step,?_,?_,cr.gl⟩
     ·simp only [Am.setSlot,hod,Act.put]
      exact cr.sr
     ·simp only [hod,Act.put]
      refine .inr ⟨⟨n,_,.func n,ca',fi'++args.map a.eval++ca',hcal,rfl,?_,fun w=>by simp [invoke]⟩,cr.df⟩
      simp only [Array.toList_append,Array.toList_map]
      exact (hfi.append (okL_rvs hρ _ _ hc.2)).append hca
    ·cases hcal'
   ·cases hc
  ·cases hstep
 | rcv=>exact absurd hop hnr
theorem semAt_eq {o:Oper} {ro:Option Nat} {ρ:Operand→Value} (h:ro=none∨∀ c,o.op ≠ .defer c):o.semAt ro ρ=execOp ρ o:=by
 unfold Oper.semAt
 split
 ·rename_i l c ho
  rcases h with h | h
  ·cases h
  ·exact absurd ho (h c)
 ·rfl
theorem op_coreIn (hn:cx.slots.Nodup) {rec:Rec} (hrec:RecS cx.P cx.gl cx.gs cx.g0.Y rec) (cr:CR cx c g a w) (er:ER cx ops aops env g a.tmps) {o:Oper} {ao:AOper} (hchk:chkA cx ops aops o ao=true) (hnr:ao.op ≠ .rcv) {ro:Option Nat} (hdf:ro=none∨∀ f as,ao.op ≠ .dfr f as) {r:Am.SR}
  (hstep:stepOp rec cx.gl ao env c.slots c.pn c.h=some r) {next:Act→World→Prop} {Q:Exit→Act→World→Prop} (out:Outc cx c o ao g a r next Q) :
  o.uponIn (FW ro) 0 cx.P a next Q ((o.semAt ro a.eval).run cx.P w):=by
 have hsem:o.semAt ro a.eval=execOp a.eval o:=by
  refine semAt_eq (hdf.imp id fun h c ho => ?_)
  have hchk':=hchk
  simp only [chkA,Bool.and_eq_true] at hchk'
  have h2:=hchk'.2
  by_cases hno:ao.op = .no
  ·simp [stepOp,hno] at hstep
  cases hop:ao.op <;> simp only [hop,ho,Bool.and_eq_true,Bool.false_eq_true,and_false] at h2
  case no=>exact hno hop
  case lz l lo hi=>cases l <;> simp [chkL] at h2
  case p p=>simp [chkP] at h2
  case l l=>cases l <;> simp [chkL] at h2
  case e e=>cases e <;> simp [chkE] at h2
  case np x=>simp [chkE] at h2
  case dfr f as=>exact h f as hop
 rw [hsem]
 by_cases hy:NoY cx.gl ao env c.slots
 ·exact upon_in (op_core hn hrec cr er hchk hnr hy hstep out)
 ·have hex:∃ fn as fz b,ao.op = .e (.call fn as fz)∧ev cx.gl env c.slots fn = .yf b:=by
   apply Classical.byContradiction
   intro hne
   refine hy fun fn as fz b h1 h2=>hne ⟨fn,as,fz,b,h1,h2⟩
  obtain ⟨fn,as,fz,b,hop,hf⟩:=hex
  have hρ:=ok_rv cr er
  have hchk':=hchk
  simp only [chkA,hop,Bool.and_eq_true] at hchk'
  obtain ⟨hd,hnp,hc⟩:=hchk'
  simp only [stepOp,hop,Option.map_eq_some_iff] at hstep
  obtain ⟨rf,hv,rfl⟩:=hstep
  simp only [eopV,hf,ecall] at hv
  split at hv
  ·cases hv
  ·rename_i hfz
   cases ho:o.op <;> simp only [chkE,ho,Bool.false_eq_true] at hc
   case call cc =>
    obtain ⟨cl,args',ts⟩:=cc
    cases cl <;> first | (simp [chkE] at hc; done) | skip
    case value x =>
     simp only [chkE,Bool.and_eq_true] at hc
     obtain ⟨l,fnn,tmps,assign,body,hrun,hround⟩:=ycall_sound hrec.round cr.step.rep cr.gl cr.step.le.3 hρ ho hc.1 hc.2 hf hv
     rw [hrun]
     refine ⟨fun e=>by simp [FW,Fence.wide] at e,?_⟩
     have hround':RoundIn (FW ro) (0 - 1) cx.P l fnn tmps assign body w (OpPost g c.h w rf):=hround
     refine hround'.mono fun e w' he => ?_
     have hlr:∀ (v:V) (x:Value) (g':G) tm,RV g' v x→LR cx tm g' ao v x:=by
      intro v x g' tm h
      unfold LR
      split
      ·rename_i heq; rw [hop] at heq; cases heq
      ·exact h
     cases e with
     | outgrown=>exact he.elim
     | returned x =>
      obtain ⟨v,g',h',hr,hv',hs⟩:=he
      subst hr
      have hcr:=CR.value hn cr hd hnp hs hv'
      cases hdst:ao.dst with
      | no =>
       simp only [hdst,slotOf,Option.map_none] at hcr
       exact out.ok v none none none (some h') a.defers x g' w' (by simp [ofERef,hdst]) hs.le hcr (fun h=>by rw [hdst] at h; cases h)
      | loc =>
       simp only [hdst,slotOf,Option.map_none] at hcr
       exact out.ok v none none none (some h') a.defers x g' w' (by simp [ofERef,hdst]) hs.le hcr (fun _=>hlr _ _ _ _ hv')
      | slot s =>
       simp only [hdst,slotOf,Option.map_some] at hcr
       exact out.ok .undef (some (s,v)) none none (some h') a.defers x g' w' (by simp [ofERef,hdst]) hs.le hcr (fun h=>by rw [hdst] at h; cases h)
     | panicked ch =>
      obtain ⟨v,x,g',h',hr,rfl,hv',hs⟩:=he
      subst hr
      exact out.pan v (some h') x g' w' rfl hs.le hv' (cr.of_step hs)
end
def guardOk (ops:Array Oper) (aops:List AOper) (o:Oper) (ao:AOper):Bool :=
 match o.guard,ao.guard with
 | none,none=>true
 | some (i,b),some (i',b')=>i == i'&&b == b'&&(locTmp ops aops i).isSome && !paOf aops i
 | _,_=>false
def oneTmp (ops:Array Oper) (aops:List AOper) (j:Nat):Bool :=
 match locTmp ops aops j with
 | none=>true
 | some d=>(List.range ops.size).all fun i=>i == j||(ops[i]?).bind (·.dst) != some d
def npOk (aops:List AOper) (i:Nat):Bool :=
 match aops[i]? with
 | some ⟨.slot s,.np _,_⟩=>(List.range i).all fun j=>match aops[j]? with
  | some ⟨_,.pa s' _ _ _,_⟩=>s' != s
  | _=>true
 | _=>true
def chkR (cx:Cx) (ops:Array Oper) (aops:List AOper):Bool :=
 ops.size == aops.length&&(List.range ops.size).all fun j=>match ops[j]?,aops[j]? with
  | some o,some ao=>chkA cx ops aops o ao&&guardOk ops aops o ao&&oneTmp ops aops j&&npOk aops j
  | _,_=>false
section
variable {cx:Cx} {ops:Array Oper} {aops:List AOper} {env env':List V} {c:Cfg} {g g':G} {a:Act} {w:World}
theorem chkR_spec (h:chkR cx ops aops=true) {j:Nat} {o:Oper} (hj:ops[j]?=some o):∃ ao,aops[j]?=some ao∧chkA cx ops aops o ao=true∧guardOk ops aops o ao=true∧oneTmp ops aops j=true∧npOk aops j=true:=by
 simp only [chkR,Bool.and_eq_true,List.all_eq_true,List.mem_range] at h
 have:=h.2 j (Array.getElem?_eq_some_iff.1 hj).1
 rw [hj] at this
 cases ha:aops[j]? with
 | none=>simp [ha] at this
 | some ao =>
  simp only [ha,Bool.and_eq_true] at this
  exact ⟨ao,rfl,this.1.1.1,this.1.1.2,this.1.2,this.2⟩
theorem chkR_op (h:chkR cx ops aops=true) {j:Nat} {ao:AOper} (hj:aops[j]?=some ao):∃ o,ops[j]?=some o:=by
 simp only [chkR,Bool.and_eq_true,beq_iff_eq] at h
 have:=(List.getElem?_eq_some_iff.1 hj).1
 exact ⟨_,Array.getElem?_eq_getElem (by omega)⟩
theorem chkA_dst {o:Oper} {ao:AOper} (h:chkA cx ops aops o ao=true):dstOk cx ao o=true:=by
 simp only [chkA,Bool.and_eq_true] at h
 exact h.1
theorem chkA_notProm {o:Oper} {ao:AOper} (h:chkA cx ops aops o ao=true) (hn:∀ x,ao.op ≠ .np x):notProm cx ao=true:=by
 have h':=h
 simp only [chkA,Bool.and_eq_true] at h'
 have h2:=h'.2
 unfold notProm
 cases hop:ao.op <;> simp only [hop,Bool.and_eq_true] at h2
 case np x=>exact absurd hop (hn x)
 case p=>exact h2.1
 case pc=>exact h2.1
 case l=>exact h2.1
 case lz=>exact h2.1
 case no=>exact h2
 case e=>exact h2.1
 case rcv=>exact h2.1
 case pl=>exact h2.1.1
 case pa=>cases hd:ao.dst <;> simp [hd] at h2 ⊢
 case pu=>cases hd:ao.dst <;> simp [hd] at h2 ⊢
 case pan=>cases hd:ao.dst <;> simp [hd] at h2 ⊢
 case dfr=>cases hd:ao.dst <;> simp [hd] at h2 ⊢
theorem locTmp_spec {j d:Nat} (h:locTmp ops aops j=some d):∃ o ao,ops[j]?=some o∧aops[j]?=some ao∧ao.dst = .loc∧o.dst=some d:=by
 unfold locTmp at h
 split at h
 ·rename_i o ao h1 h2
  split at h
  ·rename_i h3
   exact ⟨o,ao,h1,h2,h3,h⟩
  ·cases h
 ·cases h
theorem ER.next (hn:cx.slots.Nodup) (hreg:chkR cx ops aops=true) (er:ER cx ops aops env g a.tmps) (hsz:a.tmps.size=cx.nt) {j:Nat} {o:Oper} {ao:AOper} (hj:ops[j]?=some o) (haj:aops[j]?=some ao) (hle:g.le g') {v:V} {x:Value} {d:List Deferred}
  (hv:ao.dst = .loc→LR cx (({ a with defers:=d }:Act).put o.dst x).tmps g' ao v x) (henv:∀ i u,env'[i]?=some u→(i=j∧u=v)∨(i≠j∧env[i]?=some u))
  (hnp:∀ (s:Nat) (y:Opd) (i:Nat) (ai:AOper) (s':Nat) (b:Option Nat) (k:Nat) (ix:Option (Opd×Nat×Nat)) (u:V),ao.dst = .slot s→ao.op = .np y→aops[i]?=some ai→ai.op = .pa s b k ix→env[i]?=some u→u = .undef) :
  ER cx ops aops env' g' (({ a with defers:=d }:Act).put o.dst x).tmps:=by
 obtain ⟨ao',h1,hchk,_,hone,_⟩:=chkR_spec hreg hj
 rw [haj] at h1
 cases h1
 have hd:=chkA_dst hchk
 intro i u di ai hi hli hai
 obtain ⟨oi,ai',e1,e2,e3,e4⟩:=locTmp_spec hli
 rw [hai] at e2
 cases e2
 rcases henv i u hi with ⟨rfl,rfl⟩ | ⟨hne,hi'⟩
 ·rw [haj] at hai; cases hai
  rw [hj] at e1; cases e1
  have:=hv e3
  have hdt:di<cx.nt:=by
   simp only [dstOk,e3,e4,Bool.and_eq_true,decide_eq_true_eq] at hd
   exact hd.1
  have hx:(({ a with defers:=d }:Act).put o.dst x).tmps.getD di undef=x:=by
   rw [e4]
   exact getD_put_same x (by rw [hsz]; exact hdt)
  rw [hx]
  exact this
 ·have hold:=er i u di ai hi' hli hai
  have hnd:o.dst≠some di:=by
   intro e
   obtain ⟨ao2,h2,_,_,hone2,_⟩:=chkR_spec hreg e1
   simp only [oneTmp,hli,List.all_eq_true,List.mem_range] at hone2
   have:=hone2 j (Array.getElem?_eq_some_iff.1 hj).1
   simp only [Bool.or_eq_true,beq_iff_eq,bne_iff_ne,ne_eq,hj,Option.bind_some] at this
   rcases this with h | h
   ·exact hne h.symm
   ·exact h e
  have hsame:∀ t,o.dst≠some t→(({ a with defers:=d }:Act).put o.dst x).tmps.getD t undef=a.tmps.getD t undef:=by
   intro t ht
   cases hod:o.dst with
   | none=>rfl
   | some d' =>
    simp only [Act.put]
    exact getD_put x (fun e=>ht (by rw [hod,e]))
  rw [hsame di hnd]
  unfold LR at hold ⊢
  split
  ·rename_i s b k ix hop
   simp only [hop] at hold
   rcases hold with h | h | ⟨n,blk,t,h1,h2,h3,h4⟩
   ·exact .inl h
   ·exact .inr (.inl h)
   ·by_cases hdt:o.dst=some t
    ·left
     cases hds:ao.dst with
     | no=>simp [dstOk,hds,hdt] at hd
     | loc =>
      simp only [dstOk,hds,hdt,Bool.and_eq_true,Bool.not_eq_true'] at hd
      have:t ∉ cx.slots:=by simpa using hd.2
      exact absurd (List.mem_of_getElem? h3) this
     | slot s' =>
      simp only [dstOk,hds,hdt,Bool.and_eq_true,beq_iff_eq] at hd
      have hss:s'=s:=by
       by_cases hss:s'=s
       ·exact hss
       ·exact absurd rfl (nodup_ne hn hd.1 h3 hss)
      subst hss
      by_cases hx:∃ y,ao.op = .np y
      ·obtain ⟨y,hy⟩:=hx
       exact hnp s' y i ai s' b k ix u hds hy hai hop hi'
      ·have hnpr:=chkA_notProm hchk (fun y hy=>hx ⟨y,hy⟩)
       simp only [notProm,hds,Bool.not_eq_true'] at hnpr
       obtain ⟨ao2,h6,hchk2,_⟩:=chkR_spec hreg e1
       rw [hai] at h6
       cases h6
       simp only [chkA,hop,Bool.and_eq_true] at hchk2
       rw [hnpr] at hchk2
       simp at hchk2
    ·exact .inr (.inr ⟨n,blk,t,h1,h2,h3,by rw [hsame t hdt]; exact h4⟩)
  ·rename_i hnot
   split at hold
   ·rename_i s b k ix hop
    exact absurd hop (hnot _ _ _ _)
   ·exact hold.mono hle
theorem wanted_sound (hreg:chkR cx ops aops=true) (er:ER cx ops aops env g a.tmps) (hsz:a.tmps.size=cx.nt) {o:Oper} {ao:AOper} (hg:guardOk ops aops o ao=true) {b:Bool} (hw:wanted env ao.guard=some b):Region.wanted o (yielded ops a.tmps)=b:=by
 unfold guardOk at hg
 split at hg
 ·rename_i h1 h2
  simp only [wanted,h2,Option.some.injEq] at hw
  simp [Region.wanted,h1,← hw]
 ·rename_i i b' i' b'' h1 h2
  simp only [Bool.and_eq_true,beq_iff_eq,Bool.not_eq_true'] at hg
  obtain ⟨⟨⟨rfl,rfl⟩,h3⟩,h4⟩:=hg
  obtain ⟨d,hd⟩:=Option.isSome_iff_exists.1 h3
  obtain ⟨oi,ai,e1,e2,e3,e4⟩:=locTmp_spec hd
  simp only [paOf,e2] at h4
  have hdt:d<cx.nt:=by
   obtain ⟨ao',h5,hchk,_⟩:=chkR_spec hreg e1
   rw [e2] at h5; cases h5
   have:=chkA_dst hchk
   simp only [dstOk,e3,e4,Bool.and_eq_true,decide_eq_true_eq] at this
   exact this.1
  have hget:a.tmps[d]?=some (a.tmps.getD d undef):=by
   have:d<a.tmps.size:=by rw [hsz]; exact hdt
   simp [this]
  have hrv:∀ u,env[i]?=some u→RV g u (a.tmps.getD d undef):=by
   intro u hu
   have:=er i u d ai hu hd e2
   unfold LR at this
   split at this
   ·rename_i hop; simp [hop,AOp.isPa] at h4
   ·exact this
  simp only [wanted,h2] at hw
  simp only [Region.wanted,h1,yielded,e1,Option.bind_some,e4,hget]
  split at hw
  ·rename_i bb hb
   have:=(hrv _ hb).bool_inv
   rw [this]
   simp only [Option.some.injEq] at hw
   rw [← hw]
   cases bb <;> cases b' <;> rfl
  ·rename_i vs hb
   obtain ⟨cs',hx,_⟩:=(hrv _ hb).tup_inv
   rw [hx]
   simp only [Option.some.injEq] at hw
   rw [← hw]
   rfl
  ·cases hw
 ·cases hg
theorem wanted_guard {ao:AOper} (h:wanted env ao.guard=some false):ao.guard.isNone=false:=by
 cases hg:ao.guard with
 | none=>simp [wanted,hg] at h
 | some x=>rfl
theorem CR.skip (hn:cx.slots.Nodup) (cr:CR cx c g a w) {o:Oper} {ao:AOper} (hchk:chkA cx ops aops o ao=true) (hw:wanted env ao.guard=some false) :
  CR cx { c with slots:=setSlot c.slots ((slotOf ao.dst).map (·,.tup [])) } g (a.put o.dst undef) w:=by
 have hnp:∀ x,ao.op ≠ .np x:=by
  intro x hx
  simp only [chkA,hx,Bool.and_eq_true] at hchk
  rw [wanted_guard hw] at hchk
  simp at hchk
 have:=CR.value (x:=undef) (v:=.tup []) hn cr (chkA_dst hchk) (chkA_notProm hchk hnp) (Step.refl cr.step.rep) (.tup _ #[] .nil)
 exact this
theorem LR.skip {ao:AOper} {tm:Array Value}:LR cx tm g ao (.tup []) undef:=by
 unfold LR
 split
 ·exact .inr (.inl ⟨rfl,rfl⟩)
 ·exact .tup _ #[] .nil
theorem stepOp_pn {rec:Rec} {ao:AOper} (h:ao.op ≠ .rcv) {v wr df pn hp} {slots:List V} {p:Option (Option V)} {hh:Heap} (hs:stepOp rec cx.gl ao env slots p hh=some (.ok v wr df pn hp)):pn=none:=by
 have hput:∀ (d:Dst) (v:V) {v' wr df pn hp},putSlot d v = .ok v' wr df pn hp→pn=none:=by
  intro d v v' wr df pn hp h
  unfold putSlot at h
  split at h <;> cases h <;> rfl
 cases hop:ao.op <;> simp only [stepOp,hop] at hs
 case rcv=>exact absurd hop h
 case no=>cases hs
 case lz =>
  simp only [Option.map_eq_some_iff] at hs
  obtain ⟨_,_,hs⟩:=hs
  exact hput _ _ hs
 case p =>
  simp only [Option.map_eq_some_iff] at hs
  obtain ⟨_,_,hs⟩:=hs
  exact hput _ _ hs
 case pc =>
  simp only [Option.map_eq_some_iff] at hs
  obtain ⟨r,_,hs⟩:=hs
  cases r with
  | val v=>exact hput _ _ hs
  | pan v=>cases hs
 case l =>
  simp only [Option.map_eq_some_iff] at hs
  obtain ⟨r,_,hs⟩:=hs
  cases r with
  | val v=>exact hput _ _ hs
  | pan v=>cases hs
 case e =>
  simp only [Option.map_eq_some_iff] at hs
  obtain ⟨r,_,hs⟩:=hs
  cases r with
  | val v =>
   simp only [ofERef] at hs
   split at hs <;> cases hs <;> rfl
  | pan v=>cases hs
 case np =>
  split at hs
  ·split at hs
   ·cases hs; rfl
   ·cases hs
  ·cases hs
 case pa =>
  split at hs
  ·split at hs
   ·split at hs
    ·cases hs; rfl
    ·split at hs
     ·split at hs
      ·cases hs; rfl
      ·cases hs
     ·cases hs
   ·cases hs
  ·cases hs
 case pl =>
  split at hs
  ·split at hs
   ·split at hs
    ·simp only [Option.map_eq_some_iff] at hs
     obtain ⟨_,_,hs⟩:=hs
     exact hput _ _ hs
    ·cases hs
   ·cases hs
  ·cases hs
 case pu =>
  split at hs
  ·split at hs
   ·split at hs
    ·cases hs; rfl
    ·cases hs
   ·cases hs
  ·cases hs
 case pan =>
  split at hs <;> cases hs
 case dfr =>
  split at hs
  ·cases hs; rfl
  ·cases hs
theorem CR.pn (cr:CR cx c g a w) (p:Option (Option V)):CR cx { c with pn:=p } g a w:=⟨cr.step,cr.sr,cr.df,cr.gl⟩
def RowPost (cx:Cx) (ops:Array Oper) (aops:List AOper) (ro:ROut) (Q:Exit→Act→World→Prop):Prop :=
 match ro with
 | .norm env c=>∀ g a w,CR cx c g a w→ER cx ops aops env g a.tmps→Q .normal a w
 | .pan _ v c=>∀ g a w x,CR cx c g a w→RV g v x→Q (.panic [{ v:=x,recovered:=false }]) a w
theorem append_get {env:List V} {v:V} {j:Nat} (hl:env.length=j):∀ i u,(env++[v])[i]?=some u→(i=j∧u=v)∨(i≠j∧env[i]?=some u):=by
 intro i u hi
 by_cases hlt:i<env.length
 ·rw [List.getElem?_append_left hlt] at hi
  exact .inr ⟨by omega,hi⟩
 ·rw [List.getElem?_append_right (by omega)] at hi
  have h0:i - env.length<1:=by
   have:=(List.getElem?_eq_some_iff.1 hi).1
   simpa using this
  have:i - env.length=0:=by omega
  rw [this] at hi
  exact .inl ⟨by omega,by simpa using hi.symm⟩
theorem np_row (hreg:chkR cx ops aops=true) {j:Nat} {o:Oper} {ao:AOper} (hj:ops[j]?=some o) (haj:aops[j]?=some ao) (hl:env.length=j) :
  ∀ (s:Nat) (y:Opd) (i:Nat) (ai:AOper) (s':Nat) (b:Option Nat) (k:Nat) (ix:Option (Opd×Nat×Nat)) (u:V),ao.dst = .slot s→ao.op = .np y→aops[i]?=some ai→ai.op = .pa s b k ix→env[i]?=some u→u=V.undef:=by
 intro s y i ai s' b k ix u h1 h2 h3 h4 h5
 have hi:i<j:=by
  have:=(List.getElem?_eq_some_iff.1 h5).1
  omega
 obtain ⟨ao',e1,_,_,_,hnp⟩:=chkR_spec hreg hj
 rw [haj] at e1
 cases e1
 obtain ⟨dst,op,gd⟩:=ao
 simp only at h1 h2
 subst h1 h2
 simp only [npOk,haj,List.all_eq_true,List.mem_range] at hnp
 have:=hnp i hi
 obtain ⟨d2,o2,g2⟩:=ai
 simp only at h4
 subst h4
 simp [h3] at this
theorem row_sound (hn:cx.slots.Nodup) {rec:Rec} (hrec:RecS cx.P cx.gl cx.gs cx.g0.Y rec) (hreg:chkR cx ops aops=true) {ro:Option Nat} (hdf:ro=none∨∀ ao∈aops,∀ f as,ao.op ≠ .dfr f as) {Q:Exit→Act→World→Prop} {rout:ROut} (hpost:RowPost cx ops aops rout Q) :
  ∀ (os:List AOper) (j:Nat) (env:List V) (c:Cfg) (g:G) (a:Act) (w:World),aops.drop j=os→env.length=j→c.pn=none→CR cx c g a w→ER cx ops aops env g a.tmps →
   runOps rec cx.gl os env c=some rout→wpOpsIn (FW ro) 0 cx.P ops Q (List.range' j (ops.size - j)) a w:=by
 have hsize:ops.size=aops.length:=by
  simp only [chkR,Bool.and_eq_true,beq_iff_eq] at hreg
  exact hreg.1
 intro os
 induction os with
 | nil =>
  intro j env c g a w hos hl hpn cr er hrun
  simp only [runOps,Option.some.injEq] at hrun
  subst hrun
  have hlen:=congrArg List.length hos
  simp only [List.length_drop,List.length_nil] at hlen
  have:ops.size - j=0:=by omega
  rw [this]
  simp only [List.range',wpOpsIn]
  exact hpost g a w cr er
 | cons ao os ih =>
  intro j env c g a w hos hl hpn cr er hrun
  have hlen:=congrArg List.length hos
  simp only [List.length_drop,List.length_cons] at hlen
  have hlt:j<aops.length:=by omega
  have haj:aops[j]?=some ao:=by
   have:=congrArg (fun l=>l[0]?) hos
   simpa [List.getElem?_drop] using this
  have hos':aops.drop (j+1)=os:=by
   have:=congrArg (List.drop 1) hos
   simpa [List.drop_drop] using this
  obtain ⟨o,hj⟩:=chkR_op hreg haj
  obtain ⟨ao',e1,hchk,hg,_,_⟩:=chkR_spec hreg hj
  rw [haj] at e1
  cases e1
  have hrange:List.range' j (ops.size - j)=j :: List.range' (j+1) (ops.size - (j+1)):=by
   have:ops.size - j=(ops.size - (j+1))+1:=by omega
   rw [this]
   rfl
  rw [hrange]
  simp only [wpOpsIn,hj]
  simp only [runOps] at hrun
  split at hrun
  ·rename_i hw
   rw [wanted_sound hreg er cr.sr.size hg hw,if_pos rfl]
   refine ⟨fun _ _=>trivial,?_⟩
   cases hst:stepOp rec cx.gl ao env c.slots c.pn c.h with
   | none=>simp [hst] at hrun
   | some r =>
    have hnr:ao.op ≠ .rcv:=by
     intro h
     simp [stepOp,h,hpn] at hst
    refine op_coreIn hn hrec cr er hchk hnr (hdf.imp id fun h=>h ao (List.mem_of_getElem? haj)) hst ⟨?_,?_⟩
    ·intro v wr df pn hp d x g' w' hr hle cr' hlr
     subst hr
     simp only [hst] at hrun
     have hp0:=stepOp_pn hnr hst
     subst hp0
     have er':=ER.next (env':=env++[v]) hn hreg er cr.sr.size hj haj hle hlr (append_get hl) (np_row hreg hj haj hl)
     refine ih (j+1) (env++[v]) _ g' _ w' hos' (by simp [hl]) ?_ (cr'.pn _) er' hrun
     simp [hpn]
    ·intro v hp x g' w' hr _ hv cr'
     subst hr
     simp only [hst,Option.some.injEq] at hrun
     subst hrun
     exact hpost g' a w' x cr' hv
  ·rename_i hw
   rw [wanted_sound hreg er cr.sr.size hg hw]
   simp only [Bool.false_eq_true,if_false]
   have er':=ER.next (env':=env++[.tup []]) (x:=undef) (d:=a.defers) hn hreg er cr.sr.size hj haj (G.le_refl g) (fun _=>LR.skip) (append_get hl) (np_row hreg hj haj hl)
   refine ⟨fun _ _=>trivial,?_⟩
   exact ih (j+1) (env++[.tup []]) { c with slots:=setSlot c.slots ((slotOf ao.dst).map (·,.tup [])) } g _ w hos' (by simp [hl]) hpn (cr.skip hn hchk hw) er' hrun
  ·cases hrun
end
def PnR (g:G):Option (Option V)→FrameMode→Prop
 | some (some v),m=>∃ x,m = .panicking [{ v:=x,recovered:=false }]∧RV g v x
 | some none,m=>m = .returning∨∃ x,m = .panicking [{ v:=x,recovered:=true }]
 | none,_=>False
theorem PnR.mono {g g':G} (hg:g.le g') {p:Option (Option V)} {m:FrameMode} (h:PnR g p m):PnR g' p m:=by
 match p,h with
 | some (some v),⟨x,h1,h2⟩=>exact ⟨x,h1,h2.mono hg⟩
 | some none,h=>exact h
 | none,h=>exact h
def RowPostS (cx:Cx) (ops:Array Oper) (aops:List AOper) (c₀:Go.Frame) (cs:List Go.Frame) (ro:ROut) (Q:Exit→Act→List Go.Frame→World→Prop):Prop :=
 match ro with
 | .norm env c=>∀ g a w m,CR cx c g a w→ER cx ops aops env g a.tmps→PnR g c.pn m→Q .normal a ({ c₀ with mode:=m } :: cs) w
 | .pan _ v c=>∀ g a w x m,CR cx c g a w→RV g v x→PnR g c.pn m→Q (.panic [{ v:=x,recovered:=false }]) a ({ c₀ with mode:=m } :: cs) w
section
variable {cx:Cx} {ops:Array Oper} {aops:List AOper} {env env':List V} {c:Cfg} {g g':G} {a:Act} {w:World}
theorem noY_of {rec:Rec} (hno:∀ y b a h,rec.round y b a h=none) {gl:Nat→List V} {ao:AOper} {slots:List V} {pn:Option (Option V)} {h:Heap} {r:Am.SR} (hst:stepOp rec gl ao env slots pn h=some r):NoY gl ao env slots:=by
 intro fn as fz b hop hf
 simp only [stepOp,hop,eopV,hf,ecall] at hst
 split at hst
 ·simp at hst
 ·unfold ycall at hst
  split at hst
  ·simp [hno] at hst
  ·simp at hst
theorem row_soundS (hn:cx.slots.Nodup) {rec:Rec} (hrec:RecS cx.P cx.gl cx.gs cx.g0.Y rec) (hno:∀ y b a h,rec.round y b a h=none) (hreg:chkR cx ops aops=true) {Q:Exit→Act→List Go.Frame→World→Prop} {c₀:Go.Frame} {cs:List Go.Frame} {ro:ROut} (hpost:RowPostS cx ops aops c₀ cs ro Q) :
  ∀ (os:List AOper) (j:Nat) (env:List V) (c:Cfg) (g:G) (a:Act) (w:World) (m:FrameMode),aops.drop j=os→env.length=j→PnR g c.pn m→CR cx c g a w→ER cx ops aops env g a.tmps →
   runOps rec cx.gl os env c=some ro→wpOpsS cx.P ops Q (List.range' j (ops.size - j)) a ({ c₀ with mode:=m } :: cs) w:=by
 have hsize:ops.size=aops.length:=by
  simp only [chkR,Bool.and_eq_true,beq_iff_eq] at hreg
  exact hreg.1
 intro os
 induction os with
 | nil =>
  intro j env c g a w m hos hl hpn cr er hrun
  simp only [runOps,Option.some.injEq] at hrun
  subst hrun
  have hlen:=congrArg List.length hos
  simp only [List.length_drop,List.length_nil] at hlen
  have:ops.size - j=0:=by omega
  rw [this]
  simp only [List.range',wpOpsS]
  exact hpost g a w m cr er hpn
 | cons ao os ih =>
  intro j env c g a w m hos hl hpn cr er hrun
  have hlen:=congrArg List.length hos
  simp only [List.length_drop,List.length_cons] at hlen
  have hlt:j<aops.length:=by omega
  have haj:aops[j]?=some ao:=by
   have:=congrArg (fun l=>l[0]?) hos
   simpa [List.getElem?_drop] using this
  have hos':aops.drop (j+1)=os:=by
   have:=congrArg (List.drop 1) hos
   simpa [List.drop_drop] using this
  obtain ⟨o,hj⟩:=chkR_op hreg haj
  obtain ⟨ao',e1,hchk,hg,_,_⟩:=chkR_spec hreg hj
  rw [haj] at e1
  cases e1
  have hrange:List.range' j (ops.size - j)=j :: List.range' (j+1) (ops.size - (j+1)):=by
   have:ops.size - j=(ops.size - (j+1))+1:=by omega
   rw [this]
   rfl
  rw [hrange]
  simp only [wpOpsS,hj]
  simp only [runOps] at hrun
  split at hrun
  ·rename_i hw
   rw [wanted_sound hreg er cr.sr.size hg hw,if_pos rfl]
   cases hst:stepOp rec cx.gl ao env c.slots c.pn c.h with
   | none=>simp [hst] at hrun
   | some r =>
    by_cases hnr:ao.op = .rcv
    ·have hchk':=hchk
     simp only [chkA,hnr,Bool.and_eq_true] at hchk'
     obtain ⟨hd,hnp,hc⟩:=hchk'
     have hrunop:(execOp a.eval o).run cx.P w = .ok .recover w:=by
      split at hc
      ·rename_i args ts ho
       simp [execOp,ho,resolve,invoke,builtin]
      ·cases hc
     rw [hrunop]
     simp only
     have fin:∀ (v:V) (x:Value) (m':FrameMode) (p':Option (Option V)),p'.isSome=true→(match putSlot ao.dst v with | .ok v wr _ _ _=>some (.ok v wr none p' none) | r=>some r)=some r→RV g v x→PnR g p' m' →
       wpOpsS cx.P ops Q (List.range' (j+1) (ops.size - (j+1))) (a.put o.dst x) ({ c₀ with mode:=m' } :: cs) w:=by
      intro v x m' p' hp' hr hv hm'
      have hcr:=CR.value hn cr hd hnp (Step.refl cr.step.rep) hv
      have hpa:ao.op.isPa=false:=by rw [hnr]; rfl
      have hlr:∀ tm,LR cx tm g ao v x:=by
       intro tm
       unfold LR
       split
       ·rename_i heq; simp [heq,AOp.isPa] at hpa
       ·exact hv
      cases hds:ao.dst with
      | no =>
       simp only [hds,putSlot,Option.some.injEq] at hr
       subst hr
       simp only [hst] at hrun
       have er':=ER.next (env':=env++[v]) (x:=x) (d:=a.defers) hn hreg er cr.sr.size hj haj (G.le_refl g) (fun h=>by rw [hds] at h; cases h) (append_get hl) (np_row hreg hj haj hl)
       refine ih (j+1) (env++[v]) _ g _ w m' hos' (by simp [hl]) ?_ ?_ er' hrun
       ·cases p' with
        | none=>simp at hp'
        | some p'=>simpa using hm'
       ·simp only [hds,slotOf,Option.map_none] at hcr
        exact ⟨hcr.step,hcr.sr,hcr.df,hcr.gl⟩
      | loc =>
       simp only [hds,putSlot,Option.some.injEq] at hr
       subst hr
       simp only [hst] at hrun
       have er':=ER.next (env':=env++[v]) (x:=x) (d:=a.defers) hn hreg er cr.sr.size hj haj (G.le_refl g) (fun _=>hlr _) (append_get hl) (np_row hreg hj haj hl)
       refine ih (j+1) (env++[v]) _ g _ w m' hos' (by simp [hl]) ?_ ?_ er' hrun
       ·cases p' with
        | none=>simp at hp'
        | some p'=>simpa using hm'
       ·simp only [hds,slotOf,Option.map_none] at hcr
        exact ⟨hcr.step,hcr.sr,hcr.df,hcr.gl⟩
      | slot s =>
       simp only [hds,putSlot,Option.some.injEq] at hr
       subst hr
       simp only [hst] at hrun
       have er':=ER.next (env':=env++[.undef]) (x:=x) (d:=a.defers) hn hreg er cr.sr.size hj haj (G.le_refl g) (fun h=>by rw [hds] at h; cases h) (append_get hl) (np_row hreg hj haj hl)
       refine ih (j+1) (env++[.undef]) _ g _ w m' hos' (by simp [hl]) ?_ ?_ er' hrun
       ·cases p' with
        | none=>simp at hp'
        | some p'=>simpa using hm'
       ·simp only [hds,slotOf,Option.map_some] at hcr
        exact ⟨hcr.step,hcr.sr,hcr.df,hcr.gl⟩
     simp only [stepOp,hnr] at hst
     split at hst
     ·rename_i v hpv
      rw [hpv] at hpn
      obtain ⟨x,rfl,hv⟩:=hpn
      simp only [recoverD]
      exact fin v x (.panicking [{ v:=x,recovered:=true }]) (some none) rfl hst hv (.inr ⟨x,rfl⟩)
     ·rename_i hpv
      rw [hpv] at hpn
      have hrd:recoverD ({ c₀ with mode:=m } :: cs)=none:=by
       rcases hpn with rfl | ⟨x,rfl⟩ <;> simp [recoverD]
      rw [hrd]
      simp only [Option.some.injEq] at hst
      have hcr:=CR.value (x:=.nilIface) (v:=.nili) hn cr hd hnp (Step.refl cr.step.rep) (.d _ _ .nili)
      have hm':PnR g c.pn m:=by rw [hpv]; exact hpn
      have hpa:ao.op.isPa=false:=by rw [hnr]; rfl
      have hlr:∀ tm,LR cx tm g ao .nili .nilIface:=by
       intro tm
       unfold LR
       split
       ·rename_i heq; simp [heq,AOp.isPa] at hpa
       ·exact .d _ _ .nili
      cases hds:ao.dst with
      | no =>
       simp only [hds,putSlot] at hst
       subst hst
       simp only [stepOp,hnr,hpv,hds,putSlot] at hrun
       have er':=ER.next (env':=env++[.nili]) (x:=.nilIface) (d:=a.defers) hn hreg er cr.sr.size hj haj (G.le_refl g) (fun h=>by rw [hds] at h; cases h) (append_get hl) (np_row hreg hj haj hl)
       refine ih (j+1) (env++[.nili]) _ g _ w m hos' (by simp [hl]) ?_ ?_ er' hrun
       ·simpa [hpv] using hm'
       ·simp only [hds,slotOf,Option.map_none] at hcr
        exact ⟨hcr.step,hcr.sr,hcr.df,hcr.gl⟩
      | loc =>
       simp only [hds,putSlot] at hst
       subst hst
       simp only [stepOp,hnr,hpv,hds,putSlot] at hrun
       have er':=ER.next (env':=env++[.nili]) (x:=.nilIface) (d:=a.defers) hn hreg er cr.sr.size hj haj (G.le_refl g) (fun _=>hlr _) (append_get hl) (np_row hreg hj haj hl)
       refine ih (j+1) (env++[.nili]) _ g _ w m hos' (by simp [hl]) ?_ ?_ er' hrun
       ·simpa [hpv] using hm'
       ·simp only [hds,slotOf,Option.map_none] at hcr
        exact ⟨hcr.step,hcr.sr,hcr.df,hcr.gl⟩
      | slot s =>
       simp only [hds,putSlot] at hst
       subst hst
       simp only [stepOp,hnr,hpv,hds,putSlot] at hrun
       have er':=ER.next (env':=env++[.undef]) (x:=.nilIface) (d:=a.defers) hn hreg er cr.sr.size hj haj (G.le_refl g) (fun h=>by rw [hds] at h; cases h) (append_get hl) (np_row hreg hj haj hl)
       refine ih (j+1) (env++[.undef]) _ g _ w m hos' (by simp [hl]) ?_ ?_ er' hrun
       ·simpa [hpv] using hm'
       ·simp only [hds,slotOf,Option.map_some] at hcr
        exact ⟨hcr.step,hcr.sr,hcr.df,hcr.gl⟩
     ·cases hst
    ·have key:o.upon cx.P a (fun a' w'=>wpOpsS cx.P ops Q (List.range' (j+1) (ops.size - (j+1))) a' ({ c₀ with mode:=m } :: cs) w') (fun e a' w'=>Q e a' ({ c₀ with mode:=m } :: cs) w') ((execOp a.eval o).run cx.P w):=by
      refine op_core hn hrec cr er hchk hnr (noY_of hno hst) hst ⟨?_,?_⟩
      ·intro v wr df pn hp d x g' w' hr hle cr' hlr
       subst hr
       simp only [hst] at hrun
       have hp0:=stepOp_pn hnr hst
       subst hp0
       have er':=ER.next (env':=env++[v]) hn hreg er cr.sr.size hj haj hle hlr (append_get hl) (np_row hreg hj haj hl)
       refine ih (j+1) (env++[v]) _ g' _ w' m hos' (by simp [hl]) ?_ (cr'.pn _) er' hrun
       simpa using hpn.mono hle
      ·intro v hp x g' w' hr hle hv cr'
       subst hr
       simp only [hst,Option.some.injEq] at hrun
       subst hrun
       exact hpost g' a w' x m cr' hv (hpn.mono hle)
     generalize (execOp a.eval o).run cx.P w=r' at key ⊢
     split
     ·exact key.elim
     ·exact key
  ·rename_i hw
   rw [wanted_sound hreg er cr.sr.size hg hw]
   simp only [Bool.false_eq_true,if_false]
   have er':=ER.next (env':=env++[.tup []]) (x:=undef) (d:=a.defers) hn hreg er cr.sr.size hj haj (G.le_refl g) (fun _=>LR.skip) (append_get hl) (np_row hreg hj haj hl)
   exact ih (j+1) (env++[.tup []]) { c with slots:=setSlot c.slots ((slotOf ao.dst).map (·,.tup [])) } g _ w m hos' (by simp [hl]) hpn (cr.skip hn hchk hw) er' hrun
  ·cases hrun
end
def POp.opds:POp→List Opd
 | .mov x | .part x _ _ _ | .fadr x _ | .not x | .neg x | .cpl x | .conv _ x | .nchk x | .mki _ x | .tas x _ _ _ | .ext x _ | .lenS _ x | .s2b x | .ldp x _ _=>[x]
 | .iadr x i _ | .iadrA x i _ _ | .index x i | .bin _ x i | .eqb _ x i | .eqn _ _ x i | .eqa _ _ x i | .maxI x i | .minI x i | .mkz x i _ _ _ | .eqs _ _ x i=>[x,i]
 | .pick c a b=>[c,a,b]
 | .slc x lo hi mx _ _=>x :: (lo.toList++hi.toList++mx.toList)
 | .build _ ps=>ps.map (·.2.2)
 | .bsl _ _ _ ps | .bsv _ _ _ ps=>ps.map (·.2)
 | .mkf _ fi ca=>fi++ca
def LOp.opds:LOp→List Opd
 | .load a _ _=>[a]
 | .b2s x=>[x]
 | .borrow f as | .ro f as=>f :: as
 | .look _ _ m k _ _=>[m,k]
 | .eqp _ x y=>[x,y]
def EOp.opds:EOp→List Opd
 | .hnew x | .frz x | .s2s x _ | .hat x=>[x]
 | .own _ | .mkm=>[]
 | .mset _ _ m k v=>[m,k,v]
 | .ment _ _ m k _=>[m,k]
 | .mest m i v=>[m,i,v]
 | .store a x _=>[a,x]
 | .app x y _ _ _=>[x,y]
 | .mks n c _ _ _ | .hmk _ n c _ _ _=>[n,c]
 | .bslO _ _ _ ps=>ps.map (·.2)
 | .call f as _=>f :: as
 | .inv x _ as _=>x :: as
 | .mtv _ _ fn x _ as _=>fn :: x :: as
 | .cpy x y _=>[x,y]
def AOp.opds:AOp→List Opd
 | .p o=>o.opds
 | .pc f as | .dfr f as=>f :: as
 | .l o=>o.opds
 | .e o=>o.opds
 | .np x | .pu _ _ _ x | .pan x=>[x]
 | .pa _ _ _ ix=>(ix.map (·.1)).toList
 | .lz q _ _=>q.opds
 | .pl .. | .rcv | .no=>[]
def AOp.base:AOp→Option Nat
 | .pa _ b _ _ | .pl _ b _ _ | .pu _ b _ _=>b
 | _=>none
def AOp.slotRef:AOp→Option Nat
 | .pa s _ _ _ | .pl s _ _ _ | .pu s _ _ _=>some s
 | _=>none
def AOp.heapy:AOp→Bool
 | .l _ | .e _=>true
 | _=>false
def AOper.refsE (ao:AOper):List Nat :=
 ao.op.opds.filterMap (fun | .r i=>some i | _=>none)++ao.op.base.toList++(ao.guard.map (·.1)).toList
def AOper.refsS (ao:AOper):List Nat :=
 ao.op.opds.filterMap (fun | .s i=>some i | _=>none)++ao.op.slotRef.toList
theorem pop_congr {f f':Opd→V} (p:POp) (h:∀ x∈p.opds,f x=f' x):popV f p=popV f' p:=by
 cases p <;> simp only [POp.opds,List.mem_cons,List.not_mem_nil,or_false,forall_eq_or_imp,forall_eq] at h
 case build z ps =>
  have:ps.map (fun (o,n,x)=>(o,n,f x))=ps.map (fun (o,n,x)=>(o,n,f' x)):=List.map_congr_left fun q hq=>by
   obtain ⟨o,n,x⟩:=q
   simp only [h x (List.mem_map.2 ⟨_,hq,rfl⟩)]
  simp only [popV,this]
 case bsl len sz z ps =>
  have:ps.map (fun (i,x)=>(i * sz,sz,f x))=ps.map (fun (i,x)=>(i * sz,sz,f' x)):=List.map_congr_left fun q hq=>by
   obtain ⟨i,x⟩:=q
   simp only [h x (List.mem_map.2 ⟨_,hq,rfl⟩)]
  simp only [popV,this]
 case bsv len sz z ps =>
  have:ps.map (fun (i,x)=>(i * sz,sz,f x))=ps.map (fun (i,x)=>(i * sz,sz,f' x)):=List.map_congr_left fun q hq=>by
   obtain ⟨i,x⟩:=q
   simp only [h x (List.mem_map.2 ⟨_,hq,rfl⟩)]
  simp only [popV,this]
 case mkf fn fi ca =>
  have h1:fi.map f=fi.map f':=List.map_congr_left fun x hx=>h x (List.mem_append.2 (.inl hx))
  have h2:ca.map f=ca.map f':=List.map_congr_left fun x hx=>h x (List.mem_append.2 (.inr hx))
  simp only [popV,h1,h2]
 case slc x lo hi mx str sz =>
  obtain ⟨h0,h⟩:=h
  have h1:lo.map f=lo.map f':=by cases lo <;> simp_all
  have h2:hi.map f=hi.map f':=by cases hi <;> simp_all
  have h3:mx.map f=mx.map f':=by cases mx <;> simp_all
  simp only [popV,h0,h1,h2,h3]
 all_goals (simp only [popV]; simp only [h])
theorem lop_congr {f f':Opd→V} {rec:Rec} {hh:Heap} (l:LOp) (h:∀ x∈l.opds,f x=f' x):lopV rec hh f l=lopV rec hh f' l:=by
 cases l <;> simp only [LOp.opds,List.mem_cons,List.not_mem_nil,or_false,forall_eq_or_imp,forall_eq] at h
 case load a size ag=>simp only [lopV,h]
 case b2s x=>simp only [lopV,h]
 case borrow fn as =>
  have h1:as.map f=as.map f':=List.map_congr_left fun x hx=>h.2 x hx
  simp only [lopV,h.1,h1]
 case ro fn as =>
  have h1:as.map f=as.map f':=List.map_congr_left fun x hx=>h.2 x hx
  simp only [lopV,h.1,h1]
 case look st ks m k ok z=>simp only [lopV,h]
 case eqp neg x y=>simp only [lopV,h]
theorem lz_congr {f f':Opd→V} {hh:Heap} (l:LOp) (h:∀ x∈l.opds,f x=f' x):lzV hh f l=lzV hh f' l:=by
 cases l <;> simp only [LOp.opds,List.mem_cons,List.not_mem_nil,or_false,forall_eq_or_imp,forall_eq] at h <;> first | (simp only [lzV,h]; done) | rfl
theorem eop_congr {f f':Opd→V} {rec:Rec} {hh:Heap} (e:EOp) (h:∀ x∈e.opds,f x=f' x):eopV rec hh f e=eopV rec hh f' e:=by
 cases e <;> simp only [EOp.opds,List.mem_cons,List.not_mem_nil,or_false,forall_eq_or_imp,forall_eq] at h
 case own sz=>rfl
 case mkm=>rfl
 case bslO len sz z ps =>
  have:ps.map (fun (i,x)=>(i * sz,sz,f x))=ps.map (fun (i,x)=>(i * sz,sz,f' x)):=List.map_congr_left fun q hq=>by
   obtain ⟨i,x⟩:=q
   simp only [h x (List.mem_map.2 ⟨_,hq,rfl⟩)]
  simp only [eopV,this]
 case call fn as fz =>
  have h1:as.map f=as.map f':=List.map_congr_left fun x hx=>h.2 x hx
  simp only [eopV,h.1,h1]
 case inv x tbl as fz =>
  have h1:as.map f=as.map f':=List.map_congr_left fun x hx=>h.2 x hx
  simp only [eopV,h.1,h1]
 case mtv t nm fn x tbl as fz =>
  have h1:as.map f=as.map f':=List.map_congr_left fun x hx=>h.2.2 x hx
  simp only [eopV,h.1,h.2.1,h1]
 all_goals (simp only [eopV]; simp only [h])
theorem ev_congr {gl:Nat→List V} {env env' sl sl':List V} {ao:AOper} (he:∀ i∈ao.refsE,env[i]?=env'[i]?) (hs:∀ s∈ao.refsS,sl[s]?=sl'[s]?):∀ x∈ao.op.opds,ev gl env sl x=ev gl env' sl' x:=by
 intro x hx
 cases x with
 | s i =>
  have:=hs i (List.mem_append.2 (.inl (List.mem_filterMap.2 ⟨_,hx,rfl⟩)))
  simp only [ev,List.getD,this]
 | r i =>
  have:=he i (List.mem_append.2 (.inl (List.mem_append.2 (.inl (List.mem_filterMap.2 ⟨_,hx,rfl⟩)))))
  simp only [ev,List.getD,this]
 | c v=>rfl
 | g n=>rfl
theorem wanted_congr {env env':List V} {ao:AOper} (he:∀ i∈ao.refsE,env[i]?=env'[i]?):wanted env ao.guard=wanted env' ao.guard:=by
 cases hg:ao.guard with
 | none=>rfl
 | some g =>
  obtain ⟨j,b⟩:=g
  have:=he j (List.mem_append.2 (.inr (by simp [hg])))
  simp only [wanted,this]
theorem step_congr {rec:Rec} {gl:Nat→List V} {env env' sl sl':List V} {ao:AOper} {pn pn':Option (Option V)} {h h':Heap} (hr:ao.op ≠ .rcv)
  (he:∀ i∈ao.refsE,env[i]?=env'[i]?) (hs:∀ s∈ao.refsS,sl[s]?=sl'[s]?) (hh:ao.op.heapy=true→h=h')
  (hlz:∀ l lo hi,ao.op = .lz l lo hi→lzV h (ev gl env' sl') l=lzV h' (ev gl env' sl') l) :
  stepOp rec gl ao env sl pn h=stepOp rec gl ao env' sl' pn' h':=by
 have hev:=ev_congr (gl:=gl) he hs
 have hb:∀ b,ao.op.base=b→pOff env b=pOff env' b:=by
  intro b hb
  cases b with
  | none=>rfl
  | some j =>
   have:=he j (List.mem_append.2 (.inl (List.mem_append.2 (.inr (by simp [hb])))))
   simp only [pOff,this]
 have hsl:∀ s,ao.op.slotRef=some s→sl[s]?=sl'[s]?:=fun s hs'=>hs s (List.mem_append.2 (.inr (by simp [hs'])))
 cases hop:ao.op <;> simp only [hop,AOp.opds] at hev
 case p p=>simp only [stepOp,hop,pop_congr p hev]
 case pc fn as =>
  have h1:as.map (ev gl env sl)=as.map (ev gl env' sl'):=List.map_congr_left fun x hx=>hev x (List.mem_cons_of_mem _ hx)
  have h0:=hev fn (List.mem_cons_self ..)
  simp only [stepOp,hop,h0,h1]
 case l l =>
  have:=hh (by simp [hop,AOp.heapy])
  subst this
  simp only [stepOp,hop,lop_congr l hev]
 case e e =>
  have:=hh (by simp [hop,AOp.heapy])
  subst this
  simp only [stepOp,hop,eop_congr e hev]
 case np x =>
  have:=hev x (by simp)
  simp only [stepOp,hop,this]
 case pa s b k ix =>
  have h1:=hb b (by simp [hop,AOp.base])
  have h2:=hsl s (by simp [hop,AOp.slotRef])
  have hdf:defd sl s=defd sl' s:=by simp only [defd,h2]
  cases ix with
  | none=>simp only [stepOp,hop,hdf,h1]
  | some t =>
   obtain ⟨i,m,sz⟩:=t
   have:=hev i (by simp)
   simp only [stepOp,hop,hdf,h1,this]
 case pl s b size ag =>
  have h1:=hb b (by simp [hop,AOp.base])
  have h2:=hsl s (by simp [hop,AOp.slotRef])
  have hdf:defd sl s=defd sl' s:=by simp only [defd,h2]
  have hgd:sl.getD s .undef=sl'.getD s .undef:=by simp only [List.getD,h2]
  simp only [stepOp,hop,hdf,h1]
  rw [hgd]
 case pu s b size x =>
  have h1:=hb b (by simp [hop,AOp.base])
  have h2:=hsl s (by simp [hop,AOp.slotRef])
  have:=hev x (by simp)
  have hdf:defd sl s=defd sl' s:=by simp only [defd,h2]
  have hgd:sl.getD s .undef=sl'.getD s .undef:=by simp only [List.getD,h2]
  simp only [stepOp,hop,hdf,h1,this]
  rw [hgd]
 case pan x =>
  have:=hev x (by simp)
  simp only [stepOp,hop,this]
 case dfr fn as =>
  have h1:as.map (ev gl env sl)=as.map (ev gl env' sl'):=List.map_congr_left fun x hx=>hev x (List.mem_cons_of_mem _ hx)
  have h0:=hev fn (List.mem_cons_self ..)
  simp only [stepOp,hop,h0,h1]
 case rcv=>exact absurd hop hr
 case no=>simp only [stepOp,hop]
 case lz l lo hi =>
  simp only [stepOp,hop,lz_congr l hev,hlz l lo hi hop]
structure Eff where
 v:V
 wr:Option (Nat×V)
 df:Option (V×List V)
 hp:Option Heap
def Eff.on (e:Eff) (c:Cfg):Cfg :=
 { c with slots:=setSlot c.slots e.wr,dfs:=pushD e.df c.dfs,h:=e.hp.getD c.h }
inductive EffOp (rec:Rec) (gl:Nat→List V) (ao:AOper) (env:List V) (c:Cfg):Eff→Prop
 | go (v:V) (wr:Option (Nat×V)) (df:Option (V×List V)) (hp:Option Heap) (hw:wanted env ao.guard=some true) (hs:stepOp rec gl ao env c.slots c.pn c.h=some (.ok v wr df none hp)):EffOp rec gl ao env c ⟨v,wr,df,hp⟩
 | skip (hw:wanted env ao.guard=some false):EffOp rec gl ao env c ⟨.tup [],(slotOf ao.dst).map (·,.tup []),none,none⟩
structure Tr (rec:Rec) (gl:Nat→List V) (aops:List AOper) (c0:Cfg) (ro:ROut) (L:Nat) (env:List V) (cs:Nat→Cfg):Prop where
 len:env.length=L
 le:L≤aops.length
 start:cs 0=c0
 pn:∀ i,i≤L→(cs i).pn=none
 ok:∀ i,i<L→∃ ao e,aops[i]?=some ao∧ao.op ≠ .rcv∧EffOp rec gl ao (env.take i) (cs i) e∧env[i]?=some e.v∧cs (i+1)=e.on (cs i)
 fin:(L=aops.length∧ro = .norm env (cs L))∨∃ ao v hp,aops[L]?=some ao∧ao.op ≠ .rcv∧wanted env ao.guard=some true∧stepOp rec gl ao env (cs L).slots (cs L).pn (cs L).h=some (.pan v hp) ∧
  ro = .pan L v { cs L with h:=hp.getD (cs L).h }
theorem tr_of_run {cx:Cx} {rec:Rec} {aops:List AOper} {ro:ROut} (hnrs:∀ ao∈aops,ao.op ≠ .rcv):∀ (os:List AOper) (j:Nat) (env:List V) (c:Cfg),aops.drop j=os→env.length=j→j≤aops.length→c.pn=none→runOps rec cx.gl os env c=some ro →
  ∀ (c0:Cfg) (cs:Nat→Cfg),cs 0=c0→cs j=c→(∀ i,i≤j→(cs i).pn=none) →
  (∀ i,i<j→∃ ao e,aops[i]?=some ao∧ao.op ≠ .rcv∧EffOp rec cx.gl ao (env.take i) (cs i) e∧env[i]?=some e.v∧cs (i+1)=e.on (cs i)) →
  ∃ L env' cs',Tr rec cx.gl aops c0 ro L env' cs':=by
 intro os
 induction os with
 | nil =>
  intro j env c hos hl hj hpn hrun c0 cs h0 hcj hpns hok
  simp only [runOps,Option.some.injEq] at hrun
  subst hrun
  have hlen:=congrArg List.length hos
  simp only [List.length_drop,List.length_nil] at hlen
  have hjl:j=aops.length:=by omega
  exact ⟨j,env,cs,hl,hj,h0,hpns,hok,.inl ⟨hjl,by rw [hcj]⟩⟩
 | cons ao os ih =>
  intro j env c hos hl hj hpn hrun c0 cs h0 hcj hpns hok
  have hlen:=congrArg List.length hos
  simp only [List.length_drop,List.length_cons] at hlen
  have haj:aops[j]?=some ao:=by
   have:=congrArg (fun l=>l[0]?) hos
   simpa [List.getElem?_drop] using this
  have hos':aops.drop (j+1)=os:=by
   have:=congrArg (List.drop 1) hos
   simpa [List.drop_drop] using this
  have more:∀ e,EffOp rec cx.gl ao env c e→ao.op ≠ .rcv→runOps rec cx.gl os (env++[e.v]) (e.on c)=some ro→∃ L env' cs',Tr rec cx.gl aops c0 ro L env' cs':=by
   intro e he hnr hrun'
   refine ih (j+1) (env++[e.v]) (e.on c) hos' (by simp [hl]) (by omega) hpn hrun' c0 (fun i=>if i=j+1 then e.on c else cs i) (by simpa using h0) (by simp) ?_ ?_
   ·intro i hi
    by_cases h:i=j+1
    ·simp only [h,if_true]; exact hpn
    ·simp only [h,if_false]; exact hpns i (by omega)
   ·intro i hi
    by_cases h:i=j
    ·subst h
     refine ⟨ao,e,haj,hnr,?_,?_,?_⟩
     ·rw [List.take_left' hl]
      simpa [hcj] using he
     ·rw [List.getElem?_append_right (by omega)]
      simp [hl]
     ·simp [hcj]
    ·obtain ⟨ao',e',h1,h2,h3,h4,h5⟩:=hok i (by omega)
     refine ⟨ao',e',h1,h2,?_,?_,?_⟩
     ·rw [List.take_append_of_le_length (by omega)]
      simpa [show ¬ i=j+1 by omega] using h3
     ·rw [List.getElem?_append_left (by omega)]
      exact h4
     ·simp only [show ¬ i+1=j+1 by omega,show ¬ i=j+1 by omega,if_false]
      exact h5
  simp only [runOps] at hrun
  split at hrun
  ·rename_i hw
   cases hst:stepOp rec cx.gl ao env c.slots c.pn c.h with
   | none=>simp [hst] at hrun
   | some r =>
    have hnr:ao.op ≠ .rcv:=by
     intro h
     simp [stepOp,h,hpn] at hst
    cases r with
    | ok v wr df pn hp =>
     have hp0:=stepOp_pn hnr hst
     subst hp0
     simp only [hst] at hrun
     refine more ⟨v,wr,df,hp⟩ (.go v wr df hp hw hst) hnr ?_
     simp only [Eff.on]
     simpa using hrun
    | pan v hp =>
     simp only [hst,Option.some.injEq] at hrun
     subst hrun
     refine ⟨j,env,cs,hl,hj,h0,hpns,hok,.inr ⟨ao,v,hp,haj,hnr,hw,by rw [hcj]; exact hst,?_⟩⟩
     rw [hcj,hl]
  ·rename_i hw
   have hnr:=hnrs ao (List.mem_of_getElem? haj)
   refine more ⟨.tup [],(slotOf ao.dst).map (·,.tup []),none,none⟩ (.skip hw) hnr ?_
   simpa [Eff.on,pushD] using hrun
  ·cases hrun
theorem eqO_sound {a b:Option V} (h:eqO a b=true):a=b:=by
 cases a <;> cases b <;> simp only [eqO,Bool.false_eq_true] at h
 rw [eqV_sound h]
def LzOk (gl:Nat→List V) (aops:List AOper) (L:Nat) (tenv:List V) (cs:Nat→Cfg):Prop :=
 ∀ i ao l lo hi,i≤L→aops[i]?=some ao→ao.op = .lz l lo hi→wanted (tenv.take i) ao.guard=some true→∀ m,m≤L→lo≤m→m≤hi →
  lzV (cs m).h (ev gl (tenv.take i) (cs i).slots) l=lzV (cs i).h (ev gl (tenv.take i) (cs i).slots) l
theorem trace_tr {rec:Rec} {gl:Nat→List V} {aops:List AOper} {c0:Cfg} {ro:ROut} {L:Nat} {tenv:List V} {cs:Nat→Cfg} (tr:Tr rec gl aops c0 ro L tenv cs):∀ (d i:Nat) (t:List (List V×Cfg)),i+d=L→traceOps rec gl (aops.drop i) (tenv.take i) (cs i)=some t →
  ∀ k,k≤d→t[k]?=some (tenv.take (i+k),cs (i+k))
 | 0,i,t,hi,ht,k,hk=>by
  have hk0:k=0:=by omega
  subst hk0
  have hiL:i=L:=by omega
  subst hiL
  have htake:tenv.take i=tenv:=List.take_of_length_le (by rw [tr.len]; exact Nat.le_refl _)
  rcases tr.fin with ⟨hL,_⟩ | ⟨ao,v,hp,hao,hnr,hw,hst,_⟩
  ·rw [List.drop_of_length_le (by omega)] at ht
   simp only [traceOps,Option.some.injEq] at ht
   subst ht
   simp
  ·have hdrop:aops.drop i=ao :: aops.drop (i+1):=by
    obtain ⟨h1,h2⟩:=List.getElem?_eq_some_iff.1 hao
    rw [List.drop_eq_getElem_cons h1,h2]
   rw [hdrop] at ht
   simp only [traceOps,htake,hw,hst,Option.some.injEq] at ht
   subst ht
   simp [htake]
 | d+1,i,t,hi,ht,k,hk=>by
  obtain ⟨ao,e,hao,hnr,he,hv,hcs⟩:=tr.ok i (by omega)
  have hdrop:aops.drop i=ao :: aops.drop (i+1):=by
   obtain ⟨h1,h2⟩:=List.getElem?_eq_some_iff.1 hao
   rw [List.drop_eq_getElem_cons h1,h2]
  have htake:tenv.take i++[e.v]=tenv.take (i+1):=by
   rw [List.take_add_one,hv]
   rfl
  rw [hdrop] at ht
  have go:∀ t',traceOps rec gl (aops.drop (i+1)) (tenv.take (i+1)) (cs (i+1))=some t'→t=(tenv.take i,cs i) :: t'→t[k]?=some (tenv.take (i+k),cs (i+k)):=by
   intro t' h1 h2
   subst h2
   cases k with
   | zero=>simp
   | succ k =>
    have:=trace_tr tr d (i+1) t' (by omega) h1 k (by omega)
    simp only [List.getElem?_cons_succ]
    rw [this,show i+1+k=i+(k+1) by omega]
  cases he with
  | go v wr df hp hw hs =>
   simp only [traceOps,hw,hs,Option.map_eq_some_iff] at ht
   obtain ⟨t',h1,h2⟩:=ht
   refine go t' ?_ h2.symm
   rw [hcs,← htake]
   have hpn:(none:Option (Option V)).or (cs i).pn=(cs i).pn:=by cases (cs i).pn <;> rfl
   rw [hpn] at h1
   exact h1
  | skip hw =>
   simp only [traceOps,hw,Option.map_eq_some_iff] at ht
   obtain ⟨t',h1,h2⟩:=ht
   refine go t' ?_ h2.symm
   rw [hcs,← htake]
   exact h1
theorem lzP_spec {gl:Nat→List V} {hs:List Heap}:∀ (os:List AOper) (t:List (List V×Cfg)),lzP gl hs os t=true→∀ (i:Nat) (ao:AOper) (l:LOp) (lo hi:Nat) (env:List V) (c:Cfg),os[i]?=some ao→t[i]?=some (env,c)→ao.op = .lz l lo hi→wanted env ao.guard=some true →
  ∀ m h,hs[m]?=some h→lo≤m→m≤hi→lzV h (ev gl env c.slots) l=lzV c.h (ev gl env c.slots) l
 | [],_,_,i,ao,l,lo,hi,env,c,h1,_=>by simp at h1
 | o :: os,[],_,i,ao,l,lo,hi,env,c,_,h2=>by simp at h2
 | o :: os,(env0,c0) :: t,hl,i,ao,l,lo,hi,env,c,h1,h2=>by
  intro hop hw m h hh hlo hhi
  simp only [lzP,Bool.and_eq_true] at hl
  cases i with
  | zero =>
   simp only [List.getElem?_cons_zero,Option.some.injEq,Prod.mk.injEq] at h1 h2
   obtain ⟨rfl,rfl⟩:=h2
   subst h1
   have:=hl.1
   simp only [hop,hw,List.all_eq_true] at this
   refine eqO_sound (this h (List.mem_of_getElem? (i:=m - lo) ?_))
   rw [List.getElem?_take_of_lt (by omega),List.getElem?_drop,show lo+(m - lo)=m by omega]
   exact hh
  | succ i =>
   simp only [List.getElem?_cons_succ] at h1 h2
   exact lzP_spec os t hl.2 i ao l lo hi env c h1 h2 hop hw m h hh hlo hhi
theorem lz_of {rec:Rec} {gl:Nat→List V} {aops:List AOper} {c0:Cfg} {ro:ROut} {L:Nat} {tenv:List V} {cs:Nat→Cfg} (tr:Tr rec gl aops c0 ro L tenv cs) (h:anyLz aops=false∨lzOK gl aops (traceOps rec gl aops [] c0)=true):LzOk gl aops L tenv cs:=by
 intro i ao l lo hi hiL hao hop hw m hm hlo hhi
 rcases h with h | h
 ·exfalso
  have:∀ (l:List AOper) (i:Nat),l[i]?=some ao→anyLz l=false→False:=by
   intro l
   induction l with
   | nil=>intro i h1; simp at h1
   | cons o os ih =>
    intro i h1 h2
    obtain ⟨d,op,gd⟩:=o
    cases i with
    | zero =>
     simp only [List.getElem?_cons_zero,Option.some.injEq] at h1
     subst h1
     simp only at hop
     subst hop
     simp [anyLz] at h2
    | succ i =>
     refine ih i (by simpa using h1) ?_
     cases op <;> first | (simp [anyLz] at h2; done) | exact h2
  exact this aops i hao h
 ·unfold lzOK at h
  split at h
  ·rename_i t ht
   have htt:=trace_tr tr L 0 t (by omega) (by rw [List.drop_zero,List.take_zero,tr.start]; exact ht)
   have h1:=htt i hiL
   have h2:=htt m hm
   simp only [Nat.zero_add] at h1 h2
   exact lzP_spec aops t h i ao l lo hi _ _ hao h1 hop hw m _ (by rw [List.getElem?_map,h2]; rfl) hlo hhi
  ·cases h
def DeadAt (pok:List Nat) (p:Nat) (i:Nat):Prop:=i=p∨(p<i∧liveIn pok p i=false)
structure TrX (rec:Rec) (gl:Nat→List V) (aops:List AOper) (pok:List Nat) (c0:Cfg) (ro:ROut) (D:Nat→Prop) (env:List V) (cs:Nat→Cfg):Prop where
 len:env.length=aops.length
 start:cs 0=c0
 pn:∀ i,i≤aops.length→(cs i).pn=none
 ok:∀ i,i<aops.length→¬ D i→∃ ao e,aops[i]?=some ao∧ao.op ≠ .rcv∧EffOp rec gl ao (env.take i) (cs i) e∧env[i]?=some e.v∧cs (i+1)=e.on (cs i)
 dead:∀ i,i<aops.length→D i→cs (i+1)=cs i
 fin:((∀ i,¬ D i)∧ro = .norm env (cs aops.length)∧LzOk gl aops aops.length env cs)∨∃ p ao v hp,aops[p]?=some ao∧ao.op ≠ .rcv∧wanted (env.take p) ao.guard=some true∧stepOp rec gl ao (env.take p) (cs p).slots (cs p).pn (cs p).h=some (.pan v hp) ∧
  ro = .pan p v { cs p with h:=hp.getD (cs p).h }∧(∀ i,D i↔DeadAt pok p i)∧LzOk gl aops p env cs ∧
  (∀ i ao l lo hi,p<i→liveIn pok p i=true→aops[i]?=some ao→ao.op = .lz l lo hi→wanted (env.take i) ao.guard=some true→∀ m,m≤p→lo≤m→m≤hi →
   lzV (cs m).h (ev gl (env.take i) (cs i).slots) l=lzV (cs i).h (ev gl (env.take i) (cs i).slots) l)
theorem tail_trx {rec:Rec} {cx:Cx} {aops:List AOper} {pok:List Nat} {p:Nat} {hs:List Heap} (hnrs:∀ ao∈aops,ao.op ≠ .rcv):∀ (os:List AOper) (j:Nat) (env:List V) (c:Cfg) (x:List V×Cfg),aops.drop j=os→env.length=j→j≤aops.length→p<j→c.pn=none →
  tailOps rec cx.gl hs (liveIn pok p) os j env c=some x →
  ∀ (cs:Nat→Cfg),cs j=c→(∀ i,i≤j→(cs i).pn=none) →
  (∀ i,i<j→¬ DeadAt pok p i→∃ ao e,aops[i]?=some ao∧ao.op ≠ .rcv∧EffOp rec cx.gl ao (env.take i) (cs i) e∧env[i]?=some e.v∧cs (i+1)=e.on (cs i)) →
  (∀ i,i<j→DeadAt pok p i→cs (i+1)=cs i) →
  ∃ (env':List V) (cs':Nat→Cfg),env'.length=aops.length∧(∀ i,i≤j→cs' i=cs i)∧(∀ i,i≤j→env'.take i=env.take i)∧(∀ i,i≤aops.length→(cs' i).pn=none) ∧
   (∀ i,i<aops.length→¬ DeadAt pok p i→∃ ao e,aops[i]?=some ao∧ao.op ≠ .rcv∧EffOp rec cx.gl ao (env'.take i) (cs' i) e∧env'[i]?=some e.v∧cs' (i+1)=e.on (cs' i)) ∧
   (∀ i,i<aops.length→DeadAt pok p i→cs' (i+1)=cs' i) ∧
   (∀ i ao,j≤i→liveIn pok p i=true→aops[i]?=some ao→lzT cx.gl hs ao (env'.take i) (cs' i)=true):=by
 intro os
 induction os with
 | nil =>
  intro j env c x hos hl hj hpj hpn hrun cs hcj hpns hok hdead
  have hlen:=congrArg List.length hos
  simp only [List.length_drop,List.length_nil] at hlen
  have hjl:j=aops.length:=by omega
  subst hjl
  refine ⟨env,cs,hl,fun _ _=>rfl,fun _ _=>rfl,hpns,hok,hdead,fun i ao hi _ h => ?_⟩
  have:=(List.getElem?_eq_some_iff.1 h).1
  omega
 | cons ao os ih =>
  intro j env c x hos hl hj hpj hpn hrun cs hcj hpns hok hdead
  have hlen:=congrArg List.length hos
  simp only [List.length_drop,List.length_cons] at hlen
  have haj:aops[j]?=some ao:=by
   have:=congrArg (fun l=>l[0]?) hos
   simpa [List.getElem?_drop] using this
  have hos':aops.drop (j+1)=os:=by
   have:=congrArg (List.drop 1) hos
   simpa [List.drop_drop] using this
  have hnr:=hnrs ao (List.mem_of_getElem? haj)
  -- one further, with a state and a value
  have more:∀ (u:V) (c1:Cfg),c1.pn=none→tailOps rec cx.gl hs (liveIn pok p) os (j+1) (env++[u]) c1=some x →
    (¬ DeadAt pok p j→∃ e,EffOp rec cx.gl ao env c e∧u=e.v∧c1=e.on c)→(DeadAt pok p j→c1=c)→(liveIn pok p j=true→lzT cx.gl hs ao env c=true) →
    ∃ (env':List V) (cs':Nat→Cfg),env'.length=aops.length∧(∀ i,i≤j→cs' i=cs i)∧(∀ i,i≤j→env'.take i=env.take i)∧(∀ i,i≤aops.length→(cs' i).pn=none) ∧
     (∀ i,i<aops.length→¬ DeadAt pok p i→∃ ao e,aops[i]?=some ao∧ao.op ≠ .rcv∧EffOp rec cx.gl ao (env'.take i) (cs' i) e∧env'[i]?=some e.v∧cs' (i+1)=e.on (cs' i)) ∧
     (∀ i,i<aops.length→DeadAt pok p i→cs' (i+1)=cs' i) ∧
     (∀ i ao,j≤i→liveIn pok p i=true→aops[i]?=some ao→lzT cx.gl hs ao (env'.take i) (cs' i)=true):=by
   intro u c1 hp1 hrun1 hlive hdd hlzt
   obtain ⟨env',cs',q1,q2,q3,q4,q5,q6,q7⟩:=ih (j+1) (env++[u]) c1 x hos' (by simp [hl]) (by omega) (by omega) hp1 hrun1 (fun i=>if i=j+1 then c1 else cs i) (by simp)
    (by
     intro i hi
     by_cases h:i=j+1
     ·simp only [h,if_true]; exact hp1
     ·simp only [h,if_false]; exact hpns i (by omega))
    (by
     intro i hi hnd
     by_cases h:i=j
     ·subst h
      obtain ⟨e,he,rfl,rfl⟩:=hlive hnd
      refine ⟨ao,e,haj,hnr,?_,?_,?_⟩
      ·rw [List.take_left' hl]
       simpa [hcj] using he
      ·rw [List.getElem?_append_right (by omega)]
       simp [hl]
      ·simp [hcj]
     ·obtain ⟨ao',e',h1,h2,h3,h4,h5⟩:=hok i (by omega) hnd
      refine ⟨ao',e',h1,h2,?_,?_,?_⟩
      ·rw [List.take_append_of_le_length (by omega)]
       simpa [show ¬ i=j+1 by omega] using h3
      ·rw [List.getElem?_append_left (by omega)]
       exact h4
      ·simp only [show ¬ i+1=j+1 by omega,show ¬ i=j+1 by omega,if_false]
       exact h5)
    (by
     intro i hi hd
     by_cases h:i=j
     ·subst h
      simp only [if_true,show ¬ i=i+1 by omega,if_false]
      rw [hdd hd,hcj]
     ·simp only [show ¬ i+1=j+1 by omega,show ¬ i=j+1 by omega,if_false]
      exact hdead i (by omega) hd)
   have e2:∀ i,i≤j→cs' i=cs i:=fun i hi=>by
    rw [q2 i (by omega)]
    simp only [show ¬ i=j+1 by omega,if_false]
   have e3:∀ i,i≤j→env'.take i=env.take i:=fun i hi=>by
    rw [q3 i (by omega),List.take_append_of_le_length (by omega)]
   refine ⟨env',cs',q1,e2,e3,q4,q5,q6,fun i ao' hi hlv hai => ?_⟩
   by_cases h:i=j
   ·subst h
    rw [haj] at hai
    cases hai
    rw [e2 i (Nat.le_refl _),e3 i (Nat.le_refl _),hcj,List.take_of_length_le (by omega)]
    exact hlzt hlv
   ·exact q7 i ao' (by omega) hlv hai
  simp only [tailOps] at hrun
  cases hlv:liveIn pok p j with
  | false =>
   rw [hlv] at hrun
   simp only [Bool.false_eq_true,if_false] at hrun
   exact more .undef c hpn hrun (fun h=>absurd (.inr ⟨hpj,hlv⟩) h) (fun _=>rfl) (fun h=>by rw [hlv] at h; cases h)
  | true =>
   have hnd:¬ DeadAt pok p j:=by
    rintro (h | ⟨_,h⟩)
    ·omega
    ·rw [hlv] at h; cases h
   rw [hlv] at hrun
   simp only [if_true] at hrun
   cases hlt:lzT cx.gl hs ao env c with
   | false=>rw [hlt] at hrun; simp at hrun
   | true =>
   rw [hlt] at hrun
   simp only [Bool.not_true,Bool.false_eq_true,if_false] at hrun
   split at hrun
   ·rename_i hw
    cases hst:stepOp rec cx.gl ao env c.slots c.pn c.h with
    | none=>simp [hst] at hrun
    | some r =>
     cases r with
     | pan v hp=>simp [hst] at hrun
     | ok v wr df pn hp =>
      simp only [hst] at hrun
      have hp0:pn=none:=by
       obtain ⟨d,op,g⟩:=ao
       have hput:∀ (d:Dst) (v:V) {v' wr df pn hp},putSlot d v = .ok v' wr df pn hp→pn=none:=by
        intro d v v' wr df pn hp h
        unfold putSlot at h
        split at h <;> cases h <;> rfl
       exact stepOp_pn (cx:=cx) hnr hst
      subst hp0
      refine more v _ ?_ hrun (fun _=>⟨⟨v,wr,df,hp⟩,.go v wr df hp hw hst,rfl,?_⟩) (fun h=>absurd h hnd) (fun _=>hlt)
      ·simp [hpn]
      ·simp [Eff.on]
   ·rename_i hw
    refine more (.tup []) _ ?_ hrun (fun _=>⟨⟨.tup [],(slotOf ao.dst).map (·,.tup []),none,none⟩,.skip hw,rfl,?_⟩) (fun h=>absurd h hnd) (fun _=>hlt)
    ·simp [hpn]
    ·simp [Eff.on,pushD]
   ·cases hrun
theorem tail_none {rec:Rec} {gl:Nat→List V} {hs:List Heap} {live:Nat→Bool}:∀ (os:List AOper) (j:Nat) (env:List V) (c:Cfg),(∀ i,j≤i→i<j+os.length→live i=false)→∃ x,tailOps rec gl hs live os j env c=some x
 | [],j,env,c,_=>⟨_,rfl⟩
 | o :: os,j,env,c,h=>by
  simp only [tailOps]
  rw [h j (Nat.le_refl _) (by simp)]
  simp only [Bool.false_eq_true,if_false]
  exact tail_none os (j+1) _ c fun i h1 h2=>h i (by omega) (by simp only [List.length_cons]; omega)
theorem live_none {pok:List Nat} {j i:Nat} (h:anyLive pok j=false) (hi:i<1000):liveIn pok j i=false:=by
 cases hl:liveIn pok j i with
 | false=>rfl
 | true =>
  exfalso
  simp only [liveIn,List.contains_iff_mem] at hl
  simp only [anyLive,List.any_eq_false,Bool.and_eq_true,decide_eq_true_eq,not_and,Nat.not_lt] at h
  have:=h _ hl (by omega)
  omega
theorem trx_of {rec:Rec} {cx:Cx} {aops:List AOper} {pok:List Nat} {c0:Cfg} {ro:ROut} {L:Nat} {tenv:List V} {cs:Nat→Cfg} (hnrs:∀ ao∈aops,ao.op ≠ .rcv) (hlen:aops.length<1000) (tr:Tr rec cx.gl aops c0 ro L tenv cs) (hlz:LzOk cx.gl aops L tenv cs)
  (ht:∀ p v c,ro = .pan p v c→anyLive pok p=false∨tailOK rec cx.gl pok p aops (traceOps rec cx.gl aops [] c0)=true):∃ D env' cs',TrX rec cx.gl aops pok c0 ro D env' cs':=by
 rcases tr.fin with ⟨hL,hro⟩ | ⟨ao,v,hp,hao,hnr,hw,hst,hro⟩
 ·subst hL
  exact ⟨fun _=>False,tenv,cs,tr.len,tr.start,tr.pn,fun i hi _=>tr.ok i hi,fun i hi h=>h.elim,.inl ⟨fun _ h=>h,hro,hlz⟩⟩
 ·have hLn:L<aops.length:=(List.getElem?_eq_some_iff.1 hao).1
  have hx:∃ x,tailOps rec cx.gl ((List.range (L+1)).map fun m=>(cs m).h) (liveIn pok L) (aops.drop (L+1)) (L+1) (tenv++[.undef]) (cs L)=some x:=by
   rcases ht L _ _ hro with h | h
   ·refine tail_none _ _ _ _ fun i h1 h2=>live_none h ?_
    simp only [List.length_drop] at h2
    omega
   ·unfold tailOK at h
    split at h
    ·rename_i t htr
     have htt:=trace_tr tr L 0 t (by omega) (by rw [List.drop_zero,List.take_zero,tr.start]; exact htr) L (Nat.le_refl _)
     -- the last state
     have hlast:t.length=L+1:=by
      have key:∀ (d i:Nat) (t:List (List V×Cfg)),i+d=L→traceOps rec cx.gl (aops.drop i) (tenv.take i) (cs i)=some t→t.length=d+1:=by
       intro d
       induction d with
       | zero =>
        intro i t hi ht
        obtain rfl:i=L:=by omega
        have htake:tenv.take i=tenv:=List.take_of_length_le (by rw [tr.len]; exact Nat.le_refl _)
        have hdrop:aops.drop i=ao :: aops.drop (i+1):=by
         obtain ⟨h1,h2⟩:=List.getElem?_eq_some_iff.1 hao
         rw [List.drop_eq_getElem_cons h1,h2]
        rw [hdrop] at ht
        simp only [traceOps,htake,hw,hst,Option.some.injEq] at ht
        subst ht
        rfl
       | succ d ih =>
        intro i t hi ht
        obtain ⟨ao',e,hao',hnr',he,hv,hcs⟩:=tr.ok i (by omega)
        have hdrop:aops.drop i=ao' :: aops.drop (i+1):=by
         obtain ⟨h1,h2⟩:=List.getElem?_eq_some_iff.1 hao'
         rw [List.drop_eq_getElem_cons h1,h2]
        have htake:tenv.take i++[e.v]=tenv.take (i+1):=by
         rw [List.take_add_one,hv]
         rfl
        rw [hdrop] at ht
        cases he with
        | go v wr df hp hw hs =>
         simp only [traceOps,hw,hs,Option.map_eq_some_iff] at ht
         obtain ⟨t',h1,h2⟩:=ht
         have hpn:(none:Option (Option V)).or (cs i).pn=(cs i).pn:=by cases (cs i).pn <;> rfl
         rw [hpn] at h1
         have:=ih (i+1) t' (by omega) (by rw [hcs,← htake]; exact h1)
         rw [← h2,List.length_cons,this]
        | skip hw =>
         simp only [traceOps,hw,Option.map_eq_some_iff] at ht
         obtain ⟨t',h1,h2⟩:=ht
         have:=ih (i+1) t' (by omega) (by rw [hcs,← htake]; exact h1)
         rw [← h2,List.length_cons,this]
      exact key L 0 t (by omega) (by rw [List.drop_zero,List.take_zero,tr.start]; exact htr)
     have hgl:t.getLast?=some (tenv,cs L):=by
      rw [List.getLast?_eq_getElem?,hlast,Nat.add_sub_cancel]
      simp only [Nat.zero_add] at htt
      rw [htt,List.take_of_length_le (by rw [tr.len]; exact Nat.le_refl _)]
     rw [hgl] at h
     have hhs:t.map (·.2.h)=(List.range (L+1)).map fun m=>(cs m).h:=by
      apply List.ext_getElem?
      intro k
      by_cases hk:k<L+1
      ·have:=trace_tr tr L 0 t (by omega) (by rw [List.drop_zero,List.take_zero,tr.start]; exact htr) k (by omega)
       simp only [Nat.zero_add] at this
       rw [List.getElem?_map,this,List.getElem?_map,List.getElem?_range hk]
       rfl
      ·rw [List.getElem?_eq_none (by simp [hlast]; omega),List.getElem?_eq_none (by simp; omega)]
     rw [hhs] at h
     exact Option.isSome_iff_exists.1 (by simpa only [tailAt] using h)
    ·cases h
  obtain ⟨x,hx⟩:=hx
  have hpnL:=tr.pn L (Nat.le_refl _)
  obtain ⟨env',cs',q1,q2,q3,q4,q5,q6,q7⟩:=tail_trx (aops:=aops) (pok:=pok) (p:=L) hnrs (aops.drop (L+1)) (L+1) (tenv++[.undef]) (cs L) x rfl (by simp [tr.len]) (by omega) (by omega) hpnL hx (fun i=>if i=L+1 then cs L else cs i) (by simp)
   (by
    intro i hi
    by_cases h:i=L+1
    ·simp only [h,if_true]; exact hpnL
    ·simp only [h,if_false]; exact tr.pn i (by omega))
   (by
    intro i hi hnd
    have hne:i≠L:=fun e=>hnd (.inl e)
    obtain ⟨ao',e',h1,h2,h3,h4,h5⟩:=tr.ok i (by omega)
    refine ⟨ao',e',h1,h2,?_,?_,?_⟩
    ·rw [List.take_append_of_le_length (by rw [tr.len]; omega)]
     simpa [show ¬ i=L+1 by omega] using h3
    ·rw [List.getElem?_append_left (by rw [tr.len]; omega)]
     exact h4
    ·simp only [show ¬ i+1=L+1 by omega,show ¬ i=L+1 by omega,if_false]
     exact h5)
   (by
    intro i hi hd
    have:i=L:=by
     rcases hd with h | ⟨h,_⟩
     ·exact h
     ·omega
    subst this
    simp only [if_true,show ¬ i=i+1 by omega,if_false])
  have e1:∀ i,i≤L→cs' i=cs i:=fun i hi=>by
   rw [q2 i (by omega)]
   simp only [show ¬ i=L+1 by omega,if_false]
  have e2:∀ i,i≤L→env'.take i=tenv.take i:=fun i hi=>by
   rw [q3 i (by omega),List.take_append_of_le_length (by rw [tr.len]; omega)]
  have e3:env'.take L=tenv:=by rw [e2 L (Nat.le_refl _),List.take_of_length_le (by rw [tr.len]; exact Nat.le_refl _)]
  refine ⟨DeadAt pok L,env',cs',q1,by rw [e1 0 (by omega)]; exact tr.start,q4,q5,q6,.inr ⟨L,ao,v,hp,hao,hnr,by rw [e3]; exact hw,by rw [e3,e1 L (Nat.le_refl _)]; exact hst,by rw [e1 L (Nat.le_refl _)]; exact hro,fun i=>Iff.rfl,?_,?_⟩⟩
  ·intro i ao' l lo hi hiL hao' hop hwi m hm hlo hhi
   have:=hlz i ao' l lo hi hiL hao' hop (by rw [← e2 i hiL]; exact hwi) m hm hlo hhi
   rw [e1 m hm,e1 i hiL,e2 i hiL]
   exact this
  ·intro i ao' l lo hi hLi hlv hao' hop hwi m hm hlo hhi
   have:=q7 i ao' hLi hlv hao'
   simp only [lzT,hop,hwi,List.all_eq_true] at this
   rw [e1 m hm]
   refine eqO_sound (this _ (List.mem_of_getElem? (i:=m - lo) ?_))
   rw [List.getElem?_take_of_lt (by omega),List.getElem?_drop,show lo+(m - lo)=m by omega,List.getElem?_map,List.getElem?_range (by omega)]
   rfl
def dedup:List Nat→List Nat
 | []=>[]
 | x :: xs=>let r:=dedup xs; if r.contains x then r else x :: r
theorem mem_dedup {x:Nat}:∀ {l:List Nat},x∈dedup l→x∈l
 | [],h=>by simp [dedup] at h
 | y :: ys,h=>by
  simp only [dedup] at h
  split at h
  ·exact List.mem_cons_of_mem _ (mem_dedup h)
  ·rcases List.mem_cons.1 h with rfl | h
   ·exact List.mem_cons_self ..
   ·exact List.mem_cons_of_mem _ (mem_dedup h)
def direct (o:Oper):List Nat:=(o.after.toList.filter (Region.binds .any)).map (·.on)
def befs (ops:Array Oper):Nat→List (List Nat)
 | 0=>[]
 | k+1=>let acc:=befs ops k; acc++[match ops[k]? with
  | some o=>dedup (direct o++(direct o).flatMap fun i=>acc.getD i [])
  | none=>[]]
theorem befs_length (ops:Array Oper):∀ k,(befs ops k).length=k
 | 0=>rfl
 | k+1=>by simp [befs,befs_length ops k]
theorem befs_closed {ops:Array Oper} {S:Nat→Prop} (hS:∀ j o,S j→ops[j]?=some o→∀ e∈o.after,Region.binds .any e=true→S e.on) :
  ∀ k j i,i∈(befs ops k).getD j []→S j→S i:=by
 have hd:∀ j o,S j→ops[j]?=some o→∀ i∈direct o,S i:=by
  intro j o hj ho i hi
  simp only [direct,List.mem_map,List.mem_filter] at hi
  obtain ⟨e,⟨he,hb⟩,rfl⟩:=hi
  exact hS j o hj ho e (by simpa using he) hb
 intro k
 induction k with
 | zero=>intro j i hi; simp [befs] at hi
 | succ k ih =>
  intro j i hi hj
  have hlen:=befs_length ops k
  by_cases hjk:j<k
  ·refine ih j i ?_ hj
   simp only [befs,List.getD,List.getElem?_append_left (show j<(befs ops k).length by omega)] at hi
   exact hi
  ·by_cases hjk2:j=k
   ·subst hjk2
    simp only [befs,List.getD,List.getElem?_append_right (show (befs ops j).length≤j by omega),hlen,Nat.sub_self] at hi
    simp only [List.getElem?_cons_zero,Option.getD_some] at hi
    cases ho:ops[j]? with
    | none=>simp [ho] at hi
    | some o =>
     simp only [ho] at hi
     rcases List.mem_append.1 (mem_dedup hi) with h | h
     ·exact hd j o hj ho i h
     ·obtain ⟨d,hdm,hid⟩:=List.mem_flatMap.1 h
      exact ih d i hid (hd j o hj ho d hdm)
   ·simp only [befs,List.getD] at hi
    rw [List.getElem?_eq_none (by simp [hlen]; omega)] at hi
    simp at hi
def AOper.hw (ao:AOper):Bool :=
 match ao.op with
 | .e _=>true
 | _=>false
def AOper.dw (ao:AOper):Bool :=
 match ao.op with
 | .dfr .. => true
 | _=>false
def indep (a b:AOper):Bool :=
 (match a.writes with
  | some s => !b.refsS.contains s&&b.writes != some s
  | none=>true) &&
 (match b.writes with
  | some s => !a.refsS.contains s
  | none=>true) &&
 !(a.hw&&b.op.heapy) && !(b.hw&&a.op.heapy) && !(a.dw&&b.dw)
def AOp.isRcv:AOp→Bool
 | .rcv=>true
 | _=>false
def lzOk1 (B:List (List Nat)) (aops:List AOper) (n j:Nat):AOp→Bool
 | .lz _ lo hi=>decide (lo≤j∧j≤hi)&&(List.range n).all fun i=>match aops[i]? with
  | some ai => !ai.hw||(if i<lo then (B.getD j []).contains i else !decide (hi≤i)||(B.getD i []).contains j)
  | none=>true
 | _=>true
def chkD (cx:Cx) (ops:Array Oper) (aops:List AOper) (pok:List Nat):Bool :=
 cx.P.follows .mixedOrders&&decide (aops.length<1000)&&(let B:=befs ops ops.size
 (List.range ops.size).all fun j=>match ops[j]?,aops[j]? with
  | some o,some ao=>lzOk1 B aops ops.size j ao.op && !ao.op.isRcv&&o.after.all (fun e => !Region.binds .any e||decide (e.on<j))&&ao.refsE.all (fun i=>decide (i<j)&&(B.getD j []).contains i) &&
    (List.range j).all (fun i=>(B.getD j []).contains i||(match aops[i]? with | some ai=>indep ai ao | none=>false)) &&
    (!pok.contains j||(List.range ops.size).all fun i=>if i<j then (B.getD j []).contains i||(match aops[i]? with | some ai => !ai.hw && !ai.dw | none=>false) else i == j||(if liveIn pok j i then (match aops[i]? with | some ai => !ai.hw && !ai.dw | none=>false) else (B.getD i []).contains j))
  | _,_=>false)
structure DOk (ops:Array Oper) (aops:List AOper) (pok:List Nat) (j:Nat) (o:Oper) (ao:AOper):Prop where
 lz:∀ l lo hi,ao.op = .lz l lo hi→(lo≤j∧j≤hi)∧∀ i ai,i<ops.size→aops[i]?=some ai→ai.hw=true→(i<lo→i∈(befs ops ops.size).getD j [])∧(lo≤i→hi≤i→j∈(befs ops ops.size).getD i [])
 nr:ao.op ≠ .rcv
 low:∀ e∈o.after,Region.binds .any e=true→e.on<j
 env:∀ i∈ao.refsE,i<j∧i∈(befs ops ops.size).getD j []
 free:∀ i ai,i<j→aops[i]?=some ai→i∈(befs ops ops.size).getD j []∨indep ai ao=true
 pan:j∈pok→∀ i ai,aops[i]?=some ai→i<ops.size→(i<j→i∈(befs ops ops.size).getD j []∨(ai.hw=false∧ai.dw=false))∧(j<i→(liveIn pok j i=true∧ai.hw=false∧ai.dw=false)∨(liveIn pok j i=false∧j∈(befs ops ops.size).getD i []))
section
variable {cx:Cx} {ops:Array Oper} {aops:List AOper} {pok:List Nat}
theorem chkD_spec (h:chkD cx ops aops pok=true) {j:Nat} {o:Oper} {ao:AOper} (hj:ops[j]?=some o) (haj:aops[j]?=some ao):DOk ops aops pok j o ao:=by
 simp only [chkD,Bool.and_eq_true,List.all_eq_true,List.mem_range] at h
 have:=h.2 j (Array.getElem?_eq_some_iff.1 hj).1
 simp only [hj,haj,Bool.and_eq_true,Bool.not_eq_true',List.all_eq_true,List.mem_range,decide_eq_true_eq,Bool.or_eq_true,Array.all_eq_true_iff_forall_mem,List.contains_iff_mem] at this
 obtain ⟨⟨⟨⟨⟨h0,h1⟩,h2⟩,h3⟩,h4⟩,h5⟩:=this
 refine ⟨fun l lo hi hop => ?_,fun e=>by simp [e,AOp.isRcv] at h1,fun e he hb => ?_,fun i hi=>h3 i hi,fun i ai hi hai => ?_,fun hp i ai hai hin=>⟨fun hlt => ?_,fun hlt => ?_⟩⟩
 ·rw [hop] at h0
  simp only [lzOk1,Bool.and_eq_true,decide_eq_true_eq,List.all_eq_true,List.mem_range] at h0
  refine ⟨h0.1,fun i ai hi1 hai hw => ?_⟩
  have:=h0.2 i hi1
  simp only [hai,hw,Bool.not_true,Bool.false_or] at this
  refine ⟨fun hlt => ?_,fun hlo hhi => ?_⟩
  ·rw [if_pos hlt] at this
   simpa using this
  ·rw [if_neg (by omega)] at this
   simp only [hhi,decide_true,Bool.not_true,Bool.false_or] at this
   simpa using this
 ·rcases h2 e he with h | h
  ·rw [hb] at h; cases h
  ·exact h
 ·rcases h4 i hi with h | h
  ·exact .inl h
  ·rw [hai] at h; exact .inr h
 ·rcases h5 with h | h
  ·simp only [List.contains_eq_mem,decide_eq_false_iff_not] at h
   exact absurd hp h
  ·have:=h i hin
   rw [if_pos hlt,hai] at this
   simpa using this
 ·rcases h5 with h | h
  ·simp only [List.contains_eq_mem,decide_eq_false_iff_not] at h
   exact absurd hp h
  ·have:=h i hin
   rw [if_neg (by omega)] at this
   simp only [Bool.or_eq_true,beq_iff_eq] at this
   rcases this with h | h
   ·omega
   ·cases hl:liveIn pok j i with
    | true =>
     rw [hl,if_pos rfl,hai] at h
     simp only [Bool.and_eq_true,Bool.not_eq_true'] at h
     exact .inl ⟨rfl,h.1,h.2⟩
    | false =>
     rw [hl,if_neg (by simp)] at h
     exact .inr ⟨rfl,by simpa using h⟩
theorem indep_spec {a b:AOper} (h:indep a b=true):(∀ s,a.writes=some s→s ∉ b.refsS∧b.writes≠some s)∧(∀ s,b.writes=some s→s ∉ a.refsS)∧¬ (a.hw=true∧b.op.heapy=true)∧¬ (b.hw=true∧a.op.heapy=true)∧¬ (a.dw=true∧b.dw=true):=by
 simp only [indep,Bool.and_eq_true,Bool.not_eq_true',Bool.and_eq_false_iff] at h
 obtain ⟨⟨⟨⟨h1,h2⟩,h3⟩,h4⟩,h5⟩:=h
 refine ⟨fun s hs => ?_,fun s hs => ?_,?_,?_,?_⟩
 ·rw [hs] at h1
  simp only [Bool.and_eq_true,Bool.not_eq_true',bne_iff_ne,ne_eq] at h1
  exact ⟨by simpa using h1.1,h1.2⟩
 ·rw [hs] at h2
  simpa using h2
 ·rintro ⟨x,y⟩; rcases h3 with h | h <;> simp_all
 ·rintro ⟨x,y⟩; rcases h4 with h | h <;> simp_all
 ·rintro ⟨x,y⟩; rcases h5 with h | h <;> simp_all
theorem hw_heapy {a:AOper} (h:a.hw=true):a.op.heapy=true:=by
 unfold AOper.hw at h
 split at h
 ·rename_i heq; simp [heq,AOp.heapy]
 ·cases h
theorem eff_writes {rec:Rec} {gl:Nat→List V} {env:List V} {c:Cfg} {o:Oper} {ao:AOper} {e:Eff} (hchk:chkA cx ops aops o ao=true) (hnr:ao.op ≠ .rcv) (he:EffOp rec gl ao env c e) :
  (∀ s v,e.wr=some (s,v)→ao.writes=some s)∧(ao.hw=false→e.hp=none)∧(ao.dw=false→e.df=none):=by
 have hchk':=hchk
 simp only [chkA,Bool.and_eq_true] at hchk'
 have h2:=hchk'.2
 cases he with
 | skip hw =>
  refine ⟨fun s v h => ?_,fun _=>rfl,fun _=>rfl⟩
  cases hd:ao.dst with
  | no=>simp [hd,slotOf] at h
  | loc=>simp [hd,slotOf] at h
  | slot s' =>
   simp only [hd,slotOf,Option.map_some,Option.some.injEq,Prod.mk.injEq] at h
   obtain ⟨rfl,_⟩:=h
   unfold AOper.writes
   split
   ·rename_i heq
    rw [heq] at h2
    simp [hd] at h2
   ·simp [hd,slotOf]
 | go v wr df hp hw hs =>
  have hput:∀ (v':V) {v wr df hp},putSlot ao.dst v' = .ok v wr df none hp→(∀ s u,wr=some (s,u)→slotOf ao.dst=some s)∧hp=none∧df=none:=by
   intro v' v wr df hp h
   unfold putSlot at h
   split at h
   ·rename_i s hd
    cases h
    refine ⟨fun s u h => ?_,rfl,rfl⟩
    cases h
    simp [hd,slotOf]
   ·cases h
    exact ⟨fun s u h=>(by cases h),rfl,rfl⟩
  cases hop:ao.op <;> simp only [stepOp,hop] at hs <;> simp only [AOper.writes,AOper.hw,AOper.dw,hop]
  case rcv=>exact absurd hop hnr
  case no=>cases hs
  case lz =>
   simp only [Option.map_eq_some_iff] at hs
   obtain ⟨_,_,hs⟩:=hs
   obtain ⟨a1,a2,a3⟩:=hput _ hs
   exact ⟨a1,fun _=>a2,fun _=>a3⟩
  case p =>
   simp only [Option.map_eq_some_iff] at hs
   obtain ⟨_,_,hs⟩:=hs
   obtain ⟨a1,a2,a3⟩:=hput _ hs
   exact ⟨a1,fun _=>a2,fun _=>a3⟩
  case pc =>
   simp only [Option.map_eq_some_iff] at hs
   obtain ⟨r,_,hs⟩:=hs
   cases r with
   | val v =>
    obtain ⟨a1,a2,a3⟩:=hput _ hs
    exact ⟨a1,fun _=>a2,fun _=>a3⟩
   | pan v=>cases hs
  case l =>
   simp only [Option.map_eq_some_iff] at hs
   obtain ⟨r,_,hs⟩:=hs
   cases r with
   | val v =>
    obtain ⟨a1,a2,a3⟩:=hput _ hs
    exact ⟨a1,fun _=>a2,fun _=>a3⟩
   | pan v=>cases hs
  case e =>
   simp only [Option.map_eq_some_iff] at hs
   obtain ⟨r,_,hs⟩:=hs
   cases r with
   | val v =>
    simp only [ofERef] at hs
    split at hs
    ·rename_i s hd
     cases hs
     exact ⟨fun s u h=>(by cases h; simp [hd,slotOf]),fun h=>(by cases h),fun _=>rfl⟩
    ·cases hs
     exact ⟨fun s u h=>(by cases h),fun h=>(by cases h),fun _=>rfl⟩
   | pan v=>cases hs
  case np =>
   split at hs
   ·rename_i s hd
    split at hs
    ·cases hs
     exact ⟨fun s u h=>(by cases h; simp [hd,slotOf]),fun _=>rfl,fun _=>rfl⟩
    ·cases hs
   ·cases hs
  case pa =>
   split at hs
   ·split at hs
    ·split at hs
     ·cases hs; exact ⟨fun s u h=>(by cases h),fun _=>rfl,fun _=>rfl⟩
     ·split at hs
      ·split at hs
       ·cases hs; exact ⟨fun s u h=>(by cases h),fun _=>rfl,fun _=>rfl⟩
       ·cases hs
      ·cases hs
    ·cases hs
   ·cases hs
  case pl =>
   split at hs
   ·split at hs
    ·split at hs
     ·simp only [Option.map_eq_some_iff] at hs
      obtain ⟨_,_,hs⟩:=hs
      obtain ⟨a1,a2,a3⟩:=hput _ hs
      exact ⟨a1,fun _=>a2,fun _=>a3⟩
     ·cases hs
    ·cases hs
   ·cases hs
  case pu =>
   split at hs
   ·split at hs
    ·split at hs
     ·cases hs
      exact ⟨fun s u h=>(by cases h; rfl),fun _=>rfl,fun _=>rfl⟩
     ·cases hs
    ·cases hs
   ·cases hs
  case pan =>
   split at hs <;> cases hs
  case dfr =>
   split at hs
   ·cases hs
    exact ⟨fun s u h=>(by cases h),fun _=>rfl,fun h=>by cases h⟩
   ·cases hs
end
section
variable {cx:Cx} {ops:Array Oper} {aops:List AOper} {pok:List Nat} {rec:Rec} {c0:Cfg} {ro:ROut} {D:Nat→Prop} {tenv:List V} {cs:Nat→Cfg}
abbrev On (l:Array Bool) (i:Nat):Prop:=l.getD i false=true
def Upto (aops:List AOper) (l:Array Bool) (W:AOper→Prop) (m:Nat):Prop:=∀ i ai,aops[i]?=some ai→W ai→(On l i↔i<m)
structure DInv (ops:Array Oper) (aops:List AOper) (D:Nat→Prop) (tenv:List V) (cs:Nat→Cfg) (l:Array Bool) (env:List V) (c:Cfg):Prop where
 lsz:l.size=ops.size
 elen:env.length=ops.size
 on:∀ i,On l i→env[i]?=tenv[i]?
 off:∀ i u,¬ On l i→env[i]?=some u→u = .undef
 closed:∀ i o,On l i→ops[i]?=some o→∀ e∈o.after,Region.binds .any e=true→On l e.on
 inL:∀ i,On l i→¬ D i
 slots:∀ s,∃ m,m≤aops.length∧Upto aops l (fun ai=>ai.writes=some s) m∧c.slots[s]?=(cs m).slots[s]?
 heap:∃ m,m≤aops.length∧Upto aops l (fun ai=>ai.hw=true) m∧c.h=(cs m).h
 dfs:∃ m,m≤aops.length∧Upto aops l (fun ai=>ai.dw=true) m∧c.dfs=(cs m).dfs
 pn:c.pn=none
theorem tr_stays {α:Type} (F:Cfg→α) (W:AOper→Prop) (hW:∀ i ai e,i<aops.length→aops[i]?=some ai→EffOp rec cx.gl ai (tenv.take i) (cs i) e→¬ W ai→F (e.on (cs i))=F (cs i))
  (tr:TrX rec cx.gl aops pok c0 ro D tenv cs):∀ (d p:Nat),p+d≤aops.length→(∀ i ai,p≤i→i<p+d→aops[i]?=some ai→¬ D i→¬ W ai)→F (cs (p+d))=F (cs p)
 | 0,p,_,_=>rfl
 | d+1,p,hL,hn=>by
  have ih:=tr_stays F W hW tr d p (by omega) (fun i ai h1 h2 h3=>hn i ai h1 (by omega) h3)
  by_cases hd:D (p+d)
  ·rw [show p+(d+1)=p+d+1 by omega,tr.dead (p+d) (by omega) hd,ih]
  ·obtain ⟨ai,e,h1,_,h3,_,h5⟩:=tr.ok (p+d) (by omega) hd
   have:=hW (p+d) ai e (by omega) h1 h3 (hn (p+d) ai (by omega) (by omega) h1 hd)
   rw [show p+(d+1)=p+d+1 by omega,h5,this,ih]
theorem tr_same {α:Type} (F:Cfg→α) (W:AOper→Prop) (hW:∀ i ai e,i<aops.length→aops[i]?=some ai→EffOp rec cx.gl ai (tenv.take i) (cs i) e→¬ W ai→F (e.on (cs i))=F (cs i))
  (tr:TrX rec cx.gl aops pok c0 ro D tenv cs) {p q:Nat} (hp:p≤aops.length) (hq:q≤aops.length) (hn:∀ i ai,((p≤i∧i<q)∨(q≤i∧i<p))→aops[i]?=some ai→¬ D i→¬ W ai):F (cs p)=F (cs q):=by
 rcases Nat.le_total p q with h | h
 ·have:=tr_stays F W hW tr (q - p) p (by omega) (fun i ai h1 h2 h3=>hn i ai (.inl ⟨h1,by omega⟩) h3)
  rw [show p+(q - p)=q by omega] at this
  exact this.symm
 ·have:=tr_stays F W hW tr (p - q) q (by omega) (fun i ai h1 h2 h3=>hn i ai (.inr ⟨h1,by omega⟩) h3)
  rwa [show q+(p - q)=p by omega] at this
theorem set_self (l:List V) (s:Nat) (v:V):(l.set s v)[s]?=l[s]?.map fun _=>v:=by
 by_cases h:s<l.length
 ·rw [List.getElem?_set_self h,List.getElem?_eq_getElem h]; rfl
 ·rw [List.getElem?_eq_none (by simp; omega),List.getElem?_eq_none (by omega)]; rfl
theorem on_slots {e:Eff} {c:Cfg} {s:Nat} (h:∀ v,e.wr≠some (s,v)):(e.on c).slots[s]?=c.slots[s]?:=by
 simp only [Eff.on]
 cases hw:e.wr with
 | none=>rfl
 | some p =>
  obtain ⟨s',v⟩:=p
  simp only [Am.setSlot]
  rw [List.getElem?_set_ne]
  intro he
  subst he
  exact h v hw
section
variable (hreg:chkR cx ops aops=true) (hd:chkD cx ops aops pok=true) (tr:TrX rec cx.gl aops pok c0 ro D tenv cs)
include hreg
theorem tr_op {i:Nat} {ai:AOper} (hai:aops[i]?=some ai):∃ o,ops[i]?=some o∧chkA cx ops aops o ai=true:=by
 obtain ⟨o,ho⟩:=chkR_op hreg hai
 obtain ⟨ao',h1,h2,_⟩:=chkR_spec hreg ho
 rw [hai] at h1; cases h1
 exact ⟨o,ho,h2⟩
include hd
theorem keepS (s:Nat):∀ i ai e,i<aops.length→aops[i]?=some ai→EffOp rec cx.gl ai (tenv.take i) (cs i) e→¬ (ai.writes=some s)→(fun c:Cfg=>c.slots[s]?) (e.on (cs i))=(fun c:Cfg=>c.slots[s]?) (cs i):=by
 intro i ai e _ hai he hw
 obtain ⟨o,ho,hchk⟩:=tr_op hreg hai
 obtain ⟨h1,_,_⟩:=eff_writes hchk (chkD_spec hd ho hai).nr he
 exact on_slots (fun v hv=>hw (h1 s v hv))
theorem keepH:∀ i ai e,i<aops.length→aops[i]?=some ai→EffOp rec cx.gl ai (tenv.take i) (cs i) e→¬ (ai.hw=true)→(fun c:Cfg=>c.h) (e.on (cs i))=(fun c:Cfg=>c.h) (cs i):=by
 intro i ai e _ hai he hw
 obtain ⟨o,ho,hchk⟩:=tr_op hreg hai
 obtain ⟨_,h1,_⟩:=eff_writes hchk (chkD_spec hd ho hai).nr he
 simp [Eff.on,h1 (by simpa using hw)]
theorem keepD:∀ i ai e,i<aops.length→aops[i]?=some ai→EffOp rec cx.gl ai (tenv.take i) (cs i) e→¬ (ai.dw=true)→(fun c:Cfg=>c.dfs) (e.on (cs i))=(fun c:Cfg=>c.dfs) (cs i):=by
 intro i ai e _ hai he hw
 obtain ⟨o,ho,hchk⟩:=tr_op hreg hai
 obtain ⟨_,_,h1⟩:=eff_writes hchk (chkD_spec hd ho hai).nr he
 simp [Eff.on,h1 (by simpa using hw),pushD]
omit hreg hd in
theorem ahead {l:Array Bool} {env:List V} {c:Cfg} (inv:DInv ops aops D tenv cs l env c) {j:Nat} {o:Oper} (hj:ops[j]?=some o) (hrd:∀ e∈o.after,Region.binds .any e=true→On l e.on) {i:Nat} (hi:i∈(befs ops ops.size).getD j []) (hne:i≠j):On l i:=by
 have:=befs_closed (ops:=ops) (S:=fun k=>On l k∨k=j) (fun k ok hk hok e he hb=>by
  rcases hk with hk | rfl
  ·exact .inl (inv.closed k ok hk hok e he hb)
  ·rw [hj] at hok; cases hok
   exact .inl (hrd e he hb)) ops.size j i hi (.inr rfl)
 rcases this with h | h
 ·exact h
 ·exact absurd h hne
omit hreg hd in
theorem behind {l:Array Bool} {env:List V} {c:Cfg} (inv:DInv ops aops D tenv cs l env c) {i j:Nat} (hi:j∈(befs ops ops.size).getD i []) (hl:On l i):On l j :=
 befs_closed (ops:=ops) (S:=fun k=>On l k) (fun k ok hk hok e he hb=>inv.closed k ok hk hok e he hb) ops.size i j hi hl
omit hreg hd in
theorem Upto.at_ready {l:Array Bool} {env:List V} {c:Cfg} (inv:DInv ops aops D tenv cs l env c) {j:Nat} {o:Oper} (hj:ops[j]?=some o) (hnl:¬ On l j) (hrd:∀ e∈o.after,Region.binds .any e=true→On l e.on) {W:AOper→Prop}
  (h1:∀ i ai,i<j→aops[i]?=some ai→W ai→i∈(befs ops ops.size).getD j []) (h2:∀ i ai,j<i→aops[i]?=some ai→W ai→j∈(befs ops ops.size).getD i []):Upto aops l W j:=by
 intro i ai hai hW
 constructor
 ·intro hon
  rcases Nat.lt_trichotomy i j with h | h | h
  ·exact h
  ·subst h; exact absurd hon hnl
  ·exact absurd (behind inv (h2 i ai h hai hW) hon) hnl
 ·intro hlt
  exact ahead inv hj hrd (h1 i ai hlt hai hW) (by omega)
omit hreg hd in
theorem Upto.between {l:Array Bool} {W:AOper→Prop} {m m':Nat} (h:Upto aops l W m) (h':Upto aops l W m'):∀ i ai,((m≤i∧i<m')∨(m'≤i∧i<m))→aops[i]?=some ai→¬ W ai:=by
 intro i ai hi hai hW
 have a:=(h i ai hai hW).symm.trans (h' i ai hai hW)
 omega
theorem agreeS {l:Array Bool} {env:List V} {c:Cfg} (inv:DInv ops aops D tenv cs l env c) {s j:Nat} (hjL:j≤aops.length) (hu:Upto aops l (fun ai=>ai.writes=some s) j) (tr:TrX rec cx.gl aops pok c0 ro D tenv cs):c.slots[s]?=(cs j).slots[s]?:=by
 obtain ⟨m,hm,hum,he⟩:=inv.slots s
 rw [he]
 exact tr_same (fun c:Cfg=>c.slots[s]?) _ (keepS hreg hd s) tr hm hjL (fun i ai h1 h2 _=>hum.between hu i ai h1 h2)
theorem agreeH {l:Array Bool} {env:List V} {c:Cfg} (inv:DInv ops aops D tenv cs l env c) {j:Nat} (hjL:j≤aops.length) (hu:Upto aops l (fun ai=>ai.hw=true) j) (tr:TrX rec cx.gl aops pok c0 ro D tenv cs):c.h=(cs j).h:=by
 obtain ⟨m,hm,hum,he⟩:=inv.heap
 rw [he]
 exact tr_same (fun c:Cfg=>c.h) _ (keepH hreg hd) tr hm hjL (fun i ai h1 h2 _=>hum.between hu i ai h1 h2)
theorem agreeD {l:Array Bool} {env:List V} {c:Cfg} (inv:DInv ops aops D tenv cs l env c) {j:Nat} (hjL:j≤aops.length) (hu:Upto aops l (fun ai=>ai.dw=true) j) (tr:TrX rec cx.gl aops pok c0 ro D tenv cs):c.dfs=(cs j).dfs:=by
 obtain ⟨m,hm,hum,he⟩:=inv.dfs
 rw [he]
 exact tr_same (fun c:Cfg=>c.dfs) _ (keepD hreg hd) tr hm hjL (fun i ai h1 h2 _=>hum.between hu i ai h1 h2)
theorem ordered {i j:Nat} {ai aj:AOper} (hij:i<j) (hai:aops[i]?=some ai) (haj:aops[j]?=some aj) (h:indep ai aj=false):i∈(befs ops ops.size).getD j []:=by
 obtain ⟨o,ho,_⟩:=tr_op hreg haj
 rcases (chkD_spec hd ho haj).free i ai hij hai with h' | h'
 ·exact h'
 ·rw [h] at h'; cases h'
theorem upS {l:Array Bool} {env:List V} {c:Cfg} (inv:DInv ops aops D tenv cs l env c) {j:Nat} {o:Oper} {aj:AOper} (hj:ops[j]?=some o) (haj:aops[j]?=some aj) (hnl:¬ On l j) (hrd:∀ e∈o.after,Region.binds .any e=true→On l e.on)
  {s:Nat} (hs:s∈aj.refsS∨aj.writes=some s):Upto aops l (fun ai=>ai.writes=some s) j:=by
 refine Upto.at_ready inv hj hnl hrd (fun i ai hlt hai hW=>ordered hreg hd hlt hai haj ?_) (fun i ai hlt hai hW=>ordered hreg hd hlt haj hai ?_)
 ·cases hi:indep ai aj with
  | false=>rfl
  | true =>
   obtain ⟨a1,_⟩:=indep_spec hi
   rcases hs with h | h
   ·exact absurd h (a1 s hW).1
   ·exact absurd h (a1 s hW).2
 ·cases hi:indep aj ai with
  | false=>rfl
  | true =>
   obtain ⟨a1,a2,_⟩:=indep_spec hi
   rcases hs with h | h
   ·exact absurd h (a2 s hW)
   ·exact absurd hW (a1 s h).2
theorem upH {l:Array Bool} {env:List V} {c:Cfg} (inv:DInv ops aops D tenv cs l env c) {j:Nat} {o:Oper} {aj:AOper} (hj:ops[j]?=some o) (haj:aops[j]?=some aj) (hnl:¬ On l j) (hrd:∀ e∈o.after,Region.binds .any e=true→On l e.on)
  (hh:aj.op.heapy=true):Upto aops l (fun ai=>ai.hw=true) j:=by
 refine Upto.at_ready inv hj hnl hrd (fun i ai hlt hai hW=>ordered hreg hd hlt hai haj ?_) (fun i ai hlt hai hW=>ordered hreg hd hlt haj hai ?_)
 ·cases hi:indep ai aj with
  | false=>rfl
  | true=>exact absurd ⟨hW,hh⟩ (indep_spec hi).2.2.1
 ·cases hi:indep aj ai with
  | false=>rfl
  | true=>exact absurd ⟨hW,hh⟩ (indep_spec hi).2.2.2.1
theorem upD {l:Array Bool} {env:List V} {c:Cfg} (inv:DInv ops aops D tenv cs l env c) {j:Nat} {o:Oper} {aj:AOper} (hj:ops[j]?=some o) (haj:aops[j]?=some aj) (hnl:¬ On l j) (hrd:∀ e∈o.after,Region.binds .any e=true→On l e.on)
  (hh:aj.dw=true):Upto aops l (fun ai=>ai.dw=true) j:=by
 refine Upto.at_ready inv hj hnl hrd (fun i ai hlt hai hW=>ordered hreg hd hlt hai haj ?_) (fun i ai hlt hai hW=>ordered hreg hd hlt haj hai ?_)
 ·cases hi:indep ai aj with
  | false=>rfl
  | true=>exact absurd ⟨hW,hh⟩ (indep_spec hi).2.2.2.2
 ·cases hi:indep aj ai with
  | false=>rfl
  | true=>exact absurd ⟨hh,hW⟩ (indep_spec hi).2.2.2.2
omit hreg hd in
theorem on_set {l:Array Bool} {j i:Nat} (hj:j<l.size):On (l.setIfInBounds j true) i↔On l i∨i=j:=by
 unfold On
 by_cases h:j=i
 ·subst h
  simp [hj]
 ·simp [Array.getElem?_setIfInBounds_ne h,Ne.symm h]
theorem DInv.next {l:Array Bool} {env:List V} {c:Cfg} (inv:DInv ops aops D tenv cs l env c) {j:Nat} {o:Oper} {aj:AOper} (hj:ops[j]?=some o) (haj:aops[j]?=some aj) (hnl:¬ On l j) (hrd:∀ e∈o.after,Region.binds .any e=true→On l e.on)
  (hjL:j<aops.length) (hjD:¬ D j) {e:Eff} (he:EffOp rec cx.gl aj (tenv.take j) (cs j) e) (hev:tenv[j]?=some e.v) (hcs:cs (j+1)=e.on (cs j)) (tr:TrX rec cx.gl aops pok c0 ro D tenv cs) :
  DInv ops aops D tenv cs (l.setIfInBounds j true) (env.set j e.v) (e.on c):=by
 have hjn:j<ops.size:=(Array.getElem?_eq_some_iff.1 hj).1
 have hset:∀ i,On (l.setIfInBounds j true) i↔On l i∨i=j:=fun i=>on_set (by rw [inv.lsz]; exact hjn)
 obtain ⟨o',ho',hchk⟩:=tr_op hreg haj
 obtain ⟨w1,w2,w3⟩:=eff_writes hchk (chkD_spec hd ho' haj).nr he
 have up:∀ {W:AOper→Prop} {m:Nat},Upto aops l W m→¬ W aj→Upto aops (l.setIfInBounds j true) W m:=by
  intro W m h hn i ai hai hW
  rw [hset]
  have hne:i≠j:=fun e=>by subst e; rw [haj] at hai; cases hai; exact hn hW
  have:=h i ai hai hW
  constructor
  ·rintro (h' | h')
   ·exact this.1 h'
   ·exact absurd h' hne
  ·exact fun h' => .inl (this.2 h')
 have up1:∀ {W:AOper→Prop},Upto aops l W j→Upto aops (l.setIfInBounds j true) W (j+1):=by
  intro W h i ai hai hW
  rw [hset]
  have:=h i ai hai hW
  constructor
  ·rintro (h' | h')
   ·have:=this.1 h'; omega
   ·omega
  ·intro h'
   rcases Nat.lt_or_ge i j with h2 | h2
   ·exact .inl (this.2 h2)
   ·exact .inr (by omega)
 refine ⟨by simp [inv.lsz],by simp [inv.elen],?_,?_,?_,?_,?_,?_,?_,inv.pn⟩
 ·intro i hi
  by_cases h:i=j
  ·subst h
   rw [List.getElem?_set_self (by rw [inv.elen]; exact hjn),hev]
  ·rw [List.getElem?_set_ne (fun e=>h e.symm)]
   rcases (hset i).1 hi with h' | h'
   ·exact inv.on i h'
   ·exact absurd h' h
 ·intro i u hi hu
  have hne:i≠j:=fun e=>hi ((hset i).2 (.inr e))
  rw [List.getElem?_set_ne (fun e=>hne e.symm)] at hu
  exact inv.off i u (fun h=>hi ((hset i).2 (.inl h))) hu
 ·intro i oi hi hoi ed hed hb
  rw [hset]
  rcases (hset i).1 hi with h' | rfl
  ·exact .inl (inv.closed i oi h' hoi ed hed hb)
  ·rw [hj] at hoi; cases hoi
   exact .inl (hrd ed hed hb)
 ·intro i hi
  rcases (hset i).1 hi with h' | rfl
  ·exact inv.inL i h'
  ·exact hjD
 ·intro s
  by_cases hw:aj.writes=some s
  ·have hu:=upS hreg hd inv hj haj hnl hrd (.inr hw)
   have hag:=agreeS hreg hd inv (by omega) hu tr
   refine ⟨j+1,by omega,up1 hu,?_⟩
   rw [hcs]
   by_cases hx:∃ v,e.wr=some (s,v)
   ·obtain ⟨v,hv⟩:=hx
    simp only [Eff.on,hv,Am.setSlot,set_self,hag]
   ·rw [on_slots (fun v hv=>hx ⟨v,hv⟩),on_slots (fun v hv=>hx ⟨v,hv⟩),hag]
  ·obtain ⟨m,h1,h2,h3⟩:=inv.slots s
   exact ⟨m,h1,up h2 hw,by rw [on_slots (fun v hv=>hw (w1 s v hv)),h3]⟩
 ·by_cases hw:aj.hw=true
  ·have hu:=upH hreg hd inv hj haj hnl hrd (hw_heapy hw)
   have hag:=agreeH hreg hd inv (by omega) hu tr
   refine ⟨j+1,by omega,up1 hu,?_⟩
   rw [hcs]
   simp only [Eff.on,hag]
  ·obtain ⟨m,h1,h2,h3⟩:=inv.heap
   exact ⟨m,h1,up h2 hw,by simp only [Eff.on,w2 (by simpa using hw),Option.getD_none,h3]⟩
 ·by_cases hw:aj.dw=true
  ·have hu:=upD hreg hd inv hj haj hnl hrd hw
   have hag:=agreeD hreg hd inv (by omega) hu tr
   refine ⟨j+1,by omega,up1 hu,?_⟩
   rw [hcs]
   simp only [Eff.on,hag]
  ·obtain ⟨m,h1,h2,h3⟩:=inv.dfs
   exact ⟨m,h1,up h2 hw,by simp only [Eff.on,w3 (by simpa using hw),pushD,h3]⟩
theorem sees {l:Array Bool} {env:List V} {c:Cfg} (inv:DInv ops aops D tenv cs l env c) {j:Nat} {o:Oper} {aj:AOper} (hj:ops[j]?=some o) (haj:aops[j]?=some aj) (hnl:¬ On l j) (hrd:∀ e∈o.after,Region.binds .any e=true→On l e.on)
  (hjD:¬ D j∨∃ v c,ro = .pan j v c) (tr:TrX rec cx.gl aops pok c0 ro D tenv cs) (hpk:∀ q v c,ro = .pan q v c→q∈pok):wanted env aj.guard=wanted (tenv.take j) aj.guard ∧
   (wanted (tenv.take j) aj.guard=some true→stepOp rec cx.gl aj env c.slots c.pn c.h=stepOp rec cx.gl aj (tenv.take j) (cs j).slots (cs j).pn (cs j).h):=by
 have dok:=chkD_spec hd hj haj
 have hjL:j≤aops.length:=Nat.le_of_lt (List.getElem?_eq_some_iff.1 haj).1
 have he:∀ i∈aj.refsE,env[i]?=(tenv.take j)[i]?:=by
  intro i hi
  obtain ⟨h1,h2⟩:=dok.env i hi
  rw [inv.on i (ahead inv hj hrd h2 (by omega)),List.getElem?_take_of_lt h1]
 refine ⟨wanted_congr he,fun hw=>step_congr dok.nr he (fun s hs => ?_) (fun hh => ?_) (fun lq lo hi hop => ?_)⟩
 ·exact agreeS hreg hd inv hjL (upS hreg hd inv hj haj hnl hrd (.inl hs)) tr
 ·exact agreeH hreg hd inv hjL (upH hreg hd inv hj haj hnl hrd hh) tr
 ·obtain ⟨m,hm,hum,he⟩:=inv.heap
  rw [he]
  obtain ⟨hloj,hb⟩:=dok.lz lq lo hi hop
  have hsz:∀ {i ai},aops[i]?=some ai→i<ops.size:=fun {i ai} hai=>by
   obtain ⟨o',ho',_⟩:=tr_op hreg hai
   exact (Array.getElem?_eq_some_iff.1 ho').1
  -- the loads that come to the same, in every state between
  have hlz:∀ m,m≤aops.length→lo≤m→m≤hi→lzV (cs m).h (ev cx.gl (tenv.take j) (cs j).slots) lq=lzV (cs j).h (ev cx.gl (tenv.take j) (cs j).slots) lq:=by
   intro m hm h1 h2
   rcases tr.fin with ⟨_,_,hlz⟩ | ⟨p,ao,v,hp,hap,_,_,_,hro,hDp,hlz,hlzt⟩
   ·exact hlz j aj lq lo hi hjL haj hop hw m hm h1 h2
   ·have hpp:=hpk p v _ hro
    obtain ⟨op,hop',_⟩:=tr_op hreg hap
    have dp:=chkD_spec hd hop' hap
    have hpN:p≤aops.length:=by have:=(List.getElem?_eq_some_iff.1 hap).1; omega
    have flat:∀ q,q≤aops.length→p≤q→(cs q).h=(cs p).h:=fun q hq hpq =>
     tr_same (fun c:Cfg=>c.h) (fun ai=>ai.hw=true) (keepH hreg hd) tr hq hpN (fun i ai hi' hai hnd hW=>by
      have hlt:p≤i∧i<q:=by omega
      have hne:i≠p:=fun e=>hnd ((hDp i).2 (.inl e))
      rcases (dp.pan hpp i ai hai (hsz hai)).2 (by omega) with ⟨_,h,_⟩ | ⟨h,_⟩
      ·rw [h] at hW; cases hW
      ·exact hnd ((hDp i).2 (.inr ⟨by omega,h⟩)))
    rcases Nat.lt_or_ge p j with hlt | hjp
    ·rcases (dp.pan hpp j aj haj (hsz haj)).2 hlt with ⟨hlv,_,_⟩ | ⟨h,_⟩
     ·rcases Nat.le_total m p with hmp | hpm
      ·exact hlzt j aj lq lo hi hlt hlv haj hop hw m hmp h1 h2
      ·rw [flat m hm hpm,flat j hjL (by omega)]
     ·exfalso
      rcases hjD with h' | ⟨v',c',h'⟩
      ·exact h' ((hDp j).2 (.inr ⟨hlt,h⟩))
      ·rw [hro] at h'
       cases h'
       omega
    ·rcases Nat.le_total m p with hmp | hpm
     ·exact hlz j aj lq lo hi hjp haj hop hw m hmp h1 h2
     ·rw [flat m hm hpm]
      exact hlz j aj lq lo hi hjp haj hop hw p (Nat.le_refl _) (by omega) (by omega)
  by_cases h1:m<lo
  ·have hs:=tr_same (fun c:Cfg=>c.h) _ (keepH hreg hd) tr hm (show lo≤aops.length by omega) (fun i ai hi hai _ hW=>by
    have hlt:m≤i∧i<lo:=by omega
    have hon:=ahead inv hj hrd ((hb i ai (hsz hai) hai hW).1 hlt.2) (by omega)
    have:=(hum i ai hai hW).1 hon
    omega)
   rw [show (cs m).h=(cs lo).h from hs]
   exact hlz lo (by omega) (Nat.le_refl _) (by omega)
  ·by_cases h2:hi<m
   ·have hs:=tr_same (fun c:Cfg=>c.h) _ (keepH hreg hd) tr hm (show hi≤aops.length by omega) (fun i ai hi' hai _ hW=>by
     have hlt:hi≤i∧i<m:=by omega
     have hon:=(hum i ai hai hW).2 hlt.2
     exact hnl (behind inv ((hb i ai (hsz hai) hai hW).2 (by omega) (by omega)) hon))
    rw [show (cs m).h=(cs hi).h from hs]
    exact hlz hi (by omega) (by omega) (Nat.le_refl _)
   ·exact hlz m hm (by omega) (by omega)
end
end
def Less (sl' sl:List V):Prop:=sl'.length=sl.length∧∀ (s:Nat) (u:V),sl'[s]?=some u→u = .undef∨sl[s]?=some u
theorem SlR.weaken {cx:Cx} {sl sl':List V} {g:G} {h:Heap} {w:World} {tmps:Array Value} (hr:SlR cx sl g h w tmps) (hl:Less sl' sl):SlR cx sl' g h w tmps:=by
 refine ⟨hl.1.trans hr.len,hr.size,fun s t u h1 h2 h3 => ?_,fun s t u h1 h2 h3 h4 => ?_,fun s1 s2 t t' u u' blk h1 h2 h3 h4 h5 h6 h7 h8 h9 h10 => ?_⟩
 ·rcases hl.2 s u h2 with rfl | h
  ·exact .d _ _ (.undef _)
  ·exact hr.val s t u h1 h h3
 ·rcases hl.2 s u h2 with rfl | h
  ·exact absurd rfl h4
  ·exact hr.prm s t u h1 h h3 h4
 ·rcases hl.2 s1 u h3 with rfl | h
  ·exact absurd rfl h7
  ·rcases hl.2 s2 u' h4 with rfl | h'
   ·exact absurd rfl h8
   ·exact hr.one s1 s2 t t' u u' blk h1 h2 h h' h5 h6 h7 h8 h9 h10
theorem CR.weaken {cx:Cx} {c c':Cfg} {g:G} {a:Act} {w:World} (cr:CR cx c g a w) (hs:Less c'.slots c.slots) (hh:c'.h=c.h) (hd:c'.dfs=c.dfs):CR cx c' g a w :=
 ⟨by rw [hh]; exact cr.step,by rw [hh]; exact cr.sr.weaken hs,by rw [hd,hh]; exact cr.df,cr.gl⟩
theorem Less.refl (sl:List V):Less sl sl:=⟨rfl,fun _ _ h => .inr h⟩
theorem forget_spec:∀ (ops:List AOper) (sl:List V),(forget ops sl).length=sl.length∧∀ s u,(forget ops sl)[s]?=some u→u = .undef∨(sl[s]?=some u∧∀ o∈ops,o.writes≠some s)
 | [],sl=>⟨rfl,fun s u h => .inr ⟨h,by simp⟩⟩
 | o :: os,sl=>by
  have key:forget (o :: os) sl=forget os (match o.writes with | some s=>sl.set s .undef | none=>sl):=rfl
  rw [key]
  cases hw:o.writes with
  | none =>
   obtain ⟨h1,h2⟩:=forget_spec os sl
   refine ⟨h1,fun s u h => ?_⟩
   rcases h2 s u h with h | ⟨h3,h4⟩
   ·exact .inl h
   ·refine .inr ⟨h3,fun o' ho' => ?_⟩
    rcases List.mem_cons.1 ho' with rfl | ho'
    ·rw [hw]; simp
    ·exact h4 o' ho'
  | some s0 =>
   obtain ⟨h1,h2⟩:=forget_spec os (sl.set s0 .undef)
   refine ⟨by simpa using h1,fun s u h => ?_⟩
   rcases h2 s u h with h | ⟨h3,h4⟩
   ·exact .inl h
   ·rcases set_get h3 with ⟨rfl,rfl⟩ | ⟨hne,h5⟩
    ·exact .inl rfl
    ·refine .inr ⟨h5,fun o' ho' => ?_⟩
     rcases List.mem_cons.1 ho' with rfl | ho'
     ·rw [hw]; simpa using fun e=>hne e.symm
     ·exact h4 o' ho'
def RowPostD (cx:Cx) (ops:Array Oper) (aops:List AOper) (pok:List Nat) (ro:ROut) (Q:Exit→Act→World→Prop):Prop :=
 match ro with
 | .norm env c=>∀ g a w,CR cx c g a w→ER cx ops aops env g a.tmps→Q .normal a w
 | .pan j v c=>j∈pok∧∀ g a w x,CR cx { c with slots:=forget aops c.slots } g a w→RV g v x→Q (.panic [{ v:=x,recovered:=false }]) a w
section
variable {cx:Cx} {ops:Array Oper} {aops:List AOper} {pok:List Nat} {rec:Rec} {c0:Cfg} {ro:ROut} {D:Nat→Prop} {tenv:List V} {cs:Nat→Cfg}
theorem count_set {l:Array Bool} {j:Nat} (hj:j<l.size) (hf:l.getD j false=false):(l.setIfInBounds j true).toList.count false+1=l.toList.count false:=by
 have hlj:l.toList[j]'(by simpa using hj)=false:=by
  simp [hj] at hf
  simpa using hf
 have:∀ (xs:List Bool) (k:Nat) (hk:k<xs.length),xs[k]=false→(xs.set k true).count false+1=xs.count false:=by
  intro xs
  induction xs with
  | nil=>intro k hk; simp at hk
  | cons x xs ih =>
   intro k hk h
   cases k with
   | zero=>simp at h; subst h; simp
   | succ k =>
    have:=ih k (by simpa using hk) (by simpa using h)
    simp only [List.set_cons_succ,List.count_cons]
    omega
 rw [Array.toList_setIfInBounds]
 exact this _ j (by simpa using hj) hlj
theorem all_on {l:Array Bool} (h:l.toList.count false=0) {i:Nat} (hi:i<l.size):On l i:=by
 have h1:false ∉ l.toList:=List.count_eq_zero.1 h
 have h2:l.getD i false=l[i]:=by simp [hi]
 unfold On
 cases hb:l[i] with
 | true=>rw [h2,hb]
 | false=>exact absurd (by rw [← hb]; exact Array.getElem_mem_toList hi) h1
theorem any_sound (hn:cx.slots.Nodup) (hrec:RecS cx.P cx.gl cx.gs cx.g0.Y rec) {ri:Option Nat} (hdf:ri=none∨∀ ao∈aops,∀ f as,ao.op ≠ .dfr f as) (hreg:chkR cx ops aops=true) (hd:chkD cx ops aops pok=true) (tr:TrX rec cx.gl aops pok c0 ro D tenv cs) {Q:Exit→Act→World→Prop} (hpost:RowPostD cx ops aops pok ro Q) :
  ∀ (fuel:Nat) (l:Array Bool) (env:List V) (c:Cfg) (g:G) (a:Act) (w:World),DInv ops aops D tenv cs l env c→CR cx c g a w→ER cx ops aops env g a.tmps→l.toList.count false≤fuel→wpAnyIn (FW ri) 0 cx.P .any ops Q fuel l a w:=by
 have hsize:ops.size=aops.length:=by
  simp only [chkR,Bool.and_eq_true,beq_iff_eq] at hreg
  exact hreg.1
 -- all listed
 have done:∀ (l:Array Bool) (env:List V) (c:Cfg) (g:G) (a:Act) (w:World),DInv ops aops D tenv cs l env c→CR cx c g a w→ER cx ops aops env g a.tmps→(∀ i,i<ops.size→On l i)→Q .normal a w:=by
  intro l env c g a w inv cr er hall
  rcases tr.fin with ⟨hL,rfl,_⟩ | ⟨p,ao,v,hp,hao,_,_,_,_,hDp,_,_⟩
  ·have upL:∀ {W:AOper→Prop},Upto aops l W aops.length:=by
    intro W i ai hai _
    have:=(List.getElem?_eq_some_iff.1 hai).1
    exact ⟨fun _=>by omega,fun _=>hall i (by omega)⟩
   refine hpost g a w (cr.weaken ?_ (agreeH hreg hd inv (Nat.le_refl _) upL tr).symm (agreeD hreg hd inv (Nat.le_refl _) upL tr).symm) ?_
   ·have he:∀ s,c.slots[s]?=(cs aops.length).slots[s]?:=fun s=>agreeS hreg hd inv (Nat.le_refl _) upL tr
    have:(cs aops.length).slots=c.slots:=List.ext_getElem? (fun i=>(he i).symm)
    rw [this]
    exact Less.refl _
   ·have:tenv=env:=by
     apply List.ext_getElem?
     intro i
     by_cases hi:i<ops.size
     ·exact (inv.on i (hall i hi)).symm
     ·rw [List.getElem?_eq_none (by rw [tr.len]; omega),List.getElem?_eq_none (by rw [inv.elen]; omega)]
    rw [this]
    exact er
  ·have:=(List.getElem?_eq_some_iff.1 hao).1
   exact absurd ((hDp p).2 (.inl rfl)) (inv.inL p (hall p (by omega)))
 -- nothing ready: all listed
 have empty:∀ (l:Array Bool) (env:List V) (c:Cfg),DInv ops aops D tenv cs l env c→Region.ready .any ops l=[]→∀ i,i<ops.size→On l i:=by
  intro l env c inv hrd i
  induction i using Nat.strongRecOn with
  | _ i ih =>
   intro hi
   by_cases hon:On l i
   ·exact hon
   ·exfalso
    obtain ⟨ai,hai⟩:∃ ai,aops[i]?=some ai:=⟨_,List.getElem?_eq_getElem (by omega)⟩
    have hoi:ops[i]?=some ops[i]:=Array.getElem?_eq_getElem hi
    have dok:=chkD_spec hd hoi hai
    have:i∈Region.ready .any ops l:=by
     rw [mem_ready]
     refine ⟨?_,ops[i],hoi,fun e he hb=>ih e.on (dok.low e he hb) (by have:=dok.low e he hb; omega)⟩
     have hlt:i<l.size:=by rw [inv.lsz]; exact hi
     unfold On at hon
     simp [hlt] at hon ⊢
     exact hon
    rw [hrd] at this
    cases this
 intro fuel
 induction fuel with
 | zero =>
  intro l env c g a w inv cr er hcnt
  have hall:∀ i,i<ops.size→On l i:=fun i hi=>all_on (by omega) (by rw [inv.lsz]; exact hi)
  refine ⟨?_,done l env c g a w inv cr er hall⟩
  cases hr:Region.ready .any ops l with
  | nil=>rfl
  | cons i is =>
   exfalso
   have hi:i∈Region.ready .any ops l:=by rw [hr]; exact List.mem_cons_self ..
   rw [mem_ready] at hi
   obtain ⟨h1,o,ho,_⟩:=hi
   have hlt:=(Array.getElem?_eq_some_iff.1 ho).1
   have:=hall i hlt
   have hls:i<l.size:=by rw [inv.lsz]; exact hlt
   unfold On at this
   simp [hls] at this h1
   rw [h1] at this
   cases this
 | succ fuel ih =>
  intro l env c g a w inv cr er hcnt
  refine ⟨fun hr=>done l env c g a w inv cr er (empty l env c inv hr),fun j hjr => ?_⟩
  rw [mem_ready] at hjr
  obtain ⟨hjf,o,hj,hrd⟩:=hjr
  have hjn:=(Array.getElem?_eq_some_iff.1 hj).1
  have hls:j<l.size:=by rw [inv.lsz]; exact hjn
  have hjf':l.getD j false=false:=by simp [hls] at hjf ⊢; exact hjf
  have hnl:¬ On l j:=by unfold On; rw [hjf']; simp
  obtain ⟨ao,haj,hchk,hg,_,hnpok⟩:=chkR_spec hreg hj
  have dok:=chkD_spec hd hj haj
  have hpk:∀ q v c,ro = .pan q v c→q∈pok:=by
   intro q v c h
   rw [h] at hpost
   exact hpost.1
  have hjN:j<aops.length:=(List.getElem?_eq_some_iff.1 haj).1
  have hjD:¬ D j∨∃ v c,ro = .pan j v c:=by
   by_cases hDj:D j
   ·right
    rcases tr.fin with ⟨hL,_⟩ | ⟨p,ap,v,hp,hap,_,_,_,hro,hDp,_,_⟩
    ·exact absurd hDj (hL j)
    ·rcases (hDp j).1 hDj with h | ⟨h1,h2⟩
     ·subst h
      exact ⟨v,_,hro⟩
     ·exfalso
      obtain ⟨op,hop⟩:=chkR_op hreg hap
      rcases ((chkD_spec hd hop hap).pan (hpk p v _ hro) j ao haj hjn).2 h1 with ⟨h,_⟩ | ⟨_,h⟩
      ·rw [h2] at h; cases h
      ·exact inv.inL p (ahead inv hj hrd h (by omega)) ((hDp p).2 (.inl rfl))
   ·exact .inl hDj
  have hnp:∀ (s:Nat) (y:Opd) (i:Nat) (ai:AOper) (s':Nat) (b:Option Nat) (k:Nat) (ix:Option (Opd×Nat×Nat)) (u:V),ao.dst = .slot s→ao.op = .np y→aops[i]?=some ai→ai.op = .pa s b k ix→env[i]?=some u→u=V.undef:=by
   intro s y i ai s' b k ix u h1 h2 h3 h4 h5
   by_cases hon:On l i
   ·exfalso
    rcases Nat.lt_trichotomy i j with h | h | h
    ·obtain ⟨d1,o1,g1⟩:=ao
     simp only at h1 h2
     subst h1 h2
     simp only [npOk,haj,List.all_eq_true,List.mem_range] at hnpok
     have:=hnpok i h
     obtain ⟨d2,o2,g2⟩:=ai
     simp only at h4
     subst h4
     simp [h3] at this
    ·subst h; exact hnl hon
    ·have hid:indep ao ai=false:=by
      cases hi:indep ao ai with
      | false=>rfl
      | true =>
       have:=((indep_spec hi).1 s (by simp [AOper.writes,h2,h1,slotOf])).1
       exact absurd (by simp [AOper.refsS,h4,AOp.slotRef]) this
     have:=ordered hreg hd h haj h3 hid
     exact hnl (behind inv this hon)
   ·exact inv.off i u hon h5
  obtain ⟨hsw,hss⟩:=sees hreg hd inv hj haj hnl hrd hjD tr hpk
  have hcount:=count_set hls hjf'
  have hnext:∀ i u v,(env.set j v)[i]?=some u→(i=j∧u=v)∨(i≠j∧env[i]?=some u):=fun i u v h=>set_get h
  unfold wpOpIn
  simp only [hj]
  by_cases hDj:¬ D j
  ·obtain ⟨ao',e,h1,hnr,heff,hev,hcs⟩:=tr.ok j hjN hDj
   rw [haj] at h1
   cases h1
   have inv':=DInv.next hreg hd inv hj haj hnl hrd hjN hDj heff hev hcs tr
   cases heff with
   | go v wr df hp hw hs =>
    have hst:=(hss hw).trans hs
    rw [wanted_sound hreg er cr.sr.size hg (hsw.trans hw),if_pos rfl]
    refine ⟨fun _ _=>trivial,?_⟩
    refine op_coreIn hn hrec cr er hchk hnr (hdf.imp id fun h=>h ao (List.mem_of_getElem? haj)) hst ⟨?_,?_⟩
    ·intro v' wr' df' pn' hp' d x g' w' hr hle cr' hlr
     cases hr
     have er':=ER.next (env':=env.set j v) hn hreg er cr.sr.size hj haj hle hlr (fun i u h=>hnext i u v h) hnp
     exact ih (l.setIfInBounds j true) (env.set j v) _ g' _ w' inv' cr' er' (by omega)
    ·intro v' hp' x g' w' hr
     cases hr
   | skip hw =>
    rw [wanted_sound hreg er cr.sr.size hg (hsw.trans hw)]
    simp only [Bool.false_eq_true,if_false]
    have er':=ER.next (env':=env.set j (.tup [])) (x:=undef) (d:=a.defers) hn hreg er cr.sr.size hj haj (G.le_refl g) (fun _=>LR.skip) (fun i u h=>hnext i u _ h) hnp
    refine ⟨fun _ _=>trivial,?_⟩
    exact ih (l.setIfInBounds j true) (env.set j (.tup [])) _ g _ w inv' (cr.skip hn hchk (hsw.trans hw)) er' (by omega)
  ·obtain ⟨v0,c9,hro0⟩:=hjD.resolve_left hDj
   rcases tr.fin with ⟨_,hro,_⟩ | ⟨p,aL,v,hp,haL,hnr,hw,hst,hro,hDp,_,_⟩
   ·rw [hro0] at hro; cases hro
   ·obtain rfl:j=p:=by rw [hro0] at hro; cases hro; rfl
    rw [haj] at haL
    cases haL
    rw [hro] at hpost
    obtain ⟨hpk',hpost⟩:=hpost
    rw [wanted_sound hreg er cr.sr.size hg (hsw.trans hw),if_pos rfl]
    refine ⟨fun _ _=>trivial,?_⟩
    refine op_coreIn hn hrec cr er hchk hnr (hdf.imp id fun h=>h ao (List.mem_of_getElem? haj)) ((hss hw).trans hst) ⟨?_,?_⟩
    ·intro v' wr' df' pn' hp' d x g' w' hr
     cases hr
    ·intro v' hp' x g' w' hr _ hv cr'
     cases hr
     have up:∀ {W:AOper→Prop},(∀ ai,W ai→ai.hw=true∨ai.dw=true)→Upto aops l W j:=by
      intro W hW
      refine Upto.at_ready inv hj hnl hrd (fun i ai hlt hai hWi => ?_) (fun i ai hlt hai hWi => ?_)
      ·have hin:i<ops.size:=by have:=(List.getElem?_eq_some_iff.1 hai).1; omega
       rcases (dok.pan hpk' i ai hai hin).1 hlt with h | ⟨h1,h2⟩
       ·exact h
       ·rcases hW ai hWi with h | h
        ·rw [h1] at h; cases h
        ·rw [h2] at h; cases h
      ·have hin:i<ops.size:=by have:=(List.getElem?_eq_some_iff.1 hai).1; omega
       rcases (dok.pan hpk' i ai hai hin).2 hlt with ⟨_,h1,h2⟩ | ⟨_,h⟩
       ·rcases hW ai hWi with h | h
        ·rw [h1] at h; cases h
        ·rw [h2] at h; cases h
       ·exact h
     have hH:=agreeH hreg hd inv (Nat.le_of_lt hjN) (up (fun ai h => .inl h)) tr
     have hD:=agreeD hreg hd inv (Nat.le_of_lt hjN) (up (fun ai h => .inr h)) tr
     refine hpost g' a w' x (cr'.weaken ?_ (by simp [hH]) (by simp [hD])) hv
     refine ⟨?_,fun s u hu => ?_⟩
     ·have h1:=(forget_spec aops (cs j).slots).1
      simp only
      rw [h1]
      apply Nat.le_antisymm
      all_goals
       apply Nat.le_of_not_lt
       intro hlt'
      ·obtain ⟨m,hm,_,he⟩:=inv.slots c.slots.length
       have e2:(cs m).slots[c.slots.length]?=none:=by rw [← he]; exact List.getElem?_eq_none (Nat.le_refl _)
       have hlen:=tr_same (fun c:Cfg=>c.slots.length) (fun _=>False) (fun i ai e hi hai he _=>by
        simp only [Eff.on]
        cases e.wr with
        | none=>rfl
        | some p=>simp [Am.setSlot]) tr hm (Nat.le_of_lt hjN) (fun _ _ _ _ _=>id)
       rw [List.getElem?_eq_none_iff] at e2
       omega
      ·obtain ⟨m,hm,_,he⟩:=inv.slots (cs j).slots.length
       have hlen:=tr_same (fun c:Cfg=>c.slots.length) (fun _=>False) (fun i ai e hi hai he _=>by
        simp only [Eff.on]
        cases e.wr with
        | none=>rfl
        | some p=>simp [Am.setSlot]) tr hm (Nat.le_of_lt hjN) (fun _ _ _ _ _=>id)
       have e2:(cs m).slots[(cs j).slots.length]?=none:=List.getElem?_eq_none (by omega)
       rw [e2,List.getElem?_eq_none_iff] at he
       omega
     ·rcases (forget_spec aops (cs j).slots).2 s u hu with h | ⟨h1,h2⟩
      ·exact .inl h
      ·right
       have hu':Upto aops l (fun ai=>ai.writes=some s) j:=by
        intro i ai hai hW
        exact absurd hW (h2 ai (List.mem_of_getElem? hai))
       rw [agreeS hreg hd inv (Nat.le_of_lt hjN) hu' tr]
       exact h1
end
def flOk (ops:Array Oper) (aops:List AOper):Option (Nat×Nat)→Bool
 | none=>true
 | some (t,j)=>locTmp ops aops j == some t && !paOf aops j
def codeAt:List Bool→Code→Option Code
 | [],x=>some x
 | false :: p,.seq x _ | false :: p,.cond _ x _ | false :: p,.block _ x | false :: p,.loop x | false :: p,.scope x=>codeAt p x
 | true :: p,.seq _ y | true :: p,.cond _ _ y=>codeAt p y
 | _,_=>none
theorem codeAt_append:∀ (p q:List Bool) (x:Code),codeAt (p++q) x=(codeAt p x).bind (codeAt q)
 | [],q,x=>rfl
 | false :: p,q,.seq x _ | false :: p,q,.cond _ x _ | false :: p,q,.block _ x | false :: p,q,.loop x | false :: p,q,.scope x=>codeAt_append p q x
 | true :: p,q,.seq _ y | true :: p,q,.cond _ _ y=>codeAt_append p q y
 | false :: p,q,.skip | false :: p,q,.region .. | false :: p,q,.rangeFunc .. | false :: p,q,.exit _ | false :: p,q,.label _ | false :: p,q,.goto _ | false :: p,q,.ret | false :: p,q,.refuse _=>rfl
 | true :: p,q,.skip | true :: p,q,.region .. | true :: p,q,.rangeFunc .. | true :: p,q,.exit _ | true :: p,q,.label _ | true :: p,q,.goto _ | true :: p,q,.ret | true :: p,q,.refuse _=>rfl
 | true :: p,q,.block _ _ | true :: p,q,.loop _ | true :: p,q,.scope _=>rfl
def yOf (P:Program) (tab:Nat→Option (FuncId×List Bool×List Nat)) (y:Nat):Option YInfo :=
 match tab y with
 | some (f,path,caps)=>match P.funcs[f]? with
  | some fn=>match fn.body with
   | some x=>match codeAt path x with
    | some (.rangeFunc _ ps as bd)=>some ⟨fun f=>∃ fn,P.funcs[f]?=some fn,fn.ntmps,ps,as,bd,caps⟩
    | _=>none
   | none=>none
  | none=>none
 | none=>none
def capTs (slots:List Nat) (cap:List Nat):List Nat:=cap.map fun s=>slots.getD s 0
def depsOf (ops:Array Oper):List (List Nat):=ops.toList.map direct
def brtOp (o:AOper):Bool :=
 match o.op with
 | .np _ | .rcv | .dfr .. => false
 | _=>true
def chkC (cx:Cx):List Bool→Code→ACode→Bool
 | _,_,.no=>true
 | p,x,.pre sz a=>chkC cx p x a
 | _,.region _ ops true,.brt fl deps aops=>cx.P.follows .mixedOrders&&chkR cx ops aops&&flOk ops aops fl&&deps == depsOf ops&&aops.all brtOp
 | p,x,.frz s a=>(match cx.slots[s]? with | some _=>true | none=>false)&&chkC cx p x a
 | _,.skip,.skip | _,.ret,.ret | _,.label _,.skip=>true
 | _,.region _ ops draw,.reg draw' fl pok aops=>draw == draw'&&chkR cx ops aops&&(!draw||chkD cx ops aops pok)&&flOk ops aops fl
 | p,.seq x y,.seq a b=>chkC cx (p++[false]) x a&&chkC cx (p++[true]) y b
 | p,.cond (.tmp t) x y,.ite t' a b=>t == t'&&chkC cx (p++[false]) x a&&chkC cx (p++[true]) y b
 | p,.cond (.tmp t) x y,.its s a b=>cx.slots[s]? == some t && !cx.pr s&&chkC cx (p++[false]) x a&&chkC cx (p++[true]) y b
 | p,.block id x,.block id' a=>id == id'&&chkC cx (p++[false]) x a
 | p,.loop x,.loop a=>chkC cx (p++[false]) x a
 | p,.scope x,.scope a=>chkC cx (p++[false]) x a
 | _,.exit i,.exit i'=>i == i'
 | p,.rangeFunc g ps as bd,.range f y cap path=>path == p&&okOf cx #[] [] g f&&cap.all (fun s=>(cx.slots[s]?).isSome && !cx.pr s)&&cx.tab y == some (cx.fn,p,capTs cx.slots cap)
 | _,_,_=>false
def roundC:ACode→Bool
 | .reg _ _ _ ops=>ops.all fun o=>match o.op with
  | .dfr .. => false
  | _=>true
 | .seq a b | .ite _ a b | .its _ a b=>roundC a&&roundC b
 | .block _ a | .loop a | .scope a | .frz _ a | .pre _ a=>roundC a
 | .brt .. => true
 | .skip | .exit _ | .ret | .no=>true
 | .range .. => false
theorem chkC_frz {cx:Cx} {p:List Bool} {x:Code} {s:Nat} {a:ACode} (h:chkC cx p x (.frz s a)=true):(∃ t,cx.slots[s]?=some t∧True)∧chkC cx p x a=true:=by
 have h':((match cx.slots[s]? with | some _=>true | none=>false)&&chkC cx p x a)=true:=by
  cases x <;> simpa [chkC] using h
 simp only [Bool.and_eq_true] at h'
 obtain ⟨h1,h2⟩:=h'
 refine ⟨?_,h2⟩
 cases hs:cx.slots[s]? with
 | none=>simp [hs] at h1
 | some t=>exact ⟨t,rfl,trivial⟩
def wpF (ro:Option Nat) (P:Program) (c:Code) (Q:Exit→Act→World→Prop) (a:Act) (w:World):Prop :=
 ∀ (b:Go.Frame) (k:List Item) (cs:List Go.Frame),b.roundOf=ro→(∃ fn,P.funcs[b.fn]?=some fn)→∃ e a' w',Q e a' w'∧ArrivesIn (Machine.fenced P (FW ro)) P (lone (b.atR a (.code c :: k)) cs w) b k cs e a' w'
theorem fencedFW (P:Program) (ro:Option Nat) (m:Machine):m.fenced P (FW ro):=fenced_wide P m
section
variable {ro:Option Nat} {P:Program} {Q:Exit→Act→World→Prop} {a:Act} {w:World}
theorem wpF_of_wpIn {c:Code} (h:c.wpIn (FW ro) 0 P Q a w):wpF ro P c Q a w:=fun b k cs hb _=>h b k cs hb trivial (fun _ h=>by cases h)
theorem wpF_mono {c:Code} {Q':Exit→Act→World→Prop} (h:wpF ro P c Q a w) (hq:∀ e a w,Q e a w→Q' e a w):wpF ro P c Q' a w :=
 fun b k cs hb hf=>let ⟨e,a',w',q,r⟩:=h b k cs hb hf; ⟨e,a',w',hq _ _ _ q,r⟩
theorem wpF_seq {x y:Code} (h:wpF ro P x (Exit.then (wpF ro P y Q) Q) a w):wpF ro P (.seq x y) Q a w:=by
 intro b k cs hb hf
 obtain ⟨e,a₁,w₁,hq,harr⟩:=h b (.code y :: k) cs hb hf
 cases e with
 | normal =>
  obtain ⟨e₂,a₂,w₂,hq₂,harr₂⟩:=hq b k cs hb hf
  exact ⟨e₂,a₂,w₂,hq₂,.of_steps (.head (fencedFW P ro _) stepR_seq harr) harr₂⟩
 | exit id=>exact ⟨_,a₁,w₁,hq,.of_steps (.one (fencedFW P ro _) stepR_seq) (.pass (x:=.code y) rfl (fun _ _ => .inl (by simp)) harr)⟩
 | goto l=>exact ⟨_,a₁,w₁,hq,.of_steps (.one (fencedFW P ro _) stepR_seq) (.pass (x:=.code y) rfl (fun _ _ => .inl (by simp)) harr)⟩
 | ret=>exact ⟨_,a₁,w₁,hq,.of_steps (.one (fencedFW P ro _) stepR_seq) (.pass (x:=.code y) rfl (fun _ _ => .inl (by simp)) harr)⟩
 | panic ch=>exact ⟨_,a₁,w₁,hq,.of_steps (.one (fencedFW P ro _) stepR_seq) (.pass (x:=.code y) rfl (fun _ _ => .inl (by simp)) harr)⟩
 | outgrown=>exact ⟨_,a₁,w₁,hq,.of_steps (.one (fencedFW P ro _) stepR_seq) (.pass (x:=.code y) rfl (fun _ _ => .inl (by simp)) harr)⟩
theorem wpF_cond {c:Operand} {x y:Code} {t:Bool} (hc:a.eval c = .bool t) (h:wpF ro P (if t then x else y) Q a w):wpF ro P (.cond c x y) Q a w :=
 fun b k cs hb hf=>let ⟨e,a',w',q,r⟩:=h b k cs hb hf; ⟨e,a',w',q,.of_steps (.one (fencedFW P ro _) (stepR_cond hc)) r⟩
theorem wpF_block {id:Nat} {c:Code} (h:wpF ro P c (Exit.inBlock id Q) a w):wpF ro P (.block id c) Q a w:=by
 intro b k cs hb hf
 obtain ⟨e,a₁,w₁,hq,harr⟩:=h b (.inBlock id :: k) cs hb hf
 have f:=fencedFW P ro
 cases e with
 | normal=>exact ⟨.normal,a₁,w₁,hq,.head (f _) stepR_block (StepsIn.trans harr (.one (f _) stepR_inBlock))⟩
 | exit id' =>
  by_cases hid:id'=id
  ·simp only [Exit.inBlock,hid,if_true] at hq
   exact ⟨.normal,a₁,w₁,hq,.head (f _) stepR_block (harr.1 k (by simp [exitTo,hid]))⟩
  ·simp only [Exit.inBlock,hid,if_false] at hq
   have hne:(id == id')=false:=by simp; exact fun h=>hid h.symm
   have hex:exitTo id' (.inBlock id :: k)=exitTo id' k:=by simp [exitTo,hne]
   exact ⟨.exit id',a₁,w₁,hq,.of_steps (.one (f _) stepR_block) ⟨fun k' hk=>harr.1 k' (by rw [hex]; exact hk),fun hr hk=>harr.2 hr (by rw [hex]; exact hk)⟩⟩
 | goto l =>
  have hg:gotoIn l (.inBlock id :: k)=gotoIn l k:=by simp [gotoIn]
  exact ⟨_,a₁,w₁,hq,.of_steps (.one (f _) stepR_block) ⟨fun k' hk=>harr.1 k' (by rw [hg]; exact hk),fun hr hk=>harr.2 hr (by rw [hg]; exact hk)⟩⟩
 | ret=>exact ⟨_,a₁,w₁,hq,.of_steps (e:=.ret) (.one (f _) stepR_block) harr⟩
 | panic ch=>exact ⟨_,a₁,w₁,hq,.of_steps (e:=.panic ch) (.one (f _) stepR_block) harr⟩
 | outgrown=>exact ⟨_,a₁,w₁,hq,.of_steps (e:=.outgrown) (.one (f _) stepR_block) harr⟩
theorem stepR_scope {b:Go.Frame} {k:List Item} {cs:List Go.Frame} {x:Code}:step P (lone (b.atR a (.code (.scope x) :: k)) cs w) = .next (lone (b.atR a (.code x :: .inScope x :: k)) cs w) :=
 step_lone_go (by simp [stepG,stepG.exec,Frame.atR])
theorem stepR_inScope {b:Go.Frame} {k:List Item} {cs:List Go.Frame} {x:Code}:step P (lone (b.atR a (.inScope x :: k)) cs w) = .next (lone (b.atR a k) cs w) :=
 step_lone_go (by simp [stepG,stepG.exec,Frame.atR])
theorem wpF_scope {c:Code} (h:wpF ro P c Q a w) (hng:∀ l a w,¬ Q (.goto l) a w):wpF ro P (.scope c) Q a w:=by
 intro b k cs hb hf
 obtain ⟨e,a₁,w₁,hq,harr⟩:=h b (.inScope c :: k) cs hb hf
 have f:=fencedFW P ro
 cases e with
 | normal=>exact ⟨.normal,a₁,w₁,hq,.head (f _) stepR_scope (StepsIn.trans harr (.one (f _) stepR_inScope))⟩
 | exit id' =>
  have hex:exitTo id' (.inScope c :: k)=exitTo id' k:=by simp [exitTo]
  exact ⟨.exit id',a₁,w₁,hq,.of_steps (.one (f _) stepR_scope) ⟨fun k' hk=>harr.1 k' (by rw [hex]; exact hk),fun hr hk=>harr.2 hr (by rw [hex]; exact hk)⟩⟩
 | goto l=>exact absurd hq (hng _ _ _)
 | ret=>exact ⟨_,a₁,w₁,hq,.of_steps (e:=.ret) (.one (f _) stepR_scope) harr⟩
 | panic ch=>exact ⟨_,a₁,w₁,hq,.of_steps (e:=.panic ch) (.one (f _) stepR_scope) harr⟩
 | outgrown=>exact ⟨_,a₁,w₁,hq,.of_steps (e:=.outgrown) (.one (f _) stepR_scope) harr⟩
def wpLoop (ro:Option Nat) (P:Program) (x:Code) (Q:Exit→Act→World→Prop) (a:Act) (w:World):Prop :=
 ∀ (b:Go.Frame) (k:List Item) (cs:List Go.Frame),b.roundOf=ro→(∃ fn,P.funcs[b.fn]?=some fn)→∃ e a' w',Q e a' w'∧ArrivesIn (Machine.fenced P (FW ro)) P (lone (b.atR a (.code x :: .inLoop x :: k)) cs w) b k cs e a' w'
theorem wpLoop_round {x:Code} (h:wpF ro P x (Exit.then (wpLoop ro P x Q) Q) a w):wpLoop ro P x Q a w:=by
 intro b k cs hb hf
 obtain ⟨e,a₁,w₁,hq,harr⟩:=h b (.inLoop x :: k) cs hb hf
 have f:=fencedFW P ro
 cases e with
 | normal =>
  obtain ⟨e₂,a₂,w₂,hq₂,harr₂⟩:=hq b k cs hb hf
  exact ⟨e₂,a₂,w₂,hq₂,.of_steps (StepsIn.trans harr (.one (f _) stepR_inLoop)) harr₂⟩
 | exit id=>exact ⟨_,a₁,w₁,hq,.pass (x:=.inLoop x) rfl (fun _ _ => .inl (by simp)) harr⟩
 | goto l=>exact ⟨_,a₁,w₁,hq,.pass (x:=.inLoop x) rfl (fun _ _ => .inl (by simp)) harr⟩
 | ret=>exact ⟨_,a₁,w₁,hq,.pass (x:=.inLoop x) rfl (fun _ _ => .inl (by simp)) harr⟩
 | panic ch=>exact ⟨_,a₁,w₁,hq,.pass (x:=.inLoop x) rfl (fun _ _ => .inl (by simp)) harr⟩
 | outgrown=>exact ⟨_,a₁,w₁,hq,.pass (x:=.inLoop x) rfl (fun _ _ => .inl (by simp)) harr⟩
theorem wp_of_wpLoop {x:Code} (h:wpLoop ro P x Q a w):wpF ro P (.loop x) Q a w:=by
 intro b k cs hb hf
 obtain ⟨e,a',w',hq,harr⟩:=h b k cs hb hf
 exact ⟨e,a',w',hq,.of_steps (.one (fencedFW P ro _) stepR_loop) harr⟩
theorem wpF_range {g:Operand} {ps:Array Tmp} {assign body:Code}
  (h:∀ fn,(∃ f,P.funcs[fn]?=some f)→∃ (l:Nat) (mark:List Deferred) (w₁:World) (d:Deferred) (w₁':World) (f:FuncId) (args:Array Value) (w₂:World),
   (Instr.enterLoop fn a.tmps ps assign body none).run P w = .ok (l,mark) w₁ ∧
   (resolve a.eval (rangeCall g l) 0).run P w₁ = .ok d w₁' ∧
   (invoke d.target d.args).run P w₁' = .ok (.enter f args) w₂ ∧
   Calls P f args w₂ fun
    | .returned _,w₃=>∃ jump w₄,(Instr.endLoop l).run P w₃ = .ok jump w₄∧(match jump with
      | none=>Q .normal { a with defers:=mark++a.defers } w₄
      | some c=>wpF none P c Q { a with defers:=mark++a.defers } w₄)
    | .panicked chain,w₃=>Q (.panic chain) { a with defers:=mark++a.defers } w₃
    | .outgrown,_=>False) :
  wpF none P (.rangeFunc g ps assign body) Q a w:=by
 intro b k cs hro hb
 obtain ⟨l,mark,w₁,d,w₁',f,args,w₂,he,hres,hinv,hcall⟩:=h b.fn hb
 rw [← hro] at he
 have ff:=fencedFW P none
 have henter:=stepR_rangeFunc (P:=P) (b:=b) (a:=a) (k:=k) (cs:=cs) (w:=w) he hres hinv
 obtain ⟨e,w₃,fr,hR,hsteps,hfn,hleave⟩:=hcall (b.atR { a with defers:=mark++a.defers } (.inRangeFunc l :: k) :: cs)
 cases e with
 | outgrown=>exact hR.elim
 | returned v =>
  obtain ⟨jump,w₄,hend,hj⟩:=hR
  have sback:StepsIn (Machine.fenced P (FW none)) P (lone (b.atR a (.code (.rangeFunc g ps assign body) :: k)) cs w) (lone (b.atR { a with defers:=mark++a.defers } ((jump.map Item.code).toList++k)) cs w₄):=by
   refine .head (ff _) henter (StepsIn.trans (stepsIn_wide.2 hsteps) (.head (ff _) ?_ (.one (ff _) (stepR_endRangeFunc hend))))
   rw [← finish_atR_inRangeFunc l v]; exact step_leave_returned hleave
  cases jump with
  | none=>exact ⟨.normal,_,w₄,hj,sback⟩
  | some c =>
   obtain ⟨e',a'',w₅,hq,harr⟩:=hj b k cs hro hb
   exact ⟨e',a'',w₅,hq,.of_steps sback harr⟩
 | panicked chain =>
  refine ⟨.panic chain,_,w₃,hR,.inRangeFunc l :: k,.head (ff _) henter (StepsIn.trans (stepsIn_wide.2 hsteps) (.one (ff _) ?_))⟩
  rw [← Frame.raise_atR]; exact step_leave_panicked hleave
end
def FlagR (flag:Option (Nat×V)) (g:G) (a:Act):Prop:=∀ t v,flag=some (t,v)→RV g v (a.tmps.getD t undef)
def OutE (g:G):Out→Exit→Prop
 | .norm,.normal=>True
 | .exit i,.exit i'=>i=i'
 | .ret,.ret=>True
 | .pan v,.panic ch=>∃ x,ch=[{ v:=x,recovered:=false }]∧RV g v x
 | _,_=>False
def OutP (cx:Cx) (c:Cfg) (out:Out) (e:Exit) (a:Act) (w:World):Prop:=∃ g,CR cx c g a w∧FlagR c.flag g a∧OutE g out e
theorem CR.drawn {cx:Cx} {c:Cfg} {g:G} {a:Act} {w:World} (cr:CR cx c g a w) (n:Nat):CR cx c g a { w with drawn:=n } :=
 ⟨⟨cr.step.rep.of_heap rfl,cr.step.le,⟨cr.step.fr.os,cr.step.fr.tape,cr.step.fr.output,cr.step.fr.size,cr.step.fr.block⟩,cr.step.newM,cr.step.newL⟩,
  ⟨cr.sr.len,cr.sr.size,cr.sr.val,fun s t v h1 h2 h3 h4=>cr.sr.prm s t v h1 h2 h3 h4,cr.sr.one⟩,cr.df.other (fun _ _=>rfl) (Nat.le_refl _),cr.gl⟩
section
variable {cx:Cx} {c c':Cfg} {g:G} {a:Act} {w:World} {rec:Rec} {out:Out}
theorem flag_of {ops:Array Oper} {aops:List AOper} {env:List V} {fl:Option (Nat×Nat)} (h:flOk ops aops fl=true) (er:ER cx ops aops env g a.tmps):FlagR (fl.map fun (t,j)=>(t,env.getD j .undef)) g a:=by
 intro t v ht
 cases fl with
 | none=>simp at ht
 | some p =>
  obtain ⟨t',j⟩:=p
  simp only [Option.map_some,Option.some.injEq,Prod.mk.injEq] at ht
  obtain ⟨rfl,rfl⟩:=ht
  simp only [flOk,Bool.and_eq_true,beq_iff_eq,Bool.not_eq_true'] at h
  cases hv:env[j]? with
  | none=>simp [List.getD,hv]; exact .d _ _ (.undef _)
  | some v =>
   simp only [List.getD,hv,Option.getD_some]
   obtain ⟨o,ao,h1,h2,_,_⟩:=locTmp_spec h.1
   have:=er j v t' ao hv h.1 h2
   have hp:=h.2
   simp only [paOf,h2] at hp
   unfold LR at this
   split at this
   ·rename_i heq; simp [heq,AOp.isPa] at hp
   ·exact this
theorem ER.nil {ops:Array Oper} {aops:List AOper} {tm:Array Value}:ER cx ops aops [] g tm:=by
 intro j v d ao h
 simp at h
theorem reg_sound (hn:cx.slots.Nodup) (hrec:RecS cx.P cx.gl cx.gs cx.g0.Y rec) {ro:Option Nat} {p:List Bool} {id:Nat} {ops:Array Oper} {draw draw':Bool} {fl:Option (Nat×Nat)} {pok:List Nat} {aops:List AOper} (hdf:ro=none∨∀ ao∈aops,∀ f as,ao.op ≠ .dfr f as) (hchk:chkC cx p (.region id ops draw) (.reg draw' fl pok aops)=true)
  (cr:CR cx c g a w) (hpn:c.pn=none) (hrun:regA rec cx.gl draw' fl pok aops c=some (out,c')):(Code.region id ops draw).wpIn (FW ro) 0 cx.P (OutP cx c' out) a w:=by
 simp only [chkC,Bool.and_eq_true,beq_iff_eq] at hchk
 obtain ⟨⟨⟨rfl,hreg⟩,hd⟩,hfl⟩:=hchk
 rw [regA_def] at hrun
 split at hrun
 ·cases hrun
 split at hrun
 ·cases hrun
 ·rename_i hlz
  cases hrr:runOps rec cx.gl aops [] c with
  | none=>simp [hrr] at hrun
  | some rout =>
   cases draw with
   | false =>
    refine wpIn_region ?_
    rw [List.range_eq_range']
    refine row_sound hn hrec hreg hdf (rout:=rout) ?_ aops 0 [] c g a w rfl rfl hpn cr .nil hrr
    cases rout with
    | norm env c1 =>
     simp only [hrr,Option.some.injEq,Prod.mk.injEq] at hrun
     obtain ⟨rfl,rfl⟩:=hrun
     intro g' a' w' cr' er'
     exact ⟨g',⟨cr'.step,cr'.sr,cr'.df,cr'.gl⟩,flag_of hfl er',trivial⟩
    | pan j v c1 =>
     simp only [hrr,Bool.false_and,Bool.false_eq_true,if_false,Option.some.injEq,Prod.mk.injEq] at hrun
     obtain ⟨rfl,rfl⟩:=hrun
     intro g' a' w' x cr' hv
     exact ⟨g',⟨cr'.step,cr'.sr,cr'.df,cr'.gl⟩,fun t v h=>(by cases h),x,rfl,hv⟩
   | true =>
    simp only [Bool.not_true,Bool.false_or] at hd
    have hm:cx.P.follows .mixedOrders=true:=by
     simp only [chkD,Bool.and_eq_true] at hd
     exact hd.1.1
    have hnrs:∀ ao∈aops,ao.op ≠ .rcv:=by
     intro ao hao
     obtain ⟨i,hi,rfl⟩:=List.mem_iff_getElem.1 hao
     have hai:aops[i]?=some aops[i]:=List.getElem?_eq_getElem hi
     obtain ⟨o,ho⟩:=chkR_op hreg hai
     exact (chkD_spec hd ho hai).nr
    obtain ⟨L,tenv,cs,tr⟩:=tr_of_run (cx:=cx) hnrs aops 0 [] c rfl rfl (Nat.zero_le _) hpn hrr c (fun _=>c) rfl rfl (fun _ _=>hpn) (fun i hi=>absurd hi (by omega))
    refine wpIn_region_any hm ?_
    have hoff:∀ i,¬ On (Array.replicate ops.size false) i:=by
     intro i h
     unfold On at h
     by_cases hi:i<ops.size <;> simp [hi] at h
    have up:∀ W,Upto aops (Array.replicate ops.size false) W 0:=fun W i ai _ _=>⟨fun h=>absurd h (hoff i),fun h=>absurd h (by omega)⟩
    have hlz':anyLz aops=false∨lzOK cx.gl aops (traceOps rec cx.gl aops [] c)=true:=by
     cases h1:anyLz aops with
     | false=>exact .inl rfl
     | true =>
      cases h2:lzOK cx.gl aops (traceOps rec cx.gl aops [] c) with
      | false=>simp [h1,h2] at hlz
      | true=>exact .inr rfl
    have hlen:aops.length<1000:=by
     simp only [chkD,Bool.and_eq_true,decide_eq_true_eq] at hd
     exact hd.1.2
    obtain ⟨D,tenv,cs,tr⟩:=trx_of (pok:=pok) hnrs hlen tr (lz_of tr hlz') (fun j v c1 e=>by
     subst e
     simp only [hrr,Bool.true_and] at hrun
     split at hrun
     ·cases hrun
     ·split at hrun
      ·cases hrun
      ·rename_i h
       cases h1:anyLive pok j with
       | false=>exact .inl rfl
       | true =>
        cases h2:tailOK rec cx.gl pok j aops (traceOps rec cx.gl aops [] c) with
        | false=>simp [h1,h2] at h
        | true=>exact .inr rfl)
    refine any_sound hn hrec hdf hreg hd tr (ro:=rout) ?_ ops.size _ (List.replicate ops.size .undef) c g a _ ⟨by simp,by simp,fun i h=>absurd h (hoff i),?_,fun i o h=>absurd h (hoff i),fun i h=>absurd h (hoff i),
     fun s=>⟨0,Nat.zero_le _,up _,by rw [tr.start]⟩,⟨0,Nat.zero_le _,up _,by rw [tr.start]⟩,⟨0,Nat.zero_le _,up _,by rw [tr.start]⟩,hpn⟩ (cr.drawn _) ?_ ?_
    ·cases rout with
     | norm env c1 =>
      simp only [hrr,Option.some.injEq,Prod.mk.injEq] at hrun
      obtain ⟨rfl,rfl⟩:=hrun
      intro g' a' w' cr' er'
      exact ⟨g',⟨cr'.step,cr'.sr,cr'.df,cr'.gl⟩,flag_of hfl er',trivial⟩
     | pan j v c1 =>
      simp only [hrr,Bool.true_and] at hrun
      split at hrun
      ·cases hrun
      split at hrun
      ·cases hrun
      ·rename_i hpk _
       cases hrun
       refine ⟨by simpa using hpk,fun g' a' w' x cr' hv => ?_⟩
       exact ⟨g',⟨cr'.step,cr'.sr,cr'.df,cr'.gl⟩,fun t v h=>(by cases h),x,rfl,hv⟩
    ·intro i u _ hu
     rw [List.getElem?_replicate] at hu
     split at hu
     ·exact (Option.some.inj hu).symm
     ·cases hu
    ·intro j v d ao hv hl hao
     rw [List.getElem?_replicate] at hv
     split at hv
     ·obtain rfl:=(Option.some.inj hv)
      unfold LR
      split
      ·exact .inl rfl
      ·exact .d _ _ (.undef _)
     ·cases hv
    ·exact Nat.le_trans List.count_le_length (by simp)
structure CxOK (cx:Cx):Prop where
 nodup:cx.slots.Nodup
 y:cx.g0.Y=yOf cx.P cx.tab
 fn:∃ fn,cx.P.funcs[cx.fn]?=some fn∧fn.body=some cx.root∧fn.ntmps=cx.nt
def LoopOK (P:Program) (gl:Nat→List V) (gs:List Nat) (Yt:Nat→Option YInfo) (loop:ACode→Cfg→Option (Out×Cfg)):Prop :=
 ∀ (cx:Cx) (ro:Option Nat) (p:List Bool) (x:Code) (b:ACode) (c c':Cfg) (out:Out) (g:G) (a:Act) (w:World),cx.P=P→cx.gl=gl→cx.gs=gs→cx.g0.Y=Yt→CxOK cx→(ro=none∨roundC b=true)→(ro=none→codeAt p cx.root=some x) →
  chkC cx p x b=true→loop b c=some (out,c')→c.pn=none→CR cx c g a w→FlagR c.flag g a→wpLoop ro P x (OutP cx c' out) a w
theorem FlagR.none {a:Act}:FlagR none g a:=fun t v h=>by cases h
theorem exec_pn:∀ (b:ACode) (c c':Cfg) (out:Out),c.pn=none→(∀ b c c' out,rec.loop b c=some (out,c')→c.pn=none→c'.pn=none)→exec rec cx.gl b c=some (out,c')→c'.pn=none:=by
 have hrow:∀ (os:List AOper) (env:List V) (c:Cfg) (ro:ROut),c.pn=none→runOps rec cx.gl os env c=some ro→(match ro with | .norm _ c=>c.pn=none | .pan _ _ c=>c.pn=none):=by
  intro os
  induction os with
  | nil =>
   intro env c ro hpn h
   simp only [runOps,Option.some.injEq] at h
   subst h
   exact hpn
  | cons o os ih =>
   intro env c ro hpn h
   simp only [runOps] at h
   split at h
   ·cases hst:stepOp rec cx.gl o env c.slots c.pn c.h with
    | none=>simp [hst] at h
    | some r =>
     have hnr:o.op ≠ .rcv:=by
      intro e
      simp [stepOp,e,hpn] at hst
     cases r with
     | ok v wr df pn hp =>
      have:=stepOp_pn hnr hst
      subst this
      simp only [hst] at h
      exact ih _ _ _ (by simp [hpn]) h
     | pan v hp =>
      simp only [hst,Option.some.injEq] at h
      subst h
      exact hpn
   ·exact ih _ _ _ (by exact hpn) h
   ·cases h
 intro b
 induction b with
 | skip=>intro c c' out hpn _ h; simp only [exec,Option.some.injEq,Prod.mk.injEq] at h; rw [← h.2]; exact hpn
 | ret=>intro c c' out hpn _ h; simp only [exec,Option.some.injEq,Prod.mk.injEq] at h; rw [← h.2]; exact hpn
 | exit i=>intro c c' out hpn _ h; simp only [exec,Option.some.injEq,Prod.mk.injEq] at h; rw [← h.2]; exact hpn
 | reg draw fl pok ops =>
  intro c c' out hpn _ h
  simp only [exec,regA_def] at h
  split at h
  ·cases h
  split at h
  ·cases h
  ·cases hro:runOps rec cx.gl ops [] c with
   | none=>simp [hro] at h
   | some ro =>
    have:=hrow ops [] c ro hpn hro
    cases ro with
    | norm env c1=>simp only [hro,Option.some.injEq,Prod.mk.injEq] at h; rw [← h.2]; exact this
    | pan j v c1 =>
     simp only [hro] at h
     split at h
     ·cases h
     split at h
     ·cases h
     ·simp only [Option.some.injEq,Prod.mk.injEq] at h; rw [← h.2]; exact this
 | seq a b iha ihb =>
  intro c c' out hpn hl h
  simp only [exec] at h
  split at h
  ·rename_i c1 h1
   exact ihb _ _ _ (iha _ _ _ hpn hl h1) hl h
  ·exact iha _ _ _ hpn hl h
 | ite t a b iha ihb =>
  intro c c' out hpn hl h
  simp only [exec] at h
  split at h
  ·split at h
   ·split at h
    ·exact iha _ _ _ (by exact hpn) hl h
    ·exact ihb _ _ _ (by exact hpn) hl h
   ·cases h
  ·cases h
 | block id a iha =>
  intro c c' out hpn hl h
  simp only [exec,hpn,Option.isSome_none,Bool.false_eq_true,if_false] at h
  split at h
  ·rename_i i c1 h1
   have:=iha _ _ _ hpn hl h1
   split at h <;> (simp only [Option.some.injEq,Prod.mk.injEq] at h; rw [← h.2]; exact this)
  ·exact iha _ _ _ hpn hl h
 | loop a iha =>
  intro c c' out hpn hl h
  simp only [exec,hpn,Option.isSome_none,Bool.false_eq_true,if_false] at h
  exact hl _ _ _ _ h hpn
 | scope a iha =>
  intro c c' out hpn hl h
  simp only [exec] at h
  exact iha _ _ _ hpn hl h
 | its s a b iha ihb =>
  intro c c' out hpn hl h
  simp only [exec] at h
  split at h
  ·split at h
   ·exact iha _ _ _ (by exact hpn) hl h
   ·exact ihb _ _ _ (by exact hpn) hl h
  ·cases h
 | range f y cap path =>
  intro c c' out hpn hl h
  simp only [exec,hpn,Option.isSome_none,Bool.false_eq_true,if_false] at h
  split at h
  ·split at h
   ·cases h; first | exact hpn | rfl
   ·split at h
    ·split at h
     ·cases h
     ·cases h; first | exact hpn | rfl
    ·cases h
   ·cases h
  ·cases h
 | no=>intro c c' out hpn _ h; simp [exec] at h
 | pre sz a iha =>
  intro c c' out hpn hl h
  simp only [exec] at h
  exact iha _ _ _ (by exact hpn) hl h
 | brt fl deps ops =>
  intro c c' out hpn hl h
  simp only [exec,hpn,Option.isSome_none,Bool.false_eq_true,if_false] at h
  cases hro:runOps rec cx.gl ops [] c with
  | none=>simp [hro] at h
  | some ro =>
   have:=hrow ops [] c ro hpn hro
   cases ro with
   | norm env c1 =>
    simp only [hro] at h
    split at h
    ·simp only [Option.some.injEq,Prod.mk.injEq] at h
     rw [← h.2]
     exact this
    ·cases h
   | pan j v c1=>simp [hro] at h
 | frz s a iha =>
  intro c c' out hpn hl h
  simp only [exec] at h
  split at h
  ·exact iha _ _ _ (by exact hpn) hl h
  ·cases h
theorem CR.noflag (cr:CR cx c g a w) (f:Option (Nat×V)):CR cx { c with flag:=f } g a w:=⟨cr.step,cr.sr,cr.df,cr.gl⟩
theorem CR.frz (cr:CR cx c g a w) {s t:Nat} (hs:cx.slots[s]?=some t) (_:True) {v:V} {h:Heap} (hf:frzA c.h (c.slots.getD s .undef)=some (v,h)):∃ g',g.le g'∧CR cx { c with slots:=c.slots.set s v,h:=h } g' a w:=by
 cases hp:cx.pr s with
 | false =>
  obtain ⟨g',hv,hst⟩:=frzA_sound cr.step.rep (cr.sr.get hs hp) hf
  have sr:=cr.sr.step hst
  refine ⟨g',hst.le,cr.step.trans hst,⟨by simp [sr.len],sr.size,fun s' t' u h1 h2 h3 => ?_,fun s' t' u h1 h2 h3 h4 => ?_,fun s1 s2 t1 t2 u u' blk h1 h2 h3 h4 h5 h6 h7 h8 h9 h10 => ?_⟩,cr.df.step hst,cr.gl.mono hst.le.1⟩
  ·rcases set_get h2 with ⟨rfl,rfl⟩ | ⟨_,h2'⟩
   ·rw [hs] at h1; cases h1
    exact hv
   ·exact sr.val s' t' u h1 h2' h3
  ·rcases set_get h2 with ⟨rfl,rfl⟩ | ⟨_,h2'⟩
   ·rw [hp] at h3; cases h3
   ·exact sr.prm s' t' u h1 h2' h3 h4
  ·rcases set_get h3 with ⟨rfl,rfl⟩ | ⟨_,h3'⟩
   ·rw [hp] at h5; cases h5
   ·rcases set_get h4 with ⟨rfl,rfl⟩ | ⟨_,h4'⟩
    ·rw [hp] at h6; cases h6
    ·exact sr.one s1 s2 t1 t2 u u' blk h1 h2 h3' h4' h5 h6 h7 h8 h9 h10
 | true =>
  have hlt:s<c.slots.length:=by
   have:=(List.getElem?_eq_some_iff.1 hs).1
   have:=cr.sr.len
   omega
  have hget:c.slots[s]?=some (c.slots.getD s .undef):=by simp [hlt]
  generalize c.slots.getD s .undef=x at *
  by_cases hx:x = .undef
  ·subst hx
   simp only [frzA,frzV,pureV,if_true,Option.some.injEq,Prod.mk.injEq] at hf
   obtain ⟨rfl,rfl⟩:=hf
   have:c.slots.set s .undef=c.slots:=by
    apply List.ext_getElem? 
    intro i
    by_cases hi:s=i
    ·subst hi; rw [List.getElem?_set_self hlt,hget]
    ·rw [List.getElem?_set_ne hi]
   rw [this]
   exact ⟨g,(Step.refl cr.step.rep).le,cr⟩
  ·obtain ⟨blk,a1,a2,a3,a4,arr,e,lo,hi,a5,a6,a7,a8⟩:=cr.sr.prm s t x hs hget hp hx
   obtain ⟨g',hv,hst⟩:=frzC_sound cr.step.rep a7 hf
   have hq:=PromR.step ⟨a1,a2,a3,a4,arr,e,lo,hi,a5,a6,a7,a8⟩ hst
   obtain ⟨b1,b2,b3,b4,arr',e',lo',hi',b5,b6,b7,b8⟩:=hq
   have sr:=cr.sr.step hst
   rw [a5] at b5
   cases b5
   refine ⟨g',hst.le,cr.step.trans hst,⟨by simp [sr.len],sr.size,fun s' t' u h1 h2 h3 => ?_,fun s' t' u h1 h2 h3 h4 => ?_,fun s1 s2 t1 t2 u u' blk h1 h2 h3 h4 h5 h6 h7 h8 h9 h10 => ?_⟩,cr.df.step hst,cr.gl.mono hst.le.1⟩
   ·rcases set_get h2 with ⟨rfl,rfl⟩ | ⟨_,h2'⟩
    ·rw [hp] at h3; cases h3
    ·exact sr.val s' t' u h1 h2' h3
   ·rcases set_get h2 with ⟨rfl,rfl⟩ | ⟨_,h2'⟩
    ·rw [hs] at h1; cases h1
     exact ⟨blk,b1,b2,b3,b4,arr,e,lo,hi,a5,b6,hv,b8⟩
    ·exact sr.prm s' t' u h1 h2' h3 h4
   ·rcases set_get h3 with ⟨rfl,rfl⟩ | ⟨_,h3'⟩
    ·rcases set_get h4 with ⟨rfl,rfl⟩ | ⟨_,h4'⟩
     ·rfl
     ·exact sr.one s1 s2 t1 t2 x u' blk h1 h2 hget h4' h5 h6 hx h8 h9 h10
    ·rcases set_get h4 with ⟨rfl,rfl⟩ | ⟨_,h4'⟩
     ·exact sr.one s1 s2 t1 t2 u x blk h1 h2 h3' hget h5 h6 h7 hx h9 h10
     ·exact sr.one s1 s2 t1 t2 u u' blk h1 h2 h3' h4' h5 h6 h7 h8 h9 h10
theorem CR.pre (cr:CR cx c g a w) (sz:Nat):∃ g',g.le g'∧CR cx { c with h:=c.h++[.cells 0 sz []] } g' a w:=by
 obtain ⟨_,hst⟩:=own_new cr.step.rep sz
 exact ⟨_,hst.le,cr.of_step hst⟩
theorem allO_all {F:Nat→Option Unit}:∀ {l:List Nat},allO F l=some ()→∀ j∈l,F j=some ()
 | [],_,j,hj=>by cases hj
 | i :: l,h,j,hj=>by
  simp only [allO] at h
  split at h
  ·rename_i u hF
   rcases List.mem_cons.1 hj with rfl | hj
   ·exact hF
   ·exact allO_all h j hj
  ·cases h
theorem mem_readyL {ops:Array Oper} {l:Array Bool} (hl:l.size=ops.size) {j:Nat}:j∈readyL (depsOf ops) l.toList↔j∈Region.ready .any ops l:=by
 rw [mem_ready]
 simp only [readyL,List.mem_filter,List.mem_range,Array.length_toList,Bool.and_eq_true,Bool.not_eq_true',List.all_eq_true]
 have hg:∀ i,l.toList.getD i false=l.getD i false:=fun i=>by simp [List.getD,Array.getD_eq_getD_getElem?]
 simp only [hg]
 constructor
 ·rintro ⟨h1,h2,h3⟩
  have hj:j<ops.size:=by omega
  refine ⟨?_,ops[j],Array.getElem?_eq_getElem hj,fun e he hb => ?_⟩
  ·simp [h1] at h2 ⊢
   exact h2
  ·refine h3 e.on ?_
   have hd:(depsOf ops).getD j []=direct ops[j]:=by
    simp [depsOf,List.getD,hj]
   rw [hd]
   simp only [direct,List.mem_map,List.mem_filter]
   exact ⟨e,⟨by simpa using he,hb⟩,rfl⟩
 ·rintro ⟨h1,o,ho,h3⟩
  have hj:=(Array.getElem?_eq_some_iff.1 ho).1
  have hjl:j<l.size:=by omega
  refine ⟨hjl,?_,fun i hi => ?_⟩
  ·simp [hjl] at h1 ⊢
   exact h1
  ·have hd:(depsOf ops).getD j []=direct o:=by
    have:ops[j]?=some o:=ho
    simp [depsOf,List.getD,this]
   rw [hd] at hi
   simp only [direct,List.mem_map,List.mem_filter] at hi
   obtain ⟨e,⟨he,hb⟩,rfl⟩:=hi
   exact h3 e (by simpa using he) hb
theorem brt_sound (hn:cx.slots.Nodup) (hrec:RecS cx.P cx.gl cx.gs cx.g0.Y rec) {ri:Option Nat} {ops:Array Oper} {aops:List AOper} (hreg:chkR cx ops aops=true) (hbo:aops.all brtOp=true) {envF:List V} {cF:Cfg} {Q:Exit→Act→World→Prop}
  (hpost:∀ g a w,CR cx cF g a w→ER cx ops aops envF g a.tmps→Q .normal a w) :
  ∀ (fuel:Nat) (l:Array Bool) (env:List V) (c:Cfg) (g:G) (a:Act) (w:World),l.size=ops.size→c.pn=none→brtO rec cx.gl aops (depsOf ops) envF cF fuel l.toList env c=some ()→CR cx c g a w→ER cx ops aops env g a.tmps →
   wpAnyIn (FW ri) 0 cx.P .any ops Q fuel l a w:=by
 have fin:∀ (l:Array Bool) (env:List V) (c:Cfg) (g:G) (a:Act) (w:World),(if eqL env envF&&sameC c cF then some () else none)=some ()→CR cx c g a w→ER cx ops aops env g a.tmps→Q .normal a w:=by
  intro l env c g a w h cr er
  split at h
  ·rename_i hc
   simp only [Bool.and_eq_true,sameC] at hc
   obtain ⟨h1,⟨h2,h3⟩,h4⟩:=hc
   obtain rfl:=eqL_sound h1
   exact hpost g a w (cr.weaken (by rw [eqL_sound h2]; exact Less.refl _) (eqH_sound h4).symm (eqDs_sound h3).symm) er
  ·cases h
 intro fuel
 induction fuel with
 | zero =>
  intro l env c g a w hl hpn h cr er
  simp only [brtO] at h
  split at h
  ·rename_i hr
   refine ⟨?_,fin l env c g a w h cr er⟩
   cases hrd:Region.ready .any ops l with
   | nil=>rfl
   | cons i is =>
    have:i∈readyL (depsOf ops) l.toList:=(mem_readyL hl).2 (by rw [hrd]; exact List.mem_cons_self ..)
    rw [hr] at this
    cases this
  ·cases h
 | succ fuel ih =>
  intro l env c g a w hl hpn h cr er
  simp only [brtO] at h
  split at h
  ·rename_i hr
   refine ⟨fun _=>fin l env c g a w h cr er,fun j hj => ?_⟩
   have:=(mem_readyL hl).2 hj
   rw [hr] at this
   cases this
  ·rename_i j0 js hr
   refine ⟨fun hrd => ?_,fun j hjr => ?_⟩
   ·have:j0∈Region.ready .any ops l:=(mem_readyL hl).1 (by rw [hr]; exact List.mem_cons_self ..)
    rw [hrd] at this
    cases this
   ·have hj':=(mem_readyL hl).2 hjr
    rw [hr] at hj'
    have hF:=allO_all h j hj'
    rw [mem_ready] at hjr
    obtain ⟨_,o,hj,_⟩:=hjr
    obtain ⟨ao,haj,hchk,hg,_,_⟩:=chkR_spec hreg hj
    simp only [haj] at hF
    have hbo':=List.all_eq_true.1 hbo ao (List.mem_of_getElem? haj)
    have hnr:ao.op ≠ .rcv:=fun e=>by simp [brtOp,e] at hbo'
    have hnp:∀ (s:Nat) (y:Opd) (i:Nat) (ai:AOper) (s':Nat) (b:Option Nat) (k:Nat) (ix:Option (Opd×Nat×Nat)) (u:V),ao.dst = .slot s→ao.op = .np y→aops[i]?=some ai→ai.op = .pa s b k ix→env[i]?=some u→u=V.undef:=by
     intro s y i ai s' b k ix u _ h2
     simp [brtOp,h2] at hbo'
    have hnext:∀ i u v,(env.set j v)[i]?=some u→(i=j∧u=v)∨(i≠j∧env[i]?=some u):=fun i u v h=>set_get h
    have hset:(l.setIfInBounds j true).toList=l.toList.set j true:=by rw [Array.toList_setIfInBounds]
    unfold wpOpIn
    simp only [hj]
    split at hF
    ·rename_i hw
     split at hF
     ·rename_i v wr df pn hp hst
      have hpn':=stepOp_pn hnr hst
      subst hpn'
      rw [wanted_sound hreg er cr.sr.size hg hw,if_pos rfl]
      refine ⟨fun _ _=>trivial,?_⟩
      refine op_coreIn hn hrec cr er hchk hnr (.inr fun f as e=>by simp [brtOp,e] at hbo') hst ⟨?_,?_⟩
      ·intro v' wr' df' pn' hp' d x g' w' hr' hle cr' hlr
       cases hr'
       have er':=ER.next (env':=env.set j v) hn hreg er cr.sr.size hj haj hle hlr (fun i u h=>hnext i u v h) hnp
       refine ih (l.setIfInBounds j true) (env.set j v) _ g' _ w' (by simp [hl]) (by simp [hpn]) ?_ cr' er'
       rw [hset]
       have hor:(none:Option (Option V)).or c.pn=c.pn:=by cases c.pn <;> rfl
       rw [hor] at hF
       exact hF
      ·intro v' hp' x g' w' hr'
       cases hr'
     ·cases hF
    ·rename_i hw
     rw [wanted_sound hreg er cr.sr.size hg hw]
     simp only [Bool.false_eq_true,if_false]
     have er':=ER.next (env':=env.set j (.tup [])) (x:=undef) (d:=a.defers) hn hreg er cr.sr.size hj haj (G.le_refl g) (fun _=>LR.skip) (fun i u h=>hnext i u _ h) hnp
     refine ⟨fun _ _=>trivial,?_⟩
     refine ih (l.setIfInBounds j true) (env.set j (.tup [])) { c with slots:=setSlot c.slots ((slotOf ao.dst).map (·,.tup [])) } g _ w (by simp [hl]) hpn ?_ (cr.skip hn hchk hw) er'
     rw [hset]
     exact hF
    ·cases hF
theorem chkC_pre {p:List Bool} {x:Code} {sz:Nat} {a:ACode} (h:chkC cx p x (.pre sz a)=true):chkC cx p x a=true:=by
 cases x <;> simpa only [chkC] using h
theorem brtreg_sound (hn:cx.slots.Nodup) (hrec:RecS cx.P cx.gl cx.gs cx.g0.Y rec) {ri:Option Nat} {p:List Bool} {x:Code} {fl:Option (Nat×Nat)} {deps:List (List Nat)} {aops:List AOper} (hchk:chkC cx p x (.brt fl deps aops)=true)
  (cr:CR cx c g a w) (hpn:c.pn=none) (h:exec rec cx.gl (.brt fl deps aops) c=some (out,c')):x.wpIn (FW ri) 0 cx.P (OutP cx c' out) a w:=by
 cases x <;> first | (simp only [chkC,Bool.false_eq_true] at hchk; done) | skip
 rename_i id ops draw
 cases draw with
 | false=>simp only [chkC,Bool.false_eq_true] at hchk
 | true =>
  simp only [chkC,Bool.and_eq_true,beq_iff_eq] at hchk
  obtain ⟨⟨⟨⟨hm,hreg⟩,hfl⟩,rfl⟩,hbo⟩:=hchk
  have hsize:ops.size=aops.length:=by
   simp only [chkR,Bool.and_eq_true,beq_iff_eq] at hreg
   exact hreg.1
  simp only [exec,hpn,Option.isSome_none,Bool.false_eq_true,if_false] at h
  split at h
  ·rename_i env c1 hro
   split at h
   ·rename_i u hb
    simp only [Option.some.injEq,Prod.mk.injEq] at h
    obtain ⟨rfl,rfl⟩:=h
    refine wpIn_region_any hm ?_
    refine brt_sound hn hrec hreg hbo (envF:=env) (cF:=c1) ?_ ops.size _ (List.replicate aops.length .undef) c g a _ (by simp) hpn ?_ (cr.drawn _) ?_
    ·intro g' a' w' cr' er'
     exact ⟨g',⟨cr'.step,cr'.sr,cr'.df,cr'.gl⟩,flag_of hfl er',trivial⟩
    ·have:(Array.replicate ops.size false).toList=List.replicate aops.length false:=by rw [hsize]; simp
     rw [this,hsize]
     exact hb
    ·intro j v d ao hv hl hao
     rw [List.getElem?_replicate] at hv
     split at hv
     ·obtain rfl:=(Option.some.inj hv)
      unfold LR
      split
      ·exact .inl rfl
      ·exact .d _ _ (.undef _)
     ·cases hv
   ·cases h
  ·cases h
theorem range_sound (hk:CxOK cx) (hrec:RecS cx.P cx.gl cx.gs cx.g0.Y rec) {p:List Bool} {x:Code} {f:Opd} {y:Nat} {cap:List Nat} {path:List Bool} (hat:codeAt p cx.root=some x) (hchk:chkC cx p x (.range f y cap path)=true)
  (h:exec rec cx.gl (.range f y cap path) c=some (out,c')) (hpn:c.pn=none) (cr:CR cx c g a w):wpF none cx.P x (OutP cx c' out) a w:=by
 cases x <;> simp only [chkC,Bool.false_eq_true] at hchk
 rename_i g0 ps as bd
 simp only [Bool.and_eq_true,beq_iff_eq,List.all_eq_true,Bool.not_eq_true'] at hchk
 obtain ⟨⟨⟨rfl,hf⟩,hcap⟩,htab⟩:=hchk
 simp only [exec,hpn,Option.isSome_none,Bool.false_eq_true,if_false] at h
 split at h
 case h_2=>cases h
 rename_i n args hcal
 have hrvf:=ok_rv cr (ops:=#[]) (aops:=[]) ER.nil g0 f hf
 have hcal':=hcal
 unfold callee at hcal'
 split at hcal'
 case h_2=>cases hcal'
 rename_i n' fi ca hfv
 cases hcal'
 obtain ⟨fi',ca',hx,hfi,hca⟩:=(hfv ▸ hrvf).func_inv
 refine wpF_range fun fnn hfnn => ?_
 have hsize:=cr.step.rep
 obtain ⟨w1,hw1⟩:∃ w1,w1=(w.alloc (.deferred (some []))).alloc (.loop { state:=.ready,pending:=none,fn:=fnn,tmps:=a.tmps,params:=ps,assign:=as,body:=bd,defers:=w.heap.size }):=⟨_,rfl⟩
 have hD:w1.heap[w.heap.size]?=some (.deferred (some [])):=by
  rw [hw1,am_old _ _ _ (by simp),am_new]
 have hL:w1.heap[w.heap.size+1]?=some (.loop { state:=.ready,pending:=none,fn:=fnn,tmps:=a.tmps,params:=ps,assign:=as,body:=bd,defers:=w.heap.size }):=by
  have:=am_new (w.alloc (.deferred (some []))) (.loop { state:=.ready,pending:=none,fn:=fnn,tmps:=a.tmps,params:=ps,assign:=as,body:=bd,defers:=w.heap.size })
  rw [hw1]
  simpa using this
 have hsz1:w1.heap.size=w.heap.size+2:=by rw [hw1]; simp
 have hold:∀ i,i<w.heap.size→w1.heap[i]?=w.heap[i]?:=fun i hi=>by rw [hw1,am_old _ _ _ (by simp; omega),am_old _ _ _ hi]
 have hYg:g.Y=yOf cx.P cx.tab:=cr.step.le.3.trans hk.y
 obtain ⟨fn,hfn,hbody,hnt⟩:=hk.fn
 have hyi:g.Y y=some ⟨fun f=>∃ fn,cx.P.funcs[f]?=some fn,fn.ntmps,ps,as,bd,capTs cx.slots cap⟩:=by
  rw [hYg]
  simp only [yOf,htab,hfn,hbody,hat]
 have hfresh:∀ k,w.heap.size≤k→g.M k=none:=by
  intro k hk'
  cases hM:g.M k with
  | none=>rfl
  | some b =>
   obtain ⟨e,fz,hh⟩:=cr.step.rep.mem _ _ hM
   have:=(Array.getElem?_eq_some_iff.1 hh).1
   omega
 have hle1:g.le (g.put c.h.length 0 ⟨w.heap.size+1,0,0⟩):=G.le_put (.inl (cr.step.rep.fresh 0))
 have hcaps:RVs g (cap.map fun s=>c.slots.getD s .undef) ((capTs cx.slots cap).map fun t=>a.tmps.getD t undef):=by
  have key:∀ l:List Nat,(∀ s∈l,(cx.slots[s]?).isSome=true∧cx.pr s=false)→RVs g (l.map fun s=>c.slots.getD s .undef) ((capTs cx.slots l).map fun t=>a.tmps.getD t undef):=by
   intro l
   induction l with
   | nil=>intro _; exact .nil
   | cons s l ih =>
    intro hl
    have h1:=hl s (by simp)
    cases hs:cx.slots[s]? with
    | none=>simp [hs] at h1
    | some t =>
     have h2:cx.slots.getD s 0=t:=by simp [List.getD,hs]
     have ih':=ih fun s' hs'=>hl s' (by simp [hs'])
     simp only [capTs,List.map_cons,h2]
     exact .cons _ _ _ _ (cr.sr.get hs h1.2) ih'
  exact key cap hcap
 have hnew:Step g c.h w (g.put c.h.length 0 ⟨w.heap.size+1,0,0⟩) (c.h++[.loop y (cap.map fun s=>c.slots.getD s .undef) .ready none]) w1:=by
  refine Step.newO cr.step.rep rfl (Nat.le_succ _) (by rw [hw1]; rfl) (by rw [hw1]; rfl) (by rw [hw1]; rfl) (by omega) hold ⟨_,G.put_same,hfresh _ (Nat.le_succ _),_,hL,?_⟩
  refine ⟨_,(by rw [hle1.3]; exact hyi),hfnn,rfl,rfl,rfl,?_,rfl,rfl,hcaps.mono hle1⟩
  simp only
  rw [cr.sr.size,hnt]
 have hmark:MarkR (g.put c.h.length 0 ⟨w.heap.size+1,0,0⟩) (c.h++[.loop y (cap.map fun s=>c.slots.getD s .undef) .ready none]) w1 cx.w0.heap.size w.heap.size:=by
  refine ⟨cr.step.fr.size,hfresh _ (Nat.le_refl _),fun hl => ?_,hD⟩
  obtain ⟨b,o,hb,ha⟩:=hl
  by_cases hlt:b<c.h.length
  ·rw [List.getElem?_append_left hlt] at hb
   have ha':atB g b o w.heap.size:=by
    have key2:¬ (b=c.h.length):=by omega
    cases o <;> simp only [atB,G.put,key2,false_and,if_false] at ha ⊢ <;> exact ha
   have:=(cr.step.rep.live_lt ⟨b,o,hb,ha'⟩).1
   omega
  ·rw [List.getElem?_append_right (by omega)] at hb
   have hb0:b - c.h.length=0:=by
    have:=(List.getElem?_eq_some_iff.1 hb).1
    simp at this
    omega
   rw [hb0] at hb
   simp at hb
   subst hb
   obtain ⟨q,hq,he⟩:=ha
   have:b=c.h.length:=by omega
   subst this
   rw [G.put_same] at hq
   cases hq
   simp at he
 have hdf1:DfR cx.P (g.put c.h.length 0 ⟨w.heap.size+1,0,0⟩) (c.h++[.loop y (cap.map fun s=>c.slots.getD s .undef) .ready none]) w1 cx.w0.heap.size w.heap.size c.dfs a.defers :=
  DfR.map hnew.le (fun D hm=>hm.step hnew) (Nat.le_refl _) cr.df
 have state:∀ {g2:G} {h2:Heap} {w2:World},Step (g.put c.h.length 0 ⟨w.heap.size+1,0,0⟩) (c.h++[.loop y (cap.map fun s=>c.slots.getD s .undef) .ready none]) w1 g2 h2 w2 →
   CR cx { slots:=c.slots,dfs:=(.undef,[]) :: c.dfs,flag:=none,pn:=none,h:=h2 } g2 { a with defers:=[{ target:=.collected w.heap.size,args:=#[] }]++a.defers } w2:=by
  intro g2 h2 w2 hs
  refine ⟨(cr.step.trans hnew).trans hs,(cr.sr.step hnew).step hs,.inl ⟨rfl,w.heap.size,rfl,?_,hmark.step hs,?_⟩,(cr.gl.mono hnew.le.1).mono hs.le.1⟩
  ·have:=hs.fr.size; omega
  ·exact DfR.map hs.le (fun D hm=>hm.step hs) (Nat.le_refl _) hdf1
 have hargs:RVs (g.put c.h.length 0 ⟨w.heap.size+1,0,0⟩) (fi++[.yf c.h.length]++ca) (fi' ++ #[.func (.yield (w.heap.size+1)) #[] #[]]++ca':Array Value).toList:=by
  simp only [Array.toList_append]
  exact ((hfi.mono hle1).append (.cons _ _ _ _ (.yf _ _ G.put_same) .nil)).append (hca.mono hle1)
 have henter:(Instr.enterLoop fnn a.tmps ps as bd none).run cx.P w = .ok (w.heap.size+1,[{ target:=.collected w.heap.size,args:=#[] }]) w1:=by
  rw [hw1]; exact run_enterLoop_outer _ _ _ _ _
 have hres:(resolve a.eval (rangeCall g0 (w.heap.size+1)) 0).run cx.P w1 = .ok { target:=.fn (.func n) ca',args:=fi' ++ #[.func (.yield (w.heap.size+1)) #[] #[]] } w1:=by
  show (Deferred.ofValue (a.eval g0) ((#[Operand.const (.func (.yield (w.heap.size+1)) #[] #[])]:Array Operand).map a.eval)).run cx.P w1=_
  rw [hx]
  simp [Deferred.ofValue,Act.eval]
 generalize hgg:g.put c.h.length 0 ⟨w.heap.size+1,0,0⟩=g1 at *
 have hput:g1.β c.h.length 0=some ⟨w.heap.size+1,0,0⟩:=by rw [← hgg]; exact G.put_same
 generalize hhh:c.h++[Am.Obj.loop y (cap.map fun s=>c.slots.getD s .undef) .ready none]=h1 at *
 clear hgg hhh hw1
 split at h
 ·rename_i v h' hcall
  obtain ⟨hent,hsound⟩:=hrec.call _ _ _ _ _ hcall
  simp only [Option.some.injEq,Prod.mk.injEq] at h
  obtain ⟨rfl,rfl⟩:=h
  refine ⟨_,_,w1,_,w1,n,_,w1,henter,hres,hent _ _,(hsound _ w1 _ hnew.rep (cr.gl.mono hnew.le.1) (hnew.le.3.trans cr.step.le.3) hargs).mono fun e w' he => ?_⟩
  cases e with
  | outgrown=>exact he.elim
  | returned xv=>obtain ⟨_,_,hh,_⟩:=he; cases hh
  | panicked ch =>
   obtain ⟨v',xv,g2,hh,rfl,hv,hs⟩:=he
   cases hh
   exact ⟨g2,state hs,FlagR.none,xv,rfl,hv⟩
 ·rename_i v h' hcall
  obtain ⟨hent,hsound⟩:=hrec.call _ _ _ _ _ hcall
  split at h
  case h_2=>cases h
  rename_i y' fi2 st pd hob
  split at h
  ·cases h
  ·rename_i hst
   simp only [Option.some.injEq,Prod.mk.injEq] at h
   obtain ⟨rfl,rfl⟩:=h
   refine ⟨_,_,w1,_,w1,n,_,w1,henter,hres,hent _ _,(hsound _ w1 _ hnew.rep (cr.gl.mono hnew.le.1) (hnew.le.3.trans cr.step.le.3) hargs).mono fun e w' he => ?_⟩
   cases e with
   | outgrown=>exact he.elim
   | panicked ch=>obtain ⟨_,_,_,hh,_⟩:=he; cases hh
   | returned xv =>
    obtain ⟨v',g2,hh,hv,hs⟩:=he
    cases hh
    obtain ⟨p2,hp2,hm2,l2,hh2,yi,q1,q2,q3,q4,q5,q6,q7,q8,q9⟩:=hs.rep.obj _ _ hob
    have hp3:=hs.le.2 _ _ _ hput
    rw [hp2] at hp3
    cases hp3
    have hend:=run_endLoop (P:=cx.P) hh2 (by rw [q7]; exact hst)
    have hlt:w.heap.size+1<w'.heap.size:=(Array.getElem?_eq_some_iff.1 hh2).1
    have hset:Step g2 h' w' g2 (h'.set c.h.length (.loop y' fi2 .exhausted pd)) (w'.putObj (w.heap.size+1) (.loop { l2 with state:=.exhausted })) :=
     Step.setO hs.rep hob rfl rfl hp2 rfl rfl rfl (by simp) (fun i hi=>World.putObj_heap_other hi) ⟨_,hp2,hm2,_,World.putObj_heap_same hlt,yi,q1,q2,q3,q4,q5,q6,rfl,q8,q9⟩
    refine ⟨jumpC pd,_,by rw [← q8]; exact hend,?_⟩
    have st:=state (hs.trans hset)
    cases pd with
    | none=>exact ⟨g2,st,FlagR.none,trivial⟩
    | some j =>
     cases j with
     | none=>exact wpF_of_wpIn (wpIn_ret ⟨g2,st,FlagR.none,trivial⟩)
     | some i=>exact wpF_of_wpIn (wpIn_exit ⟨g2,st,FlagR.none,rfl⟩)
 ·cases h
theorem exec_sound (hk:CxOK cx) (hrec:RecS cx.P cx.gl cx.gs cx.g0.Y rec) (hloop:LoopOK cx.P cx.gl cx.gs cx.g0.Y rec.loop) (hlpn:∀ b c c' out,rec.loop b c=some (out,c')→c.pn=none→c'.pn=none) {ro:Option Nat} :
  ∀ (b:ACode) (p:List Bool) (x:Code) (c c':Cfg) (out:Out) (g:G) (a:Act) (w:World),(ro=none∨roundC b=true)→(ro=none→codeAt p cx.root=some x)→chkC cx p x b=true→exec rec cx.gl b c=some (out,c')→c.pn=none →
   CR cx c g a w→FlagR c.flag g a→wpF ro cx.P x (OutP cx c' out) a w:=by
 have left:∀ {p:List Bool} {x y:Code},(∀ q,codeAt (false :: q) x=codeAt q y)→(ro=none→codeAt p cx.root=some x)→ro=none→codeAt (p++[false]) cx.root=some y:=by
  intro p x y hd h hr
  rw [codeAt_append,h hr,Option.bind_some,hd]
  cases y <;> rfl
 have right:∀ {p:List Bool} {x y:Code},(∀ q,codeAt (true :: q) x=codeAt q y)→(ro=none→codeAt p cx.root=some x)→ro=none→codeAt (p++[true]) cx.root=some y:=by
  intro p x y hd h hr
  rw [codeAt_append,h hr,Option.bind_some,hd]
  cases y <;> rfl
 intro b
 induction b with
 | skip =>
  intro p x c c' out g a w hrc hat hchk h hpn cr fr
  simp only [exec,Option.some.injEq,Prod.mk.injEq] at h
  obtain ⟨rfl,rfl⟩:=h
  cases x <;> simp only [chkC,Bool.false_eq_true] at hchk
  ·exact wpF_of_wpIn (wpIn_skip ⟨g,cr,fr,trivial⟩)
  ·exact wpF_of_wpIn (wpIn_label ⟨g,cr,fr,trivial⟩)
 | ret =>
  intro p x c c' out g a w hrc hat hchk h hpn cr fr
  cases x <;> simp only [chkC,Bool.false_eq_true] at hchk
  simp only [exec,Option.some.injEq,Prod.mk.injEq] at h
  obtain ⟨rfl,rfl⟩:=h
  exact wpF_of_wpIn (wpIn_ret ⟨g,cr,fr,trivial⟩)
 | exit i =>
  intro p x c c' out g a w hrc hat hchk h hpn cr fr
  cases x <;> simp only [chkC,Bool.false_eq_true] at hchk
  simp only [beq_iff_eq] at hchk
  simp only [exec,Option.some.injEq,Prod.mk.injEq] at h
  obtain ⟨rfl,rfl⟩:=h
  exact wpF_of_wpIn (wpIn_exit ⟨g,cr,fr,hchk.symm⟩)
 | reg draw fl pok ops =>
  intro p x c c' out g a w hrc hat hchk h hpn cr fr
  cases x <;> first | (simp only [chkC,Bool.false_eq_true] at hchk; done) | skip
  refine wpF_of_wpIn (reg_sound hk.nodup hrec (hrc.imp id fun hr ao hao f as he => ?_) hchk cr hpn h)
  simp only [roundC,List.all_eq_true] at hr
  have:=hr ao hao
  simp [he] at this
 | seq p1 q1 ihp ihq =>
  intro p x c c' out g a w hrc hat hchk h hpn cr fr
  cases x <;> simp only [chkC,Bool.false_eq_true] at hchk
  simp only [Bool.and_eq_true] at hchk
  simp only [roundC,Bool.and_eq_true] at hrc
  simp only [exec] at h
  refine wpF_seq ?_
  split at h
  ·rename_i c1 h1
   have hpn1:=exec_pn p1 c c1 .norm hpn hlpn h1
   refine wpF_mono (ihp _ _ c c1 .norm g a w (hrc.imp id And.left) (left (fun _=>rfl) hat) hchk.1 h1 hpn cr fr) (fun e a' w' ho => ?_)
   obtain ⟨g1,cr1,fr1,he⟩:=ho
   cases e <;> simp only [OutE] at he
   exact ihq _ _ c1 c' out g1 a' w' (hrc.imp id And.right) (right (fun _=>rfl) hat) hchk.2 h hpn1 cr1 fr1
  ·rename_i r hr
   refine wpF_mono (ihp _ _ c c' out g a w (hrc.imp id And.left) (left (fun _=>rfl) hat) hchk.1 h hpn cr fr) (fun e a' w' ho => ?_)
   obtain ⟨g1,cr1,fr1,he⟩:=ho
   cases e with
   | normal =>
    cases out <;> simp only [OutE] at he
    exact absurd h (hr c')
   | _=>exact ⟨g1,cr1,fr1,he⟩
 | ite t p1 q1 ihp ihq =>
  intro p x c c' out g a w hrc hat hchk h hpn cr fr
  cases x <;> first | (simp only [chkC,Bool.false_eq_true] at hchk; done) | skip
  rename_i co x y
  cases co <;> simp only [chkC,Bool.false_eq_true] at hchk
  simp only [Bool.and_eq_true,beq_iff_eq] at hchk
  simp only [roundC,Bool.and_eq_true] at hrc
  obtain ⟨⟨rfl,h1⟩,h2⟩:=hchk
  simp only [exec] at h
  split at h
  ·rename_i u v hf
   split at h
   ·rename_i hu
    subst hu
    have hb:=(fr u (.bool v) hf).bool_inv
    refine wpF_cond (t:=v) (by rw [eval_tmp,hb]) ?_
    cases v with
    | true=>exact ihp _ _ _ c' out g a w (hrc.imp id And.left) (left (fun _=>rfl) hat) h1 h hpn (cr.noflag _) FlagR.none
    | false=>exact ihq _ _ _ c' out g a w (hrc.imp id And.right) (right (fun _=>rfl) hat) h2 h hpn (cr.noflag _) FlagR.none
   ·cases h
  ·cases h
 | its s p1 q1 ihp ihq =>
  intro p x c c' out g a w hrc hat hchk h hpn cr fr
  cases x <;> first | (simp only [chkC,Bool.false_eq_true] at hchk; done) | skip
  rename_i co x y
  cases co <;> simp only [chkC,Bool.false_eq_true] at hchk
  simp only [Bool.and_eq_true,beq_iff_eq,Bool.not_eq_true'] at hchk
  simp only [roundC,Bool.and_eq_true] at hrc
  obtain ⟨⟨⟨hs,hp⟩,h1⟩,h2⟩:=hchk
  simp only [exec] at h
  split at h
  ·rename_i v hf
   have hb:=(hf ▸ cr.sr.get hs hp).bool_inv
   refine wpF_cond (t:=v) (by rw [eval_tmp,hb]) ?_
   cases v with
   | true=>exact ihp _ _ _ c' out g a w (hrc.imp id And.left) (left (fun _=>rfl) hat) h1 h hpn (cr.noflag _) FlagR.none
   | false=>exact ihq _ _ _ c' out g a w (hrc.imp id And.right) (right (fun _=>rfl) hat) h2 h hpn (cr.noflag _) FlagR.none
  ·cases h
 | block id p1 ihp =>
  intro p x c c' out g a w hrc hat hchk h hpn cr fr
  cases x <;> simp only [chkC,Bool.false_eq_true] at hchk
  simp only [Bool.and_eq_true,beq_iff_eq] at hchk
  obtain ⟨rfl,h1⟩:=hchk
  simp only [exec] at h
  refine wpF_block ?_
  split at h
  ·rename_i i c1 hx
   refine wpF_mono (ihp _ _ c c1 (.exit i) g a w hrc (left (fun _=>rfl) hat) h1 hx hpn cr fr) (fun e a' w' ho => ?_)
   obtain ⟨g1,cr1,fr1,he⟩:=ho
   cases e <;> simp only [OutE] at he
   subst he
   simp only [Exit.inBlock]
   split at h
   ·rename_i hi
    cases h
    rw [if_pos hi]
    exact ⟨g1,cr1,fr1,trivial⟩
   ·rename_i hi
    cases h
    rw [if_neg hi]
    exact ⟨g1,cr1,fr1,rfl⟩
  ·rename_i r hr
   refine wpF_mono (ihp _ _ c c' out g a w hrc (left (fun _=>rfl) hat) h1 h hpn cr fr) (fun e a' w' ho => ?_)
   obtain ⟨g1,cr1,fr1,he⟩:=ho
   cases e with
   | exit i =>
    cases out <;> simp only [OutE] at he
    exact absurd h (hr _ _)
   | _=>exact ⟨g1,cr1,fr1,he⟩
 | scope p1 ihp =>
  intro p x c c' out g a w hrc hat hchk h hpn cr fr
  cases x <;> simp only [chkC,Bool.false_eq_true] at hchk
  simp only [exec] at h
  exact wpF_scope (ihp _ _ c c' out g a w hrc (left (fun _=>rfl) hat) hchk h hpn cr fr) (fun l a w ho=>by
   obtain ⟨g1,cr1,fr1,he⟩:=ho
   cases out <;> simp only [OutE] at he)
 | loop p1 ihp =>
  intro p x c c' out g a w hrc hat hchk h hpn cr fr
  cases x <;> simp only [chkC,Bool.false_eq_true] at hchk
  simp only [exec,hpn,Option.isSome_none,Bool.false_eq_true,if_false] at h
  exact wp_of_wpLoop (hloop cx ro (p++[false]) _ p1 c c' out g a w rfl rfl rfl rfl hk hrc (left (fun _=>rfl) hat) hchk h hpn cr fr)
 | range f y cap path =>
  intro p x c c' out g a w hrc hat hchk h hpn cr fr
  rcases hrc with rfl | hrc
  ·exact range_sound hk hrec (hat rfl) hchk h hpn cr
  ·simp [roundC] at hrc
 | no =>
  intro p x c c' out g a w hrc hat hchk h hpn cr fr
  simp [exec] at h
 | pre sz p1 ihp =>
  intro p x c c' out g a w hrc hat hchk h hpn cr fr
  simp only [exec] at h
  obtain ⟨g',hle,cr'⟩:=cr.pre sz
  exact ihp p x _ c' out g' a w hrc hat (chkC_pre hchk) h hpn cr' (fun t v hv=>(fr t v hv).mono hle)
 | brt fl deps ops =>
  intro p x c c' out g a w hrc hat hchk h hpn cr fr
  exact wpF_of_wpIn (brtreg_sound hk.nodup hrec hchk cr hpn h)
 | frz s p1 ihp =>
  intro p x c c' out g a w hrc hat hchk h hpn cr fr
  obtain ⟨⟨t,hs,h1⟩,h2⟩:=chkC_frz hchk
  simp only [exec] at h
  split at h
  ·rename_i v hh hf
   obtain ⟨g',hle,cr'⟩:=cr.frz hs h1 hf
   exact ihp p x _ c' out g' a w hrc hat h2 h hpn cr' (fun t v hv=>(fr t v hv).mono hle)
  ·cases h
end
end Go.Am
