/- Runs; arguments; the bridge to a row. -/
import Derived.Test.YtloeagdggmolcaaGreatDoorCoreC
import Derived.ChangeSame
import Derived.RowKit3
import Derived.Test.YtloeagdggmolcaaGreatDoorCoreA
import Derived.ChangeArms
import Derived.DataReads
import GoSem.ClaimJoined
import Derived.ChangeStays
import Derived.ChangeAt
import Derived.OpenShut
import Derived.LaidHandle
import Derived.LaidSub
set_option linter.unusedVariables false
set_option linter.unusedSimpArgs false
namespace Go.Am
def OutPS (cx:Cx) (c:Cfg) (out:Out) (c₀:Go.Frame) (cs:List Go.Frame) (e:Exit) (a:Act) (cs':List Go.Frame) (w:World):Prop :=
 ∃ g m,CR cx c g a w∧FlagR c.flag g a∧OutE g out e∧PnR g c.pn m∧cs'={ c₀ with mode:=m } :: cs
section
variable {cx:Cx} {c c':Cfg} {g:G} {a:Act} {w:World} {rec:Rec} {out:Out}
theorem PnR.known {p:Option (Option V)} {m:FrameMode} (h:PnR g p m):p.isSome=true:=by
 cases p with
 | none=>exact h.elim
 | some _=>rfl
theorem wpS_mono {P:Program} {x:Code} {Q Q':Exit→Act→List Go.Frame→World→Prop} {a:Act} {cs:List Go.Frame} {w:World} (h:x.wpS P Q a cs w) (hq:∀ e a cs w,Q e a cs w→Q' e a cs w):x.wpS P Q' a cs w :=
 fun b k h1 h2=>let ⟨e,a',cs',w',q,r⟩:=h b k h1 h2; ⟨e,a',cs',w',hq _ _ _ _ q,r⟩
def Exit.inBlockS (id:Nat) (Q:Exit→Act→List Go.Frame→World→Prop):Exit→Act→List Go.Frame→World→Prop
 | .exit id',a,cs,w=>if id'=id then Q .normal a cs w else Q (.exit id') a cs w
 | e,a,cs,w=>Q e a cs w
theorem wpS_block {P:Program} {Q:Exit→Act→List Go.Frame→World→Prop} {a:Act} {cs:List Go.Frame} {w:World} {id:Nat} {c:Code} (h:c.wpS P (Exit.inBlockS id Q) a cs w):(Code.block id c).wpS P Q a cs w:=by
 intro b k hb hr
 obtain ⟨e,a₁,cs₁,w₁,hq,harr⟩:=h b (.inBlock id :: k) hb hr
 cases e with
 | normal=>exact ⟨.normal,a₁,cs₁,w₁,hq,.head step_block (Steps.trans harr (.one step_inBlock))⟩
 | exit id' =>
  by_cases hid:id'=id
  ·simp only [Exit.inBlockS,hid,if_true] at hq
   exact ⟨.normal,a₁,cs₁,w₁,hq,.head step_block (harr k (by simp [exitTo,hid]))⟩
  ·simp only [Exit.inBlockS,hid,if_false] at hq
   refine ⟨.exit id',a₁,cs₁,w₁,hq,fun k' hk => .head step_block (harr k' ?_)⟩
   have:(id == id')=false:=by simp; exact fun h=>hid h.symm
   simp [exitTo,this,hk]
 | goto l=>exact ⟨_,a₁,cs₁,w₁,hq,fun k' hk => .head step_block (harr k' (by simp [gotoIn,hk]))⟩
 | ret=>exact ⟨_,a₁,cs₁,w₁,hq,.of_steps (.one step_block) harr⟩
 | panic ch=>exact ⟨_,a₁,cs₁,w₁,hq,.of_steps (.one step_block) harr⟩
 | outgrown=>exact ⟨_,a₁,cs₁,w₁,hq,.of_steps (e:=.outgrown) (.one step_block) harr⟩
theorem step_scope' {P:Program} {b:Go.Frame} {a:Act} {k:List Item} {cs:List Go.Frame} {w:World} {x:Code}:step P (lone (b.at a (.code (.scope x) :: k)) cs w) = .next (lone (b.at a (.code x :: .inScope x :: k)) cs w) :=
 step_lone_go (by simp [stepG,stepG.exec,Frame.at])
theorem step_inScope' {P:Program} {b:Go.Frame} {a:Act} {k:List Item} {cs:List Go.Frame} {w:World} {x:Code}:step P (lone (b.at a (.inScope x :: k)) cs w) = .next (lone (b.at a k) cs w) :=
 step_lone_go (by simp [stepG,stepG.exec,Frame.at])
theorem wpS_scope {P:Program} {Q:Exit→Act→List Go.Frame→World→Prop} {a:Act} {cs:List Go.Frame} {w:World} {c:Code} (h:c.wpS P Q a cs w) (hng:∀ l a cs w,¬ Q (.goto l) a cs w):(Code.scope c).wpS P Q a cs w:=by
 intro b k hb hr
 obtain ⟨e,a₁,cs₁,w₁,hq,harr⟩:=h b (.inScope c :: k) hb hr
 cases e with
 | normal=>exact ⟨.normal,a₁,cs₁,w₁,hq,.head step_scope' (Steps.trans harr (.one step_inScope'))⟩
 | exit id'=>exact ⟨.exit id',a₁,cs₁,w₁,hq,fun k' hk => .head step_scope' (harr k' (by simp [exitTo,hk]))⟩
 | goto l=>exact absurd hq (hng _ _ _ _)
 | ret=>exact ⟨_,a₁,cs₁,w₁,hq,.of_steps (.one step_scope') harr⟩
 | panic ch=>exact ⟨_,a₁,cs₁,w₁,hq,.of_steps (.one step_scope') harr⟩
 | outgrown=>exact ⟨_,a₁,cs₁,w₁,hq,.of_steps (e:=.outgrown) (.one step_scope') harr⟩
theorem exec_soundS (hn:cx.slots.Nodup) (hrec:RecS cx.P cx.gl cx.gs cx.g0.Y rec) (hno:∀ y b a h,rec.round y b a h=none) {c₀:Go.Frame} {cs:List Go.Frame} :
  ∀ (b:ACode) (p:List Bool) (x:Code) (c c':Cfg) (out:Out) (g:G) (a:Act) (w:World) (m:FrameMode),chkC cx p x b=true→exec rec cx.gl b c=some (out,c')→PnR g c.pn m→CR cx c g a w→FlagR c.flag g a →
   x.wpS cx.P (OutPS cx c' out c₀ cs) a ({ c₀ with mode:=m } :: cs) w:=by
 intro b
 induction b with
 | skip =>
  intro p x c c' out g a w m hchk h hpn cr fr
  simp only [exec,Option.some.injEq,Prod.mk.injEq] at h
  obtain ⟨rfl,rfl⟩:=h
  cases x <;> simp only [chkC,Bool.false_eq_true] at hchk
  ·exact wpS_of_wp (wp_skip ⟨g,m,cr,fr,trivial,hpn,rfl⟩)
  ·exact wpS_of_wp (wp_label ⟨g,m,cr,fr,trivial,hpn,rfl⟩)
 | ret =>
  intro p x c c' out g a w m hchk h hpn cr fr
  cases x <;> simp only [chkC,Bool.false_eq_true] at hchk
  simp only [exec,Option.some.injEq,Prod.mk.injEq] at h
  obtain ⟨rfl,rfl⟩:=h
  exact wpS_of_wp (wp_ret ⟨g,m,cr,fr,trivial,hpn,rfl⟩)
 | exit i =>
  intro p x c c' out g a w m hchk h hpn cr fr
  cases x <;> simp only [chkC,Bool.false_eq_true] at hchk
  simp only [beq_iff_eq] at hchk
  simp only [exec,Option.some.injEq,Prod.mk.injEq] at h
  obtain ⟨rfl,rfl⟩:=h
  exact wpS_of_wp (wp_exit ⟨g,m,cr,fr,hchk.symm,hpn,rfl⟩)
 | reg draw fl pok aops =>
  intro p x c c' out g a w m hchk h hpn cr fr
  cases x <;> first | (simp only [chkC,Bool.false_eq_true] at hchk; done) | skip
  rename_i id ops draw'
  simp only [chkC,Bool.and_eq_true,beq_iff_eq] at hchk
  obtain ⟨⟨⟨rfl,hreg⟩,hd⟩,hfl⟩:=hchk
  simp only [exec,regA_def] at h
  split at h
  ·cases h
  split at h
  ·cases h
  ·rename_i hnd _
   have hdf:draw'=false:=by
    cases draw' with
    | false=>rfl
    | true=>simp [hpn.known] at hnd
   subst hdf
   cases hro:runOps rec cx.gl aops [] c with
   | none=>simp [hro] at h
   | some ro =>
    refine wpS_region ?_
    rw [List.range_eq_range']
    refine row_soundS hn hrec hno hreg (ro:=ro) ?_ aops 0 [] c g a w m rfl rfl hpn cr .nil hro
    cases ro with
    | norm env c1 =>
     simp only [hro,Option.some.injEq,Prod.mk.injEq] at h
     obtain ⟨rfl,rfl⟩:=h
     intro g' a' w' m' cr' er' hm'
     exact ⟨g',m',⟨cr'.step,cr'.sr,cr'.df,cr'.gl⟩,flag_of hfl er',trivial,hm',rfl⟩
    | pan j v c1 =>
     simp only [hro,Bool.false_and,Bool.false_eq_true,if_false,Option.some.injEq,Prod.mk.injEq] at h
     obtain ⟨rfl,rfl⟩:=h
     intro g' a' w' x m' cr' hv hm'
     exact ⟨g',m',⟨cr'.step,cr'.sr,cr'.df,cr'.gl⟩,fun t v h=>(by cases h),⟨x,rfl,hv⟩,hm',rfl⟩
 | seq p1 q ihp ihq =>
  intro p x c c' out g a w m hchk h hpn cr fr
  cases x <;> simp only [chkC,Bool.false_eq_true] at hchk
  simp only [Bool.and_eq_true] at hchk
  simp only [exec] at h
  refine wpS_seq ?_
  split at h
  ·rename_i c1 h1
   refine wpS_mono (ihp _ _ c c1 .norm g a w m hchk.1 h1 hpn cr fr) (fun e a' cs' w' ho => ?_)
   obtain ⟨g1,m1,cr1,fr1,he,hp1,rfl⟩:=ho
   cases e <;> simp only [OutE] at he
   exact ihq _ _ c1 c' out g1 a' w' m1 hchk.2 h hp1 cr1 fr1
  ·rename_i r hr
   refine wpS_mono (ihp _ _ c c' out g a w m hchk.1 h hpn cr fr) (fun e a' cs' w' ho => ?_)
   obtain ⟨g1,m1,cr1,fr1,he,hp1,rfl⟩:=ho
   cases e with
   | normal =>
    cases out <;> simp only [OutE] at he
    exact absurd h (hr c')
   | _=>exact ⟨g1,m1,cr1,fr1,he,hp1,rfl⟩
 | ite t p1 q ihp ihq =>
  intro p x c c' out g a w m hchk h hpn cr fr
  cases x <;> first | (simp only [chkC,Bool.false_eq_true] at hchk; done) | skip
  rename_i co x y
  cases co <;> simp only [chkC,Bool.false_eq_true] at hchk
  simp only [Bool.and_eq_true,beq_iff_eq] at hchk
  obtain ⟨⟨rfl,h1⟩,h2⟩:=hchk
  simp only [exec] at h
  split at h
  ·rename_i u v hf
   split at h
   ·rename_i hu
    subst hu
    have hb:=(fr u (.bool v) hf).bool_inv
    refine wpS_cond (t:=v) (by rw [eval_tmp,hb]) ?_
    cases v with
    | true=>exact ihp _ _ _ c' out g a w m h1 h hpn (cr.noflag _) FlagR.none
    | false=>exact ihq _ _ _ c' out g a w m h2 h hpn (cr.noflag _) FlagR.none
   ·cases h
  ·cases h
 | block id p1 ihp =>
  intro p x c c' out g a w m hchk h hpn cr fr
  cases x <;> simp only [chkC,Bool.false_eq_true] at hchk
  simp only [Bool.and_eq_true,beq_iff_eq] at hchk
  obtain ⟨rfl,h1⟩:=hchk
  simp only [exec] at h
  refine wpS_block ?_
  split at h
  ·rename_i i c1 hx
   refine wpS_mono (ihp _ _ c c1 (.exit i) g a w m h1 hx hpn cr fr) (fun e a' cs' w' ho => ?_)
   obtain ⟨g1,m1,cr1,fr1,he,hp1,hcs⟩:=ho
   cases e <;> simp only [OutE] at he
   subst he
   simp only [Exit.inBlockS]
   split at h
   ·rename_i hi
    cases h
    rw [if_pos hi]
    exact ⟨g1,m1,cr1,fr1,trivial,hp1,hcs⟩
   ·rename_i hi
    cases h
    rw [if_neg hi]
    exact ⟨g1,m1,cr1,fr1,rfl,hp1,hcs⟩
  ·rename_i r hr
   refine wpS_mono (ihp _ _ c c' out g a w m h1 h hpn cr fr) (fun e a' cs' w' ho => ?_)
   obtain ⟨g1,m1,cr1,fr1,he,hp1,hcs⟩:=ho
   cases e with
   | exit i =>
    cases out <;> simp only [OutE] at he
    exact absurd h (by subst he; exact hr _ _)
   | _=>exact ⟨g1,m1,cr1,fr1,he,hp1,hcs⟩
 | loop p1 ihp =>
  intro p x c c' out g a w m hchk h hpn cr fr
  simp [exec,hpn.known] at h
 | scope p1 ihp =>
  intro p x c c' out g a w m hchk h hpn cr fr
  cases x <;> simp only [chkC,Bool.false_eq_true] at hchk
  simp only [exec] at h
  exact wpS_scope (ihp _ _ c c' out g a w m hchk h hpn cr fr) (fun l a cs w ho=>by
   obtain ⟨g1,m1,cr1,fr1,he,_⟩:=ho
   cases out <;> simp only [OutE] at he)
 | its s p1 q ihp ihq =>
  intro p x c c' out g a w m hchk h hpn cr fr
  cases x <;> first | (simp only [chkC,Bool.false_eq_true] at hchk; done) | skip
  rename_i co x y
  cases co <;> simp only [chkC,Bool.false_eq_true] at hchk
  simp only [Bool.and_eq_true,beq_iff_eq,Bool.not_eq_true'] at hchk
  obtain ⟨⟨⟨hs,hp⟩,h1⟩,h2⟩:=hchk
  simp only [exec] at h
  split at h
  ·rename_i v hf
   have hb:=(hf ▸ cr.sr.get hs hp).bool_inv
   refine wpS_cond (t:=v) (by rw [eval_tmp,hb]) ?_
   cases v with
   | true=>exact ihp _ _ _ c' out g a w m h1 h hpn (cr.noflag _) FlagR.none
   | false=>exact ihq _ _ _ c' out g a w m h2 h hpn (cr.noflag _) FlagR.none
  ·cases h
 | range f y cap path =>
  intro p x c c' out g a w m hchk h hpn cr fr
  simp [exec,hpn.known] at h
 | no =>
  intro p x c c' out g a w m hchk h hpn cr fr
  simp [exec] at h
 | pre sz p1 ihp =>
  intro p x c c' out g a w m hchk h hpn cr fr
  simp only [exec] at h
  obtain ⟨g',hle,cr'⟩:=cr.pre sz
  exact ihp p x _ c' out g' a w m (chkC_pre hchk) h (hpn.mono hle) cr' (fun t v hv=>(fr t v hv).mono hle)
 | brt fl deps ops =>
  intro p x c c' out g a w m hchk h hpn cr fr
  simp [exec,hpn.known] at h
 | frz s p1 ihp =>
  intro p x c c' out g a w m hchk h hpn cr fr
  obtain ⟨⟨t,hs,h1⟩,h2⟩:=chkC_frz hchk
  simp only [exec] at h
  split at h
  ·rename_i v hh hf
   obtain ⟨g',hle,cr'⟩:=cr.frz hs h1 hf
   exact ihp p x _ c' out g' a w m h2 h (hpn.mono hle) cr' (fun t v hv=>(fr t v hv).mono hle)
  ·cases h
end
def chkRes (cx:Cx):List ResultVar→List ARes→Bool
 | [],[]=>true
 | .tmp t :: vs,.slot s :: rs=>cx.slots[s]? == some t && !cx.pr s&&chkRes cx vs rs
 | .cell t ty :: vs,.cell s size ag :: rs=>cx.slots[s]? == some t && !cx.pr s&&tyOk cx.P ty size ag&&chkRes cx vs rs
 | .cell t ty :: vs,.prom s size ag :: rs=>cx.slots[s]? == some t&&cx.pr s&&tyOk cx.P ty size ag&&chkRes cx vs rs
 | _,_=>false
def resF (tmps:Array Value):ResultVar→Sem Value
 | .tmp t=>pure (tmps.getD t undef)
 | .cell a t=>do loadVar t (← asAddr (tmps.getD a undef))
theorem results_eq (fn:Func) (tmps:Array Value):results fn tmps=(do let vs ← fn.results.mapM (resF tmps); pure (if h:vs.size=1 then vs[0] else .tuple vs)):=by
 unfold results
 congr 1
section
variable {cx:Cx} {sl:List V} {g:G} {h:Heap} {w:World} {tmps:Array Value}
theorem res_sound (hr:Rep g h w) (sr:SlR cx sl g h w tmps):∀ (vs:List ResultVar) (rs:List ARes) (out:List V),chkRes cx vs rs=true→resL h sl rs=some out →
  ∃ xs,(vs.mapM (resF tmps)).run cx.P w = .ok xs w∧RVs g out xs
 | [],[],out,hc,ho=>by
  simp only [resL,Option.some.injEq] at ho
  subst ho
  exact ⟨[],by simp,.nil⟩
 | v :: vs,r :: rs,out,hc,ho=>by
  simp only [resL] at ho
  split at ho
  ·rename_i u us hu hus
   cases ho
   have one:chkRes cx vs rs=true∧∃ x,(resF tmps v).run cx.P w = .ok x w∧RV g u x:=by
    cases v with
    | tmp t =>
     cases r <;> simp only [chkRes,Bool.false_eq_true] at hc
     case slot s =>
      simp only [Bool.and_eq_true,beq_iff_eq,Bool.not_eq_true'] at hc
      simp only [resV,Option.some.injEq] at hu
      subst hu
      exact ⟨hc.2,_,by simp [resF],sr.get hc.1.1 hc.1.2⟩
    | cell t ty =>
     cases r <;> simp only [chkRes,Bool.false_eq_true] at hc
     case cell s size ag =>
      simp only [Bool.and_eq_true,beq_iff_eq,Bool.not_eq_true'] at hc
      simp only [resV] at hu
      obtain ⟨ad,hx,vv,hrun,hvv⟩:=load_sound (P:=cx.P) hr hc.1.2 (sr.get hc.1.1.1 hc.1.1.2) hu
      exact ⟨hc.2,vv,by simp only [resF,hx,asAddr,Sem.run_bind,Sem.run_pure,Result.andThen_ok,hrun],hvv⟩
     case prom s size ag =>
      simp only [Bool.and_eq_true,beq_iff_eq] at hc
      simp only [resV] at hu
      split at hu
      ·rename_i hcond
       obtain ⟨hdef,hsz⟩:=hcond
       obtain ⟨v,hv,hne⟩:=defd_spec hdef
       have hgd:sl.getD s .undef=v:=by simp [List.getD,hv]
       rw [hgd] at hu hsz
       obtain ⟨blk,hx,_,_,_,arr,e,lo,hi,hh,_,hrv,_⟩:=sr.prm s t v hc.1.1.1 hv hc.1.1.2 hne
       have ht:=hc.1.2
       have hlen:=hrv.length
       simp only [Array.length_toList] at hlen
       refine ⟨hc.2,?_⟩
       by_cases h0:size=0
       ·have hag:ag=true:=by
         cases ag with
         | true=>rfl
         | false=>have:=mkV_one hu rfl; omega
        subst hag
        subst h0
        have hcs:cellsV v=[]:=List.length_eq_zero_iff.1 hsz
        rw [hcs] at hu
        simp only [mkV,if_true,Option.some.injEq] at hu
        subst hu
        exact ⟨.agg #[],by simp only [resF,hx,asAddr,Sem.run_bind,Sem.run_pure,Result.andThen_ok,run_loadVar_none ht],.agg _ _ (by simpa using RVs.nil)⟩
       ·obtain ⟨vv,hrun,hvv⟩:=run_loadVar_blk (P:=cx.P) ht hh (off:=0) (by omega) (fun ha=>by subst ha; have:=mkV_one hu rfl; omega)
        refine ⟨vv,by simp only [resF,hx,asAddr,Sem.run_bind,Sem.run_pure,Result.andThen_ok,hrun],?_⟩
        refine mkV_rv hrv hu vv ?_
        have hfull:arr.toList.take size=arr.toList:=List.take_of_length_le (by simp; omega)
        cases ag with
        | true=>simpa [hfull] using hvv
        | false=>simpa using hvv
      ·cases hu
   obtain ⟨hcs,x,hx,hrv⟩:=one
   obtain ⟨xs,hxs,hrvs⟩:=res_sound hr sr vs rs us hcs hus
   exact ⟨x :: xs,by simp [hx,hxs],.cons _ _ _ _ hrv hrvs⟩
  ·cases ho
 | [],_ :: _,_,hc,_=>by simp [chkRes] at hc
 | v :: _,[],_,hc,_=>by cases v <;> simp [chkRes] at hc
theorem result_sound (hr:Rep g h w) (sr:SlR cx sl g h w tmps) {fn:Func} {rs:List ARes} {v:V} (hc:chkRes cx fn.results.toList rs=true) (ho:resultV h sl rs=some v) :
  ∃ x,(results fn tmps).run cx.P w = .ok x w∧RV g v x:=by
 unfold resultV at ho
 cases hres:resL h sl rs with
 | none=>simp [hres] at ho
 | some out =>
  obtain ⟨xs,hxs,hrv⟩:=res_sound hr sr _ _ out hc hres
  have hrun:(fn.results.mapM (resF tmps)).run cx.P w = .ok xs.toArray w:=by
   rw [Array.mapM_eq_mapM_toList,map_eq_pure_bind]
   simp only [Sem.run_bind,hxs,Result.andThen_ok,Sem.run_pure]
  rw [results_eq]
  simp only [Sem.run_bind,hrun,Result.andThen_ok,Sem.run_pure]
  refine ⟨_,rfl,?_⟩
  rw [hres] at ho
  cases hrv with
  | nil =>
   simp at ho
   subst ho
   exact .tup _ _ .nil
  | cons u us x xs h1 h2 =>
   cases h2 with
   | nil =>
    simp at ho
    subst ho
    simpa using h1
   | cons u2 us2 x2 xs2 h3 h4 =>
    simp at ho
    subst ho
    simp
    exact .tup _ _ (.cons _ _ _ _ h1 (.cons _ _ _ _ h3 h4))
end
def ModeR (g:G):Option V→FrameMode→Prop
 | none,m=>m = .returning
 | some v,m=>∃ x,m = .panicking [{ v:=x,recovered:=false }]∧RV g v x
theorem ModeR.mono {g g':G} (hg:g.le g') {u:Option V} {m:FrameMode} (h:ModeR g u m):ModeR g' u m:=by
 cases u with
 | none=>exact h
 | some v=>obtain ⟨x,h1,h2⟩:=h; exact ⟨x,h1,h2.mono hg⟩
theorem ModeR.pn {g:G} {u:Option V} {m:FrameMode} (h:ModeR g u m):PnR g (some u) m:=by
 cases u with
 | none=>exact .inl h
 | some v=>exact h
theorem PnR.after {g:G} {u:Option V} {m:FrameMode} (h:PnR g (some u) m):ModeR g u (settle m):=by
 cases u with
 | none =>
  rcases h with rfl | ⟨x,rfl⟩
  ·rfl
  ·rfl
 | some v =>
  obtain ⟨x,rfl,hv⟩:=h
  exact ⟨x,rfl,hv⟩
def DcallOK (P:Program) (gl:Nat→List V) (gs:List Nat) (Yt:Nat→Option YInfo) (dcall:Nat→List V→Option V→Heap→Option (Option V×Heap)):Prop :=
 ∀ n args u h u' h',dcall n args u h=some (u',h')→Enters P n∧∀ g w (vs:Array Value) m,Rep g h w→GlOk gl gs g.M→g.Y=Yt→RVs g args vs.toList→ModeR g u m →
  CallsD P n vs m w fun e m' w'=>∃ g',Step g h w g' h' w'∧(∃ x,e = .returned x)∧PnR g' (some u') m'
structure RecOK (P:Program) (gl:Nat→List V) (gs:List Nat) (Yt:Nat→Option YInfo) (rec:Rec):Prop where
 call:CallOK P gl gs Yt rec.call
 dcall:DcallOK P gl gs Yt rec.dcall
 loop:LoopOK P gl gs Yt rec.loop
 lpn:∀ b c c' out,rec.loop b c=some (out,c')→c.pn=none→c'.pn=none
 ro:RoOK P gl gs Yt rec.ro
 round:RoundOK P gl gs Yt rec.round
 lro:∀ b c c' out,roC b=true→rec.loop b c=some (out,c')→c'.h=c.h∧c'.dfs=c.dfs
theorem RecOK.s {P:Program} {gl:Nat→List V} {gs:List Nat} {Yt:Nat→Option YInfo} {rec:Rec} (h:RecOK P gl gs Yt rec):RecS P gl gs Yt rec:=⟨h.call,h.ro,h.round⟩
def promOk (af:AFunc):Bool :=
 (List.range af.slots.length).all fun s => !af.prom.getD s false||(match af.slots[s]? with | some t=>decide (af.nparams≤t) | none=>false)
def promOkY (af:AFunc):Bool :=
 (List.range af.slots.length).all fun s => !af.prom.getD s false||(match af.slots[s]? with | some t => !af.ins.contains t | none=>false)
abbrev Tab:=Nat→Option (FuncId×List Bool×List Nat)
noncomputable def Cx.of (P:Program) (gl:Nat→List V) (gs:List Nat) (tab:Tab) (f:FuncId) (fn:Func) (code:Code) (af:AFunc) (g:G) (h:Heap) (w:World):Cx:=⟨P,gl,gs,af.slots,af.prom,fn.ntmps,g,h,w,f,code,tab⟩
def Cx.dum (P:Program) (gs:List Nat) (W:World) (tab:Tab) (f:FuncId) (fn:Func) (code:Code) (af:AFunc):Cx :=
 ⟨P,fun _=>[],gs,af.slots,af.prom,fn.ntmps,⟨fun _=>none,fun _ _=>none,fun _=>none⟩,[],W,f,code,tab⟩
def chkF (P:Program) (gs:List Nat) (W:World) (tab:Tab) (f:FuncId) (fn:Func) (code:Code) (af:AFunc):Bool :=
 decide (af.nparams≤fn.ntmps)&&decide af.slots.Nodup&&promOk af&&chkC (Cx.dum P gs W tab f fn code af) [] code af.body &&
  chkRes (Cx.dum P gs W tab f fn code af) fn.results.toList af.results && !(fn.name == "runtime.NumGoroutine")
def chkY (P:Program) (gs:List Nat) (W:World) (tab:Tab) (y:Nat) (af:AFunc):Bool :=
 match tab y with
 | some (f,path,caps)=>match P.funcs[f]? with
  | some fn=>match fn.body with
   | some x=>match codeAt path x with
    | some (.rangeFunc _ ps as bd)=>decide (af.ins=caps++ps.toList)&&decide af.ins.Nodup&&ps.toList.all (fun t=>decide (t<fn.ntmps))&&decide af.slots.Nodup&&promOkY af &&
      chkC (Cx.dum P gs W tab f fn x af) [] as af.asg&&chkC (Cx.dum P gs W tab f fn x af) [] bd af.body&&roundC af.asg&&roundC af.body
    | _=>false
   | none=>false
  | none=>false
 | none=>false
theorem chkC_any {P:Program} {gl gl':Nat→List V} {gs sl:List Nat} {pr:List Bool} {nt:Nat} {g0 g0':G} {h0 h0':Heap} {w0 w0':World} {f:FuncId} {rt:Code} {tab:Tab}:∀ (a:ACode) (p:List Bool) (x:Code),
  chkC ⟨P,gl,gs,sl,pr,nt,g0,h0,w0,f,rt,tab⟩ p x a=chkC ⟨P,gl',gs,sl,pr,nt,g0',h0',w0',f,rt,tab⟩ p x a:=by
 intro a
 induction a with
 | skip=>intro p x; cases x <;> rfl
 | ret=>intro p x; cases x <;> rfl
 | exit i=>intro p x; cases x <;> rfl
 | reg d fl pok ops=>intro p x; cases x <;> rfl
 | seq p q ihp ihq =>
  intro pa x
  cases x <;> first | rfl | skip
  simp only [chkC]
  rw [ihp,ihq]
 | ite t p q ihp ihq =>
  intro pa x
  cases x <;> first | rfl | skip
  rename_i co y z
  cases co <;> first | rfl | skip
  simp only [chkC]
  rw [ihp,ihq]
 | its t p q ihp ihq =>
  intro pa x
  cases x <;> first | rfl | skip
  rename_i co y z
  cases co <;> first | rfl | skip
  simp only [chkC]
  rw [ihp,ihq]
  rfl
 | block id p ihp =>
  intro pa x
  cases x <;> first | rfl | skip
  simp only [chkC]
  rw [ihp]
 | loop p ihp =>
  intro pa x
  cases x <;> first | rfl | skip
  simp only [chkC]
  rw [ihp]
 | scope p ihp =>
  intro pa x
  cases x <;> first | rfl | skip
  simp only [chkC]
  rw [ihp]
 | range f y cap path=>intro p x; cases x <;> rfl
 | no=>intro p x; cases x <;> rfl
 | pre sz a iha =>
  intro p x
  have:∀ cx:Cx,chkC cx p x (.pre sz a)=chkC cx p x a:=by
   intro cx
   cases x <;> rfl
  rw [this,this,iha]
 | brt fl deps ops =>
  intro p x
  cases x <;> first | rfl | skip
  rename_i id ops' draw
  cases draw <;> rfl
 | frz s p ihp =>
  intro pa x
  have:∀ cx:Cx,chkC cx pa x (.frz s p)=((match cx.slots[s]? with | some _=>true | none=>false)&&chkC cx pa x p):=by
   intro cx
   cases x <;> rfl
  rw [this,this,ihp]
theorem chkRes_any {P:Program} {gl gl':Nat→List V} {gs sl:List Nat} {pr:List Bool} {nt:Nat} {g0 g0':G} {h0 h0':Heap} {w0 w0':World} {f:FuncId} {rt:Code} {tab:Tab}:∀ (vs:List ResultVar) (rs:List ARes),
  chkRes ⟨P,gl,gs,sl,pr,nt,g0,h0,w0,f,rt,tab⟩ vs rs=chkRes ⟨P,gl',gs,sl,pr,nt,g0',h0',w0',f,rt,tab⟩ vs rs
 | [],[]=>rfl
 | [],_ :: _=>rfl
 | v :: vs,[]=>by cases v <;> rfl
 | v :: vs,r :: rs=>by
  have:=chkRes_any (P:=P) (gl:=gl) (gl':=gl') (gs:=gs) (sl:=sl) (pr:=pr) (nt:=nt) (g0:=g0) (g0':=g0') (h0:=h0) (h0':=h0') (w0:=w0) (w0':=w0') (f:=f) (rt:=rt) (tab:=tab) vs rs
  cases v <;> cases r <;> first | rfl | skip
  all_goals
   simp only [chkRes]
   rw [this]
   rfl
def ProgOK (P:Program) (gs:List Nat) (W:World) (tab:Tab) (A:Nat→Option AFunc):Prop :=
 ∀ f af,A f=some af→if af.ins.isEmpty then ∃ fn code,P.funcs[f]?=some fn∧fn.body=some code∧chkF P gs W tab f fn code af=true else chkY P gs W tab f af=true
def LeavesW (P:Program) (fn:Func) (tmps:Array Value) (R:Ending→World→Prop):List Deferred→FrameMode→World→Prop
 | [],u,w=>Leaves P fn tmps R [] u w
 | d :: ds,u,w=>u ≠ .run ∧
   ((∃ r w',d.target = .collected r∧(Instr.takeDeferred r).run P w = .ok [] w'∧LeavesW P fn tmps R ds u w') ∨
    (∃ fv cap f args,d.target = .fn fv cap∧(invoke d.target d.args).run P w = .ok (.enter f args) w ∧
    CallsD P f args u w fun
     | .returned _,u',w'=>LeavesW P fn tmps R ds (settle u') w'
     | .panicked chain,u',w'=>LeavesW P fn tmps R ds (raised u' chain) w'
     | .outgrown,_,w'=>R .outgrown w'))
theorem leaves_stepsW {P:Program} {fn:Func} {tmps:Array Value} {R:Ending→World→Prop}:∀ (ds:List Deferred) (u:FrameMode) (w:World) (fr:Go.Frame)
  (cs:List Go.Frame),fr.mode=u→fr.defers=ds→fr.tmps=tmps→P.funcs[fr.fn]?=some fn→fr.kind = .normal→LeavesW P fn tmps R ds u w →
  ∃ e w' fr',R e w'∧Comes P (lone fr cs w) (lone fr' cs w') e∧fr'.fn=fr.fn∧fr'.leaving P w' e:=by
 intro ds
 induction ds with
 | nil=>exact fun u w fr cs hu hd ht hf hk h=>leaves_steps [] u w fr cs hu hd ht hf hk h
 | cons d ds ih =>
  intro u w fr cs hu hd ht hf hk h
  obtain ⟨hrun,h⟩:=h
  rcases h with ⟨r,w',htar,htake,hrest⟩ | ⟨fv,cap,f,args,htar,hinv,hcall⟩
  ·have h1:=step_collected (cs:=cs) (hu ▸ hrun) hd htar htake
   obtain ⟨e',w'',fr',hR',hs',hfn',hl'⟩:=ih u w' { fr with defers:=[]++ds } cs hu rfl ht hf hk hrest
   exact ⟨e',w'',fr',hR',Comes.of_steps (.one h1) hs',hfn',hl'⟩
  ·have h1:=step_defer (cs:=cs) (hu ▸ hrun) hd htar hinv
   obtain ⟨e,u',w',frX,hR,hsteps,hkX,hgo⟩:=hcall { fr with defers:=ds } cs hu
   cases e with
   | returned v =>
    have h2:=step_going_returned (c:={ { fr with defers:=ds } with mode:=u' }) (cs:=cs) hkX hgo
    obtain ⟨e',w'',fr',hR',hs',hfn',hl'⟩:=ih (settle u') w' { { { fr with defers:=ds } with mode:=u' } with mode:=settle u' } cs rfl rfl ht hf hk hR
    exact ⟨e',w'',fr',hR',Comes.of_steps (.head h1 (Steps.trans hsteps (.one h2))) hs',hfn',hl'⟩
   | panicked chain =>
    have h2:=step_going_panicked (c:={ { fr with defers:=ds } with mode:=u' }) (cs:=cs) hgo
    obtain ⟨e',w'',fr',hR',hs',hfn',hl'⟩:=ih (raised u' chain) w' { { { fr with defers:=ds } with mode:=u' } with mode:=raised u' chain } cs rfl rfl ht hf hk hR
    exact ⟨e',w'',fr',hR',Comes.of_steps (.head h1 (Steps.trans hsteps (.one h2))) hs',hfn',hl'⟩
   | outgrown=>exact ⟨.outgrown,w',fr,hR,Outgrown.of_steps (.one h1) hsteps,rfl,trivial⟩
def bodyPostW (P:Program) (fn:Func) (R:Ending→World→Prop):Exit→Act→World→Prop
 | .normal,a,w | .ret,a,w=>LeavesW P fn a.tmps R a.defers .returning w
 | .panic chain,a,w=>LeavesW P fn a.tmps R a.defers (.panicking chain) w
 | _,_,_=>False
theorem calls_of_wpF {P:Program} {f:FuncId} {fn:Func} {c:Code} {args:Array Value} {w:World} {R:Ending→World→Prop} (hf:P.funcs[f]?=some fn) (hb:fn.body=some c)
  (h:wpF none P c (bodyPostW P fn R) { tmps:=args++Array.replicate (fn.ntmps - args.size) undef,defers:=[] } w):Calls P f args w R:=by
 intro cs
 let b:Go.Frame:={ (default:Go.Frame) with fn:=f,kind:=.normal,roundOf:=none }
 have henter:Frame.enter P f args .normal =
   b.atR { tmps:=args++Array.replicate (fn.ntmps - args.size) undef,defers:=[] } [.code c]:=by
  simp [Frame.enter,Frame.atR,hf,hb,b]
 obtain ⟨e,a',w',hq,harr⟩:=h b [] cs rfl ⟨fn,hf⟩
 rw [← henter] at harr
 cases e with
 | normal =>
  obtain ⟨e',w'',fr',hR,hs,hfn,hl⟩:=leaves_stepsW a'.defers .returning w' { b.atR a' [] with mode:=.returning } cs rfl rfl rfl hf rfl hq
  exact ⟨e',w'',fr',hR,Comes.of_steps (Steps.trans (StepsIn.steps harr) (.one (stepR_end rfl))) hs,hfn,hl⟩
 | ret =>
  obtain ⟨todo,hs₀⟩:=harr.1 rfl
  obtain ⟨e',w'',fr',hR,hs,hfn,hl⟩:=leaves_stepsW a'.defers .returning w' { b.atR a' todo with mode:=.returning } cs rfl rfl rfl hf rfl hq
  exact ⟨e',w'',fr',hR,Comes.of_steps (StepsIn.steps hs₀) hs,hfn,hl⟩
 | panic chain =>
  obtain ⟨todo,hs₀⟩:=harr
  obtain ⟨e',w'',fr',hR,hs,hfn,hl⟩:=leaves_stepsW a'.defers (.panicking chain) w' { b.atR a' todo with mode:=.panicking chain } cs rfl rfl rfl hf rfl hq
  exact ⟨e',w'',fr',hR,Comes.of_steps (StepsIn.steps hs₀) hs,hfn,hl⟩
 | exit id=>exact hq.elim
 | goto l=>exact hq.elim
 | outgrown=>exact hq.elim
section
variable {P:Program} {gl:Nat→List V} {gs:List Nat} {W:World} {tab:Tab} {Yt:Nat→Option YInfo} {A:Nat→Option AFunc} {rec:Rec} {g g0:G} {h h0:Heap} {w w0:World}
theorem DfR.below {n0 D:Nat} {w':World} (hw:∀ i,i≠D→w'.heap[i]?=w.heap[i]?):∀ {top:Nat} {ds:List (V×List V)} {ds':List Deferred},top≤D→DfR P g h w n0 top ds ds'→DfR P g h w' n0 top ds ds'
 | _,[],[],_,_=>trivial
 | top,(f,as) :: ds,d :: ds',ht,.inl ⟨h1,D',h2,h3,h4,h5⟩ => .inl ⟨h1,D',h2,h3,h4.other (hw D' (by omega)),DfR.below hw (by omega) h5⟩
 | top,(f,as) :: ds,d :: ds',ht,.inr ⟨h1,h5⟩ => .inr ⟨h1,DfR.below hw ht h5⟩
 | _,[],_ :: _,_,h=>h
 | _,_ :: _,[],_,h=>by simp [DfR] at h
theorem leave_sound (hrec:DcallOK P gl gs Yt rec.dcall) {cx:Cx} (hP:cx.P=P) (hw0:cx.w0=w0) {fn:Func} {rs:List ARes} (hres:chkRes cx fn.results.toList rs=true) {slots:List V} {tmps:Array Value} {r:R} {h':Heap} :
  ∀ (ds:List (V×List V)) (u:Option V) (h:Heap) (g:G) (w:World) (m:FrameMode) (top:Nat) (ds':List Deferred),leave rec rs slots ds u h=some (r,h')→Step g0 h0 w0 g h w→SlR cx slots g h w tmps→GlOk gl gs g.M→g.Y=Yt→DfR P g h w w0.heap.size top ds ds'→ModeR g u m →
   LeavesW P fn tmps (CallPost g0 h0 w0 r h') ds' m w:=by
 intro ds
 induction ds with
 | nil =>
  intro u h g w m top ds' hl hs sr hgl hY hdf hm
  cases ds' with
  | cons d ds'=>exact hdf.elim
  | nil =>
   cases u with
   | none =>
    obtain rfl:=hm
    simp only [leave,Option.map_eq_some_iff] at hl
    obtain ⟨v,hv,he⟩:=hl
    cases he
    obtain ⟨x,hx,hrv⟩:=result_sound hs.rep sr hres hv
    rw [hP] at hx
    exact ⟨x,hx,v,g,rfl,hrv,hs⟩
   | some v =>
    obtain ⟨x,rfl,hv⟩:=hm
    simp only [leave,Option.some.injEq,Prod.mk.injEq] at hl
    obtain ⟨rfl,rfl⟩:=hl
    exact ⟨v,x,g,rfl,rfl,hv,hs⟩
 | cons d ds ih =>
  intro u h g w m top ds' hl hs sr hgl hY hdf hm
  obtain ⟨f,as⟩:=d
  cases ds' with
  | nil=>simp [DfR] at hdf
  | cons d' ds' =>
   have hrun:m ≠ .run:=by
    cases u with
    | none=>rw [hm]; simp
    | some v=>obtain ⟨x,rfl,_⟩:=hm; simp
   refine ⟨hrun,?_⟩
   rcases hdf with ⟨rfl,D,ht,hlt,hmk,hdf'⟩ | ⟨⟨n,vs,fv,cap,us,h1,h2,h3,h4⟩,hdf'⟩
   ·simp only [leave] at hl
    obtain ⟨k1,k2,k3,k4⟩:=hmk
    have hoth:∀ i,i≠D→(w.putObj D (.deferred none)).heap[i]?=w.heap[i]?:=fun i hi=>World.putObj_heap_other hi
    refine .inl ⟨D,_,ht,run_takeDeferred k4,ih u h g _ m D ds' hl (Step.priv hs k1 k2 k3 rfl rfl rfl (by simp) (fun i _ hi=>hoth i hi)) ⟨sr.len,sr.size,sr.val,fun s t v a1 a2 a3 a4 => ?_,sr.one⟩ hgl hY (DfR.below hoth (Nat.le_refl _) hdf') hm⟩
    obtain ⟨blk,hp⟩:=sr.prm s t v a1 a2 a3 a4
    refine ⟨blk,hp.other (fun he => ?_) (fun i _ hi=>hoth i hi)⟩
    obtain ⟨_,_,_,_,arr,e,lo,hi,h5,_⟩:=hp
    rw [he,k4] at h5
    cases h5
   ·have hfn:∀ x,leave rec rs slots ((f,as) :: ds) x h=(match callee f as with
      | some (n,as)=>match rec.dcall n as x h with
       | some (u',h')=>leave rec rs slots ds u' h'
       | none=>none
      | none=>none):=by
     intro x
     cases f <;> first | (simp [callee] at h1; done) | skip
     cases x <;> rfl
    rw [hfn,h1] at hl
    simp only at hl
    split at hl
    ·rename_i u' h1' hd
     obtain ⟨hent,hsound⟩:=hrec _ _ _ _ _ _ hd
     refine .inr ⟨fv,cap,n,us,h2,by rw [h4,hent],(hsound g w us m hs.rep hgl hY h3 hm).mono fun e m' w' he => ?_⟩
     obtain ⟨g',hst,⟨x,rfl⟩,hpn⟩:=he
     exact ih u' h1' g' w' (settle m') top ds' hl (hs.trans hst) (sr.step hst) (hgl.mono hst.le.1) (hst.le.3.trans hY) (DfR.map hst.le (fun D hm=>hm.step hst) (Nat.le_refl _) hdf') hpn.after
    ·cases hl
theorem getD_nil (args:List V) (t:Nat) (h:args.length≤t):args.getD t .undef = .undef:=by
 simp [List.getD,List.getElem?_eq_none h]
theorem init_slots (hr:Rep g h w) {f:FuncId} {code:Code} {fn:Func} {af:AFunc} (hp:promOk af=true) (hnt:af.nparams≤fn.ntmps) {args:List V} (hlen:args.length=af.nparams) {vs:Array Value} (hv:RVs g args vs.toList) :
  SlR (Cx.of P gl gs tab f fn code af g h w) (initSlots af.slots args) g h w (vs++Array.replicate (fn.ntmps - vs.size) undef):=by
 have hl:=hv.length
 simp only [Array.length_toList] at hl
 have hget:∀ (s t:Nat) (v:V),af.slots[s]?=some t→(initSlots af.slots args)[s]?=some v→v=args.getD t .undef:=by
  intro s t v h1 h2
  simp only [initSlots,List.getElem?_map,h1,Option.map_some,Option.some.injEq] at h2
  exact h2.symm
 have hprom:∀ (s t:Nat) (v:V),af.slots[s]?=some t→(initSlots af.slots args)[s]?=some v→(Cx.of P gl gs tab f fn code af g h w).pr s=true→v = .undef:=by
  intro s t v h1 h2 h3
  rw [hget s t v h1 h2]
  apply getD_nil
  simp only [promOk,List.all_eq_true,List.mem_range] at hp
  have:=hp s (List.getElem?_eq_some_iff.1 h1).1
  simp only [h1] at this
  have h3':af.prom.getD s false=true:=h3
  rw [h3'] at this
  simp at this
  omega
 refine ⟨by simp [initSlots,Cx.of],?_,fun s t v h1 h2 h3 => ?_,fun s t v h1 h2 h3 h4=>absurd (hprom s t v h1 h2 h3) h4,fun s s' t t' v v' blk h1 h2 h3 h4 h5 h6 h7=>absurd (hprom s t v h1 h3 h5) h7⟩
 ·simp only [Array.size_append,Array.size_replicate,Cx.of]
  omega
 ·rw [hget s t v h1 h2]
  by_cases ht:t<args.length
  ·obtain ⟨x,hx,hrv⟩:=hv.get (List.getElem?_eq_getElem ht)
   have e1:args.getD t .undef=args[t]:=by simp [List.getD,List.getElem?_eq_getElem ht]
   have hx':vs[t]?=some x:=by simpa using hx
   have hts:t<vs.size:=by omega
   have e2:(vs++Array.replicate (fn.ntmps - vs.size) undef).getD t undef=x:=by
    simp only [Array.getD_eq_getD_getElem?,Array.getElem?_append_left hts,hx',Option.getD_some]
   rw [e1,e2]
   exact hrv
  ·rw [getD_nil _ _ (by omega)]
   exact .d _ _ (.undef _)
theorem enters_of {f:Nat} {fn:Func} {code:Code} (hf:P.funcs[f]?=some fn) (hb:fn.body=some code) (hn:(fn.name == "runtime.NumGoroutine")=false):Enters P f:=by
 intro vs w
 simp [callFunc,hf,hn,hb]
 intro h
 simp [h] at hn
theorem prog_fn (hprog:ProgOK P gs W tab A) {f:Nat} {af:AFunc} (hA:A f=some af) (hi:af.ins.isEmpty=true):∃ fn code,P.funcs[f]?=some fn∧fn.body=some code∧chkF P gs W tab f fn code af=true:=by
 have:=hprog f af hA
 rwa [if_pos hi] at this
theorem prog_rnd (hprog:ProgOK P gs W tab A) {f:Nat} {af:AFunc} (hA:A f=some af) (hi:af.ins.isEmpty=false):chkY P gs W tab f af=true:=by
 have:=hprog f af hA
 rwa [if_neg (by simp [hi])] at this
theorem call_step (hprog:ProgOK P gs W tab A) (hrec:RecOK P gl gs (yOf P tab) rec):CallOK P gl gs (yOf P tab) (callF rec gl A):=by
 intro f args h r h' hcall
 unfold callF at hcall
 split at hcall
 ·rename_i af hA
  split at hcall
  ·rename_i hcond
   obtain ⟨hlen,hins⟩:=hcond
   obtain ⟨fn,code,hf,hb,hchk⟩:=prog_fn hprog hA hins
   simp only [chkF,Bool.and_eq_true,decide_eq_true_eq,Bool.not_eq_true'] at hchk
   obtain ⟨⟨⟨⟨⟨hnt,hnd⟩,hpo⟩,hc⟩,hres⟩,hname⟩:=hchk
   refine ⟨enters_of hf hb hname,fun g w vs hr hgl hY hv => ?_⟩
   have hc':chkC (Cx.of P gl gs tab f fn code af g h w) [] code af.body=true:=by rw [← hc]; exact chkC_any _ _ _
   have hres':chkRes (Cx.of P gl gs tab f fn code af g h w) fn.results.toList af.results=true:=by rw [← hres]; exact chkRes_any _ _
   have hk:CxOK (Cx.of P gl gs tab f fn code af g h w):=⟨hnd,hY,fn,hf,hb,rfl⟩
   have cr:CR (Cx.of P gl gs tab f fn code af g h w) { slots:=initSlots af.slots args,h:=h } g { tmps:=vs++Array.replicate (fn.ntmps - vs.size) undef,defers:=[] } w :=
    ⟨Step.refl hr,init_slots hr hpo hnt hlen hv,trivial,hgl⟩
   refine calls_of_wpF hf hb ?_
   have key:∀ out c,exec rec gl af.body { slots:=initSlots af.slots args,h:=h }=some (out,c)→(∀ e a' w',OutP (Cx.of P gl gs tab f fn code af g h w) c out e a' w'→bodyPostW P fn (CallPost g h w r h') e a' w') →
     wpF none P code (bodyPostW P fn (CallPost g h w r h')) { tmps:=vs++Array.replicate (fn.ntmps - vs.size) undef,defers:=[] } w:=by
    intro out c hx hpost
    exact wpF_mono (exec_sound (cx:=Cx.of P gl gs tab f fn code af g h w) hk (hY ▸ hrec.s) (hY ▸ hrec.loop) hrec.lpn af.body [] code _ c out g _ w (.inl rfl) (fun _=>rfl) hc' hx rfl cr FlagR.none) hpost
   split at hcall
   ·rename_i c hx
    refine key _ c hx (fun e a' w' ho => ?_)
    obtain ⟨g1,cr1,_,he⟩:=ho
    cases e <;> simp only [OutE] at he
    exact leave_sound hrec.dcall rfl rfl hres' c.dfs none c.h g1 w' .returning _ a'.defers hcall cr1.step cr1.sr cr1.gl (cr1.step.le.3.trans hY) cr1.df rfl
   ·rename_i c hx
    refine key _ c hx (fun e a' w' ho => ?_)
    obtain ⟨g1,cr1,_,he⟩:=ho
    cases e <;> simp only [OutE] at he
    exact leave_sound hrec.dcall rfl rfl hres' c.dfs none c.h g1 w' .returning _ a'.defers hcall cr1.step cr1.sr cr1.gl (cr1.step.le.3.trans hY) cr1.df rfl
   ·rename_i v c hx
    refine key _ c hx (fun e a' w' ho => ?_)
    obtain ⟨g1,cr1,_,he⟩:=ho
    cases e <;> simp only [OutE] at he
    obtain ⟨x,rfl,hvx⟩:=he
    exact leave_sound hrec.dcall rfl rfl hres' c.dfs (some v) c.h g1 w' _ _ a'.defers hcall cr1.step cr1.sr cr1.gl (cr1.step.le.3.trans hY) cr1.df ⟨x,rfl,hvx⟩
   ·cases hcall
  ·cases hcall
 ·cases hcall
theorem RecS.noround (h:RecS P gl gs Yt rec):RecS P gl gs Yt { rec with round:=fun _ _ _ _=>none }:=⟨h.call,h.ro,fun _ _ _ _ _ _ h=>by cases h⟩
theorem dcall_step (hprog:ProgOK P gs W tab A) (hrec:RecOK P gl gs (yOf P tab) rec):DcallOK P gl gs (yOf P tab) (dcallF rec gl A):=by
 intro f args u h u' h' hcall
 unfold dcallF at hcall
 split at hcall
 ·rename_i af hA
  split at hcall
  ·rename_i hcond
   obtain ⟨hlen,hins⟩:=hcond
   obtain ⟨fn,code,hf,hb,hchk⟩:=prog_fn hprog hA hins
   simp only [chkF,Bool.and_eq_true,decide_eq_true_eq,Bool.not_eq_true'] at hchk
   obtain ⟨⟨⟨⟨⟨hnt,hnd⟩,hpo⟩,hc⟩,hres⟩,hname⟩:=hchk
   refine ⟨enters_of hf hb hname,fun g w vs m hr hgl hY hv hm => ?_⟩
   have hc':chkC (Cx.of P gl gs tab f fn code af g h w) [] code af.body=true:=by rw [← hc]; exact chkC_any _ _ _
   have hres':chkRes (Cx.of P gl gs tab f fn code af g h w) fn.results.toList af.results=true:=by rw [← hres]; exact chkRes_any _ _
   have cr:CR (Cx.of P gl gs tab f fn code af g h w) { slots:=initSlots af.slots args,pn:=some u,h:=h } g { tmps:=vs++Array.replicate (fn.ntmps - vs.size) undef,defers:=[] } w :=
    ⟨Step.refl hr,init_slots hr hpo hnt hlen hv,trivial,hgl⟩
   refine callsD_of_wpS hf hb (fun c₀ cs hu => ?_)
   have hc0:c₀={ c₀ with mode:=m }:=by cases c₀; simp only at hu; subst hu; rfl
   have key:∀ out c,exec { rec with round:=fun _ _ _ _=>none } gl af.body { slots:=initSlots af.slots args,pn:=some u,h:=h }=some (out,c)→(∀ e a' cs' w',OutPS (Cx.of P gl gs tab f fn code af g h w) c out c₀ cs e a' cs' w' →
      bodyPostS P fn c₀ cs (fun e m' w'=>∃ g',Step g h w g' h' w'∧(∃ x,e = .returned x)∧PnR g' (some u') m') e a' cs' w') →
     code.wpS P (bodyPostS P fn c₀ cs (fun e m' w'=>∃ g',Step g h w g' h' w'∧(∃ x,e = .returned x)∧PnR g' (some u') m')) { tmps:=vs++Array.replicate (fn.ntmps - vs.size) undef,defers:=[] } (c₀ :: cs) w:=by
    intro out c hx hpost
    have:=exec_soundS (cx:=Cx.of P gl gs tab f fn code af g h w) hnd (hY ▸ hrec.s.noround) (fun _ _ _ _=>rfl) (c₀:=c₀) (cs:=cs) af.body [] code _ c out g _ w m hc' hx hm.pn cr FlagR.none
    rw [← hc0] at this
    exact wpS_mono this hpost
   have fin:∀ c,(match c.dfs,c.pn,resultV c.h c.slots af.results with | [],some u',some _=>some (u',c.h) | _,_,_=>none)=some (u',h')→∀ (a':Act) (w':World) (g1:G) (m1:FrameMode),CR (Cx.of P gl gs tab f fn code af g h w) c g1 a' w'→PnR g1 c.pn m1 →
     a'.defers=[]∧∃ u1,({ c₀ with mode:=m1 }:Go.Frame) :: cs={ c₀ with mode:=u1 } :: cs∧∃ v,(results fn a'.tmps).run P w' = .ok v w'∧∃ g',Step g h w g' h' w'∧(∃ x,Ending.returned v = .returned x)∧PnR g' (some u') u1:=by
    intro c hm a' w' g1 m1 cr1 hp1
    split at hm
    ·rename_i u2 v2 hd hpn hv2
     cases hm
     have hde:a'.defers=[]:=by
      have:=cr1.df
      rw [hd] at this
      cases hh:a'.defers with
      | nil=>rfl
      | cons d ds=>rw [hh] at this; exact this.elim
     obtain ⟨x,hx,_⟩:=result_sound cr1.step.rep cr1.sr hres' hv2
     rw [hpn] at hp1
     exact ⟨hde,m1,rfl,x,hx,g1,cr1.step,⟨x,rfl⟩,hp1⟩
    ·cases hm
   split at hcall
   ·rename_i c hx
    refine key _ c hx (fun e a' cs' w' ho => ?_)
    obtain ⟨g1,m1,cr1,_,he,hp1,rfl⟩:=ho
    cases e <;> simp only [OutE] at he
    exact fin c hcall a' w' g1 m1 cr1 hp1
   ·rename_i c hx
    refine key _ c hx (fun e a' cs' w' ho => ?_)
    obtain ⟨g1,m1,cr1,_,he,hp1,rfl⟩:=ho
    cases e <;> simp only [OutE] at he
    exact fin c hcall a' w' g1 m1 cr1 hp1
   ·cases hcall
  ·cases hcall
 ·cases hcall
theorem loop_step (hrec:RecOK P gl gs Yt rec):LoopOK P gl gs Yt (loopF rec gl):=by
 intro cx ro p x b c c' out g a w hP hgl hgs hYt hk hrc hat hchk hl hpn cr fr
 subst hP hgl hgs hYt
 unfold loopF at hl
 refine wpLoop_round ?_
 split at hl
 ·rename_i c1 hx
  have hpn1:=exec_pn (cx:=cx) b c c1 .norm hpn hrec.lpn hx
  refine wpF_mono (exec_sound hk hrec.s hrec.loop hrec.lpn b p x c c1 .norm g a w hrc hat hchk hx hpn cr fr) (fun e a' w' ho => ?_)
  obtain ⟨g1,cr1,fr1,he⟩:=ho
  cases e <;> simp only [OutE] at he
  exact hrec.loop cx ro p x b c1 c' out g1 a' w' rfl rfl rfl rfl hk hrc hat hchk hl hpn1 cr1 fr1
 ·rename_i r hr
  refine wpF_mono (exec_sound hk hrec.s hrec.loop hrec.lpn b p x c c' out g a w hrc hat hchk hl hpn cr fr) (fun e a' w' ho => ?_)
  obtain ⟨g1,cr1,fr1,he⟩:=ho
  cases e with
  | normal =>
   cases out <;> simp only [OutE] at he
   exact absurd hl (hr c')
  | _=>exact ⟨g1,cr1,fr1,he⟩
theorem lpn_step (hrec:RecOK P gl gs Yt rec):∀ b c c' out,loopF rec gl b c=some (out,c')→c.pn=none→c'.pn=none:=by
 intro b c c' out hl hpn
 have hx:=fun b c c' out=>exec_pn (cx:=⟨P,gl,gs,[],[],0,⟨fun _=>none,fun _ _=>none,fun _=>none⟩,[],default,0,.skip,fun _=>none⟩) (rec:=rec) b c c' out
 unfold loopF at hl
 split at hl
 ·rename_i c1 h1
  exact hrec.lpn _ _ _ _ hl (hx _ _ _ _ hpn hrec.lpn h1)
 ·exact hx _ _ _ _ hpn hrec.lpn hl
def SR.quiet:SR→Prop
 | .ok _ _ df _ hp=>df=none∧hp=none
 | .pan _ hp=>hp=none
theorem ro_step' {o:AOper} (ho:(match o.op with | .e _ | .dfr .. | .rcv=>false | _=>true)=true) {env slots:List V} {pn:Option (Option V)} {r:SR} (h':stepOp rec gl o env slots pn h=some r):r.quiet:=by
 obtain ⟨dst,op,gd⟩:=o
 have hput:∀ v,(putSlot dst v).quiet:=by
  intro v
  cases dst <;> exact ⟨rfl,rfl⟩
 have href:∀ v,(ofRef dst v).quiet:=by
  intro v
  cases v with
  | val v=>exact hput v
  | pan v=>rfl
 cases op <;> simp only [Bool.false_eq_true] at ho <;> simp only [stepOp,Option.map_eq_some_iff] at h'
 case p=>obtain ⟨v,_,rfl⟩:=h'; exact hput v
 case pc=>obtain ⟨v,_,rfl⟩:=h'; exact href v
 case l=>obtain ⟨v,_,rfl⟩:=h'; exact href v
 case lz=>obtain ⟨v,_,rfl⟩:=h'; exact hput v
 case no=>cases h'
 case np =>
  split at h'
  ·split at h'
   ·cases h'; exact ⟨rfl,rfl⟩
   ·cases h'
  ·cases h'
 case pa =>
  split at h'
  ·split at h'
   ·split at h'
    ·cases h'; exact ⟨rfl,rfl⟩
    ·split at h'
     ·split at h'
      ·cases h'; exact ⟨rfl,rfl⟩
      ·cases h'
     ·cases h'
   ·cases h'
  ·cases h'
 case pl =>
  split at h'
  ·split at h'
   ·split at h'
    ·simp only [Option.map_eq_some_iff] at h'
     obtain ⟨v,_,rfl⟩:=h'
     exact hput v
    ·cases h'
   ·cases h'
  ·cases h'
 case pu =>
  split at h'
  ·split at h'
   ·split at h'
    ·cases h'; exact ⟨rfl,rfl⟩
    ·cases h'
   ·cases h'
  ·cases h'
 case pan =>
  split at h'
  ·cases h'; rfl
  ·cases h'
theorem ro_ops:∀ (os:List AOper) (env:List V) (c:Cfg) (ro:ROut),(os.all fun o=>match o.op with | .e _ | .dfr .. | .rcv=>false | _=>true)=true→runOps rec gl os env c=some ro →
  (match ro with | .norm _ c'=>c'.h=c.h∧c'.dfs=c.dfs | .pan _ _ c'=>c'.h=c.h∧c'.dfs=c.dfs):=by
 intro os
 induction os with
 | nil =>
  intro env c ro _ hr
  simp only [runOps,Option.some.injEq] at hr
  subst hr
  exact ⟨rfl,rfl⟩
 | cons o os ih =>
  intro env c ro ha hr
  simp only [List.all_cons,Bool.and_eq_true] at ha
  simp only [runOps] at hr
  split at hr
  ·cases hst:stepOp rec gl o env c.slots c.pn c.h with
   | none=>simp [hst] at hr
   | some r =>
    have hk:=ro_step' ha.1 hst
    cases r with
    | ok v wr df pn hp =>
     obtain ⟨rfl,rfl⟩:=hk
     simp only [hst] at hr
     exact ih (env++[v]) { slots:=setSlot c.slots wr,dfs:=c.dfs,flag:=c.flag,pn:=pn.or c.pn,h:=c.h } ro ha.2 hr
    | pan v hp =>
     obtain rfl:=hk
     simp only [hst,Option.some.injEq] at hr
     subst hr
     exact ⟨rfl,rfl⟩
  ·exact ih (env++[V.tup []]) { slots:=setSlot c.slots (Option.map (fun x=>(x,V.tup [])) (slotOf o.dst)),dfs:=c.dfs,flag:=c.flag,pn:=c.pn,h:=c.h } ro ha.2 hr
  ·cases hr
theorem exec_ro (hl:∀ b c c' out,roC b=true→rec.loop b c=some (out,c')→c'.h=c.h∧c'.dfs=c.dfs):∀ (b:ACode) (c c':Cfg) (out:Out),roC b=true→exec rec gl b c=some (out,c')→c'.h=c.h∧c'.dfs=c.dfs:=by
 intro b
 induction b with
 | skip=>intro c c' out _ h; simp only [exec,Option.some.injEq,Prod.mk.injEq] at h; rw [← h.2]; exact ⟨rfl,rfl⟩
 | ret=>intro c c' out _ h; simp only [exec,Option.some.injEq,Prod.mk.injEq] at h; rw [← h.2]; exact ⟨rfl,rfl⟩
 | exit i=>intro c c' out _ h; simp only [exec,Option.some.injEq,Prod.mk.injEq] at h; rw [← h.2]; exact ⟨rfl,rfl⟩
 | reg draw fl pok ops =>
  intro c c' out hr h
  simp only [exec,regA_def] at h
  split at h
  ·cases h
  split at h
  ·cases h
  ·cases hro:runOps rec gl ops [] c with
   | none=>simp [hro] at h
   | some ro =>
    have:=ro_ops ops [] c ro hr hro
    cases ro with
    | norm env c1=>simp only [hro,Option.some.injEq,Prod.mk.injEq] at h; rw [← h.2]; exact this
    | pan j v c1 =>
     simp only [hro] at h
     split at h
     ·cases h
     split at h
     ·cases h
     ·simp only [Option.some.injEq,Prod.mk.injEq] at h; rw [← h.2]; exact this
 | seq a b iha ihb =>
  intro c c' out hr h
  simp only [roC,Bool.and_eq_true] at hr
  simp only [exec] at h
  split at h
  ·rename_i c1 h1
   obtain ⟨e1,e2⟩:=iha _ _ _ hr.1 h1
   obtain ⟨e3,e4⟩:=ihb _ _ _ hr.2 h
   exact ⟨e3.trans e1,e4.trans e2⟩
  ·exact iha _ _ _ hr.1 h
 | ite t a b iha ihb =>
  intro c c' out hr h
  simp only [roC,Bool.and_eq_true] at hr
  simp only [exec] at h
  split at h
  ·split at h
   ·split at h
    ·exact iha { c with flag:=none } _ _ hr.1 h
    ·exact ihb { c with flag:=none } _ _ hr.2 h
   ·cases h
  ·cases h
 | block id a iha =>
  intro c c' out hr h
  simp only [roC] at hr
  simp only [exec] at h
  split at h
  ·rename_i i c1 h1
   have:=iha _ _ _ hr h1
   split at h <;> (simp only [Option.some.injEq,Prod.mk.injEq] at h; rw [← h.2]; exact this)
  ·exact iha _ _ _ hr h
 | loop a iha =>
  intro c c' out hr h
  simp only [exec] at h
  split at h
  ·cases h
  ·exact hl a _ _ _ (by simpa only [roC] using hr) h
 | scope a iha =>
  intro c c' out hr h
  simp only [exec] at h
  exact iha _ _ _ hr h
 | its s a b iha ihb =>
  intro c c' out hr h
  simp only [roC,Bool.and_eq_true] at hr
  simp only [exec] at h
  split at h
  ·split at h
   ·exact iha { c with flag:=none } _ _ hr.1 h
   ·exact ihb { c with flag:=none } _ _ hr.2 h
  ·cases h
 | range f y cap path=>intro c c' out hr h; simp [roC] at hr
 | frz s a iha=>intro c c' out hr h; simp [roC] at hr
 | no=>intro c c' out hr h; simp [exec] at h
 | pre sz a iha=>intro c c' out hr h; simp [roC] at hr
 | brt fl deps ops=>intro c c' out hr h; simp [roC] at hr
theorem lro_step (hrec:RecOK P gl gs Yt rec):∀ b c c' out,roC b=true→loopF rec gl b c=some (out,c')→c'.h=c.h∧c'.dfs=c.dfs:=by
 intro b c c' out hr hl
 unfold loopF at hl
 split at hl
 ·rename_i c1 h1
  obtain ⟨e1,e2⟩:=exec_ro hrec.lro b _ _ _ hr h1
  obtain ⟨e3,e4⟩:=hrec.lro _ _ _ _ hr hl
  exact ⟨e3.trans e1,e4.trans e2⟩
 ·exact exec_ro hrec.lro b _ _ _ hr hl
theorem ro_step (hprog:ProgOK P gs W tab A) (hrec:RecOK P gl gs (yOf P tab) rec):RoOK P gl gs (yOf P tab) (roF rec gl A):=by
 intro f args h r hro
 unfold roF at hro
 split at hro
 case h_2=>cases hro
 rename_i af hA
 split at hro
 case isFalse=>cases hro
 rename_i hrc
 simp only [Option.map_eq_some_iff] at hro
 obtain ⟨⟨r',h'⟩,hc,rfl⟩:=hro
 have hh:h'=h:=by
  unfold callF at hc
  simp only [hA] at hc
  split at hc
  ·have hl:∀ (rs:List ARes) (slots:List V) (u:Option V) (h1:Heap) (r:R) (h':Heap),leave rec rs slots [] u h1=some (r,h')→h'=h1:=by
    intro rs slots u h1 r h' hl
    cases u with
    | none=>simp only [leave,Option.map_eq_some_iff] at hl; obtain ⟨v,_,he⟩:=hl; cases he; rfl
    | some v=>simp only [leave,Option.some.injEq,Prod.mk.injEq] at hl; exact hl.2.symm
   split at hc
   ·rename_i c hx
    obtain ⟨e1,e2⟩:=exec_ro hrec.lro _ _ _ _ hrc hx
    rw [e2] at hc
    exact (hl _ _ _ _ _ _ hc).trans e1
   ·rename_i c hx
    obtain ⟨e1,e2⟩:=exec_ro hrec.lro _ _ _ _ hrc hx
    rw [e2] at hc
    exact (hl _ _ _ _ _ _ hc).trans e1
   ·rename_i v c hx
    obtain ⟨e1,e2⟩:=exec_ro hrec.lro _ _ _ _ hrc hx
    rw [e2] at hc
    exact (hl _ _ _ _ _ _ hc).trans e1
   ·cases hc
  ·cases hc
 subst hh
 exact call_step hprog hrec f args _ r' _ hc
theorem find2_rv (F:Nat→Value) (t:Nat):∀ (is:List Nat) (vs:List V),RVs g vs (is.map F)→RV g (find2 t is vs) (F t)
 | [],[],_ => .d _ _ (.undef _)
 | i :: is,v :: vs,h=>by
  simp only [List.map_cons] at h
  cases h with
  | cons _ _ _ _ h1 h2 =>
   simp only [find2]
   split
   ·rename_i he
    subst he
    exact h1
   ·exact find2_rv F t is vs h2
theorem find2_none {t:Nat}:∀ {is:List Nat} {vs:List V},t ∉ is→find2 t is vs = .undef
 | [],[],_=>rfl
 | [],_ :: _,_=>rfl
 | _ :: _,[],_=>rfl
 | i :: is,v :: vs,h=>by
  simp only [List.mem_cons,not_or] at h
  simp only [find2,if_neg (fun e=>h.1 (Eq.symm e))]
  exact find2_none h.2
theorem fold_other:∀ (l:List (Nat×Value)) (tm:Array Value) (t:Nat),t ∉ l.map (·.1)→(l.foldl (fun tmps (p:Nat×Value)=>tmps.setIfInBounds p.1 p.2) tm).getD t undef=tm.getD t undef
 | [],tm,t,_=>rfl
 | (d,v) :: l,tm,t,h=>by
  simp only [List.map_cons,List.mem_cons,not_or] at h
  rw [List.foldl_cons,fold_other l _ t h.2,getD_put _ (fun e=>h.1 e.symm)]
theorem fold_size:∀ (l:List (Nat×Value)) (tm:Array Value),(l.foldl (fun tmps (p:Nat×Value)=>tmps.setIfInBounds p.1 p.2) tm).size=tm.size
 | [],tm=>rfl
 | (d,v) :: l,tm=>by rw [List.foldl_cons,fold_size l]; simp
theorem fold_map:∀ (ps:List Nat) (vs:List Value) (tm:Array Value),ps.length=vs.length→ps.Nodup→(∀ t∈ps,t<tm.size) →
  ps.map (fun t=>((ps.zip vs).foldl (fun tmps (p:Nat×Value)=>tmps.setIfInBounds p.1 p.2) tm).getD t undef)=vs
 | [],[],tm,_,_,_=>rfl
 | [],_ :: _,_,h,_,_=>by simp at h
 | _ :: _,[],_,h,_,_=>by simp at h
 | d :: ps,v :: vs,tm,hl,hn,hb=>by
  simp only [List.nodup_cons] at hn
  simp only [List.zip_cons_cons,List.foldl_cons,List.map_cons]
  congr 1
  ·rw [fold_other]
   ·exact getD_put_same _ (hb d (by simp))
   ·intro hm
    rw [List.map_fst_zip] at hm
    ·exact hn.1 hm
    ·simp at hl; omega
  ·exact fold_map ps vs _ (by simpa using hl) hn.2 (fun t ht=>by simpa using hb t (by simp [ht]))
theorem roundIn_of_wpF {l:Nat} {f:FuncId} {tmps:Array Value} {assign body:Code} {w:World} {R:Ending→World→Prop} (hF:∃ fn,P.funcs[f]?=some fn)
  (h:wpF (some l) P assign (Exit.then (fun a₁ w₁=>∃ w₂,(Instr.beginRound l).run P w₁ = .ok () w₂∧wpF (some l) P body (fun e a w=>match e with
    | .panic ch=>a.defers=[]∧R (.panicked ch) w
    | e=>roundPost P l R e a w) a₁ w₂) (fun _ _ _=>False))
   { tmps:=tmps,defers:=[] } w) :
  RoundIn (FW none) 0 P l f tmps assign body w R:=by
 refine ⟨trivial,fun c cs hr => ?_⟩
 let b:Go.Frame:={ (default:Go.Frame) with fn:=f,kind:=.normal,roundOf:=some l }
 have hb0:Frame.round l f tmps assign body .normal=b.atR { tmps:=tmps,defers:=[] } [.code assign,.beginRound,.code body]:=by
  simp [Frame.round,Frame.atR,b]
 have ff:=fencedFW P (some l)
 obtain ⟨e,a₁,w₁,hq,harr⟩:=h b [.beginRound,.code body] (c :: cs) rfl hF
 rw [← hb0] at harr
 cases e with
 | normal =>
  obtain ⟨w₂,hbr,hbody⟩:=hq
  have s1:StepsIn (Machine.fenced P (FW (some l))) P (lone (b.atR a₁ [.beginRound,.code body]) (c :: cs) w₁) (lone (b.atR a₁ [.code body]) (c :: cs) w₂) :=
   .one (ff _) (stepR_beginRound rfl hbr)
  obtain ⟨e₂,a₂,w₃,hq₂,harr₂⟩:=hbody b [] (c :: cs) rfl hF
  cases e₂ with
  | normal =>
   obtain ⟨v,w₄,hend,hR⟩:=hq₂
   exact ⟨.returned v,w₄,hR,(StepsIn.trans harr s1).trans (StepsIn.trans harr₂ (.one (ff _) (stepR_round_end rfl rfl hend)))⟩
  | ret =>
   obtain ⟨v,w₄,hend,hR⟩:=hq₂
   obtain ⟨k₁,hs⟩:=harr₂.2 rfl
   exact ⟨.returned v,w₄,hR,(StepsIn.trans harr s1).trans (StepsIn.trans hs (.one (ff _) (stepR_round_ret rfl rfl hend)))⟩
  | exit id =>
   obtain ⟨v,w₄,hend,hR⟩:=hq₂
   obtain ⟨k₁,hk,hs⟩:=harr₂.2 rfl rfl
   exact ⟨.returned v,w₄,hR,(StepsIn.trans harr s1).trans (StepsIn.trans hs (.one (ff _) (stepR_round_exit rfl rfl hk hend)))⟩
  | goto t =>
   obtain ⟨v,w₄,hend,hR⟩:=hq₂
   obtain ⟨k₁,hk,hs⟩:=harr₂.2 rfl rfl
   exact ⟨.returned v,w₄,hR,(StepsIn.trans harr s1).trans (StepsIn.trans hs (.one (ff _) (stepR_round_goto rfl rfl hk hend)))⟩
  | panic chain =>
   obtain ⟨hd,hR⟩:=hq₂
   obtain ⟨todo,hs⟩:=harr₂
   exact ⟨.panicked chain,w₃,hR,(StepsIn.trans harr s1).trans (StepsIn.trans hs (.one (ff _) (step_leave_panicked ⟨rfl,hd,hF⟩)))⟩
  | outgrown=>exact hq₂.elim
 | exit id=>exact hq.elim
 | goto t=>exact hq.elim
 | ret=>exact hq.elim
 | panic chain=>exact hq.elim
 | outgrown=>exact hq.elim
theorem round_step (hprog:ProgOK P gs W tab A) (hrec:RecOK P gl gs (yOf P tab) rec):RoundOK P gl gs (yOf P tab) (roundF rec gl A):=by
 intro y b args h out h' hround fi pd ys hob hargs g w p l vs hr hgl hY hp hh hl hvs
 unfold roundF at hround
 split at hround
 case h_2=>cases hround
 rename_i af hA
 split at hround
 case isFalse=>cases hround
 rename_i hcond
 obtain ⟨hlen,hins⟩:=hcond
 have hchk:=prog_rnd hprog hA hins
 unfold chkY at hchk
 split at hchk
 case h_2=>cases hchk
 rename_i f path caps htab
 split at hchk
 case h_2=>cases hchk
 rename_i fn hfn
 split at hchk
 case h_2=>cases hchk
 rename_i x hbody
 split at hchk
 case h_2=>cases hchk
 rename_i g0' ps as bd hat
 simp only [Bool.and_eq_true,decide_eq_true_eq] at hchk
 obtain ⟨⟨⟨⟨⟨⟨⟨⟨hi,hnin⟩,hpb⟩,hnd⟩,hpo⟩,hca⟩,hcb⟩,hra⟩,hrb⟩:=hchk
 obtain ⟨yi,q1,q2,q3,q4,q5,q6,q7,q8,q9⟩:=hl
 have hyi:yi=⟨fun f=>∃ fn,P.funcs[f]?=some fn,fn.ntmps,ps,as,bd,caps⟩:=by
  rw [hY] at q1
  simp only [yOf,htab,hfn,hbody,hat,Option.some.injEq] at q1
  exact q1.symm
 subst hyi
 simp only at q2 q3 q4 q5 q6 q9
 have hfl:=q9.length
 have hvl:=hvs.length
 simp only [List.length_map] at hfl
 simp only [Array.length_toList] at hvl
 have hpl:ps.toList.length=vs.toList.length:=by
  rw [hargs,hi] at hlen
  simp only [List.length_append,Array.length_toList] at hlen ⊢
  omega
 have hsz:vs.size=l.params.size:=by
  rw [q3]
  simpa using hpl.symm
 refine ⟨hsz,?_⟩
 rw [hi] at hnin
 obtain ⟨hn1,hn2,hn3⟩:=List.nodup_append.1 hnin
 have hfold:(l.params.zip vs).foldl (fun tmps (t,a)=>tmps.setIfInBounds t a) l.tmps=(ps.toList.zip vs.toList).foldl (fun tmps (p:Nat×Value)=>tmps.setIfInBounds p.1 p.2) l.tmps:=by
  rw [q3,← Array.foldl_toList,Array.toList_zip]
 rw [hfold,q4,q5]
 have htb:∀ t∈ps.toList,t<l.tmps.size:=fun t ht=>by
  have:=List.all_eq_true.1 hpb t ht
  rw [q6]
  simpa using this
 have hF1:=fold_map ps.toList vs.toList l.tmps hpl hn2 htb
 have hF2:∀ t∈caps,((ps.toList.zip vs.toList).foldl (fun tmps (p:Nat×Value)=>tmps.setIfInBounds p.1 p.2) l.tmps).getD t undef=l.tmps.getD t undef:=fun t ht=>by
  refine fold_other _ _ _ (fun hm => ?_)
  rw [List.map_fst_zip (by omega)] at hm
  exact hn3 t ht t hm rfl
 have hsize:((ps.toList.zip vs.toList).foldl (fun tmps (p:Nat×Value)=>tmps.setIfInBounds p.1 p.2) l.tmps).size=fn.ntmps:=by rw [fold_size,q6]
 generalize (ps.toList.zip vs.toList).foldl (fun tmps (p:Nat×Value)=>tmps.setIfInBounds p.1 p.2) l.tmps=tm at *
 have hall:RVs g args (af.ins.map fun t=>tm.getD t undef):=by
  rw [hargs,hi,List.map_append]
  refine RVs.append ?_ ?_
  ·rw [List.map_congr_left hF2]
   exact q9
  ·rw [hF1]
   exact hvs
 obtain ⟨cx,hcx⟩:∃ cx,cx=Cx.of P gl gs tab f fn x af g h w:=⟨_,rfl⟩
 have hk:CxOK cx:=by subst hcx; exact ⟨hnd,hY,fn,hfn,hbody,rfl⟩
 have hca':chkC cx [] as af.asg=true:=by subst hcx; rw [← hca]; exact chkC_any _ _ _
 have hcb':chkC cx [] bd af.body=true:=by subst hcx; rw [← hcb]; exact chkC_any _ _ _
 have sr:SlR cx (af.slots.map fun t=>find2 t af.ins args) g h w tm:=by
  subst hcx
  have hprom:∀ (s t:Nat) (v:V),af.slots[s]?=some t→(af.slots.map fun t=>find2 t af.ins args)[s]?=some v→(Cx.of P gl gs tab f fn x af g h w).pr s=true→v = .undef:=by
   intro s t v h1 h2 h3
   simp only [List.getElem?_map,h1,Option.map_some,Option.some.injEq] at h2
   rw [← h2]
   apply find2_none
   simp only [promOkY,List.all_eq_true,List.mem_range] at hpo
   have:=hpo s (List.getElem?_eq_some_iff.1 h1).1
   simp only [h1] at this
   have h3':af.prom.getD s false=true:=h3
   rw [h3'] at this
   simpa using this
  refine ⟨by simp [Cx.of],hsize,fun s t v h1 h2 h3 => ?_,fun s t v h1 h2 h3 h4=>absurd (hprom s t v h1 h2 h3) h4,fun s s' t t' v v' blk h1 h2 h3 h4 h5 h6 h7=>absurd (hprom s t v h1 h3 h5) h7⟩
  have h1':af.slots[s]?=some t:=h1
  simp only [List.getElem?_map,h1',Option.map_some,Option.some.injEq] at h2
  rw [← h2]
  exact find2_rv (fun t=>tm.getD t undef) t _ _ hall
 have cr:CR cx { slots:=af.slots.map fun t=>find2 t af.ins args,h:=h } g { tmps:=tm,defers:=[] } w:=by
  subst hcx
  exact ⟨Step.refl hr,sr,trivial,hgl⟩
 have e1:cx.P=P:=by rw [hcx]; rfl
 have e2:cx.gl=gl:=by rw [hcx]; rfl
 have e3:cx.gs=gs:=by rw [hcx]; rfl
 have e4:cx.g0.Y=yOf P tab:=by rw [hcx]; exact hY
 have e5:cx.g0=g:=by rw [hcx]; rfl
 have e6:cx.h0=h:=by rw [hcx]; rfl
 have e7:cx.w0=w:=by rw [hcx]; rfl
 clear hcx
 subst e1 e2 e3
 refine roundIn_of_wpF q2 ?_
 split at hround
 case h_2=>cases hround
 rename_i c1 hx1
 refine wpF_mono (exec_sound hk (e4 ▸ hrec.s) (e4 ▸ hrec.loop) hrec.lpn af.asg [] as _ c1 .norm g _ w (.inr hra) (fun e=>by cases e) hca' hx1 rfl cr FlagR.none) (fun e a1 w1 ho => ?_)
 have hpn1:=exec_pn (cx:=cx) _ _ _ _ rfl hrec.lpn hx1
 obtain ⟨g1,cr1,fr1,he⟩:=ho
 cases e <;> simp only [OutE] at he
 split at hround
 case h_2=>cases hround
 rename_i y' fi' pd' hob1
 split at hround
 case isFalse=>cases hround
 rename_i hyy
 subst hyy
 have hst1:Step g h w g1 c1.h w1:=by rw [← e5,← e6,← e7]; exact cr1.step
 have hβ:=hst1.le.2 _ _ _ hp
 have rec1:∀ {g2:G} {h2:Heap} {w2:World} {y2 fi2 st2 pd2},Step g h w g2 h2 w2→h2[b]?=some (.loop y2 fi2 st2 pd2)→∃ l2,w2.heap[p.blk]?=some (.loop l2)∧LoopR g2 y2 fi2 st2 pd2 l2∧g2.β b 0=some p∧g2.M p.blk=none:=by
  intro g2 h2 w2 y2 fi2 st2 pd2 hs hb2
  obtain ⟨p2,hp2,hm2,l2,hh2,hl2⟩:=hs.rep.obj _ _ hb2
  have:=hs.le.2 _ _ _ hp
  rw [this] at hp2
  cases hp2
  exact ⟨l2,hh2,hl2,this,hm2⟩
 have put:∀ {g2:G} {h2:Heap} {w2:World} {y2 fi2 st2 pd2} {l2:Loop} (st3:LoopState) (pd3:Option (Option Nat)),Step g h w g2 h2 w2→h2[b]?=some (.loop y2 fi2 st2 pd2)→w2.heap[p.blk]?=some (.loop l2)→LoopR g2 y2 fi2 st2 pd2 l2 →
   Step g2 h2 w2 g2 (h2.set b (.loop y2 fi2 st3 pd3)) (w2.putObj p.blk (.loop { l2 with state:=st3,pending:=jumpC pd3 })):=by
  intro g2 h2 w2 y2 fi2 st2 pd2 l2 st3 pd3 hs hb2 hw2 hl2
  obtain ⟨l3,hw3,hl3,hβ3,hm3⟩:=rec1 hs hb2
  obtain ⟨yi,r1,r2,r3,r4,r5,r6,r7,r8,r9⟩:=hl2
  have hlt:p.blk<w2.heap.size:=(Array.getElem?_eq_some_iff.1 hw2).1
  exact Step.setO hs.rep hb2 rfl rfl hβ3 rfl rfl rfl (by simp) (fun i hi=>World.putObj_heap_other hi) ⟨_,hβ3,hm3,_,World.putObj_heap_same hlt,yi,r1,r2,r3,r4,r5,r6,rfl,rfl,r9⟩
 obtain ⟨l1,hw1,hl1,_,_⟩:=rec1 hst1 hob1
 have hbusy:=put .busy pd' hst1 hob1 hw1 hl1
 have hl1':=hl1
 obtain ⟨yi1,r1,r2,r3,r4,r5,r6,r7,r8,r9⟩:=hl1'
 refine ⟨_,run_beginRound hw1 r7,?_⟩
 have hsame:({ l1 with state:=.busy }:Loop)={ l1 with state:=.busy,pending:=jumpC pd' }:=by rw [← r8]
 rw [hsame]
 split at hround
 case h_2=>cases hround
 rename_i out2 c2 hx2
 have cr2:CR cx { c1 with flag:=none,h:=c1.h.set b (.loop y' fi' .busy pd') } g1 a1 (w1.putObj p.blk (.loop { l1 with state:=.busy,pending:=jumpC pd' })) :=
  ⟨cr1.step.trans hbusy,cr1.sr.step hbusy,cr1.df.step hbusy,cr1.gl.mono hbusy.le.1⟩
 refine wpF_mono (exec_sound hk (e4 ▸ hrec.s) (e4 ▸ hrec.loop) hrec.lpn af.body [] bd _ c2 out2 g1 a1 _ (.inr hrb) (fun e=>by cases e) hcb' hx2 hpn1 cr2 FlagR.none) (fun e a2 w2 ho => ?_)
 obtain ⟨g2,cr3,fr2,he⟩:=ho
 have hst2:Step g h w g2 c2.h w2:=by rw [← e5,← e6,← e7]; exact cr3.step
 have hdefs:c2.dfs=[]→a2.defers=[]:=by
  intro hd
  have:=cr3.df
  rw [hd] at this
  cases hh:a2.defers with
  | nil=>rfl
  | cons d ds=>rw [hh] at this; exact this.elim
 split at hround
 ·rename_i v hd
  simp only [Option.some.injEq,Prod.mk.injEq] at hround
  obtain ⟨rfl,rfl⟩:=hround
  cases e <;> simp only [OutE] at he
  obtain ⟨xv,rfl,hv⟩:=he
  exact ⟨hdefs hd,v,xv,g2,rfl,rfl,hv,hst2⟩
 ·rename_i y2 fi2 st2 pd2 hd hob2
  simp only [Option.some.injEq,Prod.mk.injEq] at hround
  obtain ⟨rfl,rfl⟩:=hround
  cases e <;> simp only [OutE] at he
  obtain ⟨l2,hw2,hl2,_,_⟩:=rec1 hst2 hob2
  exact ⟨_,_,run_endRound none hw2,fun v=>(by simp),rfl,g2,hst2.trans (put .ready none hst2 hob2 hw2 hl2)⟩
 ·rename_i y2 fi2 st2 pd2 hd hob2
  simp only [Option.some.injEq,Prod.mk.injEq] at hround
  obtain ⟨rfl,rfl⟩:=hround
  cases e <;> simp only [OutE] at he
  obtain ⟨l2,hw2,hl2,_,_⟩:=rec1 hst2 hob2
  exact ⟨_,_,run_endRound (some .ret) hw2,fun v=>(by simp),rfl,g2,hst2.trans (put .done (some none) hst2 hob2 hw2 hl2)⟩
 ·rename_i y2 fi2 st2 pd2 i hd hob2
  simp only [Option.some.injEq,Prod.mk.injEq] at hround
  obtain ⟨rfl,rfl⟩:=hround
  cases e <;> simp only [OutE] at he
  subst he
  obtain ⟨l2,hw2,hl2,_,_⟩:=rec1 hst2 hob2
  exact ⟨_,_,run_endRound (some (.exit i)) hw2,fun v=>(by simp),rfl,g2,hst2.trans (put .done (some (some i)) hst2 hob2 hw2 hl2)⟩
 ·cases hround
theorem run_ok (hprog:ProgOK P gs W tab A):∀ n,RecOK P gl gs (yOf P tab) (run gl A n)
 | 0=>by
  refine ⟨?_,?_,?_,?_,?_,?_,?_⟩
  ·intro _ _ _ _ _ h; simp [run] at h
  ·intro _ _ _ _ _ _ h; simp [run] at h
  ·intro _ _ _ _ _ _ _ _ _ _ _ _ _ _ _ _ _ _ _ h; simp [run] at h
  ·intro _ _ _ _ h; simp [run] at h
  ·intro _ _ _ _ h; simp [run] at h
  ·intro _ _ _ _ _ _ h; simp [run] at h
  ·intro _ _ _ _ _ h; simp [run] at h
 | n+1=>⟨call_step hprog (run_ok hprog n),dcall_step hprog (run_ok hprog n),loop_step (run_ok hprog n),lpn_step (run_ok hprog n),ro_step hprog (run_ok hprog n),round_step hprog (run_ok hprog n),lro_step (run_ok hprog n)⟩
theorem run_calls (hprog:ProgOK P gs W tab A) {n f:Nat} {args:List V} {r:R} {h':Heap} (hrun:(run gl A n).call f args h=some (r,h')) (hr:Rep g h w) (hgl:GlOk gl gs g.M) (hY:g.Y=yOf P tab) {vs:Array Value} (hv:RVs g args vs.toList) :
  Calls P f vs w (CallPost g h w r h') :=
 ((run_ok hprog n).call f args h r h' hrun).2 g w vs hr hgl hY hv
end
open Go.ChangeShapes Go.WideShapes Go.RowKit
theorem frame_kept {w w':World} (hf:Frame (fun _=>False) w w') (may:MemPlace→Prop):w.keptBut w' may:=by
 refine ⟨hf.os,hf.output,fun i hi => ?_⟩
 have:=hf.block i hi (fun h=>h)
 rw [this]
 cases hh:w.heap[i]? with
 | none=>trivial
 | some o =>
  cases o <;> simp
theorem frame_frozen {w w':World} (hf:Frame (fun _=>False) w w') (a:Addr) (ha:a.block<w.heap.size):w'.frozen? a=w.frozen? a:=by
 simp only [World.frozen?,hf.block a.block ha (fun h=>h)]
theorem Step.frame_nil {g g':G} {h':Heap} {w w':World} (hs:Step g [] w g' h' w'):Frame (fun _=>False) w w' :=
 ⟨hs.fr.os,hs.fr.tape,hs.fr.output,hs.fr.size,fun i hi _=>hs.fr.block i hi Live_nil⟩
section
variable {P:Program} {H:Type} {enc:TypeId×Value→H}
theorem post_of_frame {f:Func} {s:ChangeSpec} {apart fresh handsOn again:Bool} {W W':World} {args:Array Value} {v:Value} {ds gs:List (DataW H)} {before pa pv:List MemPlace}
  (hW:DataW.Whole enc P f.params.toList s.vars apart W args.toList ds gs before)
  (hres:∀ (b:Nat) (sp:Nat→Bool) (hd:Bool),DataW.TrodAll enc P W' b sp hd f.resultTypes.toList (v.resultList f.resultTypes.size) (s.fn H (ds++gs)).results [])
  (hargs:∀ sp:Nat→Bool,(∀ p∈before,sp p.block=true)→DataW.TrodAll enc P W' 0 sp true f.params.toList args.toList (s.fn H (ds++gs)).args pa)
  (hvars:∀ sp:Nat→Bool,(∀ p∈before,sp p.block=true)→DataW.TrodVars enc P W' sp s.vars (s.fn H (ds++gs)).vars pv)
  (hps:before=pa++pv) (hk:W.keptBut W' (· ∈ before)) (hfz:∀ a:Addr,a.block<W.heap.size→W'.frozen? a=W.frozen? a)
  (hok:∀ (j:Nat) (t:TypeId) (r:Value),f.resultTypes[j]?=some t→(v.resultList f.resultTypes.size)[j]?=some r→Value.okWide P W' .any 0 t r) :
  s.post enc P f apart fresh handsOn again W args v W':=by
 have hold:∀ p∈before,(fun b=>decide (b<W.heap.size)) p.block=true:=fun p hp=>by simpa using hW.lt p hp
 refine ⟨ds,gs,before,[],pa,pv,hW,hres _ _ _,hargs _ hold,hvars _ hold,World.keptBut_mono (fun p hp=>⟨hp,?_⟩) hk,fun _ => ?_⟩
 ·rw [hps,List.mem_append] at hp
  exact Or.inr hp
 ·have hlt:=hW.lt
  obtain ⟨_,_,_,_,_,hz,hn⟩:=hW
  refine ⟨hok,_,_,([]++pa)++pv,⟨[]++pa,pv,trodAll_append (hargs _ (fun _ _=>rfl)) (hres _ _ _),hvars _ (fun _ _=>rfl),rfl,?_,?_⟩,?_⟩
  ·intro b off hp
   have hin:MemPlace.cell b off∈before:=by rw [hps]; simpa using hp
   rw [hfz _ (hlt _ hin)]
   exact hz b off hin
  ·intro ha
   have:=hn ha
   rw [hps] at this
   simpa using this
  ·intro p hp _
   rw [hps]
   simpa using hp
end
structure Rec.Le (r s:Rec):Prop where
 call:∀ f a h x,r.call f a h=some x→s.call f a h=some x
 dcall:∀ f a u h x,r.dcall f a u h=some x→s.dcall f a u h=some x
 loop:∀ b c x,r.loop b c=some x→s.loop b c=some x
 ro:∀ f a h x,r.ro f a h=some x→s.ro f a h=some x
 round:∀ y b a h x,r.round y b a h=some x→s.round y b a h=some x
theorem Rec.Le.refl (r:Rec):r.Le r:=⟨fun _ _ _ _ h=>h,fun _ _ _ _ _ h=>h,fun _ _ _ h=>h,fun _ _ _ _ h=>h,fun _ _ _ _ _ h=>h⟩
theorem Rec.Le.trans {r s t:Rec} (a:r.Le s) (b:s.Le t):r.Le t :=
 ⟨fun f x h y e=>b.call f x h y (a.call f x h y e),fun f x u h y e=>b.dcall f x u h y (a.dcall f x u h y e),fun x c y e=>b.loop x c y (a.loop x c y e),
  fun f x h y e=>b.ro f x h y (a.ro f x h y e),fun f x u h y e=>b.round f x u h y (a.round f x u h y e)⟩
open Classical in
noncomputable def limOf (R:Nat→Rec):Rec where
 call f a h:=if p:∃ x n,(R n).call f a h=some x then some p.choose else none
 dcall f a u h:=if p:∃ x n,(R n).dcall f a u h=some x then some p.choose else none
 loop b c:=if p:∃ x n,(R n).loop b c=some x then some p.choose else none
 ro f a h:=if p:∃ x n,(R n).ro f a h=some x then some p.choose else none
 round y b a h:=if p:∃ x n,(R n).round y b a h=some x then some p.choose else none
section
variable {R:Nat→Rec} {α β:Type}
structure Cont (R:Nat→Rec) {α:Type} (G:Rec→Option α):Prop where
 mono:∀ r s,r.Le s→∀ x,G r=some x→G s=some x
 lim:∀ x,G (limOf R)=some x→∃ n,G (R n)=some x
theorem Cont.const (o:Option α):Cont R (fun _=>o):=⟨fun _ _ _ _ h=>h,fun _ h=>⟨0,h⟩⟩
theorem Cont.of_eq {G G':Rec→Option α} (h:∀ r,G r=G' r) (hc:Cont R G'):Cont R G:=by
 have:G=G':=funext h
 rw [this]; exact hc
theorem chain_le (hR:∀ n,(R n).Le (R (n+1))):∀ {n m:Nat},n≤m→(R n).Le (R m):=by
 intro n m h
 induction h with
 | refl=>exact Rec.Le.refl _
 | step _ ih=>exact ih.trans (hR _)
theorem Cont.bind (hR:∀ n,(R n).Le (R (n+1))) {G:Rec→Option α} {K:α→Rec→Option β} (hG:Cont R G) (hK:∀ y,Cont R (K y)):Cont R (fun r=>(G r).bind fun y=>K y r):=by
 refine ⟨fun r s hrs x h => ?_,fun x h => ?_⟩
 ·simp only [Option.bind_eq_some_iff] at h ⊢
  obtain ⟨y,h1,h2⟩:=h
  exact ⟨y,hG.mono r s hrs y h1,(hK y).mono r s hrs x h2⟩
 ·simp only [Option.bind_eq_some_iff] at h ⊢
  obtain ⟨y,h1,h2⟩:=h
  obtain ⟨n,hn⟩:=hG.lim y h1
  obtain ⟨m,hm⟩:=(hK y).lim x h2
  exact ⟨n+m,y,hG.mono _ _ (chain_le hR (Nat.le_add_right n m)) y hn,(hK y).mono _ _ (chain_le hR (Nat.le_add_left m n)) x hm⟩
theorem Cont.map (hR:∀ n,(R n).Le (R (n+1))) {G:Rec→Option α} (f:α→β) (hG:Cont R G):Cont R (fun r=>(G r).map f) :=
 .of_eq (fun r=>by cases G r <;> rfl) (hG.bind hR (K:=fun y _=>some (f y)) fun y => .const _)
theorem Cont.call (f:Nat) (a:List V) (h:Heap):Cont R (fun r=>r.call f a h):=by
 refine ⟨fun r s hrs x e=>hrs.call f a h x e,fun x e => ?_⟩
 simp only [limOf] at e
 split at e
 ·rename_i p
  cases e
  exact p.choose_spec
 ·cases e
theorem Cont.dcall (f:Nat) (a:List V) (u:Option V) (h:Heap):Cont R (fun r=>r.dcall f a u h):=by
 refine ⟨fun r s hrs x e=>hrs.dcall f a u h x e,fun x e => ?_⟩
 simp only [limOf] at e
 split at e
 ·rename_i p
  cases e
  exact p.choose_spec
 ·cases e
theorem Cont.loop (b:ACode) (c:Cfg):Cont R (fun r=>r.loop b c):=by
 refine ⟨fun r s hrs x e=>hrs.loop b c x e,fun x e => ?_⟩
 simp only [limOf] at e
 split at e
 ·rename_i p
  cases e
  exact p.choose_spec
 ·cases e
theorem Cont.ro (f:Nat) (a:List V) (h:Heap):Cont R (fun r=>r.ro f a h):=by
 refine ⟨fun r s hrs x e=>hrs.ro f a h x e,fun x e => ?_⟩
 simp only [limOf] at e
 split at e
 ·rename_i p
  cases e
  exact p.choose_spec
 ·cases e
theorem Cont.round (y b:Nat) (a:List V) (h:Heap):Cont R (fun r=>r.round y b a h):=by
 refine ⟨fun r s hrs x e=>hrs.round y b a h x e,fun x e => ?_⟩
 simp only [limOf] at e
 split at e
 ·rename_i p
  cases e
  exact p.choose_spec
 ·cases e
def noR (r:Rec):Rec:={ r with round:=fun _ _ _ _=>none }
theorem noR_le {r s:Rec} (h:r.Le s):(noR r).Le (noR s):=⟨h.call,h.dcall,h.loop,h.ro,fun _ _ _ _ _ h=>by cases h⟩
theorem limOf_noR:limOf (fun n=>noR (R n))=noR (limOf R):=by
 have:(fun (y b:Nat) (a:List V) (h:Heap)=>(limOf (fun n=>noR (R n))).round y b a h)=fun _ _ _ _=>none:=by
  funext y b a h
  simp only [limOf]
  rw [dif_neg]
  rintro ⟨x,n,hx⟩
  cases hx
 have h2:limOf (fun n=>noR (R n))={ limOf (fun n=>noR (R n)) with round:=fun (y b:Nat) (a:List V) (h:Heap)=>(limOf (fun n=>noR (R n))).round y b a h }:=rfl
 rw [h2,this]
 rfl
theorem Cont.noR {G:Rec→Option α} (hc:Cont (fun n=>Am.noR (R n)) G):Cont R (fun r=>G (Am.noR r)):=by
 refine ⟨fun r s hrs x e=>hc.mono _ _ (noR_le hrs) x e,fun x e => ?_⟩
 rw [← limOf_noR] at e
 exact hc.lim x e
section
variable (hR:∀ n,(R n).Le (R (n+1)))
include hR
theorem cont_pcall (f:V) (args:List V):Cont R (fun r=>pcall r f args):=by
 unfold pcall
 cases callee f args with
 | none=>exact .const _
 | some p =>
  obtain ⟨n,as⟩:=p
  simp only
  split
  ·refine .of_eq (fun r => ?_) ((Cont.call n as []).bind hR (K:=fun y _=>match y with
    | (.ret v,h)=>(viewW 0 h v).map .val
    | (.pan v,h)=>if pureV v then some (.pan v) else none) fun y => .const _)
   cases r.call n as [] with
   | none=>rfl
   | some y=>obtain ⟨x,h⟩:=y; cases x <;> rfl
  ·exact .const _
theorem cont_bcall (h:Heap) (f:V) (args:List V):Cont R (fun r=>bcall r h f args):=by
 unfold bcall
 cases callee f args with
 | none=>exact .const _
 | some p =>
  obtain ⟨n,as⟩:=p
  simp only
  cases viewL 0 h as with
  | none=>exact .const _
  | some as' =>
   simp only
   refine .of_eq (fun r => ?_) ((Cont.call n as' []).bind hR (K:=fun y _=>match y with
    | (.ret v,_)=>if plainV v then some (.val v) else none
    | (.pan v,_)=>if plainV v then some (.pan v) else none) fun y => .const _)
   cases r.call n as' [] with
   | none=>rfl
   | some y=>obtain ⟨x,h⟩:=y; cases x <;> rfl
theorem cont_ecallF (h:Heap) (fz:Bool) (f:V) (args:List V):Cont R (fun r=>ecallF r h fz f args):=by
 unfold ecallF
 cases callee f args with
 | none=>exact .const _
 | some p =>
  obtain ⟨n,as⟩:=p
  simp only
  refine .of_eq (fun r => ?_) ((Cont.call n as h).bind hR (K:=fun y _=>match y with
   | (.ret v,h') =>
    if fz then (if h.length≤h'.length∧closedTo h.length h' then (viewW h.length h' v).map fun v => .val v (h'.take h.length) else none)
    else some (.val v h')
   | (.pan v,h')=>some (.pan v h')) fun y => .const _)
  cases r.call n as h with
  | none=>rfl
  | some y=>obtain ⟨x,h⟩:=y; cases x <;> rfl
theorem cont_ycall (h:Heap) (b:Nat) (args:List V):Cont R (fun r=>ycall r h b args):=by
 unfold ycall
 split
 ·rename_i y fi pd hb
  refine .of_eq (fun r => ?_) ((Cont.round y b (fi++args) h).bind hR (K:=fun y _=>match y with
   | (.pan v,h')=>some (.pan v h')
   | (.norm,h')=>some (.val (.bool true) h')
   | (_,h')=>some (.val (.bool false) h')) fun y => .const _)
  cases r.round y b (fi++args) h with
  | none=>rfl
  | some y=>obtain ⟨o,h⟩:=y; cases o <;> rfl
 ·exact .const _
theorem cont_ecall (h:Heap) (fz:Bool) (f:V) (args:List V):Cont R (fun r=>ecall r h fz f args):=by
 unfold ecall
 split
 ·split
  ·exact .const _
  ·exact cont_ycall hR h _ _
 ·exact cont_ecallF hR h _ _ _
theorem cont_rocall (h:Heap) (f:V) (args:List V):Cont R (fun r=>rocall r h f args):=by
 unfold rocall
 cases callee f args with
 | none=>exact .const _
 | some p =>
  obtain ⟨n,as⟩:=p
  simp only
  refine .of_eq (fun r => ?_) ((Cont.ro n as h).bind hR (K:=fun y _=>match y with
   | .ret v=>some (.val v)
   | .pan v=>some (.pan v)) fun y => .const _)
  cases r.ro n as h with
  | none=>rfl
  | some y=>cases y <;> rfl
theorem cont_lop (h:Heap) (f:Opd→V) (l:LOp):Cont R (fun r=>lopV r h f l):=by
 cases l with
 | borrow fn args=>exact cont_bcall hR h _ _
 | ro fn args=>exact cont_rocall hR h _ _
 | _=>exact .const _
theorem cont_eop (h:Heap) (f:Opd→V) (e:EOp):Cont R (fun r=>eopV r h f e):=by
 cases e with
 | call fn args fz=>exact cont_ecall hR h _ _ _
 | inv x tbl args fz =>
  simp only [eopV]
  cases methV tbl (f x) with
  | none=>exact .const _
  | some fv=>exact cont_ecallF hR h _ _ _
 | mtv t nm fn x tbl args fz =>
  simp only [eopV]
  split
  ·split
   ·cases methV tbl (f x) with
    | none=>exact .const _
    | some fv=>exact cont_ecallF hR h _ _ _
   ·exact .const _
  ·exact .const _
 | _=>exact .const _
theorem cont_step (gl:Nat→List V) (o:AOper) (env slots:List V) (pn:Option (Option V)) (h:Heap):Cont R (fun r=>stepOp r gl o env slots pn h):=by
 unfold stepOp
 cases o.op with
 | pc fn args=>exact (cont_pcall hR _ _).map hR _
 | l op=>exact (cont_lop hR h _ op).map hR _
 | e op=>exact (cont_eop hR h _ op).map hR _
 | _=>exact .const _
theorem cont_ops (gl:Nat→List V):∀ (os:List AOper) (env:List V) (c:Cfg),Cont R (fun r=>runOps r gl os env c)
 | [],env,c => .const _
 | o :: os,env,c=>by
  simp only [runOps]
  cases wanted env o.guard with
  | none=>exact .const _
  | some b =>
   cases b with
   | false=>exact cont_ops gl os _ _
   | true =>
    simp only
    refine .of_eq (fun r => ?_) ((cont_step hR gl o env c.slots c.pn c.h).bind hR (K:=fun y r=>match y with
     | .ok v wr df pn hp=>runOps r gl os (env++[v]) { c with slots:=setSlot c.slots wr,dfs:=pushD df c.dfs,pn:=pn.or c.pn,h:=hp.getD c.h }
     | .pan v hp=>some (.pan env.length v { c with h:=hp.getD c.h })) fun y => ?_)
    ·cases stepOp r gl o env c.slots c.pn c.h with
     | none=>rfl
     | some y=>cases y <;> rfl
    ·cases y with
     | ok v wr df pn hp=>exact cont_ops gl os _ _
     | pan v hp=>exact .const _
theorem cont_trace (gl:Nat→List V):∀ (os:List AOper) (env:List V) (c:Cfg),Cont R (fun r=>traceOps r gl os env c)
 | [],env,c => .const _
 | o :: os,env,c=>by
  simp only [traceOps]
  cases wanted env o.guard with
  | none=>exact .const _
  | some b =>
   cases b with
   | false=>exact (cont_trace gl os _ _).map hR _
   | true =>
    simp only
    refine .of_eq (fun r => ?_) ((cont_step hR gl o env c.slots c.pn c.h).bind hR (K:=fun y r=>match y with
     | .ok v wr df pn hp=>(traceOps r gl os (env++[v]) { c with slots:=setSlot c.slots wr,dfs:=pushD df c.dfs,pn:=pn.or c.pn,h:=hp.getD c.h }).map ((env,c) :: ·)
     | .pan v hp=>some [(env,c)]) fun y => ?_)
    ·cases stepOp r gl o env c.slots c.pn c.h with
     | none=>rfl
     | some y=>cases y <;> rfl
    ·cases y with
     | ok v wr df pn hp=>exact (cont_trace gl os _ _).map hR _
     | pan v hp=>exact .const _
theorem cont_tail (gl:Nat→List V) (hs:List Heap) (live:Nat→Bool):∀ (os:List AOper) (i:Nat) (env:List V) (c:Cfg),Cont R (fun r=>tailOps r gl hs live os i env c)
 | [],i,env,c => .const _
 | o :: os,i,env,c=>by
  simp only [tailOps]
  split
  ·split
   ·exact .const _
   cases wanted env o.guard with
   | none=>exact .const _
   | some b =>
    cases b with
    | false=>exact cont_tail gl hs live os _ _ _
    | true =>
     simp only
     refine .of_eq (fun r => ?_) ((cont_step hR gl o env c.slots c.pn c.h).bind hR (K:=fun y r=>match y with
      | .ok v wr df pn hp=>tailOps r gl hs live os (i+1) (env++[v]) { c with slots:=setSlot c.slots wr,dfs:=pushD df c.dfs,pn:=pn.or c.pn,h:=hp.getD c.h }
      | .pan v hp=>none) fun y => ?_)
     ·cases stepOp r gl o env c.slots c.pn c.h with
      | none=>rfl
      | some y=>cases y <;> rfl
     ·cases y with
      | ok v wr df pn hp=>exact cont_tail gl hs live os _ _ _
      | pan v hp=>exact .const _
  ·exact cont_tail gl hs live os _ _ _
theorem cont_tailAt {α:Type} (gl:Nat→List V) (pok:List Nat) (j:Nat) (ops:List AOper) (X:α) (hs:List Heap) (o:Option (List V×Cfg)):Cont R (fun r=>if !tailAt r gl pok j ops hs o then none else some X):=by
 cases o with
 | none=>exact .const _
 | some p =>
  obtain ⟨env,c1⟩:=p
  refine .of_eq (fun r => ?_) ((cont_tail hR gl hs (liveIn pok j) (ops.drop (j+1)) (j+1) (env++[.undef]) c1).map hR fun _=>X)
  cases hq:tailOps r gl hs (liveIn pok j) (ops.drop (j+1)) (j+1) (env++[.undef]) c1 with
  | none=>simp [tailAt,hq]
  | some y=>simp [tailAt,hq]
theorem cont_tailOK {α:Type} (gl:Nat→List V) (pok:List Nat) (j:Nat) (ops:List AOper) (c:Cfg) (X:α):Cont R (fun r=>if !tailOK r gl pok j ops (traceOps r gl ops [] c) then none else some X):=by
 refine .of_eq (fun r => ?_) ((cont_trace hR gl ops [] c).bind hR (K:=fun t r=>if !tailAt r gl pok j ops (t.map (·.2.h)) t.getLast? then none else some X) fun t=>cont_tailAt hR gl pok j ops X _ _)
 cases traceOps r gl ops [] c with
 | none=>rfl
 | some t=>rfl
theorem cont_row (gl:Nat→List V) (draw:Bool) (fl:Option (Nat×Nat)) (pok:List Nat) (ops:List AOper) (c:Cfg):Cont R (fun r=>match runOps r gl ops [] c with
   | some (.norm env c')=>some (Out.norm,{ c' with flag:=fl.map fun (t,j)=>(t,env.getD j .undef) })
   | some (.pan j v c')=>if draw && !pok.contains j then none else
    if draw&&anyLive pok j && !tailOK r gl pok j ops (traceOps r gl ops [] c) then none else some (.pan v,{ c' with slots:=if draw then forget ops c'.slots else c'.slots,flag:=none })
   | none=>none):=by
 refine .of_eq (fun r => ?_) ((cont_ops hR gl ops [] c).bind hR (K:=fun y r=>match y with
   | .norm env c'=>some (Out.norm,{ c' with flag:=fl.map fun (t,j)=>(t,env.getD j .undef) })
   | .pan j v c'=>if draw && !pok.contains j then none else
    if draw&&anyLive pok j && !tailOK r gl pok j ops (traceOps r gl ops [] c) then none else some (.pan v,{ c' with slots:=if draw then forget ops c'.slots else c'.slots,flag:=none })) fun y => ?_)
 ·cases runOps r gl ops [] c with
  | none=>rfl
  | some y=>cases y <;> rfl
 ·cases y with
  | norm env c'=>exact .const _
  | pan j v c' =>
   simp only
   split
   ·exact .const _
   cases draw&&anyLive pok j with
   | false=>exact .const _
   | true=>exact cont_tailOK hR gl pok j ops c _
theorem cont_reg (gl:Nat→List V) (draw:Bool) (fl:Option (Nat×Nat)) (pok:List Nat) (ops:List AOper) (c:Cfg):Cont R (fun r=>regA r gl draw fl pok ops c):=by
 refine .of_eq (fun r=>regA_def r gl draw fl pok ops c) ?_
 split
 ·exact .const _
 cases hdl:draw&&anyLz ops with
 | true =>
  refine .of_eq (fun r => ?_) ((cont_trace hR gl ops [] c).bind hR (K:=fun t r=>if lzOK gl ops (some t) then (match runOps r gl ops [] c with
   | some (.norm env c')=>some (Out.norm,{ c' with flag:=fl.map fun (t,j)=>(t,env.getD j .undef) })
   | some (.pan j v c')=>if draw && !pok.contains j then none else
    if draw&&anyLive pok j && !tailOK r gl pok j ops (traceOps r gl ops [] c) then none else some (.pan v,{ c' with slots:=if draw then forget ops c'.slots else c'.slots,flag:=none })
   | none=>none) else none) fun t => ?_)
  ·simp only [Bool.true_and]
   cases ht:traceOps r gl ops [] c with
   | none=>simp [lzOK]
   | some t =>
    simp only [Option.bind_some,ht]
    cases lzOK gl ops (some t) with
    | false=>rfl
    | true=>rfl
  ·split
   ·exact cont_row hR gl draw fl pok ops c
   ·exact .const _
 | false =>
  simp only [Bool.false_and,Bool.false_eq_true,if_false]
  exact cont_row hR gl draw fl pok ops c
theorem cont_allO {F:Rec→Nat→Option Unit} (hF:∀ j,Cont R (fun r=>F r j)):∀ l:List Nat,Cont R (fun r=>allO (F r) l)
 | [] => .const _
 | j :: js=>by
  refine .of_eq (fun r => ?_) ((hF j).bind hR (K:=fun _ r=>allO (F r) js) fun _=>cont_allO hF js)
  simp only [allO]
  cases F r j <;> rfl
theorem cont_brtO (gl:Nat→List V) (ops:List AOper) (deps:List (List Nat)) (envF:List V) (cF:Cfg):∀ (fuel:Nat) (l:List Bool) (env:List V) (c:Cfg),Cont R (fun r=>brtO r gl ops deps envF cF fuel l env c)
 | 0,l,env,c=>by
  simp only [brtO]
  split <;> exact .const _
 | fuel+1,l,env,c=>by
  simp only [brtO]
  split
  ·exact .const _
  ·refine cont_allO hR (fun j => ?_) _
   cases ops[j]? with
   | none=>exact .const _
   | some o =>
    simp only
    cases wanted env o.guard with
    | none=>exact .const _
    | some b =>
     cases b with
     | false=>exact cont_brtO gl ops deps envF cF fuel _ _ _
     | true =>
      simp only
      refine .of_eq (fun r => ?_) ((cont_step hR gl o env c.slots c.pn c.h).bind hR (K:=fun y r=>match y with
       | .ok v wr df pn hp=>brtO r gl ops deps envF cF fuel (l.set j true) (env.set j v) { c with slots:=setSlot c.slots wr,dfs:=pushD df c.dfs,pn:=pn.or c.pn,h:=hp.getD c.h }
       | .pan _ _=>none) fun y => ?_)
      ·cases stepOp r gl o env c.slots c.pn c.h with
       | none=>rfl
       | some y=>cases y <;> rfl
      ·cases y with
       | ok v wr df pn hp=>exact cont_brtO gl ops deps envF cF fuel _ _ _
       | pan v hp=>exact .const _
theorem cont_exec (gl:Nat→List V):∀ (b:ACode) (c:Cfg),Cont R (fun r=>exec r gl b c)
 | .skip,c | .ret,c | .exit _,c=>by simp only [exec]; exact .const _
 | .reg draw fl pok ops,c=>by simp only [exec]; exact cont_reg hR gl draw fl pok ops c
 | .seq a b,c=>by
  simp only [exec]
  refine .of_eq (fun r => ?_) ((cont_exec gl a c).bind hR (K:=fun y r=>match y with
   | (.norm,c')=>exec r gl b c'
   | y=>some y) fun y => ?_)
  ·cases exec r gl a c with
   | none=>rfl
   | some y=>obtain ⟨o,c'⟩:=y; cases o <;> rfl
  ·obtain ⟨o,c'⟩:=y
   cases o with
   | norm=>exact cont_exec gl b c'
   | _=>exact .const _
 | .ite t a b,c=>by
  simp only [exec]
  split
  ·split
   ·split
    ·exact cont_exec gl a _
    ·exact cont_exec gl b _
   ·exact .const _
  ·exact .const _
 | .block id a,c=>by
  simp only [exec]
  ·refine .of_eq (fun r => ?_) ((cont_exec gl a c).bind hR (K:=fun y _=>match y with
    | (.exit i,c')=>if i=id then some (.norm,c') else some (.exit i,c')
    | y=>some y) fun y => .const _)
   cases exec r gl a c with
   | none=>rfl
   | some y=>obtain ⟨o,c'⟩:=y; cases o <;> rfl
 | .loop a,c=>by
  simp only [exec]
  split
  ·exact .const _
  ·exact .loop a c
 | .scope a,c=>by
  simp only [exec]
  exact cont_exec gl a c
 | .its s a b,c=>by
  simp only [exec]
  split
  ·split
   ·exact cont_exec gl a _
   ·exact cont_exec gl b _
  ·exact .const _
 | .range f y cap path,c=>by
  simp only [exec]
  split
  ·exact .const _
  ·cases callee (ev gl [] c.slots f) [.yf c.h.length] with
   | none=>exact .const _
   | some p =>
    obtain ⟨n,as⟩:=p
    simp only
    refine .of_eq (fun r => ?_) ((Cont.call n as (c.h++[.loop y (cap.map fun s=>c.slots.getD s .undef) .ready none])).bind hR (K:=fun z _=>match z with
     | (.pan v,h')=>some (.pan v,{ c with dfs:=(.undef,[]) :: c.dfs,flag:=none,h:=h' })
     | (.ret _,h')=>match h'[c.h.length]? with
      | some (.loop y' fi st pd)=>if st = .busy then none else
       some ((match pd with | none => .norm | some none => .ret | some (some i) => .exit i),
        { c with dfs:=(.undef,[]) :: c.dfs,flag:=none,h:=h'.set c.h.length (.loop y' fi .exhausted pd) })
      | _=>none) fun y => .const _)
    cases r.call n as (c.h++[.loop y (cap.map fun s=>c.slots.getD s .undef) .ready none]) with
    | none=>rfl
    | some y=>obtain ⟨o,h⟩:=y; cases o <;> rfl
 | .no,c=>by simp only [exec]; exact .const _
 | .pre sz a,c=>by
  simp only [exec]
  exact cont_exec gl a _
 | .brt fl deps ops,c=>by
  simp only [exec]
  split
  ·exact .const _
  ·refine .of_eq (fun r => ?_) ((cont_ops hR gl ops [] c).bind hR (K:=fun y r=>match y with
    | .norm env c'=>(brtO r gl ops deps env c' ops.length (List.replicate ops.length false) (List.replicate ops.length .undef) c).map fun _=>(Out.norm,{ c' with flag:=fl.map fun (t,j)=>(t,env.getD j .undef) })
    | .pan _ _ _=>none) fun y => ?_)
   ·cases runOps r gl ops [] c with
    | none=>rfl
    | some y =>
     cases y with
     | norm env c' =>
      simp only [Option.bind_some]
      cases brtO r gl ops deps env c' ops.length (List.replicate ops.length false) (List.replicate ops.length .undef) c <;> rfl
     | pan j v c'=>rfl
   ·cases y with
    | norm env c'=>exact (cont_brtO hR gl ops deps env c' _ _ _ _).map hR _
    | pan j v c'=>exact .const _
 | .frz s a,c=>by
  simp only [exec]
  cases frzA c.h (c.slots.getD s .undef) with
  | none=>exact .const _
  | some p=>exact cont_exec gl a _
omit hR in
theorem leave_cons {r:Rec} {rs:List ARes} {slots:List V} {f:V} {args:List V} {ds:List (V×List V)} {u:Option V} {h:Heap} (hf:f ≠ .undef):leave r rs slots ((f,args) :: ds) u h=(match callee f args with
  | some (n,as)=>match r.dcall n as u h with
   | some (u',h')=>leave r rs slots ds u' h'
   | none=>none
  | none=>none):=by
 cases f <;> first | exact absurd rfl hf | (cases u <;> rfl)
theorem cont_leave (rs:List ARes) (slots:List V):∀ (ds:List (V×List V)) (u:Option V) (h:Heap),Cont R (fun r=>leave r rs slots ds u h)
 | [],none,h => .const _
 | [],some v,h => .const _
 | (f,args) :: ds,u,h=>by
  by_cases hf:f = .undef
  ·subst hf
   refine .of_eq (fun r => ?_) (cont_leave rs slots ds u h)
   cases u <;> rfl
  ·cases hc:callee f args with
   | none=>exact .of_eq (fun r=>by rw [leave_cons hf]; simp only [hc]) (.const none)
   | some p =>
    obtain ⟨n,as⟩:=p
    refine .of_eq (fun r => ?_) ((Cont.dcall n as u h).bind hR (K:=fun y r=>leave r rs slots ds y.1 y.2) fun y=>cont_leave rs slots ds y.1 y.2)
    rw [leave_cons hf]
    simp only [hc]
    cases r.dcall n as u h with
    | none=>rfl
    | some y=>rfl
theorem cont_callF (gl:Nat→List V) (A:Nat→Option AFunc) (f:Nat) (args:List V) (h:Heap):Cont R (fun r=>callF r gl A f args h):=by
 unfold callF
 cases A f with
 | none=>exact .const _
 | some af =>
  simp only
  split
  ·refine .of_eq (fun r => ?_) ((cont_exec hR gl af.body { slots:=initSlots af.slots args,h:=h }).bind hR (K:=fun y r=>match y with
    | (.norm,c)=>leave r af.results c.slots c.dfs none c.h
    | (.ret,c)=>leave r af.results c.slots c.dfs none c.h
    | (.pan v,c)=>leave r af.results c.slots c.dfs (some v) c.h
    | (.exit _,_)=>none) fun y => ?_)
   ·cases exec r gl af.body { slots:=initSlots af.slots args,h:=h } with
    | none=>rfl
    | some y=>obtain ⟨o,c'⟩:=y; cases o <;> rfl
   ·obtain ⟨o,c'⟩:=y
    cases o with
    | exit i=>exact .const _
    | _=>exact cont_leave hR _ _ _ _ _
  ·exact .const _
theorem cont_dcallF (gl:Nat→List V) (A:Nat→Option AFunc) (f:Nat) (args:List V) (u:Option V) (h:Heap):Cont R (fun r=>dcallF r gl A f args u h):=by
 unfold dcallF
 cases A f with
 | none=>exact .const _
 | some af =>
  simp only
  split
  ·refine .of_eq (fun r => ?_) ((Cont.noR (cont_exec (R:=fun n=>noR (R n)) (fun n=>noR_le (hR n)) gl af.body { slots:=initSlots af.slots args,pn:=some u,h:=h })).bind hR (K:=fun y r=>match y with
    | (.norm,c) | (.ret,c)=>match c.dfs,c.pn,resultV c.h c.slots af.results with
     | [],some u',some _=>some (u',c.h)
     | _,_,_=>none
    | _=>none) fun y => .const _)
   simp only [noR]
   cases exec { r with round:=fun _ _ _ _=>none } gl af.body { slots:=initSlots af.slots args,pn:=some u,h:=h } with
   | none=>rfl
   | some y=>obtain ⟨o,c'⟩:=y; cases o <;> rfl
  ·exact .const _
theorem cont_loopF (gl:Nat→List V) (b:ACode) (c:Cfg):Cont R (fun r=>loopF r gl b c):=by
 unfold loopF
 refine .of_eq (fun r => ?_) ((cont_exec hR gl b c).bind hR (K:=fun y r=>match y with
  | (.norm,c')=>r.loop b c'
  | y=>some y) fun y => ?_)
 ·cases exec r gl b c with
  | none=>rfl
  | some y=>obtain ⟨o,c'⟩:=y; cases o <;> rfl
 ·obtain ⟨o,c'⟩:=y
  cases o with
  | norm=>exact .loop b c'
  | _=>exact .const _
theorem cont_roF (gl:Nat→List V) (A:Nat→Option AFunc) (f:Nat) (args:List V) (h:Heap):Cont R (fun r=>roF r gl A f args h):=by
 unfold roF
 cases A f with
 | none=>exact .const _
 | some af =>
  simp only
  split
  ·exact (cont_callF hR gl A f args h).map hR _
  ·exact .const _
theorem cont_roundF (gl:Nat→List V) (A:Nat→Option AFunc) (y b:Nat) (args:List V) (h:Heap):Cont R (fun r=>roundF r gl A y b args h):=by
 unfold roundF
 cases A y with
 | none=>exact .const _
 | some af =>
  simp only
  split
  ·refine .of_eq (fun r => ?_) ((cont_exec hR gl af.asg { slots:=af.slots.map fun t=>find2 t af.ins args,h:=h }).bind hR (K:=fun z r=>match z with
    | (.norm,c)=>match c.h[b]? with
     | some (.loop y' fi .ready pd)=>if y'=y then (exec r gl af.body { c with flag:=none,h:=c.h.set b (.loop y' fi .busy pd) }).bind fun
      | (out,c')=>match c'.dfs,c'.h[b]?,out with
       | [],_,.pan v=>some (.pan v,c'.h)
       | [],some (.loop y2 fi2 _ _),.norm=>some (.norm,c'.h.set b (.loop y2 fi2 .ready none))
       | [],some (.loop y2 fi2 _ _),.ret=>some (.ret,c'.h.set b (.loop y2 fi2 .done (some none)))
       | [],some (.loop y2 fi2 _ _),.exit i=>some (.exit i,c'.h.set b (.loop y2 fi2 .done (some (some i))))
       | _,_,_=>none
      else none
     | _=>none
    | _=>none) fun z => ?_)
   ·cases exec r gl af.asg { slots:=af.slots.map fun t=>find2 t af.ins args,h:=h } with
    | none=>rfl
    | some z =>
     obtain ⟨o,c⟩:=z
     cases o <;> try rfl
     simp only [Option.bind_some]
     split
     ·rename_i y' fi pd hb
      simp only [hb]
      split
      ·cases exec r gl af.body { c with flag:=none,h:=c.h.set b (.loop y' fi .busy pd) } with
       | none=>rfl
       | some z=>rfl
      ·rfl
     ·rename_i hne
      split
      ·rename_i hb
       exact absurd hb (hne _ _ _)
      ·rfl
   ·obtain ⟨o,c⟩:=z
    cases o <;> try exact .const _
    simp only
    split
    ·split
     ·exact (cont_exec hR gl af.body _).bind hR fun z => .const _
     ·exact .const _
    ·exact .const _
  ·exact .const _
end
end
theorem mono_of {α:Type} {G:Rec→Option α} (h:∀ R:Nat→Rec,(∀ n,(R n).Le (R (n+1)))→Cont R G) {r s:Rec} (hrs:r.Le s) {x:α} (e:G r=some x):G s=some x :=
 (h (fun _=>r) (fun _=>Rec.Le.refl r)).mono r s hrs x e
section
variable (gl:Nat→List V) (A:Nat→Option AFunc)
theorem run_le:∀ n,(run gl A n).Le (run gl A (n+1))
 | 0=>⟨fun _ _ _ _ h=>(by simp [run] at h),fun _ _ _ _ _ h=>(by simp [run] at h),fun _ _ _ h=>(by simp [run] at h),fun _ _ _ _ h=>(by simp [run] at h),fun _ _ _ _ _ h=>(by simp [run] at h)⟩
 | n+1=>⟨fun f a h x e=>mono_of (fun R hR=>cont_callF hR gl A f a h) (run_le n) e,fun f a u h x e=>mono_of (fun R hR=>cont_dcallF hR gl A f a u h) (run_le n) e,
   fun b c x e=>mono_of (fun R hR=>cont_loopF hR gl b c) (run_le n) e,fun f a h x e=>mono_of (fun R hR=>cont_roF hR gl A f a h) (run_le n) e,
   fun y b a h x e=>mono_of (fun R hR=>cont_roundF hR gl A y b a h) (run_le n) e⟩
noncomputable def lim:Rec:=limOf (run gl A)
theorem run_le_lim (n:Nat):(run gl A n).Le (lim gl A):=by
 refine ⟨fun f a h x e => ?_,fun f a u h x e => ?_,fun b c x e => ?_,fun f a h x e => ?_,fun y b a h x e => ?_⟩
 ·have p:∃ x n,(run gl A n).call f a h=some x:=⟨x,n,e⟩
  have:(lim gl A).call f a h=some p.choose:=by simp only [lim,limOf,dif_pos p]
  rw [this]
  obtain ⟨m,hm⟩:=p.choose_spec
  have h1:=(chain_le (run_le gl A) (Nat.le_add_right n m)).call f a h x e
  have h2:=(chain_le (run_le gl A) (Nat.le_add_left m n)).call f a h _ hm
  rw [h1] at h2
  exact h2.symm
 ·have p:∃ x n,(run gl A n).dcall f a u h=some x:=⟨x,n,e⟩
  have:(lim gl A).dcall f a u h=some p.choose:=by simp only [lim,limOf,dif_pos p]
  rw [this]
  obtain ⟨m,hm⟩:=p.choose_spec
  have h1:=(chain_le (run_le gl A) (Nat.le_add_right n m)).dcall f a u h x e
  have h2:=(chain_le (run_le gl A) (Nat.le_add_left m n)).dcall f a u h _ hm
  rw [h1] at h2
  exact h2.symm
 ·have p:∃ x n,(run gl A n).loop b c=some x:=⟨x,n,e⟩
  have:(lim gl A).loop b c=some p.choose:=by simp only [lim,limOf,dif_pos p]
  rw [this]
  obtain ⟨m,hm⟩:=p.choose_spec
  have h1:=(chain_le (run_le gl A) (Nat.le_add_right n m)).loop b c x e
  have h2:=(chain_le (run_le gl A) (Nat.le_add_left m n)).loop b c _ hm
  rw [h1] at h2
  exact h2.symm
 ·have p:∃ x n,(run gl A n).ro f a h=some x:=⟨x,n,e⟩
  have:(lim gl A).ro f a h=some p.choose:=by simp only [lim,limOf,dif_pos p]
  rw [this]
  obtain ⟨m,hm⟩:=p.choose_spec
  have h1:=(chain_le (run_le gl A) (Nat.le_add_right n m)).ro f a h x e
  have h2:=(chain_le (run_le gl A) (Nat.le_add_left m n)).ro f a h _ hm
  rw [h1] at h2
  exact h2.symm
 ·have p:∃ x n,(run gl A n).round y b a h=some x:=⟨x,n,e⟩
  have:(lim gl A).round y b a h=some p.choose:=by simp only [lim,limOf,dif_pos p]
  rw [this]
  obtain ⟨m,hm⟩:=p.choose_spec
  have h1:=(chain_le (run_le gl A) (Nat.le_add_right n m)).round y b a h x e
  have h2:=(chain_le (run_le gl A) (Nat.le_add_left m n)).round y b a h _ hm
  rw [h1] at h2
  exact h2.symm
theorem opt_ext {α:Type} {a b:Option α} (h1:∀ x,a=some x→b=some x) (h2:∀ x,b=some x→a=some x):a=b:=by
 cases a with
 | some x=>exact (h1 x rfl).symm
 | none=>cases b with
  | none=>rfl
  | some y=>exact h2 y rfl
theorem lim_call (f:Nat) (a:List V) (h:Heap):(lim gl A).call f a h=callF (lim gl A) gl A f a h:=by
 refine opt_ext (fun x e => ?_) (fun x e => ?_)
 ·obtain ⟨n,hn⟩:=(Cont.call (R:=run gl A) f a h).lim x e
  cases n with
  | zero=>simp [run] at hn
  | succ n=>exact mono_of (fun R hR=>cont_callF hR gl A f a h) (run_le_lim gl A n) hn
 ·obtain ⟨n,hn⟩:=(cont_callF (run_le gl A) gl A f a h).lim x e
  exact (run_le_lim gl A (n+1)).call f a h x hn
theorem lim_dcall (f:Nat) (a:List V) (u:Option V) (h:Heap):(lim gl A).dcall f a u h=dcallF (lim gl A) gl A f a u h:=by
 refine opt_ext (fun x e => ?_) (fun x e => ?_)
 ·obtain ⟨n,hn⟩:=(Cont.dcall (R:=run gl A) f a u h).lim x e
  cases n with
  | zero=>simp [run] at hn
  | succ n=>exact mono_of (fun R hR=>cont_dcallF hR gl A f a u h) (run_le_lim gl A n) hn
 ·obtain ⟨n,hn⟩:=(cont_dcallF (run_le gl A) gl A f a u h).lim x e
  exact (run_le_lim gl A (n+1)).dcall f a u h x hn
theorem lim_loop (b:ACode) (c:Cfg):(lim gl A).loop b c=loopF (lim gl A) gl b c:=by
 refine opt_ext (fun x e => ?_) (fun x e => ?_)
 ·obtain ⟨n,hn⟩:=(Cont.loop (R:=run gl A) b c).lim x e
  cases n with
  | zero=>simp [run] at hn
  | succ n=>exact mono_of (fun R hR=>cont_loopF hR gl b c) (run_le_lim gl A n) hn
 ·obtain ⟨n,hn⟩:=(cont_loopF (run_le gl A) gl b c).lim x e
  exact (run_le_lim gl A (n+1)).loop b c x hn
theorem lim_ro (f:Nat) (a:List V) (h:Heap):(lim gl A).ro f a h=roF (lim gl A) gl A f a h:=by
 refine opt_ext (fun x e => ?_) (fun x e => ?_)
 ·obtain ⟨n,hn⟩:=(Cont.ro (R:=run gl A) f a h).lim x e
  cases n with
  | zero=>simp [run] at hn
  | succ n=>exact mono_of (fun R hR=>cont_roF hR gl A f a h) (run_le_lim gl A n) hn
 ·obtain ⟨n,hn⟩:=(cont_roF (run_le gl A) gl A f a h).lim x e
  exact (run_le_lim gl A (n+1)).ro f a h x hn
theorem lim_round (y b:Nat) (a:List V) (h:Heap):(lim gl A).round y b a h=roundF (lim gl A) gl A y b a h:=by
 refine opt_ext (fun x e => ?_) (fun x e => ?_)
 ·obtain ⟨n,hn⟩:=(Cont.round (R:=run gl A) y b a h).lim x e
  cases n with
  | zero=>simp [run] at hn
  | succ n=>exact mono_of (fun R hR=>cont_roundF hR gl A y b a h) (run_le_lim gl A n) hn
 ·obtain ⟨n,hn⟩:=(cont_roundF (run_le gl A) gl A y b a h).lim x e
  exact (run_le_lim gl A (n+1)).round y b a h x hn
theorem lim_run {f:Nat} {a:List V} {h:Heap} {x:R×Heap} (e:(lim gl A).call f a h=some x):∃ n,(run gl A n).call f a h=some x :=
 (Cont.call (R:=run gl A) f a h).lim x e
end
def memAll (w:World):Mem:=fun blk=>match w.heap[blk]? with
 | some (.cells arr _ _)=>some arr
 | _=>none
def G.all (w:World) (Y:Nat→Option YInfo):G:=⟨memAll w,fun _ _=>none,Y⟩
theorem rep_all (w:World) (Y:Nat→Option YInfo):Rep (G.all w Y) [] w:=by
 refine ⟨?_,?_,?_,?_,?_⟩
 ·intro blk arr hM
  simp only [G.all,memAll] at hM
  split at hM
  ·rename_i a e fz hh
   cases hM
   exact ⟨e,fz,hh⟩
  ·cases hM
 ·intro b o hb; simp at hb
 ·intro b b' o o' blk hb; simp at hb
 ·intro b n p hp; simp [G.all] at hp
 ·intro b n sz cs m p hb; simp at hb
section
variable {H:Type} {enc:TypeId×Value→H} {P:Program} {w:World} {base:Nat} {spare:Nat→Bool} {held:Bool}
theorem cell_mem {a:Addr} {v:Value} (h:w.cell? a=some v):a.spot=none∧∃ arr,memAll w a.block=some arr∧arr[a.off]?=some v:=by
 unfold World.cell? at h
 split at h
 ·rename_i c e fz hh
  split at h
  ·cases h
  ·rename_i hs
   exact ⟨by cases hsp:a.spot <;> simp_all,c,by simp [memAll,hh],h⟩
 ·cases h
theorem add_spot (a:Addr) (n:Nat):(a.add n).block=a.block:=by
 unfold Addr.add; split <;> rfl
end
section
variable {H:Type} {enc:TypeId×Value→H} {P:Program} {w:World} {base:Nat} {spare:Nat→Bool} {held:Bool}
end
theorem fn_of_token {P:Program} {t:TypeId} {v:Value} {tok:List UInt8} (h:funcToken P (t,v)=tok) (hne:tok≠[]) :
  ∃ f fn,v = .func (.func f) #[] #[]∧P.funcs[f]?=some fn∧P.funcNamed fn.name=some f∧fn.name.toUTF8.data.toList=tok:=by
 unfold funcToken at h
 split at h
 ·rename_i f first captured heq
  obtain ⟨_,rfl⟩:=Prod.mk.inj heq
  split at h
  ·rename_i hemp
   simp only [Bool.and_eq_true,Array.isEmpty_iff] at hemp
   obtain ⟨rfl,rfl⟩:=hemp
   split at h
   ·rename_i fn hf
    split at h
    ·rename_i hn
     exact ⟨f,fn,rfl,hf,by simpa using hn,h⟩
    ·exact absurd h.symm hne
   ·exact absurd h.symm hne
  ·exact absurd h.symm hne
 ·exact absurd h.symm hne
theorem name_of_bytes {a b:String} (h:a.toUTF8.data.toList=b.toUTF8.data.toList):a=b:=by
 have h1:a.toUTF8=b.toUTF8:=by
  apply bytes_ext
  exact Array.toList_inj.1 h
 exact String.toByteArray_inj.1 h1
mutual
def dcells {H:Type}:DataW H→List V
 | .lit (.bool b)=>[.bool b]
 | .lit (.int k n)=>[.int k n]
 | .lit (.string bs)=>[.str ⟨bs.toArray⟩]
 | .nil=>[.nils]
 | .slice es _=>[.sv (dcellsL es) false]
 | .agg ps=>dflat ps
 | _=>[]
def dcellsL {H:Type}:List (DataW H)→List (List V)
 | []=>[]
 | d :: ds=>dcells d :: dcellsL ds
def dflat {H:Type}:List (DataW H)→List V
 | []=>[]
 | d :: ds=>dcells d++dflat ds
end
theorem dcellsL_eq {H:Type} (ds:List (DataW H)):dcellsL ds=ds.map dcells:=by
 induction ds with
 | nil=>simp [dcellsL]
 | cons d ds ih=>simp [dcellsL,ih]
def dty {H:Type} (P:Program):Nat→TypeId→DataW H→Prop
 | 0,_,_=>False
 | n+1,t,d=>match P.underlying t with
  | some .bool=>∃ b,d = .lit (.bool b)
  | some (.int k)=>∃ m,d = .lit (.int k m)∧(Lit.int k m).wf=true
  | some .string=>∃ s,d = .lit (.string s)∧s.length≤maxLen
  | some (.slice e)=>d = .nil∨∃ es rest,d = .slice es rest∧es.length≤maxLen∧∀ x∈es,dty P n e x
  | some (.struct fs)=>∃ ps,d = .agg ps∧ps.length=fs.size∧∀ (i:Nat) (f:Field) (p:DataW H),fs[i]?=some f→ps[i]?=some p→dty P n f.type p
  | some (.array k e)=>∃ ps,d = .agg ps∧ps.length=k∧∀ p∈ps,dty P n e p
  | _=>False
def offsOk (P:Program):Nat→List Field→Option Nat
 | o,[]=>some o
 | o,f :: fs=>if f.offset=o then offsOk P (o+P.cellsOf f.type) fs else none
def plainTs (P:Program) (l:List TypeId):Bool:=l.all fun t =>
 match P.underlying t with
 | some .bool | some (.int _) | some .string=>P.cellsOf t == 1
 | some (.slice e)=>l.contains e&&decide (0<P.cellsOf e)&&P.cellsOf t == 1
 | some (.struct fs)=>fs.toList.all (fun f=>l.contains f.type)&&offsOk P 0 fs.toList == some (P.cellsOf t)
 | some (.array n e)=>l.contains e&&P.cellsOf t == n * P.cellsOf e
 | _=>false
section
variable {H:Type} {enc:TypeId×Value→H} {P:Program} {w:World} {base:Nat} {spare:Nat→Bool} {held:Bool}
structure RdOk (w:World) (vs:List V) (cs:List Value):Prop where
 rd:RDs (memAll w) vs cs
 one:∀ u∈cs,Value.oneCell' u=true
theorem rd_sliceD {t e:TypeId} {fuel:Nat} {cs:List Value} {x:DataW H×List MemPlace} (ht:P.underlying t=some (.slice e)) (hpos:0<P.cellsOf e) (h:DataW.trod enc P w base spare held fuel t cs=some x)
  (each:∀ n cs' y,n<fuel→DataW.trod enc P w base spare held n e cs'=some y→RdOk w (dcells y.1) cs'∧dty P n e y.1) :
  RdOk w (dcells x.1) cs∧dty P fuel t x.1:=by
 rcases DataW.trod_slice ht h with ⟨rfl,rfl⟩ | ⟨a,len,cap,elems,rest,n,hfuel,rfl,hx,hb,hl,hm,hlen,hel,_,_⟩
 ·refine ⟨⟨.cons _ _ _ _ .nils .nil,by simp; rfl⟩,?_⟩
  cases fuel with
  | zero=>simp [DataW.trod] at h
  | succ n=>simp [dty,ht]
 ·subst hx
  have hty:dty P fuel t (DataW.slice (elems.map (·.1)) (rest.map (·.1))):=by
   subst hfuel
   simp only [dty,ht]
   refine .inr ⟨_,_,rfl,by simp; omega,fun d hd => ?_⟩
   obtain ⟨y,hy,rfl⟩:=List.mem_map.1 hd
   obtain ⟨i,hi,hiy⟩:=List.mem_iff_getElem.1 hy
   have:=hel i (by omega)
   rw [List.getElem?_eq_getElem hi,hiy,Option.bind_eq_some_iff] at this
   obtain ⟨cs',_,h2⟩:=this
   exact (each n cs' y (by omega) h2).2
  refine ⟨?_,hty⟩
  simp only [dcells,dcellsL_eq,List.map_map]
  by_cases h0:len=0
  ·subst h0
   have:elems=[]:=List.length_eq_zero_iff.1 hlen
   subst this
   exact ⟨.cons _ _ _ _ (.sv [] false (some a) 0 cap rfl (Nat.zero_le _) (by simp) (fun h=>absurd h (by omega)) (P.cellsOf e) [] (fun _ _ h=>absurd h (by omega)) (by simp) (.nil _)) .nil,by simp; rfl⟩
  ·have get:∀ i (hi:i<len),∃ cs',w.cells? base (a.add (i * P.cellsOf e)) (P.cellsOf e)=some cs'∧DataW.trod enc P w base spare held n e cs'=some (elems[i]'(by omega)):=by
    intro i hi
    have:=hel i hi
    rw [List.getElem?_eq_getElem (by omega)] at this
    rw [Option.bind_eq_some_iff] at this
    obtain ⟨cs',h1,h2⟩:=this
    exact ⟨cs',h1,h2⟩
   obtain ⟨cs0,hc0,ht0⟩:=get 0 (by omega)
   obtain ⟨_,hl0,hcell0⟩:=World.cells?_some hc0
   have hc:=hcell0 0 hpos
   rw [List.getElem?_eq_getElem (by omega)] at hc
   obtain ⟨hs0,arr,hM,_⟩:=cell_mem hc
   have hM':memAll w a.block=some arr:=by rw [← hM]; simp [add_spot]
   have hsp:a.spot=none:=by
    cases hsa:a.spot with
    | none=>rfl
    | some s =>
     exfalso
     revert hs0
     simp only [Nat.zero_mul]
     unfold Addr.add
     simp [hsa]
   have hadd:∀ k,a.add k=⟨a.block,a.off+k,none⟩:=by
    intro k
    obtain ⟨b,o,s⟩:=a
    simp only at hsp
    subst hsp
    exact add_none b o k
   have key:∀ k i,i+k=len→∃ xs,RDe (memAll w) (P.cellsOf e) ((elems.drop i).map fun y=>dcells y.1) xs∧(∀ u∈xs,Value.oneCell' u=true)∧xs=(arr.toList.drop (a.off+i * P.cellsOf e)).take (k * P.cellsOf e)∧xs.length=k * P.cellsOf e:=by
    intro k
    induction k with
    | zero=>intro i hi; rw [List.drop_of_length_le (by omega)]; exact ⟨[],.nil _,by simp,by simp,by simp⟩
    | succ k ih =>
     intro i hi
     obtain ⟨cs',hc',ht'⟩:=get i (by omega)
     obtain ⟨_,hl',hcell'⟩:=World.cells?_some hc'
     obtain ⟨⟨hrd,hone⟩,_⟩:=each n cs' _ (by omega) ht'
     obtain ⟨xs,hrde,hones,hxs,hxl⟩:=ih (i+1) (by omega)
     have hcs:cs'=(arr.toList.drop (a.off+i * P.cellsOf e)).take (P.cellsOf e):=by
      apply List.ext_getElem?
      intro j
      by_cases hj:j<P.cellsOf e
      ·have hcj:=hcell' j hj
       rw [hadd] at hcj
       have hcj2:w.cell? ((⟨a.block,a.off+i * P.cellsOf e,none⟩:Addr).add j)=some cs'[j]:=by rw [hcj,List.getElem?_eq_getElem (by omega)]
       rw [add_none] at hcj2
       obtain ⟨_,arr2,hM2,hget⟩:=cell_mem hcj2
       simp only at hM2
       rw [hM'] at hM2
       cases hM2
       rw [List.getElem?_eq_getElem (by omega),List.getElem?_take_of_lt hj,List.getElem?_drop]
       simpa using hget.symm
      ·rw [List.getElem?_eq_none (by omega),List.getElem?_eq_none (by simp; omega)]
     rw [List.drop_eq_getElem_cons (by omega)]
     refine ⟨cs'++xs,.cons _ _ _ cs' xs hl' hrd hrde,?_,?_,?_⟩
     ·intro u hu
      rcases List.mem_append.1 hu with hu | hu
      ·exact hone u hu
      ·exact hones u hu
     ·rw [hcs,hxs,Nat.add_mul i,Nat.one_mul,Nat.add_mul k,Nat.one_mul,Nat.add_comm (k * P.cellsOf e),List.take_add,List.drop_drop,Nat.add_assoc]
     ·simp [hl',hxl,Nat.add_mul,Nat.add_comm]
   obtain ⟨xs,hrde,hones,hxs,hxl⟩:=key len 0 (by omega)
   refine ⟨.cons _ _ _ _ (.sv _ false (some a) len cap (by simpa using hlen) hl (by simp) (fun _=>⟨a,arr,rfl,hsp,hM'⟩) (P.cellsOf e) xs (fun ad arr' _ h1 h2 => ?_) hones hrde) .nil,by simp; rfl⟩
   cases h1
   rw [hM'] at h2
   cases h2
   rw [hxl]
   simpa using hxs
theorem RdOk.append {vs us:List V} {xs ys:List Value} (h:RdOk w vs xs) (h':RdOk w us ys):RdOk w (vs++us) (xs++ys) :=
 ⟨h.rd.append h'.rd,fun u hu=>(List.mem_append.1 hu).elim (h.one u) (h'.one u)⟩
theorem rd_fields (n:Nat) (cs:List Value):∀ (fs:List Field) (xs:List (DataW H×List MemPlace)) (o m:Nat),offsOk P o fs=some m→m≤cs.length→xs.length=fs.length →
  (∀ (i:Nat) (f:Field),fs[i]?=some f→DataW.trod enc P w base spare held n f.type ((cs.drop f.offset).take (P.cellsOf f.type))=xs[i]?) →
  (∀ f∈fs,∀ cs' y,DataW.trod enc P w base spare held n f.type cs'=some y→RdOk w (dcells y.1) cs'∧dty P n f.type y.1) →
  o≤m∧RdOk w (dflat (xs.map (·.1))) ((cs.drop o).take (m - o))
 | [],xs,o,m,ho,hm,hl,hx,each=>by
  simp [offsOk] at ho
  subst ho
  have:xs=[]:=List.length_eq_zero_iff.1 (by simpa using hl)
  subst this
  exact ⟨Nat.le_refl _,by simp [dflat]; exact ⟨.nil,by simp⟩⟩
 | f :: fs,xs,o,m,ho,hm,hl,hx,each=>by
  simp only [offsOk] at ho
  split at ho
  ·rename_i hoff
   cases xs with
   | nil=>simp at hl
   | cons x xs =>
    have h0:=hx 0 f rfl
    simp only [List.getElem?_cons_zero] at h0
    obtain ⟨hle,ih⟩:=rd_fields n cs fs xs _ m ho hm (by simpa using hl) (fun i g hg=>by simpa using hx (i+1) g (by simpa using hg)) (fun g hg=>each g (by simp [hg]))
    have h1:=(each f (by simp) _ _ h0).1
    rw [hoff] at h1
    refine ⟨by omega,?_⟩
    simp only [List.map_cons,dflat]
    have e:(cs.drop o).take (m - o)=(cs.drop o).take (P.cellsOf f.type)++(cs.drop (o+P.cellsOf f.type)).take (m - (o+P.cellsOf f.type)):=by
     have h2:m - o=P.cellsOf f.type+(m - (o+P.cellsOf f.type)):=by omega
     have h3:=List.take_add (l:=cs.drop o) (i:=P.cellsOf f.type) (j:=m - (o+P.cellsOf f.type))
     rw [← h2,List.drop_drop] at h3
     exact h3
    rw [e]
    exact h1.append ih
  ·cases ho
theorem trod_array {t e:TypeId} {k fuel:Nat} {cs:List Value} {x:DataW H×List MemPlace} (ht:P.underlying t=some (.array k e)) (h:DataW.trod enc P w base spare held fuel t cs=some x) :
  ∃ (xs:List (DataW H×List MemPlace)) (n:Nat),fuel=n+1∧x=(.agg (xs.map (·.1)),xs.flatMap (·.2))∧cs.length=P.cellsOf t ∧
   (List.range k).mapM (fun i=>DataW.trod enc P w base spare held n e ((cs.drop (i * P.cellsOf e)).take (P.cellsOf e)))=some xs:=by
 cases fuel with
 | zero=>simp [DataW.trod] at h
 | succ n =>
  unfold DataW.trod at h
  rw [ht] at h
  split at h <;> simp_all
  obtain ⟨_,xs,hp,hd⟩:=h
  exact ⟨xs,hd.symm,hp⟩
theorem rd_plain {l:List TypeId} (hl:plainTs P l=true):∀ (fuel:Nat) (t:TypeId) (cs:List Value) (x:DataW H×List MemPlace),t∈l→DataW.trod enc P w base spare held fuel t cs=some x →
  RdOk w (dcells x.1) cs∧dty P fuel t x.1:=by
 intro fuel
 induction fuel using Nat.strongRecOn with
 | _ fuel ih =>
  intro t cs x ht h
  have hk:=List.all_eq_true.1 hl t ht
  cases fuel with
  | zero=>simp [DataW.trod] at h
  | succ n =>
   split at hk
   ·rename_i hu
    obtain ⟨b,rfl,rfl⟩:=DataW.trod_bool hu h
    exact ⟨⟨.cons _ _ _ _ (.bool b) .nil,by simp; rfl⟩,by simp only [dty,hu]; exact ⟨b,rfl⟩⟩
   ·rename_i k hu
    obtain ⟨m,rfl,rfl,hw⟩:=DataW.trod_int hu h
    exact ⟨⟨.cons _ _ _ _ (.int _ _) .nil,by simp; rfl⟩,by simp only [dty,hu]; exact ⟨m,rfl,hw⟩⟩
   ·rename_i hu
    obtain ⟨s,rfl,rfl,hs⟩:=DataW.trod_string hu h
    refine ⟨⟨?_,by simp; rfl⟩,by simp only [dty,hu]; exact ⟨_,rfl,by simpa using hs⟩⟩
    simp only [dcells]
    have:(⟨s.data.toList.toArray⟩:ByteArray)=s:=by cases s; simp
    rw [this]
    exact .cons _ _ _ _ (.str s) .nil
   ·rename_i e hu
    simp only [Bool.and_eq_true,decide_eq_true_eq,List.contains_eq_mem] at hk
    exact rd_sliceD hu hk.1.2 h (fun m cs' y hm hy=>ih m hm e cs' y hk.1.1 hy)
   ·rename_i fs hu
    simp only [Bool.and_eq_true,List.all_eq_true,List.contains_eq_mem,decide_eq_true_eq,beq_iff_eq] at hk
    obtain ⟨xs,m,hm,rfl,hlen,hxl,hx⟩:=DataW.trod_struct hu h
    obtain rfl:n=m:=by omega
    have each:∀ f∈fs.toList,∀ cs' y,DataW.trod enc P w base spare held n f.type cs'=some y→RdOk w (dcells y.1) cs'∧dty P n f.type y.1 :=
     fun f hf cs' y hy=>ih n (by omega) f.type cs' y (hk.1 f hf) hy
    have:=rd_fields n cs fs.toList xs 0 (P.cellsOf t) hk.2 (by omega) (by simpa using hxl) (fun i f hf=>hx i f (by simpa using hf)) each
    refine ⟨?_,?_⟩
    ·simp only [dcells]
     simpa [← hlen] using this.2
    ·simp only [dty,hu]
     refine ⟨_,rfl,by simpa using hxl,fun i f p hf hp => ?_⟩
     have h1:=hx i f hf
     rw [List.getElem?_map,Option.map_eq_some_iff] at hp
     obtain ⟨y,hy,rfl⟩:=hp
     rw [hy] at h1
     exact (each f (by rw [Array.mem_toList_iff]; exact Array.mem_of_getElem? hf) _ _ h1).2
   ·rename_i k e hu
    simp only [Bool.and_eq_true,List.contains_eq_mem,decide_eq_true_eq,beq_iff_eq] at hk
    obtain ⟨xs,m,hm,rfl,hlen,hxs⟩:=trod_array hu h
    obtain rfl:n=m:=by omega
    rw [hk.2] at hlen
    have hxl:xs.length=k:=by simpa using mapM_some_length hxs
    have hx:∀ i,i<k→DataW.trod enc P w base spare held n e ((cs.drop (i * P.cellsOf e)).take (P.cellsOf e))=xs[i]?:=fun i hi=>mapM_some_get hxs i i (by simp [hi])
    have each:∀ cs' y,DataW.trod enc P w base spare held n e cs'=some y→RdOk w (dcells y.1) cs'∧dty P n e y.1 :=
     fun cs' y hy=>ih n (by omega) e cs' y hk.1 hy
    have key:∀ j i,i+j=k→RdOk w (dflat ((xs.drop i).map (·.1))) (cs.drop (i * P.cellsOf e)):=by
     intro j
     induction j with
     | zero =>
      intro i hi
      rw [List.drop_of_length_le (by omega),List.drop_of_length_le (by rw [hlen,← hi]; simp)]
      exact ⟨.nil,by simp⟩
     | succ j ihj =>
      intro i hi
      have h1:=hx i (by omega)
      rw [List.getElem?_eq_getElem (by omega)] at h1
      have h2:=(each _ _ h1).1
      have h3:=ihj (i+1) (by omega)
      rw [List.drop_eq_getElem_cons (by omega)]
      simp only [List.map_cons,dflat]
      have e1:cs.drop (i * P.cellsOf e)=(cs.drop (i * P.cellsOf e)).take (P.cellsOf e)++cs.drop ((i+1) * P.cellsOf e):=by
       rw [Nat.add_mul,Nat.one_mul,← List.drop_drop,List.take_append_drop]
      rw [e1]
      exact h2.append h3
    refine ⟨by simpa [dcells] using key k 0 (by omega),?_⟩
    simp only [dty,hu]
    refine ⟨_,rfl,by simpa using hxl,fun p hp => ?_⟩
    obtain ⟨y,hy,rfl⟩:=List.mem_map.1 hp
    obtain ⟨i,hi,rfl⟩:=List.mem_iff_getElem.1 hy
    have h1:=hx i (by omega)
    rw [List.getElem?_eq_getElem hi] at h1
    exact (each _ _ h1).2
   ·cases hk
end
open Go.ChangeShapes Go.WideShapes Go.ChangeAt Go.RowKit
def isAggT (P:Program) (t:TypeId):Bool:=match P.underlying t with
 | some (.struct _) | some (.array _ _)=>true
 | _=>false
def darg {H:Type} (P:Program) (t:TypeId) (d:DataW H):V:=if isAggT P t then .agg (dcells d) else (dcells d).headD .undef
def dargs {H:Type} (P:Program):List TypeId→List (DataW H)→List V
 | t :: ts,d :: ds=>darg P t d :: dargs P ts ds
 | _,_=>[]
section
variable {H:Type} {enc:TypeId×Value→H} {P:Program} {w:World}
theorem rv_arg {Y:Nat→Option YInfo} {l:List TypeId} (hl:plainTs P l=true) {t:TypeId} (ht:t∈l) {r:Reach} {b0:Nat} {v:Value} (hval:Value.okWide P w r b0 t v) {d:DataW H} {ps:List MemPlace} {base:Nat} {spare:Nat→Bool} {held:Bool}
  (h:DataW.Trod enc P w base spare held t v d ps):RV (G.all w Y) (darg P t d) v∧∃ n,dty P n t d:=by
 obtain ⟨fuel,hf⟩:=h
 obtain ⟨hr,hd⟩:=rd_plain hl fuel t _ _ ht hf
 refine ⟨?_,fuel,hd⟩
 have hk:=List.all_eq_true.1 hl t ht
 unfold darg isAggT
 simp only [Value.okWide] at hval
 cases hu:P.underlying t with
 | none=>rw [hu] at hk; simp at hk
 | some u =>
  rw [hu] at hval hk
  cases u with
  | struct fs =>
   obtain ⟨cs,rfl,_⟩:=hval
   simp only [if_true]
   exact .d _ _ (.agg _ _ (by simpa [Value.cells,G.all] using hr.rd))
  | array n e =>
   obtain ⟨cs,rfl,_⟩:=hval
   simp only [if_true]
   exact .d _ _ (.agg _ _ (by simpa [Value.cells,G.all] using hr.rd))
  | bool | int | string | slice =>
   have hne:∀ cs,v ≠ .agg cs:=by
    rintro cs rfl
    simp [Cell.okWide,Cell.ok,hu] at hval
   have hc:v.cells.toList=[v]:=by
    cases v <;> simp [Value.cells]
    exact absurd rfl (hne _)
   simp only [Bool.false_eq_true,if_false]
   have:=hr.rd
   rw [hc] at this
   generalize dcells d=vs at this
   cases this with
   | cons a as _ _ h1 h2=>exact .d _ _ h1
  | _=>simp at hk
theorem rv_args {Y:Nat→Option YInfo} {l:List TypeId} (hl:plainTs P l=true) {r:Reach} {b0:Nat} {base:Nat} {spare:Nat→Bool} {held:Bool}:∀ {ts:List TypeId} {vs:List Value} {ds:List (DataW H)} {ps:List MemPlace},(∀ t∈ts,t∈l) →
  (∀ (j:Nat) t v,ts[j]?=some t→vs[j]?=some v→Value.okWide P w r b0 t v)→DataW.TrodAll enc P w base spare held ts vs ds ps →
  RVs (G.all w Y) (dargs P ts ds) vs∧ds.length=ts.length∧∀ (j:Nat) t d,ts[j]?=some t→ds[j]?=some d→∃ n,dty P n t d
 | [],[],[],_,_,_,_=>⟨.nil,rfl,by simp⟩
 | t :: ts,v :: vs,d :: ds,_,ht,hv,⟨p,q,h,hs,_⟩=>by
  obtain ⟨h1,h2⟩:=rv_arg hl (ht t (by simp)) (hv 0 t v rfl rfl) h
  obtain ⟨h3,h4,h5⟩:=rv_args hl (ts:=ts) (fun t' h'=>ht t' (by simp [h'])) (fun j t' v' a b=>hv (j+1) t' v' (by simpa using a) (by simpa using b)) hs
  refine ⟨.cons _ _ _ _ h1 h3,by simp [h4],fun j t' d' a b => ?_⟩
  cases j with
  | zero=>simp at a b; subst a; subst b; exact h2
  | succ j=>exact h5 j t' d' (by simpa using a) (by simpa using b)
theorem kids_plain {l:List TypeId} (hl:plainTs P l=true) (hlay:laidOutB P=true) (hm:mapsRowed P=true) (hlt:l.all (· < P.types.size)=true):Kids P (· ∈ l):=by
 have K:=kids_rows hlay hm
 have lt:∀ {t},t∈l→t<P.types.size:=fun h=>by simpa using List.all_eq_true.1 hlt _ h
 have kk:∀ {t},t∈l→_:=fun {t} h=>List.all_eq_true.1 hl t h
 refine ⟨?_,?_,?_,?_,?_⟩
 ·intro t e ht hu; have:=kk ht; rw [hu] at this; simp at this
 ·intro t e ht hu; have:=kk ht; rw [hu] at this; simp at this; exact this.1.1
 ·intro t e n ht hu; have:=kk ht; rw [hu] at this; simp at this; exact this
 ·intro t fs ht hu
  have h1:=kk ht
  rw [hu] at h1
  simp only [Bool.and_eq_true,List.all_eq_true,List.contains_eq_mem,decide_eq_true_eq] at h1
  obtain ⟨_,h2,h3⟩:=K.struct (lt ht) hu
  exact ⟨h1.1,h2,h3⟩
 ·intro t k e ht hu; have:=kk ht; rw [hu] at this; simp at this
theorem stay_all {T:TypeId→Prop} (K:Kids P T) (hsz:∀ {t e:TypeId},T t→P.underlying t=some (.slice e)→0<P.cellsOf e) {w':World} {base:Nat} {sp':Nat→Bool} :
  ∀ {ts:List TypeId} {vs:List Value} {ds:List (DataW H)} {ps:List MemPlace},(∀ t∈ts,T t)→DataW.TrodAll enc P w base (fun _=>true) true ts vs ds ps→(∀ p∈ps,w.sameAt w' p)→(∀ p∈ps,sp' p.block=true) →
   DataW.TrodAll enc P w' base sp' true ts vs ds ps
 | [],[],[],_,_,h,_,_=>h
 | t :: ts,v :: vs,d :: ds,_,ht,⟨p,q,⟨n,h⟩,hs,e⟩,h1,h2=>by
  subst e
  refine ⟨p,q,⟨n,?_⟩,stay_all K hsz (fun t' h'=>ht t' (by simp [h'])) hs (fun a ha=>h1 a (by simp [ha])) (fun a ha=>h2 a (by simp [ha])),rfl⟩
  exact DataW.trod_stays K hsz (fun h=>by cases h) (ht t (by simp)) h (fun a ha=>h1 a (by simp at ha; simp [ha])) (fun a ha=>h2 a (by simp at ha; simp [ha]))
theorem sameAt_frame {w':World} (hf:Frame (fun _=>False) w w') {p:MemPlace} (hp:p.block<w.heap.size):w.sameAt w' p:=by
 cases p with
 | cell b off=>simp only [World.sameAt,World.cell?,hf.block b hp (fun h=>h)]
 | map b=>exact hf.block b hp (fun h=>h)
end
section
variable {H:Type} {enc:TypeId×Value→H} {P:Program} {gl:Nat→List V} {gs:List Nat} {tab:Tab} {A:Nat→Option AFunc} {W0:World}
theorem law_of_run (hprog:ProgOK P gs W0 tab A) {f:FuncId} {fn:Func} (s:ChangeSpec) {l:List TypeId} (hl:plainTs P l=true) (hlay:laidOutB P=true) (hm:mapsRowed P=true) (hlt:l.all (· < P.types.size)=true)
  (hts:fn.params.toList.all (l.contains ·)=true) {tb:TypeId} (hres:fn.resultTypes = #[tb]) (hb:P.underlying tb=some .bool) (hvars:s.vars=[])
  {W:World} {base:Nat} {args:Array Value} {ds gs':List (DataW H)} {before:List MemPlace}
  (hval:∀ (j:Nat) t v,fn.params[j]?=some t→args[j]?=some v→Value.okWide P W .any base t v)
  (hW:DataW.Whole enc P fn.params.toList s.vars false W args.toList ds gs' before) (hgl:GlOk gl gs (memAll W))
  (hs:s.fn H ds={ results:=[.lit (.bool true)],args:=ds })
  (hrun:ds.length=fn.params.size→(∀ (j:Nat) t d,fn.params[j]?=some t→ds[j]?=some d→∃ n,dty P n t d)→∃ h',(lim gl A).call f (dargs P fn.params.toList ds) []=some (.ret (.bool true),h')) :
  Calls P f args W fun e W'=>∃ v,e = .returned v∧s.post enc P fn false true false false W args v W':=by
 have hW':=hW
 obtain ⟨p,q,hA,hV,rfl,hfz,hnd⟩:=hW
 rw [hvars] at hV
 obtain ⟨rfl,rfl⟩:=trodVars_none hV
 have hmem:∀ t∈fn.params.toList,t∈l:=fun t ht=>by simpa using List.all_eq_true.1 hts t ht
 obtain ⟨hrv,hlen,hty⟩:=rv_args (Y:=yOf P tab) hl hmem (fun j t v a b=>hval j t v (by simpa using a) (by simpa using b)) hA
 obtain ⟨h',hlim⟩:=hrun (by simpa using hlen) (fun j t d a b=>hty j t d (by simpa using a) b)
 obtain ⟨n,hn⟩:=lim_run gl A hlim
 refine (run_calls hprog hn (rep_all W _) hgl rfl hrv).mono fun e W' hpost => ?_
 cases e with
 | panicked ch=>obtain ⟨v,x,g',h1,_⟩:=hpost; cases h1
 | outgrown=>exact hpost.elim
 | returned x =>
  obtain ⟨v,g',h1,h2,h3⟩:=hpost
  cases h1
  obtain rfl:=h2.bool_inv
  have hfr:=h3.frame_nil
  simp only [List.append_nil] at hW'
  have K:=kids_plain hl hlay hm hlt
  have hsz:∀ {t e:TypeId},t∈l→P.underlying t=some (.slice e)→0<P.cellsOf e:=fun {t e} ht hu=>by
   have:=List.all_eq_true.1 hl t ht
   rw [hu] at this
   simp at this
   exact this.1.2
  have hlt':=hW'.lt
  refine ⟨_,rfl,post_of_frame (pa:=p) (pv:=[]) hW' ?_ ?_ ?_ (by simp) (frame_kept hfr _) (frame_frozen hfr) (ok_one hres rfl (okWide_bool_mk hb true))⟩
  ·intro b sp hd
   rw [List.append_nil,hs,hres]
   exact trodAll_cons_mk (shut_bool hb true) trodAll_mk0
  ·intro sp hsp
   rw [List.append_nil,hs]
   exact stay_all K hsz hmem hA (fun a ha=>sameAt_frame hfr (hlt' a ha)) hsp
  ·intro sp hsp
   rw [List.append_nil,hs,hvars]
   rfl
end
theorem tab_cells {P:Program} {w:World} {base:Nat} {t e:TypeId} {n fuel:Nat} {cs:List Value} {toks:List (List UInt8)} {p:List MemPlace} (ht:P.underlying t=some (.array n e))
  (he:∃ a b c,P.underlying e=some (.func a b c)) (hce:P.cellsOf e=1) (hct:P.cellsOf t=n) (h:DataW.trod (funcToken P) P w base (fun _=>true) true fuel t cs=some (.agg (toks.map DataW.held),p)) (hne:∀ tok∈toks,tok≠[]) :
  cs.length=toks.length∧∀ (i:Nat) (tok:List UInt8),toks[i]?=some tok→∃ f fn,cs[i]?=some (Value.func (.func f) #[] #[])∧P.funcs[f]?=some fn∧P.funcNamed fn.name=some f∧fn.name.toUTF8.data.toList=tok:=by
 obtain ⟨a,b,c,he⟩:=he
 obtain ⟨xs,m,rfl,hh,hlen,hxs⟩:=trod_array ht h
 ·simp only [Prod.mk.injEq,DataW.agg.injEq] at hh
  obtain ⟨h1,h2⟩:=hh
  have h1:=h1.symm
  rw [hct] at hlen
  have hxl:xs.length=n:=by simpa using mapM_some_length hxs
  have htl:toks.length=n:=by
   have:=congrArg List.length h1
   simpa [hxl] using this.symm
  refine ⟨by omega,fun i tok hi => ?_⟩
  have hlt:i<n:=by
   have:=(List.getElem?_eq_some_iff.1 hi).1
   omega
  have hx:DataW.trod (funcToken P) P w base (fun _=>true) true m e ((cs.drop (i * 1)).take 1)=xs[i]?:=by
   have:=mapM_some_get hxs i i (by simp [hlt])
   simpa [hce] using this
  have hxi:xs[i]?.map (·.1)=some (DataW.held tok):=by
   have:=congrArg (·[i]?) h1
   simp only [List.getElem?_map] at this
   rw [this]
   simp [hi]
  rw [Option.map_eq_some_iff] at hxi
  obtain ⟨y,hy,hy1⟩:=hxi
  rw [hy,Nat.mul_one] at hx
  have hci:(cs.drop i).take 1=[cs[i]'(by omega)]:=by
   rw [List.drop_eq_getElem_cons (by omega),List.take_succ_cons,List.take_zero]
  rw [hci] at hx
  have hnt:=hne tok (List.mem_of_getElem? hi)
  cases m with
  | zero=>simp [DataW.trod] at hx
  | succ m =>
   unfold DataW.trod at hx
   rw [he] at hx
   split at hx
   all_goals first | (cases hx; done) | (injections; done) | (simp only [Option.some.injEq] at hx; subst hx; simp only at hy1; cases hy1; done) | skip
   rename_i fn first captured _ hh
   simp only [if_true,Option.some.injEq] at hx
   subst hx
   simp only at hy1
   have htok:funcToken P (e,.func fn first captured)=tok:=by cases hy1; rfl
   obtain ⟨f,fn',h3,h4,h5,h6⟩:=fn_of_token htok hnt
   refine ⟨f,fn',?_,h4,h5,h6⟩
   rw [List.getElem?_eq_getElem (by omega)]
   have:cs[i]'(by omega) = .func fn first captured:=by simpa using hh
   rw [this,h3]
theorem rds_funcs {M:Mem}:∀ (ks:List Nat) (cs:List Value),cs.length=ks.length→(∀ (i k:Nat),ks[i]?=some k→cs[i]?=some (Value.func (.func k) #[] #[]))→RDs M (ks.map fun k=>V.func (.func k) [] []) cs
 | [],[],_,_ => .nil
 | k :: ks,c :: cs,hl,h=>by
  have h0:=h 0 k rfl
  simp only [List.getElem?_cons_zero,Option.some.injEq] at h0
  subst h0
  exact .cons _ _ _ _ (.func _ _ _ _ _ .nil .nil) (rds_funcs ks cs (by simpa using hl) (fun i k' h'=>by simpa using h (i+1) k' (by simpa using h')))
 | [],_ :: _,hl,_=>by simp at hl
 | _ :: _,[],hl,_=>by simp at hl
theorem glOk_tab {P:Program} {w:World} {name:String} {d:DataW Unit} {nms:List (String×Nat)} {g t e n:Nat} (hg:P.globalNamed name=some g) (hty:(P.globals[g]?).map (·.type)=some t) (ht:P.underlying t=some (.array n e))
  (he:∃ a b c,P.underlying e=some (.func a b c)) (hce:P.cellsOf e=1) (hct:P.cellsOf t=n) (h:funcsAt P w name d)
  (hd:d.funcsOut = .agg ((nms.map fun x=>x.1.toUTF8.data.toList).map DataW.held)) (hne:∀ x∈nms,x.1.toUTF8.data.toList≠[]) (hnm:∀ x∈nms,P.funcNamed x.1=some x.2) :
  GlOk (fun _=>nms.map fun x=>V.func (.func x.2) [] []) [g] (memAll w):=by
 obtain ⟨g',t',cs,fuel,p,h1,h2,h3,h4⟩:=h
 obtain rfl:=Option.some.inj (hg.symm.trans h1)
 obtain rfl:=Option.some.inj (hty.symm.trans h2)
 rw [hd] at h4
 obtain ⟨hl,hc⟩:=tab_cells ht he hce hct h4 (fun tok ht'=>by obtain ⟨x,hx,rfl⟩:=List.mem_map.1 ht'; exact hne x hx)
 intro n' hn'
 obtain rfl:n'=g:=by simpa using hn'
 refine ⟨cs,?_,?_⟩
 ·simp only [World.var?,hg,Option.bind_some] at h3
  simp only [memAll]
  split at h3
  ·rename_i cs' _ _ hh; cases h3; rw [hh]
  ·cases h3
 ·have:=rds_funcs (M:=memAll w) (nms.map (·.2)) cs.toList (by simpa using hl) (fun i k hk=>by
   rw [List.getElem?_map,Option.map_eq_some_iff] at hk
   obtain ⟨x,hx,rfl⟩:=hk
   obtain ⟨f,fn,h5,h6,h7,h8⟩:=hc i x.1.toUTF8.data.toList (by simp [hx])
   have hn:=name_of_bytes h8
   rw [hn,hnm x (List.mem_of_getElem? hx)] at h7
   cases h7
   exact h5)
  rw [List.map_map] at this
  exact this
theorem laidVars_mem {P:Program} {w:World}:∀ {l:List (String×DataW Unit)} {ps:List MemPlace},DataW.LaidVars P w l ps→∀ {name:String} {d:DataW Unit},(name,d)∈l →
  ∃ g t cs fuel p,P.globalNamed name=some g∧(P.globals[g]?).map (·.type)=some t∧w.var? P name=some cs∧DataW.trod (fun _=>()) P w 0 (fun _=>true) false fuel t cs.toList=some (d,p)
 | [],_,_,name,d,hm=>by cases hm
 | (n,d') :: r,ps,⟨g,t,cs,fuel,p,q,h1,h2,h3,h4,h5,_⟩,name,d,hm=>by
  rcases List.mem_cons.1 hm with he | hm
  ·cases he
   exact ⟨g,t,cs,fuel,p,h1,h2,h3,h4⟩
  ·exact laidVars_mem h5 hm
theorem data_global {P:Program} {w:World} {laid:List (String×DataW Unit)} (hL:laidMetH P laid w) {name:String} {d:DataW Unit} (hm:(name,d)∈laid) (hh:d.handleName?.isNone=true) {g t:Nat} (hg:P.globalNamed name=some g)
  (hty:(P.globals[g]?).map (·.type)=some t) {tl:List TypeId} (hpl:plainTs P tl=true) (ht:t∈tl):∃ arr,memAll w g=some arr∧RDs (memAll w) (dcells d) arr.toList:=by
 obtain ⟨ps,hl,_⟩:=(laidMetH_iff.1 hL).1
 obtain ⟨g',t',cs,fuel,p,h1,h2,h3,h4⟩:=laidVars_mem hl (List.mem_filter.2 ⟨hm,hh⟩)
 obtain rfl:=Option.some.inj (hg.symm.trans h1)
 obtain rfl:=Option.some.inj (hty.symm.trans h2)
 refine ⟨cs,?_,(rd_plain hpl fuel _ _ _ ht h4).1.rd⟩
 simp only [World.var?,hg,Option.bind_some] at h3
 simp only [memAll]
 split at h3
 ·rename_i cs' _ _ hh; cases h3; rw [hh]
 ·cases h3
def OptP {α β:Type} (o:Option (α×β)) (Q:α→β→Prop):Prop:=match o with
 | some (a,b)=>Q a b
 | none=>False
@[simp] theorem OptP_some {α β:Type} (a:α) (b:β) (Q:α→β→Prop):OptP (some (a,b)) Q=Q a b:=rfl
@[simp] theorem OptP_none {α β:Type} (Q:α→β→Prop):OptP (none:Option (α×β)) Q=False:=rfl
theorem OptP.ex {α β:Type} {o:Option (α×β)} {Q:α→β→Prop} (h:OptP o Q):∃ a b,o=some (a,b)∧Q a b:=by
 cases o with
 | none=>exact False.elim h
 | some p=>exact ⟨p.1,p.2,rfl,h⟩
theorem OptP.intro {α β:Type} {o:Option (α×β)} {Q:α→β→Prop} {a:α} {b:β} (h:o=some (a,b)) (hq:Q a b):OptP o Q:=by
 rw [h]; exact hq
theorem OptP.mono {α β:Type} {o:Option (α×β)} {Q Q':α→β→Prop} (h:OptP o Q) (hq:∀ a b,Q a b→Q' a b):OptP o Q':=by
 cases o with
 | none=>exact False.elim h
 | some p=>exact hq _ _ h
section
variable (rec:Rec) (gl:Nat→List V) (A:Nat→Option AFunc)
def WX (code:ACode) (c:Cfg) (Q:Out→Cfg→Prop):Prop:=OptP (exec rec gl code c) Q
def seqQ (b:ACode) (Q:Out→Cfg→Prop):Out→Cfg→Prop
 | .norm,c=>WX rec gl b c Q
 | o,c=>Q o c
def blockQ (id:Nat) (Q:Out→Cfg→Prop):Out→Cfg→Prop
 | .exit i,c=>if i=id then Q .norm c else Q (.exit i) c
 | o,c=>Q o c
@[simp] theorem seqQ_norm (b:ACode) (Q:Out→Cfg→Prop) (c:Cfg):seqQ rec gl b Q .norm c=WX rec gl b c Q:=rfl
@[simp] theorem seqQ_exit (b:ACode) (Q:Out→Cfg→Prop) (c:Cfg) (i:Nat):seqQ rec gl b Q (.exit i) c=Q (.exit i) c:=rfl
@[simp] theorem seqQ_ret (b:ACode) (Q:Out→Cfg→Prop) (c:Cfg):seqQ rec gl b Q .ret c=Q .ret c:=rfl
@[simp] theorem seqQ_pan (b:ACode) (Q:Out→Cfg→Prop) (c:Cfg) (v:V):seqQ rec gl b Q (.pan v) c=Q (.pan v) c:=rfl
@[simp] theorem blockQ_norm (id:Nat) (Q:Out→Cfg→Prop) (c:Cfg):blockQ id Q .norm c=Q .norm c:=rfl
@[simp] theorem blockQ_exit (id:Nat) (Q:Out→Cfg→Prop) (c:Cfg) (i:Nat):blockQ id Q (.exit i) c=if i=id then Q .norm c else Q (.exit i) c:=rfl
@[simp] theorem blockQ_ret (id:Nat) (Q:Out→Cfg→Prop) (c:Cfg):blockQ id Q .ret c=Q .ret c:=rfl
@[simp] theorem blockQ_pan (id:Nat) (Q:Out→Cfg→Prop) (c:Cfg) (v:V):blockQ id Q (.pan v) c=Q (.pan v) c:=rfl
theorem WX_skip (c:Cfg) (Q:Out→Cfg→Prop):WX rec gl .skip c Q=Q .norm c:=rfl
theorem WX_ret (c:Cfg) (Q:Out→Cfg→Prop):WX rec gl .ret c Q=Q .ret c:=rfl
theorem WX_exit (i:Nat) (c:Cfg) (Q:Out→Cfg→Prop):WX rec gl (.exit i) c Q=Q (.exit i) c:=rfl
theorem WX_seq (a b:ACode) (c:Cfg) (Q:Out→Cfg→Prop):WX rec gl (.seq a b) c Q=WX rec gl a c (seqQ rec gl b Q):=by
 simp only [WX,exec]
 cases exec rec gl a c with
 | none=>rfl
 | some p=>obtain ⟨o,c'⟩:=p; cases o <;> rfl
theorem WX_block (id:Nat) (a:ACode) (c:Cfg) (Q:Out→Cfg→Prop):WX rec gl (.block id a) c Q=WX rec gl a c (blockQ id Q):=by
 simp only [WX,exec]
 cases exec rec gl a _ with
 | none=>rfl
 | some p =>
  obtain ⟨o,c'⟩:=p
  cases o with
  | exit i =>
   simp only
   by_cases h:i=id
   ·simp [h]
   ·simp [h]
  | _=>rfl
theorem WX_ite (t:Nat) (a b:ACode) (sl:List V) (ds:List (V×List V)) (v:Bool) (pn:Option (Option V)) (h:Heap) (Q:Out→Cfg→Prop) :
  WX rec gl (.ite t a b) ⟨sl,ds,some (t,.bool v),pn,h⟩ Q=if v=true then WX rec gl a ⟨sl,ds,none,pn,h⟩ Q else WX rec gl b ⟨sl,ds,none,pn,h⟩ Q:=by
 cases v <;> simp [WX,exec]
theorem WX_last {draw:Bool} {fl:Option (Nat×Nat)} {pok:List Nat} {ops:List AOper} {c c':Cfg} {Q:Out→Cfg→Prop} (h:regA rec gl draw fl pok ops c=some (.norm,c')) (hq:Q .norm c') :
  WX rec gl (.reg draw fl pok ops) c Q:=by
 unfold WX
 simp only [exec,h]
 exact hq
theorem WX_reg (draw:Bool) (fl:Option (Nat×Nat)) (pok:List Nat) (ops:List AOper) (c:Cfg) (Q:Out→Cfg→Prop):WX rec gl (.reg draw fl pok ops) c Q=OptP (regA rec gl draw fl pok ops c) Q:=rfl
theorem WX_loop (a:ACode) (sl:List V) (ds:List (V×List V)) (fl:Option (Nat×V)) (h:Heap) (Q:Out→Cfg→Prop):WX rec gl (.loop a) ⟨sl,ds,fl,none,h⟩ Q=OptP (rec.loop a ⟨sl,ds,fl,none,h⟩) Q:=rfl
theorem WX_scope (a:ACode) (c:Cfg) (Q:Out→Cfg→Prop):WX rec gl (.scope a) c Q=WX rec gl a c Q:=rfl
theorem WX_its (s:Nat) (a b:ACode) (sl:List V) (ds:List (V×List V)) (fl:Option (Nat×V)) (pn:Option (Option V)) (h:Heap) (Q:Out→Cfg→Prop) :
  WX rec gl (.its s a b) ⟨sl,ds,fl,pn,h⟩ Q=match sl.getD s .undef with
   | .bool v=>if v=true then WX rec gl a ⟨sl,ds,none,pn,h⟩ Q else WX rec gl b ⟨sl,ds,none,pn,h⟩ Q
   | _=>False:=by
 simp only [WX,exec]
 cases sl.getD s .undef <;> first | rfl | skip
 case bool v=>cases v <;> rfl
theorem WX_frz (s:Nat) (a:ACode) (c:Cfg) (Q:Out→Cfg→Prop):WX rec gl (.frz s a) c Q=match frzA c.h (c.slots.getD s .undef) with
  | some (v,h)=>WX rec gl a { c with slots:=c.slots.set s v,h:=h } Q
  | none=>False:=by
 simp only [WX,exec]
 cases frzA c.h (c.slots.getD s .undef) with
 | none=>rfl
 | some p=>rfl
end
section
variable {gl:Nat→List V} {A:Nat→Option AFunc}
theorem WX.mono {rec:Rec} {code:ACode} {c:Cfg} {Q Q':Out→Cfg→Prop} (h:WX rec gl code c Q) (hq:∀ o c',Q o c'→Q' o c'):WX rec gl code c Q':=OptP.mono h hq
def roundQ (b:ACode) (gl:Nat→List V) (A:Nat→Option AFunc) (Q:Out→Cfg→Prop):Out→Cfg→Prop
 | .norm,c=>OptP ((lim gl A).loop b c) Q
 | o,c=>Q o c
theorem loop_round {b:ACode} {c:Cfg} {Q:Out→Cfg→Prop} (h:WX (lim gl A) gl b c (roundQ b gl A Q)):OptP ((lim gl A).loop b c) Q:=by
 rw [lim_loop,loopF]
 unfold WX at h
 cases hx:exec (lim gl A) gl b c with
 | none=>rw [hx] at h; exact False.elim h
 | some p =>
  obtain ⟨o,c'⟩:=p
  rw [hx] at h
  cases o <;> exact h
theorem loop_n {b:ACode} {Q:Out→Cfg→Prop} (n:Nat) (I:Nat→Cfg→Prop)
  (step:∀ i c,i≤n→I i c→WX (lim gl A) gl b c (fun o c'=>match o with | .norm=>i<n∧I (i+1) c' | o=>Q o c')):∀ c,I 0 c→OptP ((lim gl A).loop b c) Q:=by
 have key:∀ k i c,i+k=n→I i c→OptP ((lim gl A).loop b c) Q:=by
  intro k
  induction k with
  | zero =>
   intro i c hi hI
   refine loop_round ((step i c (by omega) hI).mono fun o c' h => ?_)
   cases o with
   | norm=>exact absurd h.1 (by omega)
   | _=>exact h
  | succ k ih =>
   intro i c hi hI
   refine loop_round ((step i c (by omega) hI).mono fun o c' h => ?_)
   cases o with
   | norm=>exact ih (i+1) c' (by omega) h.2
   | _=>exact h
 intro c hc
 exact key n 0 c (by omega) hc
def CallP (gl:Nat→List V) (A:Nat→Option AFunc) (f:Nat) (args:List V) (h:Heap) (Q:R→Heap→Prop):Prop:=OptP ((lim gl A).call f args h) Q
theorem CallP.mono {f:Nat} {args:List V} {h:Heap} {Q Q':R→Heap→Prop} (hc:CallP gl A f args h Q) (hq:∀ r h',Q r h'→Q' r h'):CallP gl A f args h Q':=OptP.mono hc hq
def leaveQ (gl:Nat→List V) (A:Nat→Option AFunc) (rs:List ARes) (Q:R→Heap→Prop):Out→Cfg→Prop
 | .norm,c | .ret,c=>OptP (leave (lim gl A) rs c.slots c.dfs none c.h) Q
 | .pan v,c=>OptP (leave (lim gl A) rs c.slots c.dfs (some v) c.h) Q
 | .exit _,_=>False
@[simp] theorem leaveQ_norm (rs:List ARes) (Q:R→Heap→Prop) (c:Cfg):leaveQ gl A rs Q .norm c=OptP (leave (lim gl A) rs c.slots c.dfs none c.h) Q:=rfl
@[simp] theorem leaveQ_ret (rs:List ARes) (Q:R→Heap→Prop) (c:Cfg):leaveQ gl A rs Q .ret c=OptP (leave (lim gl A) rs c.slots c.dfs none c.h) Q:=rfl
@[simp] theorem leaveQ_pan (rs:List ARes) (Q:R→Heap→Prop) (c:Cfg) (v:V):leaveQ gl A rs Q (.pan v) c=OptP (leave (lim gl A) rs c.slots c.dfs (some v) c.h) Q:=rfl
@[simp] theorem leaveQ_exit (rs:List ARes) (Q:R→Heap→Prop) (c:Cfg) (i:Nat):leaveQ gl A rs Q (.exit i) c=False:=rfl
theorem call_of {f:Nat} {af:AFunc} {args:List V} {h:Heap} {Q:R→Heap→Prop} (hA:A f=some af) (hn:args.length=af.nparams)
  (hx:WX (lim gl A) gl af.body ⟨initSlots af.slots args,[],none,none,h⟩ (leaveQ gl A af.results Q)) (hi:af.ins.isEmpty=true:=by rfl):CallP gl A f args h Q:=by
 unfold CallP
 rw [lim_call,callF,hA]
 simp only [hn,hi,and_self,if_true]
 unfold WX at hx
 cases he:exec (lim gl A) gl af.body ⟨initSlots af.slots args,[],none,none,h⟩ with
 | none=>rw [he] at hx; exact False.elim hx
 | some p =>
  obtain ⟨o,c'⟩:=p
  rw [he] at hx
  cases o <;> first | exact hx | exact False.elim hx
theorem call_ofQ {f:Nat} {af:AFunc} {args:List V} {h:Heap} {Q:R→Heap→Prop} (hA:A f=some af) (hn:args.length=af.nparams)
  (hx:∀ Q':R→Heap→Prop,(∀ r h',Q r h'→Q' r h')→WX (lim gl A) gl af.body ⟨initSlots af.slots args,[],none,none,h⟩ (leaveQ gl A af.results Q')) (hi:af.ins.isEmpty=true:=by rfl):CallP gl A f args h Q :=
 call_of hA hn (hx Q fun _ _ h=>h) hi
theorem ro_eq {f:Nat} {af:AFunc} {args:List V} {h:Heap} {r:R} (hA:A f=some af) (hc:(lim gl A).call f args h=some (r,h)) (hr:roC af.body=true:=by rfl):(lim gl A).ro f args h=some r:=by
 rw [lim_call] at hc
 rw [lim_ro,roF,hA]
 simp only [hr,if_true,hc]
 rfl
theorem loop_nQ {b:ACode} {Q:Out→Cfg→Prop} (n:Nat) (I:Nat→Cfg→Prop)
  (step:∀ I':Nat→Cfg→Prop,(∀ i c,I i c→I' i c)→∀ i c,i≤n→I i c→WX (lim gl A) gl b c (fun o c'=>match o with | .norm=>i<n∧I' (i+1) c' | o=>Q o c')) {c:Cfg} (hc:I 0 c):OptP ((lim gl A).loop b c) Q :=
 loop_n n I (step I fun _ _ h=>h) c hc
def dleaveQ (rs:List ARes) (u':Option V) (h':Heap):Out→Cfg→Prop
 | .norm,c | .ret,c=>c.dfs=[]∧c.pn=some u'∧(resultV c.h c.slots rs).isSome=true∧c.h=h'
 | _,_=>False
@[simp] theorem dleaveQ_norm (rs:List ARes) (u':Option V) (h':Heap) (c:Cfg):dleaveQ rs u' h' .norm c=(c.dfs=[]∧c.pn=some u'∧(resultV c.h c.slots rs).isSome=true∧c.h=h'):=rfl
@[simp] theorem dleaveQ_ret (rs:List ARes) (u':Option V) (h':Heap) (c:Cfg):dleaveQ rs u' h' .ret c=(c.dfs=[]∧c.pn=some u'∧(resultV c.h c.slots rs).isSome=true∧c.h=h'):=rfl
theorem dcall_of {f:Nat} {af:AFunc} {args:List V} {h h':Heap} {u u':Option V} (hA:A f=some af) (hn:args.length=af.nparams)
  (hx:WX (noR (lim gl A)) gl af.body ⟨initSlots af.slots args,[],none,some u,h⟩ (dleaveQ af.results u' h')) (hi:af.ins.isEmpty=true:=by rfl):(lim gl A).dcall f args u h=some (u',h'):=by
 rw [lim_dcall,dcallF,hA]
 simp only [hn,hi,and_self,if_true]
 unfold WX noR at hx
 cases he:exec { lim gl A with round:=fun _ _ _ _=>none } gl af.body ⟨initSlots af.slots args,[],none,some u,h⟩ with
 | none=>rw [he] at hx; exact False.elim hx
 | some p =>
  obtain ⟨o,c'⟩:=p
  rw [he] at hx
  cases o with
  | norm =>
   obtain ⟨h1,h2,h3,rfl⟩:=hx
   obtain ⟨x,hx⟩:=Option.isSome_iff_exists.1 h3
   simp only [h1,h2,hx]
  | ret =>
   obtain ⟨h1,h2,h3,rfl⟩:=hx
   obtain ⟨x,hx⟩:=Option.isSome_iff_exists.1 h3
   simp only [h1,h2,hx]
  | exit _=>exact False.elim hx
  | pan _=>exact False.elim hx
theorem CallP.eq {f:Nat} {args:List V} {h:Heap} {r:R} {h':Heap} (hc:CallP gl A f args h (fun a b=>a=r∧b=h')):(lim gl A).call f args h=some (r,h'):=by
 obtain ⟨a,b,e,rfl,rfl⟩:=OptP.ex hc
 exact e
end
inductive SlV (es:List (List V)):V→Prop
 | nil (h:es=[]):SlV es .nils
 | sv (ex:Bool):SlV es (.sv es ex)
section
variable {es:List (List V)} {v:V}
def lenV (x:V):Option V:=match x with
 | .nils=>some (.int .i64 0)
 | .sv es _=>some (.int .i64 es.length)
 | .sl _ _ len _ _ _=>some (.int .i64 len)
 | _=>none
def idxV (x:V) (n:Int) (sz:Nat):Option V:=match x with
 | .sv es _=>if 0≤n then match es[n.toNat]? with
   | some e=>if e.length=sz then some (.pv e) else none
   | none=>none
  else none
 | .sl b off len gen sz' _=>if 0≤n∧n<len∧sz'=sz then some (.ref b ((off+n.toNat) * sz) gen) else none
 | _=>none
theorem popV_len (f:Opd→V) (x:Opd):popV f (.lenS false x)=lenV (f x):=by
 simp only [popV,lenV]
 cases f x <;> simp
theorem popV_idx (f:Opd→V) (x i:Opd) (sz:Nat):popV f (.iadr x i sz)=match f i with | .int _ n=>idxV (f x) n sz | _=>none:=by
 simp only [popV,idxV]
 cases f x <;> cases f i <;> rfl
theorem SlV.len (h:SlV es v):lenV v=some (.int .i64 es.length):=by cases h <;> simp_all [lenV]
theorem SlV.idx (h:SlV es v) (n:Int) (sz:Nat):idxV v n sz=if 0≤n then match es[n.toNat]? with
   | some e=>if e.length=sz then some (.pv e) else none
   | none=>none
  else none:=by cases h <;> simp_all [idxV]
theorem SlV.slen (h:SlV es v):sliceLen v=some es.length:=by cases h <;> simp_all [sliceLen]
theorem SlV.pure (h:SlV es v):pureV v=true:=by cases h <;> simp [pureV]
theorem SlV.cell (h:SlV es v):isCell v=true:=by cases h <;> simp [isCell]
theorem SlV.cells (h:SlV es v):cellsV v=[v]:=by cases h <;> simp [cellsV]
theorem SlV.view (h:SlV es v) (lo:Nat) (hp:Heap):viewV lo hp v=some v:=by cases h <;> simp [viewV]
theorem viewW_of {lo:Nat} {hp:Heap} {v v':V} (h:viewV lo hp v=some v'):viewW lo hp v=some v':=by
 have key:∀ {vs vs':List V},viewL lo hp vs=some vs'→viewWL lo hp vs=some vs':=by
  intro vs
  induction vs with
  | nil=>intro vs' h; simpa [viewL,viewWL] using h
  | cons v vs ih =>
   intro vs' h
   simp only [viewL] at h
   split at h
   ·rename_i v' vs'' h1 h2
    cases h
    simp [viewWL,view1,h1,ih h2]
   ·cases h
 cases v <;> first | (simp only [viewW,view1,h,Option.some_or]; done) | skip
 simp only [viewV,Option.map_eq_some_iff] at h
 obtain ⟨u,hu,rfl⟩:=h
 simp [viewW,key hu]
theorem SlV.viewW (h:SlV es v) (lo:Nat) (hp:Heap):viewW lo hp v=some v:=viewW_of (h.view lo hp)
end
def nthV:List V→Nat→V
 | [],_ => .undef
 | v :: _,0=>v
 | _ :: l,n+1=>nthV l n
def nthO:List V→Nat→Option V
 | [],_=>none
 | v :: _,0=>some v
 | _ :: l,n+1=>nthO l n
@[simp] theorem nthV_zero (v:V) (l:List V):nthV (v :: l) 0=v:=rfl
@[simp] theorem nthV_succ (v:V) (l:List V) (n:Nat):nthV (v :: l) (n+1)=nthV l n:=rfl
@[simp] theorem nthV_nil (n:Nat):nthV [] n = .undef:=rfl
@[simp] theorem nthO_nil (n:Nat):nthO [] n=none:=rfl
@[simp] theorem nthO_zero (v:V) (l:List V):nthO (v :: l) 0=some v:=rfl
@[simp] theorem nthO_succ (v:V) (l:List V) (n:Nat):nthO (v :: l) (n+1)=nthO l n:=rfl
theorem nthV_eq (l:List V) (n:Nat):l.getD n .undef=nthV l n:=by
 induction l generalizing n with
 | nil=>cases n <;> rfl
 | cons v l ih=>cases n with
  | zero=>rfl
  | succ n=>exact ih n
theorem nthO_eq (l:List V) (n:Nat):l[n]?=nthO l n:=by
 induction l generalizing n with
 | nil=>cases n <;> rfl
 | cons v l ih=>cases n with
  | zero=>rfl
  | succ n=>simpa using ih n
@[simp] theorem ev_s (gl:Nat→List V) (env slots:List V) (i:Nat):ev gl env slots (.s i)=nthV slots i:=nthV_eq _ _
@[simp] theorem ev_r (gl:Nat→List V) (env slots:List V) (i:Nat):ev gl env slots (.r i)=nthV env i:=nthV_eq _ _
@[simp] theorem ev_c (gl:Nat→List V) (env slots:List V) (v:V):ev gl env slots (.c v)=v:=rfl
@[simp] theorem ev_g (gl:Nat→List V) (env slots:List V) (n:Nat):ev gl env slots (.g n) = .pv (gl n):=rfl
@[simp] theorem wanted_none (env:List V):wanted env none=some true:=rfl
@[simp] theorem wanted_some (env:List V) (j:Nat) (want:Bool):wanted env (some (j,want))=match nthO env j with
  | some (.bool b)=>some (b == want)
  | some (.tup _)=>some false
  | _=>none:=by rw [← nthO_eq]; rfl
@[simp] theorem defd_eq (slots:List V) (s:Nat):defd slots s=match nthO slots s with
  | none | some .undef=>false
  | _=>true:=by rw [← nthO_eq]; rfl
@[simp] theorem pOff_none (env:List V):pOff env none=some 0:=rfl
@[simp] theorem pOff_some (env:List V) (j:Nat):pOff env (some j)=match nthO env j with
  | some (.int _ n)=>some n.toNat
  | _=>none:=by rw [← nthO_eq]; rfl
theorem regA_eq (rec:Rec) (gl:Nat→List V) (draw:Bool) (fl:Option (Nat×Nat)) (pok:List Nat) (ops:List AOper) (c:Cfg):regA rec gl draw fl pok ops c=if draw&&c.pn.isSome then none else
 if (draw&&anyLz ops) && !lzOK gl ops (traceOps rec gl ops [] c) then none else
 match runOps rec gl ops [] c with
 | some (.norm env c')=>some (.norm,{ c' with flag:=fl.map fun (t,j)=>(t,nthV env j) })
 | some (.pan j v c')=>if draw && !pok.contains j then none else
  if draw&&anyLive pok j && !tailOK rec gl pok j ops (traceOps rec gl ops [] c) then none else some (.pan v,{ c' with slots:=if draw then forget ops c'.slots else c'.slots,flag:=none })
 | none=>none:=by
 simp only [← nthV_eq]; exact regA_def rec gl draw fl pok ops c
theorem resV_slot (h:Heap) (slots:List V) (s:Nat):resV h slots (.slot s)=some (nthV slots s):=by simp only [resV,nthV_eq]
theorem resV_cell (h:Heap) (slots:List V) (s size:Nat) (ag:Bool):resV h slots (.cell s size ag)=loadV h (nthV slots s) size ag:=by simp only [resV,nthV_eq]
theorem resV_prom (h:Heap) (slots:List V) (s size:Nat) (ag:Bool):resV h slots (.prom s size ag)=if defd slots s∧(cellsV (nthV slots s)).length=size then mkV ag (cellsV (nthV slots s)) else none:=by simp only [resV,nthV_eq]
def startS (l:List Nat) (args:List V):List V:=match l with
 | []=>[]
 | t :: l=>nthV args t :: startS l args
theorem initSlots_eq (l:List Nat) (args:List V):initSlots l args=startS l args:=by
 induction l with
 | nil=>rfl
 | cons t l ih=>simp only [startS,← ih,← nthV_eq]; rfl
def rOp2 (K:List V→Cfg→Option ROut) (env:List V) (c:Cfg):Option SR→Option ROut
 | some (.ok v wr df pn hp)=>K (env++[v]) { c with slots:=setSlot c.slots wr,dfs:=pushD df c.dfs,pn:=pn.or c.pn,h:=hp.getD c.h }
 | some (.pan v hp)=>some (.pan env.length v { c with h:=hp.getD c.h })
 | none=>none
def rOp1 (rec:Rec) (gl:Nat→List V) (K:List V→Cfg→Option ROut) (o:AOper) (env:List V) (c:Cfg):Option Bool→Option ROut
 | some true=>rOp2 K env c (stepOp rec gl o env c.slots c.pn c.h)
 | some false=>K (env++[.tup []]) { c with slots:=setSlot c.slots ((slotOf o.dst).map (·,.tup [])) }
 | none=>none
section
variable (rec:Rec) (gl:Nat→List V) (K:List V→Cfg→Option ROut) (o:AOper) (os:List AOper) (env sl:List V) (ds:List (V×List V)) (fl:Option (Nat×V)) (p:Option (Option V)) (h:Heap) (c:Cfg)
@[simp] theorem runOps_nil:runOps rec gl [] env c=some (.norm env c):=of_eq_true (eq_self _)
@[simp] theorem runOps_cons:runOps rec gl (o :: os) env c=rOp1 rec gl (runOps rec gl os) o env c (wanted env o.guard):=by
 simp only [runOps]
 unfold rOp1 rOp2
 rfl
@[simp] theorem rOp1_true:rOp1 rec gl K o env ⟨sl,ds,fl,p,h⟩ (some true)=rOp2 K env ⟨sl,ds,fl,p,h⟩ (stepOp rec gl o env sl p h):=of_eq_true (eq_self _)
@[simp] theorem rOp1_false:rOp1 rec gl K o env ⟨sl,ds,fl,p,h⟩ (some false)=K (env++[.tup []]) ⟨setSlot sl ((slotOf o.dst).map (·,.tup [])),ds,fl,p,h⟩:=of_eq_true (eq_self _)
@[simp] theorem rOp1_none:rOp1 rec gl K o env c none=none:=of_eq_true (eq_self _)
@[simp] theorem rOp2_ok (v:V) (wr:Option (Nat×V)) (df:Option (V×List V)) (pn:Option (Option V)) (hp:Option Heap):rOp2 K env ⟨sl,ds,fl,p,h⟩ (some (.ok v wr df pn hp))=K (env++[v]) ⟨setSlot sl wr,pushD df ds,fl,pn.or p,hp.getD h⟩:=of_eq_true (eq_self _)
@[simp] theorem rOp2_pan (v:V) (hp:Option Heap):rOp2 K env ⟨sl,ds,fl,p,h⟩ (some (.pan v hp))=some (.pan env.length v ⟨sl,ds,fl,p,hp.getD h⟩):=of_eq_true (eq_self _)
@[simp] theorem rOp2_none:rOp2 K env c none=none:=of_eq_true (eq_self _)
end
section
variable (rec:Rec) (gl:Nat→List V) (d:Dst) (g:Option (Nat×Bool)) (env sl:List V) (pn:Option (Option V)) (h:Heap)
@[simp] theorem stepOp_p (op:POp):stepOp rec gl ⟨d,.p op,g⟩ env sl pn h=(popV (ev gl env sl) op).map (putSlot d):=of_eq_true (eq_self _)
@[simp] theorem stepOp_pc (fn:Opd) (args:List Opd):stepOp rec gl ⟨d,.pc fn args,g⟩ env sl pn h=(pcall rec (ev gl env sl fn) (args.map (ev gl env sl))).map (ofRef d):=of_eq_true (eq_self _)
@[simp] theorem stepOp_l (op:LOp):stepOp rec gl ⟨d,.l op,g⟩ env sl pn h=(lopV rec h (ev gl env sl) op).map (ofRef d):=of_eq_true (eq_self _)
@[simp] theorem stepOp_e (op:EOp):stepOp rec gl ⟨d,.e op,g⟩ env sl pn h=(eopV rec h (ev gl env sl) op).map (ofERef d):=of_eq_true (eq_self _)
@[simp] theorem stepOp_lz (l:LOp) (lo hi:Nat):stepOp rec gl ⟨d,.lz l lo hi,g⟩ env sl pn h=(lzV h (ev gl env sl) l).map (putSlot d):=of_eq_true (eq_self _)
@[simp] theorem lzV_load (f:Opd→V) (a:Opd) (size:Nat) (ag:Bool):lzV h f (.load a size ag)=loadV h (f a) size ag:=rfl
@[simp] theorem lzV_look (f:Opd→V) (st:Bool) (ks:List LK) (m k:Opd) (ok:Bool) (zero:V):lzV h f (.look st ks m k ok zero)=lookV h st ks (f m) (f k) ok zero:=rfl
@[simp] theorem stepOp_no:stepOp rec gl ⟨d,.no,g⟩ env sl pn h=none:=of_eq_true (eq_self _)
@[simp] theorem stepOp_np (s:Nat) (x:Opd):stepOp rec gl ⟨.slot s,.np x,g⟩ env sl pn h=if (cellsV (ev gl env sl x)).all isCell then some (.ok .undef (some (s,ev gl env sl x)) none none none) else none:=of_eq_true (eq_self _)
@[simp] theorem stepOp_pa (s:Nat) (b:Option Nat) (k:Nat) (ix:Option (Opd×Nat×Nat)):stepOp rec gl ⟨d,.pa s b k ix,g⟩ env sl pn h=if defd sl s then match pOff env b with
  | some n=>match ix with
   | none=>some (.ok (.int .i64 (n+k:Nat)) none none none none)
   | some (i,m,sz)=>match ev gl env sl i with
    | .int _ j=>if 0≤j∧j<m∧1<m then some (.ok (.int .i64 (n+k+j.toNat * sz:Nat)) none none none none) else none
    | _=>none
  | none=>none
  else none:=of_eq_true (eq_self _)
@[simp] theorem stepOp_pl (s:Nat) (b:Option Nat) (size:Nat) (ag:Bool):stepOp rec gl ⟨d,.pl s b size ag,g⟩ env sl pn h=if defd sl s then match pOff env b with
  | some n=>if n+size≤(cellsV (nthV sl s)).length then (mkV ag (((cellsV (nthV sl s)).drop n).take size)).map (putSlot d) else none
  | none=>none
  else none:=by simp only [← nthV_eq]; rfl
@[simp] theorem stepOp_pu (s:Nat) (b:Option Nat) (size:Nat) (x:Opd):stepOp rec gl ⟨d,.pu s b size x,g⟩ env sl pn h=if defd sl s then match pOff env b with
  | some n =>
   if n+size≤(cellsV (nthV sl s)).length∧(cellsV (ev gl env sl x)).length=size∧(cellsV (ev gl env sl x)).all isCell∧(isAggV (nthV sl s)||size == 1) then
    some (.ok .undef (some (s,match nthV sl s with
     | .agg cs => .agg (splice cs n (cellsV (ev gl env sl x)))
     | _=>ev gl env sl x)) none none none)
   else none
  | none=>none
  else none:=by simp only [← nthV_eq]; rfl
@[simp] theorem stepOp_pan (x:Opd):stepOp rec gl ⟨d,.pan x,g⟩ env sl pn h=match ev gl env sl x with
  | .iface t v=>some (.pan (.iface t v) none)
  | _=>none:=of_eq_true (eq_self _)
@[simp] theorem stepOp_dfr (fn:Opd) (args:List Opd):stepOp rec gl ⟨d,.dfr fn args,g⟩ env sl pn h=match callee (ev gl env sl fn) (args.map (ev gl env sl)) with
  | some _=>some (.ok .undef none (some (ev gl env sl fn,args.map (ev gl env sl))) none none)
  | none=>none:=of_eq_true (eq_self _)
@[simp] theorem stepOp_rcv:stepOp rec gl ⟨d,.rcv,g⟩ env sl pn h=match pn with
  | some (some v)=>match putSlot d v with
   | .ok v wr _ _ _=>some (.ok v wr none (some none) none)
   | r=>some r
  | some none=>some (putSlot d .nili)
  | none=>none:=of_eq_true (eq_self _)
end
theorem WX_its' (rec:Rec) (gl:Nat→List V) (s:Nat) (a b:ACode) (sl:List V) (ds:List (V×List V)) (fl:Option (Nat×V)) (pn:Option (Option V)) (h:Heap) (Q:Out→Cfg→Prop) :
  WX rec gl (.its s a b) ⟨sl,ds,fl,pn,h⟩ Q=match nthV sl s with
   | .bool v=>if v=true then WX rec gl a ⟨sl,ds,none,pn,h⟩ Q else WX rec gl b ⟨sl,ds,none,pn,h⟩ Q
   | _=>False:=by
 first
  | (rw [WX_its,nthV_eq]; done)
  | (rw [WX_its,nthV_eq]; cases nthV sl s <;> rfl)
theorem ecall_yf (rec:Rec) (h:Heap) (b:Nat) (args:List V):ecall rec h false (.yf b) args=ycall rec h b args:=rfl
theorem ecall_func (rec:Rec) (h:Heap) (fz:Bool) (f:Fn) (fi ca args:List V):ecall rec h fz (.func f fi ca) args=ecallF rec h fz (.func f fi ca) args:=rfl
@[simp] theorem callee_func (n:Nat) (fi ca args:List V):callee (.func (.func n) fi ca) args=some (n,fi++args++ca):=rfl
@[simp] theorem leave_nil_none (rec:Rec) (rs:List ARes) (sl:List V) (h:Heap):leave rec rs sl [] none h=(resultV h sl rs).map fun v=>(.ret v,h):=rfl
@[simp] theorem leave_nil_some (rec:Rec) (rs:List ARes) (sl:List V) (v:V) (h:Heap):leave rec rs sl [] (some v) h=some (.pan v,h):=rfl
@[simp] theorem leave_mark (rec:Rec) (rs:List ARes) (sl:List V) (as:List V) (ds:List (V×List V)) (u:Option V) (h:Heap):leave rec rs sl ((.undef,as) :: ds) u h=leave rec rs sl ds u h:=by cases u <;> rfl
@[simp] theorem leave_func (rec:Rec) (rs:List ARes) (sl:List V) (n:Nat) (fi ca as:List V) (ds:List (V×List V)) (u:Option V) (h:Heap):leave rec rs sl ((.func (.func n) fi ca,as) :: ds) u h=match rec.dcall n (fi++as++ca) u h with
  | some (u',h')=>leave rec rs sl ds u' h'
  | none=>none:=by cases u <;> rfl
@[simp] theorem anyLz_nil:anyLz []=false:=rfl
theorem anyLz_cons (d:Dst) (op:AOp) (g:Option (Nat×Bool)) (os:List AOper):anyLz (⟨d,op,g⟩ :: os)=match op with | .lz .. => true | _=>anyLz os:=by cases op <;> rfl
attribute [simp] anyLz_cons anyLive
attribute [simp] WX_its' WX_scope ecall_yf ecall_func ecallF rocall
attribute [simp] regA_eq resV_slot resV_cell resV_prom initSlots_eq startS WX_seq WX_block WX_ite WX_reg WX_skip WX_ret WX_exit WX_loop putSlot ofRef ofERef setSlot pushD lopV eopV pcall mkV binV isNilV pureV pureL resL
@[simp] theorem isCell_vs (cs:List V) (n sz:Nat):isCell (.vs cs n sz)=true:=rfl
@[simp] theorem cellsV_vs (cs:List V) (n sz:Nat):cellsV (.vs cs n sz)=[(.vs cs n sz)]:=rfl
@[simp] theorem isAggV_vs (cs:List V) (n sz:Nat):isAggV (.vs cs n sz)=false:=rfl
@[simp] theorem isCell_yf (b:Nat):isCell (.yf b)=true:=rfl
@[simp] theorem cellsV_yf (b:Nat):cellsV (.yf b)=[(.yf b)]:=rfl
@[simp] theorem isAggV_yf (b:Nat):isAggV (.yf b)=false:=rfl
@[simp] theorem isCell_undef  : isCell .undef=false:=rfl
@[simp] theorem cellsV_undef  : cellsV .undef=[.undef]:=rfl
@[simp] theorem isAggV_undef  : isAggV .undef=false:=rfl
@[simp] theorem isCell_bool (b:Bool):isCell (.bool b)=true:=rfl
@[simp] theorem cellsV_bool (b:Bool):cellsV (.bool b)=[(.bool b)]:=rfl
@[simp] theorem isAggV_bool (b:Bool):isAggV (.bool b)=false:=rfl
@[simp] theorem isCell_int (k:IntKind) (n:Int):isCell (.int k n)=true:=rfl
@[simp] theorem cellsV_int (k:IntKind) (n:Int):cellsV (.int k n)=[(.int k n)]:=rfl
@[simp] theorem isAggV_int (k:IntKind) (n:Int):isAggV (.int k n)=false:=rfl
@[simp] theorem isCell_str (s:ByteArray):isCell (.str s)=true:=rfl
@[simp] theorem cellsV_str (s:ByteArray):cellsV (.str s)=[(.str s)]:=rfl
@[simp] theorem isAggV_str (s:ByteArray):isAggV (.str s)=false:=rfl
@[simp] theorem isCell_nilp  : isCell .nilp=true:=rfl
@[simp] theorem cellsV_nilp  : cellsV .nilp=[.nilp]:=rfl
@[simp] theorem isAggV_nilp  : isAggV .nilp=false:=rfl
@[simp] theorem isCell_nils  : isCell .nils=true:=rfl
@[simp] theorem cellsV_nils  : cellsV .nils=[.nils]:=rfl
@[simp] theorem isAggV_nils  : isAggV .nils=false:=rfl
@[simp] theorem isCell_nilm  : isCell .nilm=true:=rfl
@[simp] theorem cellsV_nilm  : cellsV .nilm=[.nilm]:=rfl
@[simp] theorem isAggV_nilm  : isAggV .nilm=false:=rfl
@[simp] theorem isCell_nilf  : isCell .nilf=true:=rfl
@[simp] theorem cellsV_nilf  : cellsV .nilf=[.nilf]:=rfl
@[simp] theorem isAggV_nilf  : isAggV .nilf=false:=rfl
@[simp] theorem isCell_nili  : isCell .nili=true:=rfl
@[simp] theorem cellsV_nili  : cellsV .nili=[.nili]:=rfl
@[simp] theorem isAggV_nili  : isAggV .nili=false:=rfl
@[simp] theorem isCell_ref (b o g:Nat):isCell (.ref b o g)=true:=rfl
@[simp] theorem cellsV_ref (b o g:Nat):cellsV (.ref b o g)=[(.ref b o g)]:=rfl
@[simp] theorem isAggV_ref (b o g:Nat):isAggV (.ref b o g)=false:=rfl
@[simp] theorem isCell_pv (cs:List V):isCell (.pv cs)=true:=rfl
@[simp] theorem cellsV_pv (cs:List V):cellsV (.pv cs)=[(.pv cs)]:=rfl
@[simp] theorem isAggV_pv (cs:List V):isAggV (.pv cs)=false:=rfl
@[simp] theorem isCell_sl (b o l g z:Nat) (ex:Bool):isCell (.sl b o l g z ex)=true:=rfl
@[simp] theorem cellsV_sl (b o l g z:Nat) (ex:Bool):cellsV (.sl b o l g z ex)=[(.sl b o l g z ex)]:=rfl
@[simp] theorem isAggV_sl (b o l g z:Nat) (ex:Bool):isAggV (.sl b o l g z ex)=false:=rfl
@[simp] theorem isCell_sv (es:List (List V)) (ex:Bool):isCell (.sv es ex)=true:=rfl
@[simp] theorem cellsV_sv (es:List (List V)) (ex:Bool):cellsV (.sv es ex)=[(.sv es ex)]:=rfl
@[simp] theorem isAggV_sv (es:List (List V)) (ex:Bool):isAggV (.sv es ex)=false:=rfl
@[simp] theorem isCell_map (b:Nat):isCell (.map b)=true:=rfl
@[simp] theorem cellsV_map (b:Nat):cellsV (.map b)=[(.map b)]:=rfl
@[simp] theorem isAggV_map (b:Nat):isAggV (.map b)=false:=rfl
@[simp] theorem isCell_func (f:Fn) (fi ca:List V):isCell (.func f fi ca)=true:=rfl
@[simp] theorem cellsV_func (f:Fn) (fi ca:List V):cellsV (.func f fi ca)=[(.func f fi ca)]:=rfl
@[simp] theorem isAggV_func (f:Fn) (fi ca:List V):isAggV (.func f fi ca)=false:=rfl
@[simp] theorem isCell_iface (t:Nat) (v:V):isCell (.iface t v)=true:=rfl
@[simp] theorem cellsV_iface (t:Nat) (v:V):cellsV (.iface t v)=[(.iface t v)]:=rfl
@[simp] theorem isAggV_iface (t:Nat) (v:V):isAggV (.iface t v)=false:=rfl
@[simp] theorem isCell_agg (cs:List V):isCell (.agg cs)=false:=rfl
@[simp] theorem cellsV_agg (cs:List V):cellsV (.agg cs)=cs:=rfl
@[simp] theorem isAggV_agg (cs:List V):isAggV (.agg cs)=true:=rfl
@[simp] theorem isCell_tup (vs:List V):isCell (.tup vs)=false:=rfl
@[simp] theorem cellsV_tup (vs:List V):cellsV (.tup vs)=[(.tup vs)]:=rfl
@[simp] theorem isAggV_tup (vs:List V):isAggV (.tup vs)=false:=rfl
section
variable (f:Opd→V)
@[simp] theorem popV_mov (x:Opd):popV f (.mov x)=some (f x):=rfl
@[simp] theorem popV_pick (c a b:Opd):popV f (.pick c a b)=match f c with | .bool t=>some (if t then f a else f b) | _=>none:=rfl
@[simp] theorem popV_part (x:Opd) (off size:Nat) (ag:Bool):popV f (.part x off size ag)=partV (f x) off size ag:=rfl
@[simp] theorem popV_fadr (x:Opd) (off:Nat):popV f (.fadr x off)=match f x with
  | .ref b o gen=>some (.ref b (o+off) gen)
  | .pv cs=>if off≤cs.length then some (.pv (cs.drop off)) else none
  | _=>none:=rfl
@[simp] theorem popV_iadrA (x i:Opd) (n sz:Nat):popV f (.iadrA x i n sz)=match f x,f i with
  | .ref b o gen,.int _ m=>if 0≤m∧m<n∧1<n then some (.ref b (o+m.toNat * sz) gen) else none
  | .pv cs,.int _ m=>if 0≤m∧m<n∧1<n∧m.toNat * sz≤cs.length then some (.pv (cs.drop (m.toNat * sz))) else none
  | _,_=>none:=rfl
@[simp] theorem popV_index (x i:Opd):popV f (.index x i)=match f x,f i with
  | .str s,.int _ n=>if 0≤n then match s[n.toNat]? with
    | some b=>some (.int .u8 b.toNat)
    | none=>none
   else none
  | _,_=>none:=rfl
@[simp] theorem popV_slc (x:Opd) (lo hi mx:Option Opd) (str:Bool) (sz:Nat):popV f (.slc x lo hi mx str sz)=slcV (f x) (lo.map f) (hi.map f) (mx.map f) str sz:=rfl
@[simp] theorem popV_bin (op:BinOp) (x y:Opd):popV f (.bin op x y)=binV op (f x) (f y):=rfl
@[simp] theorem popV_eqb (neg:Bool) (x y:Opd):popV f (.eqb neg x y)=match f x,f y with
  | .bool a,.bool b=>some (.bool ((a == b) != neg))
  | _,_=>none:=rfl
@[simp] theorem popV_eqn (neg:Bool) (k:NK) (x y:Opd):popV f (.eqn neg k x y)=match isNilV k (f x),isNilV k (f y) with
  | some true,some t=>some (.bool (t != neg))
  | some t,some true=>some (.bool (t != neg))
  | _,_=>none:=rfl
@[simp] theorem popV_eqa (neg:Bool) (n:Nat) (x y:Opd):popV f (.eqa neg n x y)=match f x,f y with
  | .agg a,.agg b=>if a.length=n∧b.length=n then (sameInts a b).map fun t => .bool (t != neg) else none
  | _,_=>none:=rfl
@[simp] theorem popV_not (x:Opd):popV f (.not x)=match f x with | .bool b=>some (.bool !b) | _=>none:=rfl
@[simp] theorem popV_neg (x:Opd):popV f (.neg x)=match f x with | .int k n=>some (.int k (k.wrap (0 - n))) | _=>none:=rfl
@[simp] theorem popV_cpl (x:Opd):popV f (.cpl x)=match f x with | .int k n=>intBin .xor k (if k.signed then -1 else k.max) n | _=>none:=rfl
@[simp] theorem popV_conv (k:IntKind) (x:Opd):popV f (.conv k x)=match f x with | .int _ n=>some (.int k (k.wrap n)) | _=>none:=rfl
@[simp] theorem popV_nchk (x:Opd):popV f (.nchk x)=match f x with | .ref b o gen=>some (.ref b o gen) | .pv cs=>some (.pv cs) | .iface t v=>some (.iface t v) | .func (.func n) fi ca=>some (.func (.func n) fi ca) | _=>none:=rfl
@[simp] theorem popV_build (zero:List V) (parts:List (Nat×Nat×Opd)):popV f (.build zero parts)=(fill zero (parts.map fun (o,n,x)=>(o,n,f x))).map .agg:=rfl
@[simp] theorem popV_bsl (len sz:Nat) (zero:List V) (parts:List (Nat×Opd)):popV f (.bsl len sz zero parts) =
  match fill ((List.replicate len zero).flatten) (parts.map fun (i,x)=>(i * sz,sz,f x)) with
  | some cs=>if pureL cs&&cs.all isCell then some (.sv (chunks sz len cs) true) else none
  | none=>none:=rfl
@[simp] theorem popV_mkf (fn:Fn) (fi ca:List Opd):popV f (.mkf fn fi ca)=some (.func fn (fi.map f) (ca.map f)):=rfl
@[simp] theorem popV_mki (t:Nat) (x:Opd):popV f (.mki t x)=some (.iface t (f x)):=rfl
@[simp] theorem popV_tas (x:Opd) (t:Nat) (ok:Bool) (zero:V):popV f (.tas x t ok zero)=match f x with
  | .nili=>if ok then some (.tup [zero,.bool false]) else none
  | .iface u v=>if u=t then some (if ok then .tup [v,.bool true] else v) else if ok then some (.tup [zero,.bool false]) else none
  | _=>none:=rfl
@[simp] theorem popV_ext (x:Opd) (i:Nat):popV f (.ext x i)=match f x with | .tup vs=>vs[i]? | _=>none:=rfl
@[simp] theorem popV_maxI (x y:Opd):popV f (.maxI x y)=match f x,f y with
  | .int .i64 a,.int .i64 b=>some (.int .i64 (if a<b then b else a))
  | _,_=>none:=rfl
@[simp] theorem popV_minI (x y:Opd):popV f (.minI x y)=match f x,f y with
  | .int .i64 a,.int .i64 b=>some (.int .i64 (if b<a then b else a))
  | _,_=>none:=rfl
@[simp] theorem popV_s2b (x:Opd):popV f (.s2b x)=match f x with | .str s=>some (s2bV s) | _=>none:=rfl
@[simp] theorem popV_mkz (n c:Opd) (sz bytes:Nat) (zero:List V):popV f (.mkz n c sz bytes zero)=match f n,f c with
  | .int _ l,.int _ m=>if 0≤l∧l=m∧l * bytes≤room∧l≤9223372036854775807∧zero.length=sz∧pureL zero then some (.sv (List.replicate l.toNat zero) true) else none
  | _,_=>none:=rfl
@[simp] theorem popV_ldp (a:Opd) (size:Nat) (ag:Bool):popV f (.ldp a size ag)=match f a with
  | .pv cs=>if size≤cs.length then mkV ag (cs.take size) else none
  | _=>none:=rfl
@[simp] theorem popV_bsv (len sz:Nat) (zero:List V) (parts:List (Nat×Opd)):popV f (.bsv len sz zero parts) =
  match fill ((List.replicate len zero).flatten) (parts.map fun (i,x)=>(i * sz,sz,f x)) with
  | some cs=>if cs.all isCell&&decide (0<len * sz) then some (.vs cs len sz) else none
  | none=>none:=rfl
@[simp] theorem popV_eqs (neg:Bool) (ks:List LK) (x y:Opd):popV f (.eqs neg ks x y)=match f x,f y with
  | .agg a,.agg b=>(sameKs [] ks a b).map fun t => .bool (t != neg)
  | _,_=>none:=rfl
@[simp] theorem popV_lenT (x:Opd):popV f (.lenS true x)=match f x with | .str s=>some (.int .i64 s.size) | _=>none:=by
 simp only [popV]
 cases f x <;> simp
attribute [simp] popV_len popV_idx
end
@[simp] theorem lenV_sl (b off len gen sz:Nat) (ex:Bool):lenV (.sl b off len gen sz ex)=some (.int .i64 len):=rfl
@[simp] theorem lenV_sv (es:List (List V)) (ex:Bool):lenV (.sv es ex)=some (.int .i64 es.length):=rfl
@[simp] theorem lenV_nils:lenV .nils=some (.int .i64 0):=rfl
@[simp] theorem idxV_sl (b off len gen sz':Nat) (ex:Bool) (n:Int) (sz:Nat):idxV (.sl b off len gen sz' ex) n sz=if 0≤n∧n<len∧sz'=sz then some (.ref b ((off+n.toNat) * sz) gen) else none:=rfl
@[simp] theorem loadV_ref (h:Heap) (b off gen size:Nat) (ag:Bool):loadV h (.ref b off gen) size ag=match objCells h b with
  | some (n,_,cs)=>if gen=n∧off+size≤cs.length then mkV ag ((cs.drop off).take size) else none
  | none=>none:=rfl
@[simp] theorem loadV_pv (h:Heap) (cs:List V) (size:Nat) (ag:Bool):loadV h (.pv cs) size ag=if size≤cs.length then mkV ag (cs.take size) else none:=rfl
attribute [simp] resultV splice
theorem intBin_add (k:IntKind) (a b:Int):intBin .add k a b=some (.int k (k.wrap (a+b))):=rfl
attribute [simp] intBin shiftV
theorem wrap64 {n:Int} (h0 : -9223372036854775808≤n) (h1:n≤9223372036854775807):IntKind.i64.wrap n=n:=by
 simp only [IntKind.wrap,IntKind.bits,IntKind.signed,Bool.true_and]
 by_cases hn:0≤n
 ·have:n % (2 ^ 64:Int)=n:=by omega
  simp only [this]
  split
  ·rename_i h; simp at h; omega
  ·rfl
 ·have:n % (2 ^ 64:Int)=n+2 ^ 64:=by omega
  simp only [this]
  split
  ·omega
  ·rename_i h; simp at h; omega
theorem appV_own {h:Heap} {o n sz bytes k:Nat} {cs ys:List V} {y:V} (ho:h[o]?=some (.cells n sz cs)) (hk:sliceLen y=some k) (hy:sliceCells h y=some ys) (hl:ys.length=k * sz) (hr:(n+k) * bytes≤room) :
  appV h (.sl o 0 n n sz false) y sz bytes=some (.sl o 0 (n+k) (n+k) sz false,h.set o (.cells (n+k) sz (cs++ys))):=by
 simp only [appV,hk,hy,hl,if_true,objCells,ho]
 rw [if_pos ⟨trivial,trivial,trivial,hr,by omega⟩]
 by_cases h0:k=0
 ·subst h0
  have:ys=[]:=List.length_eq_zero_iff.1 (by simpa using hl)
  subst this
  simp only [if_true,Nat.add_zero,List.append_nil]
  congr
  apply List.ext_getElem?
  intro i
  by_cases hi:o=i
  ·subst hi
   have hlt:=(List.getElem?_eq_some_iff.1 ho).1
   rw [List.getElem?_set_self hlt,ho]
  ·rw [List.getElem?_set_ne hi]
 ·rw [if_neg h0]
  simp
def tOp2 (K:List V→Cfg→Option (List (List V×Cfg))) (env:List V) (c:Cfg):Option SR→Option (List (List V×Cfg))
 | some (.ok v wr df pn hp)=>(K (env++[v]) { c with slots:=setSlot c.slots wr,dfs:=pushD df c.dfs,pn:=pn.or c.pn,h:=hp.getD c.h }).map ((env,c) :: ·)
 | some (.pan _ _)=>some [(env,c)]
 | none=>none
def tOp1 (rec:Rec) (gl:Nat→List V) (K:List V→Cfg→Option (List (List V×Cfg))) (o:AOper) (env:List V) (c:Cfg):Option Bool→Option (List (List V×Cfg))
 | some true=>tOp2 K env c (stepOp rec gl o env c.slots c.pn c.h)
 | some false=>(K (env++[.tup []]) { c with slots:=setSlot c.slots ((slotOf o.dst).map (·,.tup [])) }).map ((env,c) :: ·)
 | none=>none
section
variable {rec:Rec} {gl:Nat→List V} {K:List V→Cfg→Option (List (List V×Cfg))} {o:AOper} {os:List AOper} {env sl:List V} {c:Cfg} {ds:List (V×List V)} {fl:Option (Nat×V)} {p:Option (Option V)} {h:Heap}
@[simp] theorem traceOps_nil:traceOps rec gl [] env c=some [(env,c)]:=of_eq_true (eq_self _)
@[simp] theorem traceOps_cons:traceOps rec gl (o :: os) env c=tOp1 rec gl (traceOps rec gl os) o env c (wanted env o.guard):=by
 simp only [traceOps]
 cases wanted env o.guard with
 | none=>rfl
 | some b =>
  cases b with
  | false=>rfl
  | true =>
   simp only [tOp1]
   cases stepOp rec gl o env c.slots c.pn c.h with
   | none=>rfl
   | some r=>cases r <;> rfl
@[simp] theorem tOp1_true:tOp1 rec gl K o env ⟨sl,ds,fl,p,h⟩ (some true)=tOp2 K env ⟨sl,ds,fl,p,h⟩ (stepOp rec gl o env sl p h):=of_eq_true (eq_self _)
@[simp] theorem tOp1_false:tOp1 rec gl K o env ⟨sl,ds,fl,p,h⟩ (some false)=(K (env++[.tup []]) ⟨setSlot sl ((slotOf o.dst).map (·,.tup [])),ds,fl,p,h⟩).map ((env,⟨sl,ds,fl,p,h⟩) :: ·):=of_eq_true (eq_self _)
@[simp] theorem tOp1_none:tOp1 rec gl K o env c none=none:=of_eq_true (eq_self _)
@[simp] theorem tOp2_ok (v:V) (wr:Option (Nat×V)) (df:Option (V×List V)) (pn:Option (Option V)) (hp:Option Heap):tOp2 K env ⟨sl,ds,fl,p,h⟩ (some (.ok v wr df pn hp)) =
  (K (env++[v]) ⟨setSlot sl wr,pushD df ds,fl,pn.or p,hp.getD h⟩).map ((env,⟨sl,ds,fl,p,h⟩) :: ·):=of_eq_true (eq_self _)
@[simp] theorem tOp2_pan (v:V) (hp:Option Heap):tOp2 K env c (some (.pan v hp))=some [(env,c)]:=of_eq_true (eq_self _)
@[simp] theorem tOp2_none:tOp2 K env c none=none:=of_eq_true (eq_self _)
end
@[simp] theorem lzOK_some (gl:Nat→List V) (ops:List AOper) (t:List (List V×Cfg)):lzOK gl ops (some t)=lzP gl (t.map (·.2.h)) ops t:=rfl
@[simp] theorem lzP_nil (gl:Nat→List V) (hs:List Heap) (t:List (List V×Cfg)):lzP gl hs [] t=true:=by cases t <;> rfl
@[simp] theorem lzP_nil' (gl:Nat→List V) (hs:List Heap) (ops:List AOper):lzP gl hs ops []=true:=by cases ops <;> rfl
@[simp] theorem lzP_cons (gl:Nat→List V) (hs:List Heap) (d:Dst) (op:AOp) (g:Option (Nat×Bool)) (os:List AOper) (env:List V) (c:Cfg) (t:List (List V×Cfg)) :
  lzP gl hs (⟨d,op,g⟩ :: os) ((env,c) :: t)=((match op with
   | .lz l lo hi=>(match wanted env g with
    | some true=>((hs.drop lo).take (hi+1 - lo)).all fun h=>eqO (lzV h (ev gl env c.slots) l) (lzV c.h (ev gl env c.slots) l)
    | _=>true)
   | _=>true)&&lzP gl hs os t):=rfl
@[simp] theorem eqO_some (a b:V):eqO (some a) (some b)=eqV a b:=rfl
theorem eqV_nils:eqV .nils .nils=true:=rfl
theorem eqV_sl (b o l g z:Nat) (e:Bool):eqV (.sl b o l g z e) (.sl b o l g z e)=true:=by simp [eqV]
attribute [simp] eqV_nils eqV_sl
section
variable {gl:Nat→List V} {A:Nat→Option AFunc}
def roundE (b:Nat) (Q:Out→Heap→Prop):Out→Cfg→Prop
 | out,c=>match c.dfs,c.h[b]?,out with
  | [],_,.pan v=>Q (.pan v) c.h
  | [],some (.loop y2 fi2 _ _),.norm=>Q .norm (c.h.set b (.loop y2 fi2 .ready none))
  | [],some (.loop y2 fi2 _ _),.ret=>Q .ret (c.h.set b (.loop y2 fi2 .done (some none)))
  | [],some (.loop y2 fi2 _ _),.exit i=>Q (.exit i) (c.h.set b (.loop y2 fi2 .done (some (some i))))
  | _,_,_=>False
theorem round_of {y b:Nat} {af:AFunc} {args:List V} {h:Heap} {Q:Out→Heap→Prop} {c1:Cfg} {fi:List V} {pd:Option (Option Nat)} (hA:A y=some af) (hn:args.length=af.ins.length) (hi:af.ins.isEmpty=false)
  (ha:exec (lim gl A) gl af.asg { slots:=af.slots.map fun t=>find2 t af.ins args,h:=h }=some (.norm,c1)) (hb:c1.h[b]?=some (.loop y fi .ready pd))
  (hx:WX (lim gl A) gl af.body { c1 with flag:=none,h:=c1.h.set b (.loop y fi .busy pd) } (roundE b Q)):OptP ((lim gl A).round y b args h) Q:=by
 rw [lim_round,roundF,hA]
 simp only [hn,hi,and_self,if_true,ha,hb]
 unfold WX at hx
 cases he:exec (lim gl A) gl af.body { c1 with flag:=none,h:=c1.h.set b (.loop y fi .busy pd) } with
 | none=>rw [he] at hx; exact False.elim hx
 | some p =>
  obtain ⟨out,c'⟩:=p
  rw [he] at hx
  simp only [OptP,roundE] at hx
  obtain ⟨sl,ds,fl,pn,hp⟩:=c'
  simp only at hx ⊢
  cases ds with
  | cons d ds=>exact False.elim hx
  | nil =>
   cases out with
   | pan v=>exact hx
   | _ =>
    cases hb2:hp[b]? with
    | none=>rw [hb2] at hx; exact False.elim hx
    | some o =>
     rw [hb2] at hx
     cases o <;> first | exact False.elim hx | exact hx
end
structure TE where
 f:Nat
 args:List V
 h:Heap
 r:R
 h':Heap
def findT:List TE→Nat→List V→Heap→Option (R×Heap)
 | [],_,_,_=>none
 | e :: es,f,args,h=>if e.f == f&&eqL e.args args&&eqH e.h h then some (e.r,e.h') else findT es f args h
def callT (tbl:List TE) (rec:Rec) (gl:Nat→List V) (A:Nat→Option AFunc) (f:Nat) (args:List V) (h:Heap):Option (R×Heap) :=
 match findT tbl f args h with
 | some x=>some x
 | none=>callF rec gl A f args h
def runT (gl:Nat→List V) (A:Nat→Option AFunc) (tbl:List TE):Nat→Rec
 | 0=>⟨fun _ _ _=>none,fun _ _ _ _=>none,fun _ _=>none,fun _ _ _=>none,fun _ _ _ _=>none⟩
 | n+1=>⟨callT tbl (runT gl A tbl n) gl A,dcallF (runT gl A tbl n) gl A,loopF (runT gl A tbl n) gl,roF (runT gl A tbl n) gl A,roundF (runT gl A tbl n) gl A⟩
section
variable {gl:Nat→List V} {A:Nat→Option AFunc}
def TE.ok (gl:Nat→List V) (A:Nat→Option AFunc) (e:TE):Prop:=(lim gl A).call e.f e.args e.h=some (e.r,e.h')
theorem findT_ok {tbl:List TE} (ht:∀ e∈tbl,e.ok gl A) {f:Nat} {args:List V} {h:Heap} {x:R×Heap} (hf:findT tbl f args h=some x):(lim gl A).call f args h=some x:=by
 induction tbl with
 | nil=>simp [findT] at hf
 | cons e es ih =>
  simp only [findT] at hf
  split at hf
  ·rename_i hc
   simp only [Bool.and_eq_true,beq_iff_eq] at hc
   cases hf
   have:=ht e (by simp)
   rw [TE.ok,hc.1.1,eqL_sound hc.1.2,eqH_sound hc.2] at this
   exact this
  ·exact ih (fun e he=>ht e (by simp [he])) hf
theorem runT_le {tbl:List TE} (ht:∀ e∈tbl,e.ok gl A):∀ n,(runT gl A tbl n).Le (lim gl A)
 | 0=>⟨fun _ _ _ _ h=>(by simp [runT] at h),fun _ _ _ _ _ h=>(by simp [runT] at h),fun _ _ _ h=>(by simp [runT] at h),fun _ _ _ _ h=>(by simp [runT] at h),fun _ _ _ _ _ h=>(by simp [runT] at h)⟩
 | n+1=>by
  have ih:=runT_le ht n
  refine ⟨fun f a h x e => ?_,fun f a u h x e => ?_,fun b c x e => ?_,fun f a h x e => ?_,fun y b a h x e => ?_⟩
  ·have e':callT tbl (runT gl A tbl n) gl A f a h=some x:=e
   unfold callT at e'
   split at e'
   ·rename_i y hy
    cases e'
    exact findT_ok ht hy
   ·rw [lim_call]
    exact mono_of (fun R hR=>cont_callF hR gl A f a h) ih e'
  ·rw [lim_dcall]; exact mono_of (fun R hR=>cont_dcallF hR gl A f a u h) ih e
  ·rw [lim_loop]; exact mono_of (fun R hR=>cont_loopF hR gl b c) ih e
  ·rw [lim_ro]; exact mono_of (fun R hR=>cont_roF hR gl A f a h) ih e
  ·rw [lim_round]; exact mono_of (fun R hR=>cont_roundF hR gl A y b a h) ih e
theorem tbl_run {tbl:List TE} (ht:∀ e∈tbl,e.ok gl A) {n f:Nat} {args:List V} {h:Heap} {r:R} {h':Heap} (e:(runT gl A tbl n).call f args h=some (r,h')):TE.ok gl A ⟨f,args,h,r,h'⟩ :=
 (runT_le ht n).call f args h _ e
theorem tblNil:∀ e∈([]:List TE),e.ok gl A:=fun e h=>by cases h
theorem tblCons {e:TE} {l:List TE} (h:e.ok gl A) (hl:∀ x∈l,x.ok gl A):∀ x∈e :: l,x.ok gl A:=fun x hx=>by
 rcases List.mem_cons.1 hx with rfl | hx
 ·exact h
 ·exact hl x hx
end
end Go.Am
