/- A part of the law's proof: PartC. -/
import Derived.Test.YtlgehpjbhijknaaDoorPartB
set_option linter.unusedVariables false
set_option linter.unusedSimpArgs false
namespace Go.Proofs.Nst
open Go Go.Am
def AllC (H:Heap):Prop:=∀ o∈H,∃ n sz cs,o=Am.Obj.cells n sz cs
theorem AllC.ext {H G:Heap} (h:AllC H) (hl:Le H G) (hn:H.length≤G.length):∃ X,G=H++X:=ext_of hn fun j hj=>by
 obtain ⟨n,sz,cs,e⟩:=h H[j] (List.getElem_mem hj)
 have:H[j]?=some (.cells n sz cs):=by rw [List.getElem?_eq_getElem hj,e]
 rw [this]
 exact hl _ _ _ _ this
theorem okO_one (n:Nat) {v:V} (h:belowV n v=true) (a b:Nat):okO n (.cells a b [v])=true:=by simp [okO,h]
theorem rdAll_none {τ:Ty} {own data:List (List Int)} {n i:Nat} (hi:i<n) (h:rd τ own data i=none):rdAll τ own data n=none:=by
 rw [rdAll,allO_none,List.mem_map]
 exact ⟨i,List.mem_range.2 hi,h⟩
theorem rdAll_of {τ:Ty} {own data:List (List Int)} {n:Nat} {l:List Vl} (h:(List.range n).map (fun i=>rd τ own data i)=l.map some):rdAll τ own data n=some l:=allO_some.2 h
def BldP (H:Heap) (b:Nat) (n:Int) (v:V) (R:List (List Int)) (τ:Ty):Prop :=
 (bldE τ n R=0∧∃ (w:V) (ts:List Tr) (X:Heap),CC 69 [.ref b 0 1,.int .i64 n,v] H (.ret w) (H++X)∧SlV (ts.map Tr.cs) w∧(∀ t∈ts,t.Ok)∧ts.map Tr.vl=bldL τ n R) ∨
 (bldE τ n R≠0∧∃ G,CC 69 [.ref b 0 1,.int .i64 n,v] H (.pan (wrong (bldE τ n R))) G∧Le H G)
theorem built_q {H:Heap} {b:Nat} {n:Int} {v:V} {R:List (List Int)} {τ:Ty} (hA:AllC H) (hC:Closed H) (hv:belowV H.length v=true) (hR:RegsH H v R) (hL:LayD H b τ) (hz:τ.size<2 ^ 20) (lR:R.length<2 ^ 39) (ll:∀ r∈R,r.length<2 ^ 39) (hn64:is64 n):BldP H b n v R τ:=by
 obtain ⟨H0,hH0⟩:∃ H0,H0=H++[.cells 1 1 [.int .i64 n],.cells 1 1 [v]]:=⟨_,rfl⟩
 have le0:Le H H0:=by rw [hH0]; exact (Le.refl H).app _
 have len0:H0.length=H.length+2:=by simp [hH0]
 have g3:H0[H.length]?=some (.cells 1 1 [.int .i64 n]):=by simp [hH0]
 have g4:H0[H.length+1]?=some (.cells 1 1 [v]):=by simp [hH0]
 have o3:=objCells_of g3
 have o4:=objCells_of g4
 have hR0:=hR.le le0
 have hL0:=hL.le le0
 have r74:=ro74_q hL0
 have r90:=ro90_q hL0
 have r75:=ro75_q hL0
 rw [RO] at r74 r90 r75
 have m2:=must_t 2
 have m3:=must_t 3
 have m8:=must_t 8
 have f2:=must_f 2
 have f3:=must_f 3
 have f8:=must_f 8
 rw [PC] at m2 m3 m8
 have hbs:=τ.both_size
 have hlv:=hR0.len
 have wod:IntKind.i64.wrap ((τ.own:Int)+τ.data)=((τ.own+τ.data:Nat):Int):=by rw [wrap64 (by omega) (by omega)]; rfl
 have key:CallP gl Trnx.aprog 69 [.ref b 0 1,.int .i64 n,v] H (fun r H'=>(bldE τ n R=0∧∃ (w:V) (ts:List Tr) (X:Heap),r = .ret w∧H'=H++X∧SlV (ts.map Tr.cs) w∧(∀ t∈ts,t.Ok)∧ts.map Tr.vl=bldL τ n R)∨(bldE τ n R≠0∧r = .pan (wrong (bldE τ n R))∧Le H H')):=by
  refine call_ofQ (af:=Trnx.a69) rfl rfl fun Q hQ => ?_
  have hpan:∀ (e:Int) (G:Heap),bldE τ n R=e→e≠0→Le H G→Q (.pan (wrong e)) G:=fun e G h1 h2 h3=>hQ _ _ (.inr ⟨by rw [h1]; exact h2,by rw [h1],h3⟩)
  simp only [Trnx.a69,WX_seq]
  refine WX_last _ _ (c':=⟨[.ref b 0 1,.int .i64 n,v,.ref H.length 0 1,.ref (H.length+1) 0 1,.nils,.undef,.undef,.undef,.undef,.undef,.undef,.undef,.undef,.undef,.undef],[],none,none,H0⟩) ?_ ?_
  ·rw [hH0]; simp [hR.cell,hR.cells,slotOf]
  simp only [seqQ_norm,WX_seq,WX_scope]
  by_cases n1:0≤n∧n≤20000
  case neg =>
   have he:bldE τ n R=2:=by simp only [bldE]; rw [if_pos n1]
   by_cases n2:0≤n
   ·have n3:¬ n≤20000:=by omega
    simp [o3,n2,n3,f2,slotOf,-pcall]
    exact hpan 2 _ he (by omega) le0
   ·simp [o3,n2,f2,slotOf,-pcall]
    exact hpan 2 _ he (by omega) le0
  obtain ⟨n2,n3⟩:=n1
  obtain ⟨m,rfl⟩:∃ m:Nat,n=m:=⟨n.toNat,by omega⟩
  refine WX_last _ _ (c':=⟨[.ref b 0 1,.int .i64 m,v,.ref H.length 0 1,.ref (H.length+1) 0 1,.nils,.undef,.undef,.undef,.undef,.undef,.undef,.undef,.undef,.undef,.undef],[],none,none,H0⟩) ?_ ?_
  ·simp [o3,n3,m2,slotOf,-pcall]
  simp only [seqQ_norm,WX_seq]
  by_cases c1:R.length=τ.own+τ.data
  case neg =>
   have he:bldE τ m R=8:=by simp only [bldE]; rw [if_neg (by omega),if_pos (fun h=>c1 h.1)]
   have hne:((R.length:Int) == ((τ.own+τ.data:Nat):Int))=false:=ne_false (by omega)
   simp [o4,hlv,r74,r90,wod,hne,f8,slotOf,forget,AOper.writes,-pcall,-Int.natCast_add]
   exact hpan 8 _ he (by omega) le0
  have heq:((R.length:Int) == ((τ.own+τ.data:Nat):Int))=true:=by rw [c1]; simp
  refine WX_last _ _ (c':=⟨[.ref b 0 1,.int .i64 m,v,.ref H.length 0 1,.ref (H.length+1) 0 1,.nils,.undef,.undef,.undef,.undef,.undef,.undef,.undef,.undef,.undef,.undef],[],none,none,H0⟩) ?_ ?_
  ·simp [o4,hlv,r74,r90,wod,heq,m8,slotOf,-pcall,-Int.natCast_add]
  simp only [seqQ_norm,WX_seq]
  obtain ⟨vs,sh1,sh2⟩:=id hR0
  obtain ⟨w0,hw0,shw⟩:=sh1.slc0 (hi:=τ.own) (by rw [← sh2.length]; omega)
  have hany:=any91_q (v:=w0) (R:=R.take τ.own) (n:=(m:Int)) ⟨_,shw,sh2.take τ.own⟩ g3 (by simp; omega)
  cases c2:(R.take τ.own).all (fun r=>(r.length:Int) == (m:Int))
  case false =>
   have he:bldE τ m R=8:=by simp only [bldE]; rw [if_neg (by omega),if_pos (fun h=>by rw [c2] at h; cases h.2.1)]
   rw [c2] at hany
   simp [o4,r74,hw0,hany,f8,slotOf,forget,AOper.writes,-pcall]
   exact hpan 8 _ he (by omega) le0
  rw [c2] at hany
  refine WX_last _ _ (c':=⟨[.ref b 0 1,.int .i64 m,v,.ref H.length 0 1,.ref (H.length+1) 0 1,.nils,.undef,.undef,.undef,.undef,.undef,.undef,.undef,.undef,.undef,.undef],[],none,none,H0⟩) ?_ ?_
  ·simp [o4,r74,hw0,hany,m8,slotOf,-pcall]
  simp only [seqQ_norm,WX_seq,WX_skip]
  have ownl:∀ j,j<τ.own→(R.getD j []).length=m:=fun j hj=>by
   have hjR:j<R.length:=by omega
   have hm:R[j]∈R.take τ.own:=by
    rw [List.mem_iff_getElem?]
    exact ⟨j,by rw [List.getElem?_take,if_pos hj]; simp [hjR]⟩
   have:=List.all_eq_true.1 c2 _ hm
   simp at this
   simp [hjR]
   omega
  -- the function of the pools
  obtain ⟨H1,hH1⟩:∃ H1,H1=H0++[.cells 1 3 [.ref b 0 1,.int .i64 (0:Nat),.int .i64 τ.own]]:=⟨_,rfl⟩
  have c93:=pools93_q H0 b 0 τ.own
  rw [← hH1] at c93
  have len1:H1.length=H.length+3:=by simp [hH1,len0]
  have le1:Le H0 H1:=by rw [hH1]; exact (Le.refl H0).app _
  refine WX_last _ _ (c':=⟨[.ref b 0 1,.int .i64 m,v,.ref H.length 0 1,.ref (H.length+1) 0 1,.nils,.undef,.undef,.undef,.undef,.undef,.func (.func 109) [] [.ref H0.length 0 1],.undef,.undef,.undef,.undef],[],none,none,H1⟩) ?_ ?_
  ·simp [r75,c93,slotOf]
  simp only [seqQ_norm,WX_seq,WX_block]
  obtain ⟨H2,hH2⟩:∃ H2,H2=H1++[.loop 10690 [.ref (H.length+1) 0 1] .ready none]:=⟨_,rfl⟩
  have le2:Le H1 H2:=by rw [hH2]; exact (Le.refl H1).app _
  have len2:H2.length=H.length+4:=by simp [hH2,len1]
  have gB:H2[H1.length]?=some (.loop 10690 [.ref (H.length+1) 0 1] .ready none):=by simp [hH2]
  obtain ⟨ur,X3,c109,hX3⟩:=pools109_q (H:=H2) (B:=H1.length) (c4:=H.length+1) (cs:=H0.length) (v:=v) (R:=R) (b:=b) (o:=0) (d:=τ.own) (τ:=τ) gB (le2 _ _ _ _ (le1 _ _ _ _ g4)) (hR0.le (le1.trans le2)) (le2 _ _ _ _ (by simp [hH1])) (hL0.le (le1.trans le2)) lR (fun r hr=>by have:=ll r hr; omega) (by omega) (by omega) hz
  obtain ⟨G3,hG3⟩:∃ G3,G3=H2++X3:=⟨_,rfl⟩
  rw [← hG3] at c109
  rw [hH2] at c109
  have le02:=(le0.trans le1).trans le2
  cases c3:shpA R τ τ.own
  case false =>
   have hsc:shp τ (R.drop τ.own)=false:=by
    rw [shp_cut] at c3
    rw [← c3]
    congr 1
    rw [List.take_of_length_le (by simp; omega)]
   have he:bldE τ m R=8:=by simp only [bldE]; rw [if_neg (by omega),if_pos (fun h=>by rw [hsc] at h; cases h.2.2)]
   rw [c3,if_neg (by simp)] at c109
   simp only [WX_range]
   simp [c109]
   refine hpan 8 _ he (by omega) ?_
   rw [hG3]
   refine (le02.app X3).set (fun a b c h => ?_) _
   have:=le02 _ _ _ _ h
   rw [gB] at this
   cases this
  have hsc:shp τ (R.drop τ.own)=true:=by
   rw [shp_cut] at c3
   rw [← c3]
   congr 1
   rw [List.take_of_length_le (by simp; omega)]
  rw [c3,if_pos rfl] at c109
  have hbld:bldE τ m R=sumE (rdAll τ (R.take τ.own) (R.drop τ.own) m):=by
   simp only [bldE]
   rw [if_neg (by omega),if_neg (fun h=>h ⟨c1,c2,hsc⟩),Int.toNat_natCast]
  have hrdA:∀ i,rdA R τ 0 τ.own i=rd τ (R.take τ.own) (R.drop τ.own) i:=fun i=>by
   rw [rd_cut,List.drop_zero]
   congr 1
   rw [List.take_of_length_le (by simp; omega)]
  -- behind the range
  obtain ⟨H4,hH4⟩:∃ H4,H4=G3.set H1.length (.loop 10690 [.ref (H.length+1) 0 1] .exhausted none):=⟨_,rfl⟩
  have gB3:G3[H1.length]?=some (.loop 10690 [.ref (H.length+1) 0 1] .ready none):=by rw [hG3]; exact get_app gB
  have len4:H4.length=H.length+6:=by simp [hH4,hG3,hX3,len2]
  have le4:Le H0 H4:=by
   rw [hH4,hG3]
   refine ((le1.trans le2).app X3).set (fun a b c h => ?_) _
   have:=(le1.trans le2) _ _ _ _ h
   rw [gB] at this
   cases this
  have cl4:Closed H4:=by
   have cl0:Closed H0:=by
    rw [hH0]
    refine hC.app fun o ho => ?_
    simp only [List.mem_cons,List.not_mem_nil,or_false] at ho
    rcases ho with rfl | rfl
    ·exact okO_ints _ _ _ [_]
    ·exact okO_one _ (belowV_mono (by simp) v hv) _ _
   have cl1:Closed H1:=by
    rw [hH1]
    refine cl0.app fun o ho => ?_
    rw [List.mem_singleton.1 ho]
    have:=hL0.lt
    simp [okO,belowV]
    omega
   have cl2:Closed H2:=by
    rw [hH2]
    refine cl1.app fun o ho => ?_
    rw [List.mem_singleton.1 ho]
    simp [okO,belowV]
    omega
   have cl3:Closed (H2++X3):=by
    refine cl2.app fun o ho => ?_
    rw [hX3] at ho ⊢
    simp only [List.mem_cons,List.not_mem_nil,or_false] at ho
    rcases ho with rfl | rfl
    ·simp [okO,belowV]; omega
    ·simp [okO,belowV,belowL]
   rw [hH4,hG3]
   refine cl3.set _ ?_
   simp [okO,belowV,hX3]
   omega
  simp only [WX_range]
  simp [c109,gB3]
  rw [← hH4]
  -- the holder
  obtain ⟨H6,hH6⟩:∃ H6,H6=H4++[.map [],.cells 1 2 [v,.map H4.length]]:=⟨_,rfl⟩
  have le6:Le H0 H6:=by rw [hH6]; exact le4.app _
  have o44:=objCells_of (le4 _ _ _ _ g4)
  have hHold:HoldH H6 (H4.length+1) H4.length v R (sp b τ 0 τ.own) []:=by
   refine ⟨by simp [hH6],by simp [hH6],hR0.le le6,?_,by simp [MemoOK],?_⟩
   ·intro e he
    have hLb:=hL0.le le6
    clear hQ hpan
    have gen:∀ (τ:Ty) (b o d:Nat),LayD H6 b τ→∀ e∈sp b τ o d,LayD H6 e.1 e.2.1:=by
     intro τ
     induction τ with
     | unit=>intro b o d h e he; simp [sp] at he; subst he; exact h
     | int=>intro b o d h e he; simp [sp] at he; subst he; exact h
     | pair x y ih1 ih2 =>
      intro b o d h e he
      simp only [sp,List.mem_cons,List.mem_append] at he
      rcases he with rfl | he | he
      ·exact h
      ·exact ih1 _ _ _ h.2.2.1 e he
      ·exact ih2 _ _ _ h.2.2.2 e he
     | sum x y ih1 ih2 =>
      intro b o d h e he
      simp only [sp,List.mem_cons,List.mem_append] at he
      rcases he with rfl | he | he
      ·exact h
      ·exact ih1 _ _ _ h.2.2.1 e he
      ·exact ih2 _ _ _ h.2.2.2 e he
     | seq x ih =>
      intro b o d h e he
      simp only [sp,List.mem_cons] at he
      rcases he with rfl | he
      ·exact h
      ·exact ih _ _ _ h.2.2 e he
    exact gen τ b 0 τ.own hLb e he
   ·rw [hH6]
    refine cl4.app fun o ho => ?_
    simp only [List.mem_cons,List.not_mem_nil,or_false] at ho
    rcases ho with rfl | rfl
    ·rfl
    ·have:belowV (H4++[Am.Obj.map [],.cells 1 2 [v,.map H4.length]]).length v=true:=belowV_mono (by simp; omega) v hv
     simp only [okO,List.all_cons,List.all_nil,Bool.and_true,this,Bool.true_and]
     simp [belowV]
  have henv:Env R (sp b τ 0 τ.own):=⟨lR,ll,fun b' s s' h1 h2=>sp_fun τ b 0 τ.own h1 h2⟩
  have hrng:∀ i,i<m→Rng R τ 0 τ.own i:=fun i hi=>⟨fun j hj=>⟨by omega,by rw [Nat.zero_add,ownl j hj]; exact hi⟩,by omega,c3,by omega,hz⟩
  have hroom:room=140737488355328:=by simp [room]
  have o63:objCells (H4++[.map [],.cells 1 2 [v,.map H4.length]]) H.length=some (1,1,[.int .i64 m]):=by rw [← hH6]; exact objCells_of (le6 _ _ _ _ g3)
  have hvc:=hR.cell
  have hvcs:=hR.cells
  simp [o44,o63,hvc,hvcs,fill,slotOf]
  rw [← hH6]
  have hpanic:∀ (e:Int) (G:Heap),bldE τ m R=e→e≠0→Le H6 G→Q (.pan (wrong e)) G:=fun e G h1 h2 h3=>hpan e G h1 h2 ((le0.trans le6).trans h3)
  refine loop_nQ m (fun i c=>∃ (l:List Vl) (G:Heap) (es:List (V×V)) (s8:V) (fl:Option (Nat×V)),c=⟨[.ref b 0 1,.int .i64 m,v,.ref H.length 0 1,.ref (H.length+1) 0 1,.nils,.ref (H4.length+1) 0 1,.int .i64 (min 20001 (Vl.nodesL l):Nat),s8,.undef,.undef,.func (.func 109) [] [.ref H0.length 0 1],.int .i64 m,.int .i64 i,.undef,.undef],[(.undef,[])],fl,none,G⟩ ∧
   (List.range i).map (fun i=>rd τ (R.take τ.own) (R.drop τ.own) i)=l.map some∧Dyn H6 G H4.length R (sp b τ 0 τ.own) es) ?_ ⟨[],H6,[],.undef,none,rfl,rfl,hHold.self⟩
  rintro I hI i c hi ⟨l,G,es,s8,fl,rfl,hl,hD⟩
  have hHG:=hHold.dyn hD
  have hLG:=hHG.hS _ (sp_self b τ 0 τ.own)
  have r75G:=ro75_q hLG
  rw [RO] at r75G
  by_cases hlt:i<m
  ·have wk1:IntKind.i64.wrap ((i:Int)+1)=(i:Int)+1:=wrap64 (by omega) (by omega)
   have hr:=reach_q henv τ b 0 τ.own i hHG (fun e he=>he) (hrng i hlt)
   unfold ReachP at hr
   rw [hrdA] at hr
   cases hx:rd τ (R.take τ.own) (R.drop τ.own) i with
   | none =>
    rw [hx] at hr
    obtain ⟨G1,c1,l1⟩:=hr
    simp [hlt,r75G,c1,slotOf]
    exact hpanic 8 _ (by rw [hbld,rdAll_none hlt hx]; rfl) (by omega) (hD.le.trans l1)
   | some x =>
    rw [hx] at hr
    obtain ⟨es1,G1,c1,d1⟩:=hr
    have hsx:=sat_le x
    have wm:IntKind.i64.wrap (((min 20001 (Vl.nodesL l):Nat):Int)+(sat x:Nat))=((min 20001 (Vl.nodesL l)+sat x:Nat):Int):=by rw [wrap64 (by omega) (by omega)]; rfl
    have emin:(if ((min 20001 (Vl.nodesL l)+sat x:Nat):Int)<20001 then ((min 20001 (Vl.nodesL l)+sat x:Nat):Int) else 20001)=((min 20001 (Vl.nodesL (l++[x])):Nat):Int):=by
     rw [Vl.nodesL_append]
     simp only [Vl.nodesL]
     have hs:sat x=min 20001 x.nodes:=rfl
     by_cases hh:((min 20001 (Vl.nodesL l)+sat x:Nat):Int)<20001
     ·rw [if_pos hh]; omega
     ·rw [if_neg hh]; omega
    have hI:=hI (i+1) ⟨[.ref b 0 1,.int .i64 m,v,.ref H.length 0 1,.ref (H.length+1) 0 1,.nils,.ref (H4.length+1) 0 1,.int .i64 (min 20001 (Vl.nodesL (l++[x])):Nat),.int .i64 i,.undef,.undef,.func (.func 109) [] [.ref H0.length 0 1],.int .i64 m,.int .i64 ((i:Int)+1),.undef,.undef],[(.undef,[])],none,none,G1⟩
     ⟨l++[x],G1,es1,_,_,rfl,by rw [List.range_succ,List.map_append,hl,List.map_append,List.map_cons,List.map_nil,hx]; rfl,hD.trans d1⟩
    generalize min 20001 (Vl.nodesL l)=q at *
    generalize min 20001 (Vl.nodesL (l++[x]))=q2 at *
    simp [hlt,r75G,c1,wm,emin,wk1,slotOf,-Int.natCast_add]
    exact hI
  ·obtain rfl:i=m:=by omega
   have hall:=rdAll_of hl
   by_cases hle:Vl.nodesL l≤20000
   case neg =>
    have hq:¬ ((min 20001 (Vl.nodesL l):Nat):Int)≤20000:=by omega
    generalize min 20001 (Vl.nodesL l)=q at *
    have hq':¬ q≤20000:=by omega
    simp [hq,hq',f3,slotOf,-pcall]
    exact hpanic 3 _ (by rw [hbld,hall]; simp only [sumE]; rw [if_neg hle]) (by omega) hD.le
   have hE:bldE τ i R=0:=by rw [hbld,hall]; simp only [sumE]; rw [if_pos hle]
   have hL:bldL τ i R=l:=by simp only [bldL]; rw [Int.toNat_natCast,hall]; rfl
   have hq:((min 20001 (Vl.nodesL l):Nat):Int)≤20000:=by omega
   have hlen:l.length=i:=by
    have:=congrArg List.length hl
    simpa using this.symm
   have oG3:=objCells_of (hD.le _ _ _ _ (le6 _ _ _ _ g3))
   have oG3':∀ X,objCells (G++X) H.length=some (1,1,[.int .i64 i]):=fun X=>objCells_of (get_app (hD.le _ _ _ _ (le6 _ _ _ _ g3)))
   generalize min 20001 (Vl.nodesL l)=q at *
   have hq':q≤20000:=by omega
   simp [hq,hq',m3,oG3',slotOf,-pcall]
   refine loop_nQ i (fun k c=>∃ (ts:List Tr) (s10:V) (fl:Option (Nat×V)),c=⟨[.ref b 0 1,.int .i64 i,v,.ref H.length 0 1,.ref (H.length+1) 0 1,.nils,.ref (H4.length+1) 0 1,.int .i64 q,s8,.sl G.length 0 k k 3 false,s10,.func (.func 109) [] [.ref H0.length 0 1],.int .i64 i,.int .i64 i,.int .i64 i,.int .i64 k],[(.undef,[])],fl,none,G++[.cells k 3 (ts.map Tr.cs).flatten]⟩ ∧
    (∀ t∈ts,t.Ok)∧ts.map Tr.vl=l.take k∧ts.length=k) ?_ ⟨[],_,_,rfl,by simp,by simp,rfl⟩
   rintro J hJ k c hk ⟨ts,s10,fl,rfl,hok,hvl,htl⟩
   by_cases hkt:k<i
   ·have wk1:IntKind.i64.wrap ((k:Int)+1)=(k:Int)+1:=wrap64 (by omega) (by omega)
    have hHR:HoldR (G++[.cells k 3 (ts.map Tr.cs).flatten]) (H4.length+1) H4.length v R:=HoldR.app ⟨hHG.hh,hHG.hR,hHG.cl⟩ _ _ (pure_cells ts hok)
    have hLG':=hLG.le ((Le.refl G).app [.cells k 3 (ts.map Tr.cs).flatten])
    simp only at hLG'
    have r75':=ro75_q hLG'
    rw [RO] at r75'
    have hxk:rd τ (R.take τ.own) (R.drop τ.own) k=some (l[k]'(by omega)):=by
     have:=congrArg (·[k]?) hl
     simpa [hkt,show k<l.length by omega] using this
    obtain ⟨t1,o1,v1,c1⟩:=(value_q lR ll τ b 0 τ.own k _ hHR hLG' (hrng k hkt) (by rw [hrdA]; exact hxk)).use hHR.cl
    have hap:=appV_own (h:=G++[.cells k 3 (ts.map Tr.cs).flatten]) (o:=G.length) (n:=k) (sz:=3) (bytes:=40) (cs:=(ts.map Tr.cs).flatten) (y:=.sv [[.int .i64 t1.k,.int .i64 t1.n,t1.v]] true) (k:=1) (ys:=[.int .i64 t1.k,.int .i64 t1.n,t1.v]) (by simp) rfl rfl rfl (by omega)
    rw [set_last] at hap
    have hJ:=hJ (k+1) ⟨[.ref b 0 1,.int .i64 i,v,.ref H.length 0 1,.ref (H.length+1) 0 1,.nils,.ref (H4.length+1) 0 1,.int .i64 q,s8,.sl G.length 0 (k+1) (k+1) 3 false,.int .i64 k,.func (.func 109) [] [.ref H0.length 0 1],.int .i64 i,.int .i64 i,.int .i64 i,.int .i64 ((k:Int)+1)],[(.undef,[])],none,none,G++[.cells (k+1) 3 ((ts.map Tr.cs).flatten++[.int .i64 t1.k,.int .i64 t1.n,t1.v])]⟩
     ⟨ts++[t1],.int .i64 k,none,by simp [t1.cs_eq],by
      intro t ht
      rcases List.mem_append.1 ht with ht | ht
      ·exact hok t ht
      ·rw [List.mem_singleton.1 ht]; exact o1,by
      rw [List.map_append,hvl,← List.take_append_getElem (show k<l.length by omega),List.map_cons,List.map_nil,v1],by simp [htl]⟩
    have cc1:=SlV.cell o1.sl
    have pc1:=SlV.pure o1.sl
    rw [t1.cs_eq] at c1
    generalize (ts.map Tr.cs).flatten=C at *
    simp [hkt,r75',c1,hap,wk1,cc1,pc1,fill,chunks,slotOf,-ecallF]
    exact hJ
   ·obtain rfl:k=i:=by omega
    have hfz:frzV (G++[.cells k 3 (ts.map Tr.cs).flatten]) (.sl G.length 0 k k 3 false)=some (.sv (ts.map Tr.cs) false,G++[.gone]):=by
     have hp:=pure_cells ts hok
     have hch:=chunks_map Tr.cs 3 ts fun x _=>x.cs_length
     rw [htl] at hch
     have ho:objCells (G++[.cells k 3 (ts.map Tr.cs).flatten]) G.length=some (k,3,(ts.map Tr.cs).flatten):=by simp [objCells]
     simp [frzV,viewV,ho,hp,hch]
    obtain ⟨Y,hY⟩:=hA.ext (((le0.trans le6).trans hD.le).app [.gone]) (by
     have:=hD.len
     simp [hH6,len4] at this ⊢
     omega)
    generalize (ts.map Tr.cs).flatten=C at *
    simp [hfz,slotOf]
    refine hQ _ _ (.inl ⟨hE,.sv (ts.map Tr.cs) false,ts,Y,rfl,hY,.sv false,hok,?_⟩)
    rw [hvl,hL,List.take_of_length_le (by omega)]
 obtain ⟨r,H',e,hq⟩:=OptP.ex key
 rcases hq with ⟨h0,w,ts,X,rfl,rfl,h1,h2,h3⟩ | ⟨h0,rfl,h1⟩
 ·exact .inl ⟨h0,w,ts,X,e,h1,h2,h3⟩
 ·exact .inr ⟨h0,H',e,h1⟩
def NoLong (l:List (Option Tr)):Prop:=∀ t,some t∈l→t.long=false
theorem long_kids {t:Tr} (h:t.long=false):∀ x∈t.l,x.long=false:=by
 obtain ⟨k,n,v,l⟩:=t
 simp only [Tr.long,Bool.or_eq_false_iff] at h
 intro x hx
 rw [Bool.eq_false_iff]
 intro e
 have:Tr.longL l=true:=Tr.longL_iff.2 ⟨x,hx,e⟩
 rw [this] at h
 cases h.2
theorem NoLong.map {l:List (Option Tr)} (h:NoLong l) (f:Option Tr→Option Tr) (h0:f none=none) (hf:∀ t u,f (some t)=some u→u∈t.l):NoLong (l.map f):=by
 intro t ht
 obtain ⟨o,ho,he⟩:=List.mem_map.1 ht
 cases o with
 | none=>rw [h0] at he; cases he
 | some u=>exact long_kids (h u ho) t (hf u t he)
theorem NoLong.partU {l:List (Option Tr)} (h:NoLong l) (k:Int):NoLong (l.map (partU k)):=h.map _ rfl fun t u e=>by
 simp only [Nst.partU] at e
 split at e
 ·exact List.mem_of_getElem? e
 ·cases e
def Vl.n:Vl→Int
 | .mk _ n _=>n
def Vl.l:Vl→List Vl
 | .mk _ _ l=>l
theorem ecf_ret {n:Nat} {args:List V} {H H':Heap} {v:V} (h:CC n args H (.ret v) H'):ecallF (lim gl Trnx.aprog) H false (.func (.func n) [] []) args=some (.val v H'):=by
 simp only [ecallF,callee_func,List.nil_append,List.append_nil,h]
 simp
theorem ecf_pan {n:Nat} {args:List V} {H H':Heap} {v:V} (h:CC n args H (.pan v) H') (b:Bool):ecallF (lim gl Trnx.aprog) H b (.func (.func n) [] []) args=some (.pan v H'):=by
 simp only [ecallF,callee_func,List.nil_append,List.append_nil,h]
theorem ecf_cut {n:Nat} {args:List V} {H X:Heap} {v u:V} (hc:Closed H) (h:CC n args H (.ret v) (H++X)) (hv:viewW H.length (H++X) v=some u):ecallF (lim gl Trnx.aprog) H true (.func (.func n) [] []) args=some (.val u H):=by
 simp only [ecallF,callee_func,List.nil_append,List.append_nil,h,if_true,hc.to X,hv]
 simp
theorem layL_cells:∀ (τ:Ty) (b:Nat),∀ o∈layL b τ,∃ n sz cs,o=Am.Obj.cells n sz cs
 | .unit,b,o,h=>by simp [layL] at h; exact ⟨_,_,_,h⟩
 | .int,b,o,h=>by simp [layL] at h; exact ⟨_,_,_,h⟩
 | .pair x y,b,o,h=>by
  simp only [layL,List.mem_cons,List.mem_append] at h
  rcases h with rfl | h | rfl | h
  ·exact ⟨_,_,_,rfl⟩
  ·exact layL_cells x _ o h
  ·exact ⟨_,_,_,rfl⟩
  ·exact layL_cells y _ o h
 | .sum x y,b,o,h=>by
  simp only [layL,List.mem_cons,List.mem_append] at h
  rcases h with rfl | h | rfl | h
  ·exact ⟨_,_,_,rfl⟩
  ·exact layL_cells x _ o h
  ·exact ⟨_,_,_,rfl⟩
  ·exact layL_cells y _ o h
 | .seq x,b,o,h=>by
  simp only [layL,List.mem_cons,List.mem_append,List.not_mem_nil,or_false] at h
  rcases h with rfl | h | rfl
  ·exact ⟨_,_,_,rfl⟩
  ·exact layL_cells x _ o h
  ·exact ⟨_,_,_,rfl⟩
theorem layL_ok:∀ (τ:Ty) (b m:Nat),b+objs τ≤m→∀ o∈layL b τ,okO m o=true
 | .unit,b,m,hm,o,h=>by simp [layL] at h; subst h; simp [okO,belowV]
 | .int,b,m,hm,o,h=>by simp [layL] at h; subst h; simp [okO,belowV]
 | .pair x y,b,m,hm,o,h=>by
  simp only [objs] at hm
  have:=objs_pos y
  simp only [layL,List.mem_cons,List.mem_append] at h
  rcases h with rfl | h | rfl | h
  ·simp [okO,belowV]; omega
  ·exact layL_ok x _ m (by omega) o h
  ·simp [okO,belowV]; omega
  ·exact layL_ok y _ m (by omega) o h
 | .sum x y,b,m,hm,o,h=>by
  simp only [objs] at hm
  have:=objs_pos y
  simp only [layL,List.mem_cons,List.mem_append] at h
  rcases h with rfl | h | rfl | h
  ·simp [okO,belowV]; omega
  ·exact layL_ok x _ m (by omega) o h
  ·simp [okO,belowV]; omega
  ·exact layL_ok y _ m (by omega) o h
 | .seq x,b,m,hm,o,h=>by
  simp only [objs] at hm
  have:=objs_pos x
  simp only [layL,List.mem_cons,List.mem_append,List.not_mem_nil,or_false] at h
  rcases h with rfl | h | rfl
  ·simp [okO,belowV]; omega
  ·exact layL_ok x _ m (by omega) o h
  ·simp [okO,belowV]; omega
theorem AllC.app {H X:Heap} (h:AllC H) (hx:AllC X):AllC (H++X):=fun o ho=>by
 rcases List.mem_append.1 ho with ho | ho
 ·exact h o ho
 ·exact hx o ho
def BL (τ:Ty) (n:Int) (R:List (List Int)) (ts:List Tr) (u:V):Prop:=SlV (ts.map Tr.cs) u∧(∀ t∈ts,t.Ok)∧ts.map Tr.vl=bldL τ n R
theorem view_sl {cs:List (List V)} {u:V} (h:SlV cs u) (hp:pureV u=true) (lo:Nat) (G:Heap):viewW lo G u=some u∧∀ e,viewW lo G (.tup [u,.int .i64 e])=some (.tup [u,.int .i64 e]):=by
 cases h <;> exact ⟨rfl,fun _=>rfl⟩
theorem built_use {H:Heap} {b:Nat} {n:Int} {v:V} {R:List (List Int)} {τ:Ty} (hA:AllC H) (hC:Closed H) (hv:belowV H.length v=true) (hR:RegsH H v R) (hL:LayD H b τ) (hz:τ.size<2 ^ 20) (lR:R.length<2 ^ 39) (ll:∀ r∈R,r.length<2 ^ 39) (hn64:is64 n) :
  (bldE τ n R=0∧∃ u ts,ecallF (lim gl Trnx.aprog) H true (.func (.func 69) [] []) [.ref b 0 1,.int .i64 n,v]=some (.val u H)∧BL τ n R ts u) ∨
  (bldE τ n R≠0∧∃ G,ecallF (lim gl Trnx.aprog) H true (.func (.func 69) [] []) [.ref b 0 1,.int .i64 n,v]=some (.pan (wrong (bldE τ n R)) G)∧Le H G):=by
 rcases built_q hA hC hv hR hL hz lR ll hn64 with ⟨h0,w,ts,X,e,h1,h2,h3⟩ | ⟨h0,G,e,h1⟩
 ·exact .inl ⟨h0,w,ts,ecf_cut hC e (view_sl h1 (h1.pure) _ _).1,h1,h2,h3⟩
 ·exact .inr ⟨h0,G,ecf_pan e true,h1⟩
theorem asked_ecf {t:Tr} {τ:Ty} (hτ:IsTy t τ) (ho:t.Ok) (h1:τ.size≤60) (h2:τ.deep≤12) (H:Heap):ecallF (lim gl Trnx.aprog) H false (.func (.func 53) [] []) [.agg t.cs]=some (.val (.ref H.length 0 1) (H++layL H.length τ)):=ecf_ret (asked_q hτ ho h1 h2 H)
structure BldH (H H2:Heap) (τ:Ty):Prop where
 eq:H2=H++[.cells 1 1 [.int .i64 0]]++layL (H.length+1) τ
 cell:H2[H.length]?=some (.cells 1 1 [.int .i64 0])
 lay:LayD H2 (H.length+1) τ
 len:H.length+1<H2.length
 le:Le H H2
theorem bldH (H:Heap) (τ:Ty):BldH H (H++[.cells 1 1 [.int .i64 0]]++layL (H.length+1) τ) τ:=by
 have h1:=layD_of τ (H++[.cells 1 1 [.int .i64 0]]) []
 simp only [List.append_nil,List.length_append,List.length_singleton] at h1
 refine ⟨rfl,by simp,h1,?_,((Le.refl H).app _).app _⟩
 have:=objs_pos τ
 simp [layL_length]
 omega
theorem BldH.allC {H H2:Heap} {τ:Ty} (h:BldH H H2 τ) (hA:AllC H):AllC H2:=by
 rw [h.eq]
 exact (hA.app fun o ho=>⟨_,_,_,List.mem_singleton.1 ho⟩).app (layL_cells τ _)
theorem BldH.closed {H H2:Heap} {τ:Ty} (h:BldH H H2 τ) (hC:Closed H):Closed H2:=by
 rw [h.eq]
 refine (hC.app fun o ho => ?_).app fun o ho=>layL_ok τ _ _ (by simp [layL_length]; omega) o ho
 rw [List.mem_singleton.1 ho]
 exact okO_ints _ _ _ [_]
theorem set_err {H G H2:Heap} {τ:Ty} (hb:BldH H H2 τ) (hA:AllC H) (hl:Le H2 G) (e:Int):∃ X,G.set H.length (.cells 1 1 [.int .i64 e])=H++X∧objCells (G.set H.length (.cells 1 1 [.int .i64 e])) H.length=some (1,1,[.int .i64 e]):=by
 have hg:=hl _ _ _ _ hb.cell
 obtain ⟨X,hX⟩:=hA.ext ((hb.le.trans hl).set_new (b:=H.length) (Nat.le_refl _) (.cells 1 1 [.int .i64 e])) (by
  have:=(List.getElem?_eq_some_iff.1 hg).1
  simp; omega)
 exact ⟨X,hX,objCells_set hg 1 1 _⟩
theorem allC_nil0:AllC []:=fun o h=>by cases h
theorem closed_nil0:Closed []:=fun o h=>by cases h
abbrev Ret (f:Nat) (args:List V) (v:V):Prop:=∃ h',(lim gl Trnx.aprog).call f args []=some (.ret v,h')
theorem ret_of {f:Nat} {args:List V} {v:V} (key:CallP gl Trnx.aprog f args [] (fun r h'=>r = .ret v)):Ret f args v:=by
 obtain ⟨r,h',e,rfl⟩:=OptP.ex key
 exact ⟨h',e⟩
section
variable {t:Tr} {τ:Ty} (hτ:IsTy t τ) (ho:t.Ok) (h1:τ.size≤60) (h2:τ.deep≤12) {n:Int} (hn:is64 n) {A:List (List Int)} {vA:V} (hA:ListsV A vA) (lA2:A.length<2 ^ 39) (lA:∀ r∈A,r.length<2 ^ 39)
include hτ ho h1 h2 hn hA lA2 lA
theorem er_build (h0:bldE τ n A≠0):Ret 26 [.agg t.cs,.int .i64 n,vA] (.tup [.nils,.int .i64 (bldE τ n A)]):=by
 have hcc:=cells_tr ho
 have vac:=hA.cell
 have vacs:=hA.cells
 have hb:=bldH [] τ
 obtain ⟨H2,hH2⟩:∃ H2,H2=[]++[.cells 1 1 [.int .i64 0]]++layL (([]:Heap).length+1) τ:=⟨_,rfl⟩
 have hc:=asked_ecf hτ ho h1 h2 ([]++[.cells 1 1 [.int .i64 0]])
 simp only [List.length_append,List.length_singleton] at hc
 rw [← hH2] at hc hb
 have hla:=hb.lay
 simp only [List.length_nil,Nat.zero_add,List.nil_append] at hc hla
 refine ret_of (call_ofQ (af:=Trnx.a26) rfl rfl fun Q hQ => ?_)
 simp only [Trnx.a26]
 rcases built_use (hb.allC allC_nil0) (hb.closed closed_nil0) (below_pure _ vA hA.pure) (hA.regs H2) hla (by omega) lA2 lA hn with ⟨eA,_⟩ | ⟨eA,G,cA,gl1⟩
 ·exact absurd eA h0
 ·skip
  obtain ⟨X,hX,oX⟩:=set_err hb allC_nil0 gl1 (bldE τ n A)
  have d1:=caught_wrong 0 (bldE τ n A) 0 G (gl1 _ _ _ _ hb.cell)
  simp only [List.length_nil] at hX oX
  rw [hX] at oX
  simp only [List.nil_append] at hX oX
  generalize bldE τ n A=q at *
  simp [hcc,hc,cA,d1,oX,hX,storeV,vac,vacs,slotOf,forget,AOper.writes,-ecallF,-List.all_eq_true]
  exact hQ _ _ rfl
theorem er_canon (h0:bldE τ n A≠0):Ret 27 [.agg t.cs,.int .i64 n,vA] (.tup [.nils,.int .i64 (bldE τ n A)]):=by
 have hcc:=cells_tr ho
 have vac:=hA.cell
 have vacs:=hA.cells
 have hb:=bldH [] τ
 obtain ⟨H2,hH2⟩:∃ H2,H2=[]++[.cells 1 1 [.int .i64 0]]++layL (([]:Heap).length+1) τ:=⟨_,rfl⟩
 have hc:=asked_ecf hτ ho h1 h2 ([]++[.cells 1 1 [.int .i64 0]])
 simp only [List.length_append,List.length_singleton] at hc
 rw [← hH2] at hc hb
 have hla:=hb.lay
 simp only [List.length_nil,Nat.zero_add,List.nil_append] at hc hla
 refine ret_of (call_ofQ (af:=Trnx.a27) rfl rfl fun Q hQ => ?_)
 simp only [Trnx.a27]
 rcases built_use (hb.allC allC_nil0) (hb.closed closed_nil0) (below_pure _ vA hA.pure) (hA.regs H2) hla (by omega) lA2 lA hn with ⟨eA,_⟩ | ⟨eA,G,cA,gl1⟩
 ·exact absurd eA h0
 ·skip
  obtain ⟨X,hX,oX⟩:=set_err hb allC_nil0 gl1 (bldE τ n A)
  have d1:=caught_wrong 0 (bldE τ n A) 0 G (gl1 _ _ _ _ hb.cell)
  simp only [List.length_nil] at hX oX
  rw [hX] at oX
  simp only [List.nil_append] at hX oX
  generalize bldE τ n A=q at *
  simp [hcc,hc,cA,d1,oX,hX,storeV,vac,vacs,slotOf,forget,AOper.writes,-ecallF,-List.all_eq_true]
  exact hQ _ _ rfl
theorem er_same {B:List (List Int)} {vB:V} (hB:ListsV B vB) (lB2:B.length<2 ^ 39) (lB:∀ r∈B,r.length<2 ^ 39) (hb0:bldE τ n B=0) (h0:bldE τ n A≠0):Ret 34 [.agg t.cs,.int .i64 n,vB,vA] (.tup [.bool false,.int .i64 (bldE τ n A)]):=by
 have hcc:=cells_tr ho
 have vac:=hA.cell
 have vacs:=hA.cells
 have vbc:=hB.cell
 have vbcs:=hB.cells
 have hb:=bldH [] τ
 obtain ⟨H2,hH2⟩:∃ H2,H2=[]++[.cells 1 1 [.int .i64 0]]++layL (([]:Heap).length+1) τ:=⟨_,rfl⟩
 have hc:=asked_ecf hτ ho h1 h2 ([]++[.cells 1 1 [.int .i64 0]])
 simp only [List.length_append,List.length_singleton] at hc
 rw [← hH2] at hc hb
 have hla:=hb.lay
 simp only [List.length_nil,Nat.zero_add,List.nil_append] at hc hla
 refine ret_of (call_ofQ (af:=Trnx.a34) rfl rfl fun Q hQ => ?_)
 simp only [Trnx.a34]
 rcases built_use (hb.allC allC_nil0) (hb.closed closed_nil0) (below_pure _ vB hB.pure) (hB.regs H2) hla (by omega) lB2 lB hn with ⟨eB,uB,tB,cB,_⟩ | ⟨eB,G,cB,gl1⟩
 case inr=>exact absurd hb0 eB
 rcases built_use (hb.allC allC_nil0) (hb.closed closed_nil0) (below_pure _ vA hA.pure) (hA.regs H2) hla (by omega) lA2 lA hn with ⟨eA,_⟩ | ⟨eA,G,cA,gl1⟩
 ·exact absurd eA h0
 ·skip
  obtain ⟨X,hX,oX⟩:=set_err hb allC_nil0 gl1 (bldE τ n A)
  have d1:=caught_wrong 0 (bldE τ n A) 0 G (gl1 _ _ _ _ hb.cell)
  simp only [List.length_nil] at hX oX
  rw [hX] at oX
  simp only [List.nil_append] at hX oX
  generalize bldE τ n A=q at *
  simp [hcc,hc,cA,cB,d1,oX,hX,storeV,vac,vacs,vbc,vbcs,slotOf,forget,AOper.writes,-ecallF,-List.all_eq_true]
  exact hQ _ _ rfl
theorem er_pick {p:List Int} {vp:V} (hp:IntsV p vp) (h0:bldE τ n A≠0):Ret 31 [.agg t.cs,.int .i64 n,vA,vp] (.tup [.nils,.int .i64 (bldE τ n A)]):=by
 have hcc:=cells_tr ho
 have vac:=hA.cell
 have vacs:=hA.cells
 obtain ⟨H0,hH0⟩:∃ H0:Heap,H0=[.cells 1 1 [.int .i64 n]]:=⟨_,rfl⟩
 have aH:AllC H0:=by rw [hH0]; intro o h; exact ⟨_,_,_,List.mem_singleton.1 h⟩
 have cH:Closed H0:=by
  rw [hH0]
  intro o h
  rw [List.mem_singleton.1 h]
  exact okO_ints _ _ _ [_]
 have hb:=bldH H0 τ
 have len0:H0.length=1:=by rw [hH0]; rfl
 obtain ⟨H2,hH2⟩:∃ H2,H2=H0++[.cells 1 1 [.int .i64 0]]++layL (H0.length+1) τ:=⟨_,rfl⟩
 have hc:=asked_ecf hτ ho h1 h2 (H0++[.cells 1 1 [.int .i64 0]])
 simp only [List.length_append,List.length_singleton] at hc
 rw [← hH2] at hc hb
 rw [len0] at hc
 have hcl:=hb.cell
 have hla:=hb.lay
 have hl3:=hb.len
 rw [len0] at hcl hla hl3
 have e5:H2[0]?=some (.cells 1 1 [.int .i64 n]):=by rw [hH2,hH0]; rfl
 have hH0':H0++[.cells 1 1 [.int .i64 0]]=[.cells 1 1 [.int .i64 n],.cells 1 1 [.int .i64 0]]:=by rw [hH0]; rfl
 rw [hH0'] at hc
 have vpc:=SlV.cell hp
 have vpcs:=SlV.cells hp
 have o5:=objCells_of e5
 have lvp:=hp.len'
 have f2:=must_f 2
 refine ret_of (call_ofQ (af:=Trnx.a31) rfl rfl fun Q hQ => ?_)
 simp only [Trnx.a31]
 rcases built_use (hb.allC aH) (hb.closed cH) (below_pure _ vA hA.pure) (hA.regs H2) hla (by omega) lA2 lA hn with ⟨eA,_⟩ | ⟨eA,G,cA,gl1⟩
 ·exact absurd eA h0
 ·obtain ⟨X,hX,oX⟩:=set_err hb aH gl1 (bldE τ n A)
  have d1:=caught_wrong H0.length (bldE τ n A) 0 G (gl1 _ _ _ _ hb.cell)
  rw [hX] at oX
  rw [len0] at d1 oX hX
  generalize bldE τ n A=q at *
  simp [hcc,hc,cA,d1,oX,hX,o5,storeV,vac,vacs,vpc,vpcs,slotOf,forget,AOper.writes,-ecallF,-List.all_eq_true]
  exact hQ _ _ rfl
theorem er_far {p:List Int} {vp:V} (hp:IntsV p vp) (h0:bldE τ n A=0) (hl:20000<p.length):Ret 31 [.agg t.cs,.int .i64 n,vA,vp] (.tup [.nils,.int .i64 2]):=by
 have hcc:=cells_tr ho
 have vac:=hA.cell
 have vacs:=hA.cells
 obtain ⟨H0,hH0⟩:∃ H0:Heap,H0=[.cells 1 1 [.int .i64 n]]:=⟨_,rfl⟩
 have aH:AllC H0:=by rw [hH0]; intro o h; exact ⟨_,_,_,List.mem_singleton.1 h⟩
 have cH:Closed H0:=by
  rw [hH0]
  intro o h
  rw [List.mem_singleton.1 h]
  exact okO_ints _ _ _ [_]
 have hb:=bldH H0 τ
 have len0:H0.length=1:=by rw [hH0]; rfl
 obtain ⟨H2,hH2⟩:∃ H2,H2=H0++[.cells 1 1 [.int .i64 0]]++layL (H0.length+1) τ:=⟨_,rfl⟩
 have hc:=asked_ecf hτ ho h1 h2 (H0++[.cells 1 1 [.int .i64 0]])
 simp only [List.length_append,List.length_singleton] at hc
 rw [← hH2] at hc hb
 rw [len0] at hc
 have hcl:=hb.cell
 have hla:=hb.lay
 have hl3:=hb.len
 rw [len0] at hcl hla hl3
 have e5:H2[0]?=some (.cells 1 1 [.int .i64 n]):=by rw [hH2,hH0]; rfl
 have hH0':H0++[.cells 1 1 [.int .i64 0]]=[.cells 1 1 [.int .i64 n],.cells 1 1 [.int .i64 0]]:=by rw [hH0]; rfl
 rw [hH0'] at hc
 have vpc:=SlV.cell hp
 have vpcs:=SlV.cells hp
 have o5:=objCells_of e5
 have lvp:=hp.len'
 have f2:=must_f 2
 refine ret_of (call_ofQ (af:=Trnx.a31) rfl rfl fun Q hQ => ?_)
 simp only [Trnx.a31]
 rcases built_use (hb.allC aH) (hb.closed cH) (below_pure _ vA hA.pure) (hA.regs H2) hla (by omega) lA2 lA hn with ⟨eA,uA,tA,cA,_⟩ | ⟨eA,G,cA,gl1⟩
 case inr=>exact absurd h0 eA
 obtain ⟨X,hX,oX⟩:=set_err hb aH (Le.refl H2) 2
 have d1:=caught_wrong H0.length 2 0 H2 hb.cell
 rw [hX] at oX
 rw [len0] at d1 oX hX
 have h20:¬ p.length≤20000:=by omega
 have h20':¬ (p.length:Int)≤20000:=by omega
 simp [hcc,hc,cA,d1,oX,hX,o5,lvp,h20,h20',f2,storeV,vac,vacs,vpc,vpcs,slotOf,forget,AOper.writes,-pcall,-ecallF,-List.all_eq_true]
 exact hQ _ _ rfl
theorem er_join {B:List (List Int)} {vB:V} (hB:ListsV B vB) (lB2:B.length<2 ^ 39) (lB:∀ r∈B,r.length<2 ^ 39) {m:Int} (hm:is64 m) (hb0:bldE τ m B=0) (h0:bldE τ n A≠0):Ret 29 [.agg t.cs,.int .i64 m,vB,.int .i64 n,vA] (.tup [.nils,.int .i64 (bldE τ n A)]):=by
 have hcc:=cells_tr ho
 have vac:=hA.cell
 have vacs:=hA.cells
 have vbc:=hB.cell
 have vbcs:=hB.cells
 obtain ⟨H0,hH0⟩:∃ H0:Heap,H0=[.cells 1 1 [vB],.cells 1 1 [vA]]:=⟨_,rfl⟩
 have aH:AllC H0:=by rw [hH0]; intro o h; simp at h; rcases h with rfl | rfl <;> exact ⟨_,_,_,rfl⟩
 have ok1:∀ (w:V),pureV w=true→okO H0.length (.cells 1 1 [w])=true:=fun w hw=>by simp [okO,below_pure _ w hw]
 have cH:Closed H0:=by
  intro o h
  rw [hH0] at h
  simp only [List.mem_cons,List.not_mem_nil,or_false] at h
  rcases h with rfl | rfl
  ·exact ok1 _ hB.pure
  ·exact ok1 _ hA.pure
 have hb:=bldH H0 τ
 have len0:H0.length=2:=by rw [hH0]; rfl
 obtain ⟨H2,hH2⟩:∃ H2,H2=H0++[.cells 1 1 [.int .i64 0]]++layL (H0.length+1) τ:=⟨_,rfl⟩
 have hc:=asked_ecf hτ ho h1 h2 (H0++[.cells 1 1 [.int .i64 0]])
 simp only [List.length_append,List.length_singleton] at hc
 rw [← hH2] at hc hb
 rw [len0] at hc
 have hcl:=hb.cell
 have hla:=hb.lay
 rw [len0] at hcl hla
 have e6:H2[0]?=some (.cells 1 1 [vB]):=by rw [hH2,hH0]; rfl
 have e7:H2[1]?=some (.cells 1 1 [vA]):=by rw [hH2,hH0]; rfl
 have hH0':H0++[.cells 1 1 [.int .i64 0]]=[.cells 1 1 [vB],.cells 1 1 [vA],.cells 1 1 [.int .i64 0]]:=by rw [hH0]; rfl
 rw [hH0'] at hc
 have o6:=objCells_of e6
 have o7:=objCells_of e7
 refine ret_of (call_ofQ (af:=Trnx.a29) rfl rfl fun Q hQ => ?_)
 simp only [Trnx.a29]
 rcases built_use (hb.allC aH) (hb.closed cH) (below_pure _ vB hB.pure) (hB.regs H2) hla (by omega) lB2 lB hm with ⟨eB,uB,tB,cB,_⟩ | ⟨eB,G,cB,gl1⟩
 case inr=>exact absurd hb0 eB
 rcases built_use (hb.allC aH) (hb.closed cH) (below_pure _ vA hA.pure) (hA.regs H2) hla (by omega) lA2 lA hn with ⟨eA,_⟩ | ⟨eA,G,cA,gl1⟩
 ·exact absurd eA h0
 ·obtain ⟨X,hX,oX⟩:=set_err hb aH gl1 (bldE τ n A)
  have d1:=caught_wrong H0.length (bldE τ n A) 0 G (gl1 _ _ _ _ hb.cell)
  rw [hX] at oX
  rw [len0] at d1 oX hX
  generalize bldE τ n A=q at *
  simp [hcc,hc,cA,cB,d1,oX,hX,o6,o7,storeV,vac,vacs,vbc,vbcs,slotOf,forget,AOper.writes,-ecallF,-List.all_eq_true]
  exact hQ _ _ rfl
end
theorem er_flat {t:Tr} {τ:Ty} (hτ:IsTy t τ) (ho:t.Ok) (h1:τ.size≤60) (h2:τ.deep≤12) (l:List Tr) (v:V) (hv:SlV (l.map Tr.cs) v) (hl:∀ x∈l,x.Ok) (hn:Tr.nodesL l<2 ^ 40)
  (hsb:Tr.nodesL l≤20000→Tr.longL l=true):Ret 22 [.agg t.cs,v] (.tup [.nils,.int .i64 3]):=by
 have hcc:=cells_tr ho
 have hlen:=Tr.nodesL_length l
 have hlv:=len_tr hv
 have hc:=asked_q hτ ho h1 h2 [.cells 1 1 [.int .i64 0]]
 have hlay:Lay ([Am.Obj.cells 1 1 [.int .i64 0]]++layL 1 τ) 1 τ:=by
  have:=lay_of τ [Am.Obj.cells 1 1 [.int .i64 0]] []
  simpa using this
 have m3:=must_t 3
 have m1:=must_t 1
 have f3:=must_f 3
 have f1:=must_f 1
 have d3:=caught_wrong 0 3 0 ([Am.Obj.cells 1 1 [.int .i64 0]]++layL 1 τ) rfl
 have d1:=caught_wrong 0 1 0 ([Am.Obj.cells 1 1 [.int .i64 0]]++layL 1 τ) rfl
 have es:∀ x,objCells (([Am.Obj.cells 1 1 [.int .i64 0]]++layL 1 τ).set 0 (Am.Obj.cells 1 1 [.int .i64 x])) 0=some (1,1,[.int .i64 x]):=fun _=>rfl
 have e0:∀ X,objCells (([Am.Obj.cells 1 1 [.int .i64 0]]++layL 1 τ)++X) 0=some (1,1,[.int .i64 0]):=fun _=>rfl
 have s0:∀ X,(([Am.Obj.cells 1 1 [.int .i64 0]]++layL 1 τ)++X).set 0 (Am.Obj.cells 1 1 [.int .i64 0])=([Am.Obj.cells 1 1 [.int .i64 0]]++layL 1 τ)++X:=fun _=>rfl
 simp only [List.length_singleton] at hc
 rw [PC] at m3 m1
 generalize hH:[Am.Obj.cells 1 1 [V.int .i64 0]]++layL 1 τ=H at *
 have key:CallP gl Trnx.aprog 22 [.agg t.cs,v] [] (fun r h'=>r = .ret (.tup [.nils,.int .i64 3])):=by
  refine call_ofQ (af:=Trnx.a22) rfl rfl fun Q hQ => ?_
  simp only [Trnx.a22]
  simp [hcc,hc,hlv,slotOf,-List.all_eq_true]
  refine loop_nQ l.length (fun i c=>Tr.nodesL (l.take i)≤20000∧Tr.longL (l.take i)=false∧∃ s7 s8 s9 fl,c=⟨[.agg t.cs,v,.agg t.cs,.nils,.ref 0 0 1,.ref 1 0 1,.int .i64 (Tr.nodesL (l.take i)),s7,s8,s9,.undef,v,.int .i64 l.length,.int .i64 i,.undef,.undef,.undef],[(.func (.func 52) [] [],[.ref 0 0 1])],fl,none,H⟩) ?_
   ⟨by simp [Tr.nodesL],by simp [Tr.longL],.undef,.undef,.undef,none,by simp [Tr.nodesL]⟩
  rintro I hI i c hi ⟨hn1,hl1,s7,s8,s9,fl,rfl⟩
  by_cases hlt:i<l.length
  ·have hlt':(i:Int)<l.length:=by omega
   have hw2:IntKind.i64.wrap ((i:Int)+1)=(i:Int)+1:=wrap64 (by omega) (by omega)
   have hi1:=idx_tr hv hlt
   have hm:=List.getElem_mem hlt
   have htn:=Tr.nodesL_take hlt
   have htl:=Tr.longL_take_false hlt hl1
   have hmn:=Tr.nodesL_mem hm
   have hle:=Tr.nodesL_take_le (l:=l) (i+1)
   have hlm:l[i].long=true→Tr.longL l=true:=fun h=>Tr.longL_iff.2 ⟨_,hm,h⟩
   obtain ⟨m,hsz,hmm⟩:=size_q l[i] (hl _ hm) (by omega)
   have hcw:=cells_tr (hl _ hm)
   rw [PC] at hsz
   generalize l[i]=w at *
   cases e:w.sized
   ·rw [e] at hsz
    simp [hlt',hi1,hcw,hsz,f3,d3,es,slotOf,forget,AOper.writes,-pcall,-List.all_eq_true]
    exact hQ _ _ rfl
   ·rw [e] at hsz
    rw [hmm e] at hsz
    have hwl:w.long=false:=by simp [Tr.sized] at e; exact e.2
    have hw3:IntKind.i64.wrap ((Tr.nodesL (l.take i):Int)+w.nodes)=Tr.nodesL (l.take (i+1)):=by rw [wrap64 (by omega) (by omega)]; omega
    by_cases hbd:Tr.nodesL (l.take (i+1))≤20000
    ·have hbd':(Tr.nodesL (l.take (i+1)):Int)≤20000:=by omega
     simp [hlt',hi1,hcw,hsz,m3,hw2,hw3,hbd',slotOf,-pcall,-List.all_eq_true]
     exact ⟨hlt,hI _ _ ⟨hbd,htl hwl,_,_,_,_,rfl⟩⟩
    ·have hbd':¬ (Tr.nodesL (l.take (i+1)):Int)≤20000:=by omega
     simp [hlt',hi1,hcw,hsz,f3,d3,es,hw3,hbd',slotOf,forget,AOper.writes,-pcall,-List.all_eq_true]
     exact hQ _ _ rfl
  ·obtain rfl:i=l.length:=by omega
   rw [List.take_length] at hn1 hl1
   rw [hsb hn1] at hl1
   cases hl1
 exact ret_of key
theorem ret_plain {f:Nat} {args:List V} {v:V} (hp:pureL args=true) (h:PC f args v) (hv:∀ (H:Heap) (w:V),viewW 0 H w=some v→w=v):Ret f args v:=by
 simp only [PC,pcall,callee_func,List.append_nil,List.nil_append] at h
 rw [if_pos hp] at h
 cases e:(lim gl Trnx.aprog).call f args [] with
 | none=>rw [e] at h; simp at h
 | some x =>
  obtain ⟨r,h'⟩:=x
  rw [e] at h
  cases r with
  | ret w =>
   simp only [Option.map_eq_some_iff] at h
   obtain ⟨u,hu,hu2⟩:=h
   cases hu2
   obtain rfl:=hv h' w hu
   exact ⟨h',e⟩
  | pan w =>
   simp only at h
   split at h <;> cases h
def flt1:V→Bool
 | .int .. => true
 | .bool _=>true
 | _=>false
theorem viewV_flat {lo:Nat} {H:Heap} {w v:V} (hv:flt1 v=true) (h:viewV lo H w=some v):w=v:=by
 cases w with
 | sl b o l g z ex =>
  simp only [viewV] at h
  split at h
  ·split at h
   ·cases h; cases hv
   ·cases h
  ·cases h
 | func f fi ca =>
  simp only [viewV] at h
  split at h
  ·cases h; cases hv
  ·cases h
 | iface t x=>simp only [viewV,Option.map_eq_some_iff] at h; obtain ⟨y,_,rfl⟩:=h; cases hv
 | agg cs=>simp only [viewV,Option.map_eq_some_iff] at h; obtain ⟨y,_,rfl⟩:=h; cases hv
 | tup cs=>simp only [viewV,Option.map_eq_some_iff] at h; obtain ⟨y,_,rfl⟩:=h; cases hv
 | ref=>simp [viewV] at h
 | map=>simp [viewV] at h
 | vs=>simp [viewV] at h
 | yf=>simp [viewV] at h
 | _=>simpa [viewV] using h
theorem viewS_flat {lo:Nat} {H:Heap} {w v:V} (hv:flt1 v=true) (h:viewS lo H w=some v):False:=by
 cases w with
 | sl b o l g z ex =>
  simp only [viewS] at h
  split at h
  ·split at h
   ·simp only [Option.map_eq_some_iff] at h; obtain ⟨y,_,rfl⟩:=h; cases hv
   ·cases h
  ·cases h
 | _=>simp [viewS] at h
theorem view1_flat {lo:Nat} {H:Heap} {w v:V} (hv:flt1 v=true) (h:view1 lo H w=some v):w=v:=by
 simp only [view1] at h
 cases e:viewV lo H w with
 | some x=>rw [e] at h; cases h; exact viewV_flat hv e
 | none=>rw [e] at h; exact (viewS_flat hv h).elim
theorem viewW_flat {lo:Nat} {H:Heap} {w v:V} (hv:flt1 v=true) (h:viewW lo H w=some v):w=v:=by
 unfold viewW at h
 split at h
 ·simp only [Option.map_eq_some_iff] at h; obtain ⟨y,_,rfl⟩:=h; cases hv
 ·exact view1_flat hv h
theorem viewW_two {lo:Nat} {H:Heap} {w a b:V} (ha:flt1 a=true) (hb:flt1 b=true) (h:viewW lo H w=some (.tup [a,b])):w = .tup [a,b]:=by
 unfold viewW at h
 split at h
 ·rename_i cs
  simp only [Option.map_eq_some_iff] at h
  obtain ⟨y,hy,he⟩:=h
  cases he
  cases cs with
  | nil=>simp [viewWL] at hy
  | cons c cs =>
   cases cs with
   | nil =>
    simp only [viewWL] at hy
    split at hy <;> simp at hy
    all_goals (try (obtain ⟨h1,h2⟩:=hy; cases h2))
    all_goals simp_all
   | cons d cs =>
    cases cs with
    | nil =>
     simp only [viewWL] at hy
     cases e1:view1 lo H c with
     | none=>rw [e1] at hy; cases e2:view1 lo H d <;> simp [e2] at hy
     | some x =>
      rw [e1] at hy
      cases e2:view1 lo H d with
      | none=>simp [e2] at hy
      | some y =>
       simp [e2] at hy
       obtain ⟨rfl,rfl⟩:=hy
       rw [view1_flat ha e1,view1_flat hb e2]
    | cons e cs =>
     simp only [viewWL] at hy
     cases e1:view1 lo H c with
     | none=>rw [e1] at hy; simp at hy
     | some x =>
      rw [e1] at hy
      cases e2:view1 lo H d with
      | none=>simp [e2] at hy
      | some y =>
       cases e3:view1 lo H e with
       | none=>simp [e2,e3] at hy
       | some z =>
        cases e4:viewWL lo H cs with
        | none=>simp [e2,e3,e4] at hy
        | some zs=>simp [e2,e3,e4] at hy
 ·rename_i hne
  simp only [view1] at h
  cases e:viewV lo H w with
  | some x =>
   rw [e] at h
   cases h
   cases w with
   | tup cs=>exact (hne cs rfl).elim
   | sl b o l g z ex =>
    simp only [viewV] at e
    split at e
    ·split at e <;> cases e
    ·cases e
   | func f fi ca =>
    simp only [viewV] at e
    split at e <;> cases e
   | iface t x=>simp only [viewV,Option.map_eq_some_iff] at e; obtain ⟨y,_,he⟩:=e; cases he
   | agg cs=>simp only [viewV,Option.map_eq_some_iff] at e; obtain ⟨y,_,he⟩:=e; cases he
   | _=>simp [viewV] at e
  | none =>
   rw [e] at h
   cases w with
   | sl b o l g z ex =>
    simp only [viewS] at h
    split at h
    ·split at h
     ·simp only [Option.none_or,Option.map_eq_some_iff] at h; obtain ⟨y,_,he⟩:=h; cases he
     ·cases h
    ·cases h
   | _=>simp [viewS] at h
def uT:Tr:=.mk 0 0 .nils []
theorem uT_ok:uT.Ok:=.mk _ _ _ _ (by simp [is64]) (by simp [is64]) (.nil rfl) (by simp)
theorem rep_ok (n:Nat):∀ x∈List.replicate n uT,x.Ok:=fun x hx=>by rw [List.eq_of_mem_replicate hx]; exact uT_ok
theorem rep_nodes (n:Nat):Tr.nodesL (List.replicate n uT)=n:=by
 induction n with
 | zero=>rfl
 | succ n ih =>
  rw [List.replicate_succ,Tr.nodesL,ih]
  simp only [uT,Tr.nodes,Tr.nodesL]
  omega
def longT:Tr:=.mk 4 0 (.sv (List.replicate 4097 [i 0,i 0,.nils]) true) (List.replicate 4097 uT)
theorem rep_cs (n:Nat):(List.replicate n uT).map Tr.cs=List.replicate n [i 0,i 0,.nils]:=by rw [List.map_replicate]; rfl
theorem long_ok:longT.Ok:=.mk _ _ _ _ (by simp [is64]) (by simp [is64]) (by rw [rep_cs]; exact .sv true) (rep_ok _)
theorem long_long:longT.long=true:=by simp [longT,Tr.long,-List.reduceReplicate]
theorem long_nodes:longT.nodes=4098:=by simp only [longT,Tr.nodes,rep_nodes]
theorem long_sized:longT.sized=false:=by simp [Tr.sized,long_long]
def intT:Tr:=.mk 1 0 .nils []
theorem intT_ok:intT.Ok:=.mk _ _ _ _ (by simp [is64]) (by simp [is64]) (.nil rfl) (by simp)
theorem intT_ty:IsTy intT .int:=.int _
def nineT:Tr:=.mk 9 0 .nils []
theorem nine_ok:nineT.Ok:=.mk _ _ _ _ (by simp [is64]) (by simp [is64]) (.nil rfl) (by simp)
def seqU:Tr:=.mk 4 0 (.sv [[i 0,i 0,.nils]] true) [uT]
theorem seqU_ok:seqU.Ok:=.mk _ _ _ _ (by simp [is64]) (by simp [is64]) (.sv true) (by simp [uT_ok])
theorem seqU_ty:IsTy seqU (.seq .unit):=.seq _ _ _ (.unit _)
def seqI:Tr:=.mk 4 0 (.sv [[i 1,i 0,.nils]] true) [intT]
theorem seqI_ok:seqI.Ok:=.mk _ _ _ _ (by simp [is64]) (by simp [is64]) (.sv true) (by simp [intT_ok])
theorem seqI_ty:IsTy seqI (.seq .int):=.seq _ _ _ (.int _)
theorem g0_ex:Ret 16 [.agg [i 4,i 0,.sv (List.replicate 4097 [i 0,i 0,.nils]) true]] (.tup [i 0,i 3]):=by
 have h:=psize_q longT long_ok (by rw [long_nodes]; omega)
 rw [long_sized] at h
 exact ret_plain (by simp [pureL,pureV,i,-List.reduceReplicate]) h fun H w hw=>viewW_two rfl rfl hw
theorem g1_ex:Ret 22 [.agg [i 4,i 0,.sv [[i 0,i 0,.nils]] true],.sv [[i 4,i 0,.sv (List.replicate 4097 [i 0,i 0,.nils]) true],[i 9,i 0,.nils]] true] (.tup [.nils,i 3]) :=
 er_flat seqU_ty seqU_ok (by simp [Ty.size]) (by simp [Ty.deep]) [longT,nineT] _ (.sv true) (by simp [long_ok,nine_ok]) (by simp only [Tr.nodesL,long_nodes,nineT,Tr.nodes]; omega) (fun _=>by simp [Tr.longL,long_long])
theorem g2_ex:Ret 22 [.agg [i 1,i 0,.nils],.sv (List.replicate 20001 [i 0,i 0,.nils]) true] (.tup [.nils,i 3]) :=
 er_flat intT_ty intT_ok (by simp [Ty.size]) (by simp [Ty.deep]) (List.replicate 20001 uT) _ (by rw [rep_cs]; exact .sv true) (rep_ok _) (by rw [rep_nodes]; omega) (fun h=>by rw [rep_nodes] at h; omega)
theorem g3_ex:Ret 18 [.agg [i 4,i 0,.sv (List.replicate 4097 [i 0,i 0,.nils]) true],.agg [i 1,i 0,.nils]] (i 3):=by
 have h:=check_q intT_ty intT_ok (by simp [Ty.size]) (by simp [Ty.deep]) longT long_ok (by rw [long_nodes]; omega)
 simp only [chkE,long_sized] at h
 exact ret_plain (by simp [pureL,pureV,i,-List.reduceReplicate]) h fun H w hw=>viewW_flat rfl hw
theorem g4_ex:Ret 20 [.agg [i 4,i 0,.sv (List.replicate 4097 [i 0,i 0,.nils]) true]] (.bool false):=by
 have h:=valid_q longT long_ok (by rw [long_nodes]; omega)
 rw [long_sized,Bool.false_and] at h
 exact ret_plain (by simp [pureL,pureV,i,-List.reduceReplicate]) h fun H w hw=>viewW_flat rfl hw
def R9:List (List Int):=[[0,0],[1,4097],List.replicate 5000 0]
def v9:V:=.sv [[.sv [[i 0],[i 0]] true],[.sv [[i 1],[i 4097]] true],[.sv (List.replicate 5000 [i 0]) true]] true
theorem iv (l:List Int) (ex:Bool):IntsV l (.sv (l.map fun n=>[i n]) ex):=by
 have:(l.map fun n=>[i n])=((l.map fun n=>V.int .i64 n).map fun x=>[x]):=by simp [i]
 rw [this]
 exact .sv ex
theorem iv_rep (n:Nat) (x:Int) (ex:Bool):IntsV (List.replicate n x) (.sv (List.replicate n [i x]) ex):=by
 have:=iv (List.replicate n x) ex
 rwa [List.map_replicate] at this
theorem v9_ok:ListsV R9 v9:=⟨[.sv [[i 0],[i 0]] true,.sv [[i 1],[i 4097]] true,.sv (List.replicate 5000 [i 0]) true],.sv true,.cons (iv [0,0] true) (.cons (iv [1,4097] true) (.cons (iv_rep 5000 0 true) .nil))⟩
theorem R9_len:∀ r∈R9,r.length<2 ^ 39:=by simp [R9,-List.reduceReplicate]
theorem R9_bld:bldE (.seq .int) 2 R9=8:=by
 have h:rdAll (.seq .int) (R9.take 2) (R9.drop 2) 2=none:=allO_none.2 (List.mem_map.2 ⟨1,by simp,by simp [rd,rg,R9,-List.reduceReplicate]⟩)
 simp only [bldE]
 rw [if_neg (by omega)]
 split
 ·rfl
 ·show sumE (rdAll (.seq .int) (R9.take 2) (R9.drop 2) 2)=8
  rw [h]; rfl
theorem is2:is64 2:=by simp [is64]
theorem g5_ex:Ret 26 [.agg [i 4,i 0,.sv [[i 1,i 0,.nils]] true],i 2,v9] (.tup [.nils,i 8]):=by
 have:=er_build seqI_ty seqI_ok (by simp [Ty.size]) (by simp [Ty.deep]) is2 v9_ok (by simp [R9,-List.reduceReplicate]) R9_len (by rw [R9_bld]; omega)
 rwa [R9_bld] at this
theorem g7_ex:Ret 27 [.agg [i 4,i 0,.sv [[i 1,i 0,.nils]] true],i 2,v9] (.tup [.nils,i 8]):=by
 have:=er_canon seqI_ty seqI_ok (by simp [Ty.size]) (by simp [Ty.deep]) is2 v9_ok (by simp [R9,-List.reduceReplicate]) R9_len (by rw [R9_bld]; omega)
 rwa [R9_bld] at this
def B6:List (List Int):=[[0,0],[0,0],[]]
theorem B6_bld:bldE (.seq .int) 2 B6=0:=by decide +kernel
theorem g6_ex:Ret 34 [.agg [i 4,i 0,.sv [[i 1,i 0,.nils]] true],i 2,.sv [[.sv [[i 0],[i 0]] true],[.sv [[i 0],[i 0]] true],[.sv [] true]] true,v9] (.tup [.bool false,i 8]):=by
 have hB:ListsV B6 (.sv [[.sv [[i 0],[i 0]] true],[.sv [[i 0],[i 0]] true],[.sv [] true]] true):=⟨[.sv [[i 0],[i 0]] true,.sv [[i 0],[i 0]] true,.sv [] true],.sv true,.cons (iv [0,0] true) (.cons (iv [0,0] true) (.cons (iv [] true) .nil))⟩
 have:=er_same seqI_ty seqI_ok (by simp [Ty.size]) (by simp [Ty.deep]) is2 v9_ok (by simp [R9,-List.reduceReplicate]) R9_len hB (by simp [B6]) (by simp [B6]) B6_bld (by rw [R9_bld]; omega)
 rwa [R9_bld] at this
theorem g8_ex:Ret 31 [.agg [i 4,i 0,.sv [[i 1,i 0,.nils]] true],i 2,v9,.sv [[i 5]] true] (.tup [.nils,i 8]):=by
 have:=er_pick seqI_ty seqI_ok (by simp [Ty.size]) (by simp [Ty.deep]) is2 v9_ok (by simp [R9,-List.reduceReplicate]) R9_len (iv [5] true) (by rw [R9_bld]; omega)
 rwa [R9_bld] at this
def B9:List (List Int):=[[],[],[]]
theorem B9_bld:bldE (.seq .int) 0 B9=0:=by decide +kernel
theorem g9_ex:Ret 29 [.agg [i 4,i 0,.sv [[i 1,i 0,.nils]] true],i 0,.sv [[.sv [] true],[.sv [] true],[.sv [] true]] true,i 2,v9] (.tup [.nils,i 8]):=by
 have hB:ListsV B9 (.sv [[.sv [] true],[.sv [] true],[.sv [] true]] true):=⟨[.sv [] true,.sv [] true,.sv [] true],.sv true,.cons (iv [] true) (.cons (iv [] true) (.cons (iv [] true) .nil))⟩
 have:=er_join seqI_ty seqI_ok (by simp [Ty.size]) (by simp [Ty.deep]) is2 v9_ok (by simp [R9,-List.reduceReplicate]) R9_len hB (by simp [B9]) (by simp [B9]) (m:=0) (by simp [is64]) B9_bld (by rw [R9_bld]; omega)
 rwa [R9_bld] at this
def B10:List (List Int):=[[0],[0],[]]
theorem B10_bld:bldE (.seq .int) 1 B10=0:=by decide +kernel
theorem g10_ex:Ret 31 [.agg [i 4,i 0,.sv [[i 1,i 0,.nils]] true],i 1,.sv [[.sv [[i 0]] true],[.sv [[i 0]] true],[.sv [] true]] true,.sv (List.replicate 20001 [i 0]) true] (.tup [.nils,i 2]):=by
 have hB:ListsV B10 (.sv [[.sv [[i 0]] true],[.sv [[i 0]] true],[.sv [] true]] true):=⟨[.sv [[i 0]] true,.sv [[i 0]] true,.sv [] true],.sv true,.cons (iv [0] true) (.cons (iv [0] true) (.cons (iv [] true) .nil))⟩
 exact er_far seqI_ty seqI_ok (by simp [Ty.size]) (by simp [Ty.deep]) (n:=1) (by simp [is64]) hB (by simp [B10]) (by simp [B10]) (iv_rep 20001 0 true) B10_bld (by rw [List.length_replicate]; omega)
def R11:List (List Int):=[[0,0,0,0,0,0],[4096,4096,4096,4096,4096,4096],List.replicate 4096 0]
theorem R11_rd (k:Nat) (hk:k<6):rd (.seq .int) (R11.take 2) (R11.drop 2) k=some (.mk 4 0 (List.replicate 4096 (.mk 1 0 []))):=by
 have h0:rg (R11.take 2) 0 k=0:=by
  rcases (by omega:k=0∨k=1∨k=2∨k=3∨k=4∨k=5) with rfl | rfl | rfl | rfl | rfl | rfl <;> rfl
 have h1:rg (R11.take 2) 1 k=4096:=by
  rcases (by omega:k=0∨k=1∨k=2∨k=3∨k=4∨k=5) with rfl | rfl | rfl | rfl | rfl | rfl <;> rfl
 have h2:allO ((List.range 4096).map fun j=>rd .int ((R11.drop 2).take 1) ((R11.drop 2).drop 1) (0+j))=some (List.replicate 4096 (Vl.mk 1 0 [])):=by
  rw [allO_some,List.map_replicate]
  refine List.ext_getElem (by simp [-List.reduceReplicate]) fun j a b => ?_
  have hj:j<4096:=by simpa using a
  have hr:rg ((R11.drop 2).take 1) 0 j=0:=by
   show (List.replicate 4096 (0:Int)).getD j 0=0
   simp [List.getD_eq_getElem?_getD,List.getElem?_replicate,hj,-List.reduceReplicate]
  simp only [List.getElem_map,List.getElem_range,Nat.zero_add,List.getElem_replicate,rd,hr]
  rfl
 have hf:(fun k=>rd Ty.int ((R11.drop 2).take Ty.int.own) ((R11.drop 2).drop Ty.int.own) (if Ty.int.own=0 then 0 else (0:Int).toNat+k))=fun j=>rd .int ((R11.drop 2).take 1) ((R11.drop 2).drop 1) (0+j):=by
  funext j; rfl
 have hu:∀ (own data:List (List Int)),rd (.seq .int) own data k=if ¬ (0≤rg own 1 k∧rg own 1 k≤4096) then none else if rg own 1 k=0 then some (.mk 4 0 []) else
   if rg own 0 k<0∨(Ty.int.own≠0∧rg own 0 k > (data.headD []).length - rg own 1 k) then none else
   (allO ((List.range (rg own 1 k).toNat).map fun j=>rd .int (data.take Ty.int.own) (data.drop Ty.int.own) (if Ty.int.own=0 then 0 else (rg own 0 k).toNat+j))).map fun l => .mk 4 0 l:=fun own data=>by rw [rd]
 have hlen:((R11.drop 2).headD []).length=4096:=by simp [R11,-List.reduceReplicate]
 rw [hu,h0,h1,hf,hlen]
 rw [if_neg (by omega),if_neg (by omega),if_neg (by
  rintro (h | ⟨_,h⟩)
  ·omega
  ·omega)]
 show Option.map _ (allO ((List.range 4096).map _))=_
 rw [h2]
 rfl
theorem nodes_rep (n:Nat) (x:Vl):Vl.nodesL (List.replicate n x)=n * x.nodes:=by
 induction n with
 | zero=>simp [Vl.nodesL,-List.reduceReplicate]
 | succ n ih=>simp only [List.replicate_succ,Vl.nodesL,ih,Nat.succ_mul]; omega
theorem R11_bld:bldE (.seq .int) 6 R11=3:=by
 have h:rdAll (.seq .int) (R11.take 2) (R11.drop 2) 6=some (List.replicate 6 (.mk 4 0 (List.replicate 4096 (.mk 1 0 [])))):=by
  rw [rdAll,allO_some,List.map_replicate]
  refine List.ext_getElem (by simp [-List.reduceReplicate]) fun j a b => ?_
  have hj:j<6:=by simpa using a
  simp only [List.getElem_map,List.getElem_range,List.getElem_replicate,R11_rd j hj]
 simp only [bldE]
 rw [if_neg (by omega),if_neg (by
  intro hc
  apply hc
  refine ⟨by simp [R11,Ty.own,Ty.data,-List.reduceReplicate],by simp [R11,Ty.own,-List.reduceReplicate],by simp [R11,Ty.own,shp,-List.reduceReplicate]⟩)]
 show sumE (rdAll (.seq .int) (R11.take 2) (R11.drop 2) 6)=3
 rw [h]
 simp only [sumE,nodes_rep,Vl.nodes,Vl.nodesL]
 rfl
theorem g11_ex:Ret 26 [.agg [i 4,i 0,.sv [[i 1,i 0,.nils]] true],i 6,.sv [[.sv [[i 0],[i 0],[i 0],[i 0],[i 0],[i 0]] true],[.sv [[i 4096],[i 4096],[i 4096],[i 4096],[i 4096],[i 4096]] true],[.sv (List.replicate 4096 [i 0]) true]] true] (.tup [.nils,i 3]):=by
 have hR:ListsV R11 (.sv [[.sv [[i 0],[i 0],[i 0],[i 0],[i 0],[i 0]] true],[.sv [[i 4096],[i 4096],[i 4096],[i 4096],[i 4096],[i 4096]] true],[.sv (List.replicate 4096 [i 0]) true]] true) :=
  ⟨[.sv [[i 0],[i 0],[i 0],[i 0],[i 0],[i 0]] true,.sv [[i 4096],[i 4096],[i 4096],[i 4096],[i 4096],[i 4096]] true,.sv (List.replicate 4096 [i 0]) true],.sv true,.cons (iv [0,0,0,0,0,0] true) (.cons (iv [4096,4096,4096,4096,4096,4096] true) (.cons (iv_rep 4096 0 true) .nil))⟩
 have:=er_build seqI_ty seqI_ok (by simp [Ty.size]) (by simp [Ty.deep]) (n:=6) (by simp [is64]) hR (by simp [R11,-List.reduceReplicate]) (by simp [R11,-List.reduceReplicate]) (by rw [R11_bld]; omega)
 rwa [R11_bld] at this
noncomputable def gh0:Heap:=g0_ex.choose
noncomputable def g0:TE:=⟨16,[(.agg [(i 4),(i 0),(.sv (List.replicate 4097 [(i 0),(i 0),.nils]) true)])],[],(.ret (.tup [(i 0),(i 3)])),gh0⟩
theorem g0_ok:g0.ok gl Trnx.aprog:=g0_ex.choose_spec
noncomputable def gh1:Heap:=g1_ex.choose
noncomputable def g1:TE:=⟨22,[(.agg [(i 4),(i 0),(.sv [[(i 0),(i 0),.nils]] true)]),(.sv [[(i 4),(i 0),(.sv (List.replicate 4097 [(i 0),(i 0),.nils]) true)],[(i 9),(i 0),.nils]] true)],[],(.ret (.tup [.nils,(i 3)])),gh1⟩
theorem g1_ok:g1.ok gl Trnx.aprog:=g1_ex.choose_spec
noncomputable def gh2:Heap:=g2_ex.choose
noncomputable def g2:TE:=⟨22,[(.agg [(i 1),(i 0),.nils]),(.sv (List.replicate 20001 [(i 0),(i 0),.nils]) true)],[],(.ret (.tup [.nils,(i 3)])),gh2⟩
theorem g2_ok:g2.ok gl Trnx.aprog:=g2_ex.choose_spec
noncomputable def gh3:Heap:=g3_ex.choose
noncomputable def g3:TE:=⟨18,[(.agg [(i 4),(i 0),(.sv (List.replicate 4097 [(i 0),(i 0),.nils]) true)]),(.agg [(i 1),(i 0),.nils])],[],(.ret (i 3)),gh3⟩
theorem g3_ok:g3.ok gl Trnx.aprog:=g3_ex.choose_spec
noncomputable def gh4:Heap:=g4_ex.choose
noncomputable def g4:TE:=⟨20,[(.agg [(i 4),(i 0),(.sv (List.replicate 4097 [(i 0),(i 0),.nils]) true)])],[],(.ret (.bool false)),gh4⟩
theorem g4_ok:g4.ok gl Trnx.aprog:=g4_ex.choose_spec
noncomputable def gh5:Heap:=g5_ex.choose
noncomputable def g5:TE:=⟨26,[(.agg [(i 4),(i 0),(.sv [[(i 1),(i 0),.nils]] true)]),(i 2),(.sv [[(.sv [[(i 0)],[(i 0)]] true)],[(.sv [[(i 1)],[(i 4097)]] true)],[(.sv (List.replicate 5000 [(i 0)]) true)]] true)],[],(.ret (.tup [.nils,(i 8)])),gh5⟩
theorem g5_ok:g5.ok gl Trnx.aprog:=g5_ex.choose_spec
noncomputable def gh6:Heap:=g6_ex.choose
noncomputable def g6:TE:=⟨34,[(.agg [(i 4),(i 0),(.sv [[(i 1),(i 0),.nils]] true)]),(i 2),(.sv [[(.sv [[(i 0)],[(i 0)]] true)],[(.sv [[(i 0)],[(i 0)]] true)],[(.sv [] true)]] true),(.sv [[(.sv [[(i 0)],[(i 0)]] true)],[(.sv [[(i 1)],[(i 4097)]] true)],[(.sv (List.replicate 5000 [(i 0)]) true)]] true)],[],(.ret (.tup [(.bool false),(i 8)])),gh6⟩
theorem g6_ok:g6.ok gl Trnx.aprog:=g6_ex.choose_spec
noncomputable def gh7:Heap:=g7_ex.choose
noncomputable def g7:TE:=⟨27,[(.agg [(i 4),(i 0),(.sv [[(i 1),(i 0),.nils]] true)]),(i 2),(.sv [[(.sv [[(i 0)],[(i 0)]] true)],[(.sv [[(i 1)],[(i 4097)]] true)],[(.sv (List.replicate 5000 [(i 0)]) true)]] true)],[],(.ret (.tup [.nils,(i 8)])),gh7⟩
theorem g7_ok:g7.ok gl Trnx.aprog:=g7_ex.choose_spec
noncomputable def gh8:Heap:=g8_ex.choose
noncomputable def g8:TE:=⟨31,[(.agg [(i 4),(i 0),(.sv [[(i 1),(i 0),.nils]] true)]),(i 2),(.sv [[(.sv [[(i 0)],[(i 0)]] true)],[(.sv [[(i 1)],[(i 4097)]] true)],[(.sv (List.replicate 5000 [(i 0)]) true)]] true),(.sv [[(i 5)]] true)],[],(.ret (.tup [.nils,(i 8)])),gh8⟩
theorem g8_ok:g8.ok gl Trnx.aprog:=g8_ex.choose_spec
noncomputable def gh9:Heap:=g9_ex.choose
noncomputable def g9:TE:=⟨29,[(.agg [(i 4),(i 0),(.sv [[(i 1),(i 0),.nils]] true)]),(i 0),(.sv [[(.sv [] true)],[(.sv [] true)],[(.sv [] true)]] true),(i 2),(.sv [[(.sv [[(i 0)],[(i 0)]] true)],[(.sv [[(i 1)],[(i 4097)]] true)],[(.sv (List.replicate 5000 [(i 0)]) true)]] true)],[],(.ret (.tup [.nils,(i 8)])),gh9⟩
theorem g9_ok:g9.ok gl Trnx.aprog:=g9_ex.choose_spec
noncomputable def gh10:Heap:=g10_ex.choose
noncomputable def g10:TE:=⟨31,[(.agg [(i 4),(i 0),(.sv [[(i 1),(i 0),.nils]] true)]),(i 1),(.sv [[(.sv [[(i 0)]] true)],[(.sv [[(i 0)]] true)],[(.sv [] true)]] true),(.sv (List.replicate 20001 [(i 0)]) true)],[],(.ret (.tup [.nils,(i 2)])),gh10⟩
theorem g10_ok:g10.ok gl Trnx.aprog:=g10_ex.choose_spec
noncomputable def gh11:Heap:=g11_ex.choose
noncomputable def g11:TE:=⟨26,[(.agg [(i 4),(i 0),(.sv [[(i 1),(i 0),.nils]] true)]),(i 6),(.sv [[(.sv [[(i 0)],[(i 0)],[(i 0)],[(i 0)],[(i 0)],[(i 0)]] true)],[(.sv [[(i 4096)],[(i 4096)],[(i 4096)],[(i 4096)],[(i 4096)],[(i 4096)]] true)],[(.sv (List.replicate 4096 [(i 0)]) true)]] true)],[],(.ret (.tup [.nils,(i 3)])),gh11⟩
theorem g11_ok:g11.ok gl Trnx.aprog:=g11_ex.choose_spec
end Go.Proofs.Nst
set_option maxRecDepth 100000
namespace Go.Proofs.Nst
open Go Go.Am
noncomputable abbrev ee0:TE:=g0
theorem kk0:ee0.ok gl Trnx.aprog:=g0_ok
noncomputable abbrev ee1:TE:=g1
theorem kk1:ee1.ok gl Trnx.aprog:=g1_ok
noncomputable abbrev ee2:TE:=g2
theorem kk2:ee2.ok gl Trnx.aprog:=g2_ok
noncomputable abbrev ee3:TE:=g3
theorem kk3:ee3.ok gl Trnx.aprog:=g3_ok
noncomputable abbrev ee4:TE:=g4
theorem kk4:ee4.ok gl Trnx.aprog:=g4_ok
noncomputable abbrev ee5:TE:=g5
theorem kk5:ee5.ok gl Trnx.aprog:=g5_ok
noncomputable abbrev ee6:TE:=g6
theorem kk6:ee6.ok gl Trnx.aprog:=g6_ok
noncomputable abbrev ee7:TE:=g7
theorem kk7:ee7.ok gl Trnx.aprog:=g7_ok
noncomputable abbrev ee8:TE:=g8
theorem kk8:ee8.ok gl Trnx.aprog:=g8_ok
noncomputable abbrev ee9:TE:=g9
theorem kk9:ee9.ok gl Trnx.aprog:=g9_ok
noncomputable abbrev ee10:TE:=g10
theorem kk10:ee10.ok gl Trnx.aprog:=g10_ok
noncomputable abbrev ee11:TE:=g11
theorem kk11:ee11.ok gl Trnx.aprog:=g11_ok
def ee12:TE:=⟨69,[(.ref 1 0 1),(i 2),(.sv [[(.sv [[(i 0)],[(i 3)]] false)],[(.sv [[(i 3)],[(i 1)]] false)],[(.sv [[(i 0)],[(i 2)],[(i 2)],[(i 3)]] false)],[(.sv [[(i 2)],[(i 0)],[(i 1)],[(i 1)]] false)],[(.sv [[(i 5)],[(i 6)],[(i 7)],[(i 8)]] false)]] false)],[(.cells 1 1 [(i 0)]),(.cells 1 4 [(i 2),(i 3),(i 4),(.sl 5 0 1 1 1 false)]),(.cells 1 4 [(i 2),(i 1),(i 4),(.sl 4 0 1 1 1 false)]),(.cells 1 4 [(i 1),(i 0),(i 1),.nils]),(.cells 1 1 [(.ref 3 0 1)]),(.cells 1 1 [(.ref 2 0 1)])],(.ret (.sv [[(i 4),(i 0),(.sv [[(i 4),(i 0),(.sv [[(i 1),(i 5),.nils],[(i 1),(i 6),.nils]] false)],[(i 4),(i 0),.nils],[(i 4),(i 0),(.sv [[(i 1),(i 7),.nils]] false)]] false)],[(i 4),(i 0),(.sv [[(i 4),(i 0),(.sv [[(i 1),(i 8),.nils]] false)]] false)]] false)),[(.cells 1 1 [(i 0)]),(.cells 1 4 [(i 2),(i 3),(i 4),(.sl 5 0 1 1 1 false)]),(.cells 1 4 [(i 2),(i 1),(i 4),(.sl 4 0 1 1 1 false)]),(.cells 1 4 [(i 1),(i 0),(i 1),.nils]),(.cells 1 1 [(.ref 3 0 1)]),(.cells 1 1 [(.ref 2 0 1)]),(.cells 1 1 [(i 2)]),(.cells 1 1 [(.sv [[(.sv [[(i 0)],[(i 3)]] false)],[(.sv [[(i 3)],[(i 1)]] false)],[(.sv [[(i 0)],[(i 2)],[(i 2)],[(i 3)]] false)],[(.sv [[(i 2)],[(i 0)],[(i 1)],[(i 1)]] false)],[(.sv [[(i 5)],[(i 6)],[(i 7)],[(i 8)]] false)]] false)]),(.cells 1 3 [(.ref 1 0 1),(i 0),(i 2)]),(.loop 10690 [(.ref 7 0 1)] .exhausted none),(.cells 1 1 [(.yf 9)]),(.cells 1 1 [(.func (.func 110) [] [(.ref 10 0 1),(.ref 11 0 1)])]),(.map [((.agg [(.ref 3 0 1),(i 0)]),(i 1)),((.agg [(.ref 3 0 1),(i 1)]),(i 1)),((.agg [(.ref 2 0 1),(i 0)]),(i 3)),((.agg [(.ref 2 0 1),(i 1)]),(i 1)),((.agg [(.ref 3 0 1),(i 2)]),(i 1)),((.agg [(.ref 2 0 1),(i 2)]),(i 2)),((.agg [(.ref 1 0 1),(i 0)]),(i 7)),((.agg [(.ref 3 0 1),(i 3)]),(i 1)),((.agg [(.ref 2 0 1),(i 3)]),(i 2)),((.agg [(.ref 1 0 1),(i 1)]),(i 3))]),(.cells 1 2 [(.sv [[(.sv [[(i 0)],[(i 3)]] false)],[(.sv [[(i 3)],[(i 1)]] false)],[(.sv [[(i 0)],[(i 2)],[(i 2)],[(i 3)]] false)],[(.sv [[(i 2)],[(i 0)],[(i 1)],[(i 1)]] false)],[(.sv [[(i 5)],[(i 6)],[(i 7)],[(i 8)]] false)]] false),(.map 12)]),(.cells 1 1 [(i 7)]),(.cells 1 1 [(i 3)]),(.cells 1 1 [(i 1)]),(.cells 1 1 [(i 1)]),(.cells 1 1 [(i 1)]),(.cells 1 1 [(i 2)]),(.cells 1 1 [(i 1)]),(.cells 1 1 [(i 3)]),(.cells 1 1 [(i 2)]),(.cells 1 1 [(i 1)]),.gone]⟩
theorem kk12:ee12.ok gl Trnx.aprog:=tbl_run (tbl:=[]) (n:=500) tblNil (by kernel_rfl)
def ee13:TE:=⟨31,[(.agg [(i 4),(i 0),(.sv [[(i 4),(i 0),(.sv [[(i 1),(i 0),.nils]] true)]] true)]),(i 2),(.sv [[(.sv [[(i 0)],[(i 3)]] false)],[(.sv [[(i 3)],[(i 1)]] false)],[(.sv [[(i 0)],[(i 2)],[(i 2)],[(i 3)]] false)],[(.sv [[(i 2)],[(i 0)],[(i 1)],[(i 1)]] false)],[(.sv [[(i 5)],[(i 6)],[(i 7)],[(i 8)]] false)]] false),(.sv [[(i 1)],[(i 0)],[(i 1)]] true)],[],(.ret (.tup [(.sv [[(.sv [[(i 3)],[(i 0)],[(i 3)]] false)],[(.sv [[(i 1)],[(i 3)],[(i 1)]] false)],[(.sv [[(i 0)],[(i 2)],[(i 2)],[(i 3)]] false)],[(.sv [[(i 2)],[(i 0)],[(i 1)],[(i 1)]] false)],[(.sv [[(i 5)],[(i 6)],[(i 7)],[(i 8)]] false)]] false),(i 0)])),[(.cells 1 1 [(i 2)]),(.cells 1 1 [(i 0)]),(.cells 1 4 [(i 2),(i 3),(i 4),(.sl 6 0 1 1 1 false)]),(.cells 1 4 [(i 2),(i 1),(i 4),(.sl 5 0 1 1 1 false)]),(.cells 1 4 [(i 1),(i 0),(i 1),.nils]),(.cells 1 1 [(.ref 4 0 1)]),(.cells 1 1 [(.ref 3 0 1)]),.gone,.gone,.gone]⟩
theorem kk13:ee13.ok gl Trnx.aprog:=tbl_run (tbl:=[]) (n:=500) tblNil (by kernel_rfl)
def ee14:TE:=⟨29,[(.agg [(i 4),(i 0),(.sv [[(i 4),(i 0),(.sv [[(i 1),(i 0),.nils]] true)]] true)]),(i 1),(.sv [[(.sv [[(i 0)]] false)],[(.sv [[(i 1)]] false)],[(.sv [[(i 0)]] false)],[(.sv [[(i 1)]] false)],[(.sv [[(i 8)]] false)]] false),(i 1),(.sv [[(.sv [[(i 0)]] false)],[(.sv [[(i 3)]] false)],[(.sv [[(i 0)],[(i 2)],[(i 2)]] false)],[(.sv [[(i 2)],[(i 0)],[(i 1)]] false)],[(.sv [[(i 5)],[(i 6)],[(i 7)]] false)]] false)],[],(.ret (.tup [(.sl 8 0 5 5 1 false),(i 0)])),[(.cells 1 1 [(.sv [[(.sv [[(i 0)]] false)],[(.sv [[(i 1)]] false)],[(.sv [[(i 0)]] false)],[(.sv [[(i 1)]] false)],[(.sv [[(i 8)]] false)]] false)]),(.cells 1 1 [(.sv [[(.sv [[(i 0)]] false)],[(.sv [[(i 3)]] false)],[(.sv [[(i 0)],[(i 2)],[(i 2)]] false)],[(.sv [[(i 2)],[(i 0)],[(i 1)]] false)],[(.sv [[(i 5)],[(i 6)],[(i 7)]] false)]] false)]),(.cells 1 1 [(i 0)]),(.cells 1 4 [(i 2),(i 3),(i 4),(.sl 7 0 1 1 1 false)]),(.cells 1 4 [(i 2),(i 1),(i 4),(.sl 6 0 1 1 1 false)]),(.cells 1 4 [(i 1),(i 0),(i 1),.nils]),(.cells 1 1 [(.ref 5 0 1)]),(.cells 1 1 [(.ref 4 0 1)]),(.cells 5 1 [(.sl 10 0 2 2 1 false),(.sl 11 0 2 2 1 false),(.sl 12 0 4 4 1 false),(.sl 13 0 4 4 1 false),(.sl 14 0 4 4 1 false)]),(.cells 1 1 [(.sl 8 0 5 5 1 false)]),(.cells 2 1 [(i 0),(i 1)]),(.cells 2 1 [(i 1),(i 3)]),(.cells 4 1 [(i 0),(i 1),(i 3),(i 3)]),(.cells 4 1 [(i 1),(i 2),(i 0),(i 1)]),(.cells 4 1 [(i 8),(i 5),(i 6),(i 7)]),(.cells 1 1 [(.func (.func 72) [] [(.ref 1 0 1),(.ref 9 0 1),(.ref 0 0 1),(.ref 15 0 1)])])]⟩
theorem kk14:ee14.ok gl Trnx.aprog:=tbl_run (tbl:=[]) (n:=500) tblNil (by kernel_rfl)
def ee15:TE:=⟨26,[(.agg [(i 4),(i 0),(.sv [[(i 1),(i 0),.nils]] true)]),(i 3),(.sv [[(.sv [[(i 1)],[(i 1)],[(i 0)]] true)],[(.sv [[(i 2)],[(i 1)],[(i 0)]] true)],[(.sv [[(i 7)],[(i 8)],[(i 9)]] true)]] true)],[],(.ret (.tup [(.sv [[(i 4),(i 0),(.sv [[(i 1),(i 8),.nils],[(i 1),(i 9),.nils]] false)],[(i 4),(i 0),(.sv [[(i 1),(i 8),.nils]] false)],[(i 4),(i 0),.nils]] false),(i 0)])),[(.cells 1 1 [(i 0)]),(.cells 1 4 [(i 2),(i 1),(i 4),(.sl 3 0 1 1 1 false)]),(.cells 1 4 [(i 1),(i 0),(i 1),.nils]),(.cells 1 1 [(.ref 2 0 1)])]⟩
theorem kk15:ee15.ok gl Trnx.aprog:=tbl_run (tbl:=[]) (n:=500) tblNil (by kernel_rfl)
def ee16:TE:=⟨18,[(.agg [(i 4),(i 0),(.sv [[(i 4),(i 0),(.sv [[(i 1),(i 5),.nils],[(i 1),(i 6),.nils]] true)],[(i 4),(i 0),.nils],[(i 4),(i 0),(.sv [[(i 1),(i 7),.nils]] true)]] true)]),(.agg [(i 4),(i 0),(.sv [[(i 4),(i 0),(.sv [[(i 1),(i 0),.nils]] true)]] true)])],[],(.ret (i 0)),[(.cells 1 1 [(i 0)]),(.cells 1 4 [(i 2),(i 3),(i 4),(.sl 5 0 1 1 1 false)]),(.cells 1 4 [(i 2),(i 1),(i 4),(.sl 4 0 1 1 1 false)]),(.cells 1 4 [(i 1),(i 0),(i 1),.nils]),(.cells 1 1 [(.ref 3 0 1)]),(.cells 1 1 [(.ref 2 0 1)])]⟩
theorem kk16:ee16.ok gl Trnx.aprog:=tbl_run (tbl:=[]) (n:=500) tblNil (by kernel_rfl)
def ee17:TE:=⟨22,[(.agg [(i 3),(i 0),(.sv [[(i 1),(i 0),.nils],[(i 4),(i 0),(.sv [[(i 1),(i 0),.nils]] true)]] true)]),(.sv [[(i 3),(i 0),(.sv [[(i 1),(i 4),.nils]] true)],[(i 3),(i 1),(.sv [[(i 4),(i 0),(.sv [[(i 1),(i 1),.nils],[(i 1),(i 2),.nils]] true)]] true)],[(i 3),(i 1),(.sv [[(i 4),(i 0),.nils]] true)]] true)],[],(.ret (.tup [(.sv [[(.sv [[(i 0)],[(i 1)],[(i 1)]] false)],[(.sv [[(i 4)],[(i 0)],[(i 0)]] false)],[(.sv [[(i 0)],[(i 0)],[(i 2)]] false)],[(.sv [[(i 0)],[(i 2)],[(i 0)]] false)],[(.sv [[(i 1)],[(i 2)]] false)]] false),(i 0)])),[(.cells 1 1 [(i 0)]),(.cells 1 4 [(i 4),(i 1),(i 3),(.sl 3 0 2 2 1 false)]),(.cells 1 4 [(i 1),(i 0),(i 1),.nils]),(.cells 2 1 [(.ref 2 0 1),(.ref 4 0 1)]),(.cells 1 4 [(i 2),(i 1),(i 4),(.sl 6 0 1 1 1 false)]),(.cells 1 4 [(i 1),(i 0),(i 1),.nils]),(.cells 1 1 [(.ref 5 0 1)]),(.cells 3 1 [(.pv [(i 3),(i 0),(.sv [[(i 1),(i 4),.nils]] true)]),(.pv [(i 3),(i 1),(.sv [[(i 4),(i 0),(.sv [[(i 1),(i 1),.nils],[(i 1),(i 2),.nils]] true)]] true)]),(.pv [(i 3),(i 1),(.sv [[(i 4),(i 0),.nils]] true)])]),(.cells 1 1 [(.ref 1 0 1)]),(.cells 1 1 [(.sl 7 0 3 3 1 false)]),.gone,(.cells 1 1 [(i 0)]),.gone,(.cells 1 1 [(.ref 2 0 1)]),(.cells 1 1 [(.sv [[(.pv [(i 1),(i 4),.nils])],[.nilp],[.nilp]] false)]),.gone,(.cells 1 1 [(i 1)]),.gone,(.cells 1 1 [(.ref 4 0 1)]),(.cells 1 1 [(.sv [[.nilp],[(.pv [(i 4),(i 0),(.sv [[(i 1),(i 1),.nils],[(i 1),(i 2),.nils]] true)])],[(.pv [(i 4),(i 0),.nils])]] false)]),(.cells 1 1 [(.sl 22 0 2 2 1 false)]),.gone,(.cells 2 1 [(.pv [(i 1),(i 1),.nils]),(.pv [(i 1),(i 2),.nils])]),.gone,(.cells 1 1 [(.ref 5 0 1)]),(.cells 1 1 [(.sl 22 0 2 2 1 false)]),.gone]⟩
theorem kk17:ee17.ok gl Trnx.aprog:=tbl_run (tbl:=[]) (n:=500) tblNil (by kernel_rfl)
def ee18:TE:=⟨20,[(.agg [(i 4),(i 0),(.sv [[(i 4),(i 0),(.sv [[(i 1),(i 5),.nils],[(i 1),(i 6),.nils]] true)],[(i 4),(i 0),.nils],[(i 4),(i 0),(.sv [[(i 1),(i 7),.nils]] true)]] true)])],[],(.ret (.bool true)),[(.cells 1 1 [(.func (.func 61) [] [(.ref 0 0 1)])]),(.cells 1 1 [(i 12)]),(.cells 1 1 [(i 11)]),(.cells 1 1 [(i 10)]),(.cells 1 1 [(i 10)]),(.cells 1 1 [(i 11)]),(.cells 1 1 [(i 11)]),(.cells 1 1 [(i 10)])]⟩
theorem kk18:ee18.ok gl Trnx.aprog:=tbl_run (tbl:=[]) (n:=500) tblNil (by kernel_rfl)
def ee19:TE:=⟨22,[(.agg [(i 4),(i 0),(.sv [[(i 4),(i 0),(.sv [[(i 1),(i 0),.nils]] true)]] true)]),(.sv [[(i 4),(i 0),(.sv [[(i 4),(i 0),(.sv [[(i 1),(i 5),.nils],[(i 1),(i 6),.nils]] true)],[(i 4),(i 0),.nils],[(i 4),(i 0),(.sv [[(i 1),(i 7),.nils]] true)]] true)],[(i 4),(i 0),(.sv [[(i 4),(i 0),(.sv [[(i 1),(i 8),.nils]] true)]] true)]] true)],[],(.ret (.tup [(.sv [[(.sv [[(i 0)],[(i 3)]] false)],[(.sv [[(i 3)],[(i 1)]] false)],[(.sv [[(i 0)],[(i 2)],[(i 2)],[(i 3)]] false)],[(.sv [[(i 2)],[(i 0)],[(i 1)],[(i 1)]] false)],[(.sv [[(i 5)],[(i 6)],[(i 7)],[(i 8)]] false)]] false),(i 0)])),[(.cells 1 1 [(i 0)]),(.cells 1 4 [(i 2),(i 3),(i 4),(.sl 5 0 1 1 1 false)]),(.cells 1 4 [(i 2),(i 1),(i 4),(.sl 4 0 1 1 1 false)]),(.cells 1 4 [(i 1),(i 0),(i 1),.nils]),(.cells 1 1 [(.ref 3 0 1)]),(.cells 1 1 [(.ref 2 0 1)]),(.cells 2 1 [(.pv [(i 4),(i 0),(.sv [[(i 4),(i 0),(.sv [[(i 1),(i 5),.nils],[(i 1),(i 6),.nils]] true)],[(i 4),(i 0),.nils],[(i 4),(i 0),(.sv [[(i 1),(i 7),.nils]] true)]] true)]),(.pv [(i 4),(i 0),(.sv [[(i 4),(i 0),(.sv [[(i 1),(i 8),.nils]] true)]] true)])]),(.cells 1 1 [(.ref 1 0 1)]),(.cells 1 1 [(.sl 6 0 2 2 1 false)]),(.cells 1 1 [(.sl 11 0 4 4 1 false)]),.gone,(.cells 4 1 [(.pv [(i 4),(i 0),(.sv [[(i 1),(i 5),.nils],[(i 1),(i 6),.nils]] true)]),(.pv [(i 4),(i 0),.nils]),(.pv [(i 4),(i 0),(.sv [[(i 1),(i 7),.nils]] true)]),(.pv [(i 4),(i 0),(.sv [[(i 1),(i 8),.nils]] true)])]),.gone,(.cells 1 1 [(.ref 2 0 1)]),(.cells 1 1 [(.sl 11 0 4 4 1 false)]),(.cells 1 1 [(.sl 17 0 4 4 1 false)]),.gone,(.cells 4 1 [(.pv [(i 1),(i 5),.nils]),(.pv [(i 1),(i 6),.nils]),(.pv [(i 1),(i 7),.nils]),(.pv [(i 1),(i 8),.nils])]),.gone,(.cells 1 1 [(.ref 3 0 1)]),(.cells 1 1 [(.sl 17 0 4 4 1 false)]),.gone]⟩
theorem kk19:ee19.ok gl Trnx.aprog:=tbl_run (tbl:=[]) (n:=500) tblNil (by kernel_rfl)
def ee20:TE:=⟨22,[(.agg [(i 4),(i 0),(.sv [[(i 4),(i 0),(.sv [[(i 1),(i 0),.nils]] true)]] true)]),(.sv [[(i 4),(i 0),(.sv [[(i 4),(i 0),(.sv [[(i 1),(i 5),.nils],[(i 1),(i 6),.nils]] true)],[(i 4),(i 0),.nils],[(i 4),(i 0),(.sv [[(i 1),(i 7),.nils]] true)]] true)]] true)],[],(.ret (.tup [(.sv [[(.sv [[(i 0)]] false)],[(.sv [[(i 3)]] false)],[(.sv [[(i 0)],[(i 2)],[(i 2)]] false)],[(.sv [[(i 2)],[(i 0)],[(i 1)]] false)],[(.sv [[(i 5)],[(i 6)],[(i 7)]] false)]] false),(i 0)])),[(.cells 1 1 [(i 0)]),(.cells 1 4 [(i 2),(i 3),(i 4),(.sl 5 0 1 1 1 false)]),(.cells 1 4 [(i 2),(i 1),(i 4),(.sl 4 0 1 1 1 false)]),(.cells 1 4 [(i 1),(i 0),(i 1),.nils]),(.cells 1 1 [(.ref 3 0 1)]),(.cells 1 1 [(.ref 2 0 1)]),(.cells 1 1 [(.pv [(i 4),(i 0),(.sv [[(i 4),(i 0),(.sv [[(i 1),(i 5),.nils],[(i 1),(i 6),.nils]] true)],[(i 4),(i 0),.nils],[(i 4),(i 0),(.sv [[(i 1),(i 7),.nils]] true)]] true)])]),(.cells 1 1 [(.ref 1 0 1)]),(.cells 1 1 [(.sl 6 0 1 1 1 false)]),(.cells 1 1 [(.sl 11 0 3 3 1 false)]),.gone,(.cells 3 1 [(.pv [(i 4),(i 0),(.sv [[(i 1),(i 5),.nils],[(i 1),(i 6),.nils]] true)]),(.pv [(i 4),(i 0),.nils]),(.pv [(i 4),(i 0),(.sv [[(i 1),(i 7),.nils]] true)])]),.gone,(.cells 1 1 [(.ref 2 0 1)]),(.cells 1 1 [(.sl 11 0 3 3 1 false)]),(.cells 1 1 [(.sl 17 0 3 3 1 false)]),.gone,(.cells 3 1 [(.pv [(i 1),(i 5),.nils]),(.pv [(i 1),(i 6),.nils]),(.pv [(i 1),(i 7),.nils])]),.gone,(.cells 1 1 [(.ref 3 0 1)]),(.cells 1 1 [(.sl 17 0 3 3 1 false)]),.gone]⟩
theorem kk20:ee20.ok gl Trnx.aprog:=tbl_run (tbl:=[]) (n:=500) tblNil (by kernel_rfl)
def ee21:TE:=⟨34,[(.agg [(i 4),(i 0),(.sv [[(i 4),(i 0),(.sv [[(i 1),(i 0),.nils]] true)]] true)]),(i 2),(.sv [[(.sv [[(i 0)],[(i 3)]] false)],[(.sv [[(i 3)],[(i 1)]] false)],[(.sv [[(i 0)],[(i 2)],[(i 2)],[(i 3)]] false)],[(.sv [[(i 2)],[(i 0)],[(i 1)],[(i 1)]] false)],[(.sv [[(i 5)],[(i 6)],[(i 7)],[(i 8)]] false)]] false),(.sv [[(.sv [[(i 0)],[(i 3)]] false)],[(.sv [[(i 3)],[(i 1)]] false)],[(.sv [[(i 0)],[(i 2)],[(i 2)],[(i 3)]] false)],[(.sv [[(i 2)],[(i 0)],[(i 1)],[(i 1)]] false)],[(.sv [[(i 5)],[(i 6)],[(i 7)],[(i 8)]] false)]] false)],[],(.ret (.tup [(.bool true),(i 0)])),[(.cells 1 1 [(i 0)]),(.cells 1 4 [(i 2),(i 3),(i 4),(.sl 5 0 1 1 1 false)]),(.cells 1 4 [(i 2),(i 1),(i 4),(.sl 4 0 1 1 1 false)]),(.cells 1 4 [(i 1),(i 0),(i 1),.nils]),(.cells 1 1 [(.ref 3 0 1)]),(.cells 1 1 [(.ref 2 0 1)])]⟩
theorem kk21:ee21.ok gl Trnx.aprog:=tbl_run (tbl:=[ee12]) (n:=500) (tblCons kk12 tblNil) (by kernel_rfl)
def ee22:TE:=⟨22,[(.agg [(i 4),(i 0),(.sv [[(i 4),(i 0),(.sv [[(i 1),(i 0),.nils]] true)]] true)]),(.sv [[(i 4),(i 0),(.sv [[(i 4),(i 0),(.sv [[(i 1),(i 8),.nils]] true)]] true)]] true)],[],(.ret (.tup [(.sv [[(.sv [[(i 0)]] false)],[(.sv [[(i 1)]] false)],[(.sv [[(i 0)]] false)],[(.sv [[(i 1)]] false)],[(.sv [[(i 8)]] false)]] false),(i 0)])),[(.cells 1 1 [(i 0)]),(.cells 1 4 [(i 2),(i 3),(i 4),(.sl 5 0 1 1 1 false)]),(.cells 1 4 [(i 2),(i 1),(i 4),(.sl 4 0 1 1 1 false)]),(.cells 1 4 [(i 1),(i 0),(i 1),.nils]),(.cells 1 1 [(.ref 3 0 1)]),(.cells 1 1 [(.ref 2 0 1)]),(.cells 1 1 [(.pv [(i 4),(i 0),(.sv [[(i 4),(i 0),(.sv [[(i 1),(i 8),.nils]] true)]] true)])]),(.cells 1 1 [(.ref 1 0 1)]),(.cells 1 1 [(.sl 6 0 1 1 1 false)]),(.cells 1 1 [(.sl 11 0 1 1 1 false)]),.gone,(.cells 1 1 [(.pv [(i 4),(i 0),(.sv [[(i 1),(i 8),.nils]] true)])]),.gone,(.cells 1 1 [(.ref 2 0 1)]),(.cells 1 1 [(.sl 11 0 1 1 1 false)]),(.cells 1 1 [(.sl 17 0 1 1 1 false)]),.gone,(.cells 1 1 [(.pv [(i 1),(i 8),.nils])]),.gone,(.cells 1 1 [(.ref 3 0 1)]),(.cells 1 1 [(.sl 17 0 1 1 1 false)]),.gone]⟩
theorem kk22:ee22.ok gl Trnx.aprog:=tbl_run (tbl:=[]) (n:=500) tblNil (by kernel_rfl)
def ee23:TE:=⟨27,[(.agg [(i 4),(i 0),(.sv [[(i 4),(i 0),(.sv [[(i 1),(i 0),.nils]] true)]] true)]),(i 2),(.sv [[(.sv [[(i 0)],[(i 3)]] false)],[(.sv [[(i 3)],[(i 1)]] false)],[(.sv [[(i 0)],[(i 2)],[(i 2)],[(i 3)]] false)],[(.sv [[(i 2)],[(i 0)],[(i 1)],[(i 1)]] false)],[(.sv [[(i 5)],[(i 6)],[(i 7)],[(i 8)]] false)]] false)],[],(.ret (.tup [(.sv [[(.sv [[(i 0)],[(i 3)]] false)],[(.sv [[(i 3)],[(i 1)]] false)],[(.sv [[(i 0)],[(i 2)],[(i 2)],[(i 3)]] false)],[(.sv [[(i 2)],[(i 0)],[(i 1)],[(i 1)]] false)],[(.sv [[(i 5)],[(i 6)],[(i 7)],[(i 8)]] false)]] false),(i 0)])),[(.cells 1 1 [(i 0)]),(.cells 1 4 [(i 2),(i 3),(i 4),(.sl 5 0 1 1 1 false)]),(.cells 1 4 [(i 2),(i 1),(i 4),(.sl 4 0 1 1 1 false)]),(.cells 1 4 [(i 1),(i 0),(i 1),.nils]),(.cells 1 1 [(.ref 3 0 1)]),(.cells 1 1 [(.ref 2 0 1)]),(.cells 2 1 [(.pv [(i 4),(i 0),(.sv [[(i 4),(i 0),(.sv [[(i 1),(i 5),.nils],[(i 1),(i 6),.nils]] false)],[(i 4),(i 0),.nils],[(i 4),(i 0),(.sv [[(i 1),(i 7),.nils]] false)]] false)]),(.pv [(i 4),(i 0),(.sv [[(i 4),(i 0),(.sv [[(i 1),(i 8),.nils]] false)]] false)])]),(.cells 1 1 [(.ref 1 0 1)]),(.cells 1 1 [(.sl 6 0 2 2 1 false)]),(.cells 1 1 [(.sl 11 0 4 4 1 false)]),.gone,(.cells 4 1 [(.pv [(i 4),(i 0),(.sv [[(i 1),(i 5),.nils],[(i 1),(i 6),.nils]] false)]),(.pv [(i 4),(i 0),.nils]),(.pv [(i 4),(i 0),(.sv [[(i 1),(i 7),.nils]] false)]),(.pv [(i 4),(i 0),(.sv [[(i 1),(i 8),.nils]] false)])]),.gone,(.cells 1 1 [(.ref 2 0 1)]),(.cells 1 1 [(.sl 11 0 4 4 1 false)]),(.cells 1 1 [(.sl 17 0 4 4 1 false)]),.gone,(.cells 4 1 [(.pv [(i 1),(i 5),.nils]),(.pv [(i 1),(i 6),.nils]),(.pv [(i 1),(i 7),.nils]),(.pv [(i 1),(i 8),.nils])]),.gone,(.cells 1 1 [(.ref 3 0 1)]),(.cells 1 1 [(.sl 17 0 4 4 1 false)]),.gone]⟩
theorem kk23:ee23.ok gl Trnx.aprog:=tbl_run (tbl:=[ee12]) (n:=500) (tblCons kk12 tblNil) (by kernel_rfl)
def ee24:TE:=⟨11,[],[],(.ret (.bool true)),[]⟩
theorem kk24:ee24.ok gl Trnx.aprog:=tbl_run (tbl:=[ee13,ee14,ee15,ee16,ee17,ee18,ee19,ee20,ee21,ee22,ee23]) (n:=500) (tblCons kk13 (tblCons kk14 (tblCons kk15 (tblCons kk16 (tblCons kk17 (tblCons kk18 (tblCons kk19 (tblCons kk20 (tblCons kk21 (tblCons kk22 (tblCons kk23 tblNil))))))))))) (by kernel_rfl)
def ee25:TE:=⟨26,[(.agg [(i 3),(i 0),(.sv [[(i 1),(i 0),.nils],[(i 4),(i 0),(.sv [[(i 1),(i 0),.nils]] true)]] true)]),(i 2),(.sv [[(.sv [[(i 0)],[(i 1)]] true)],[(.sv [[(i 4)],[(i 1099511627776)]] true)],[(.sv [[(i (-3))],[(i 1)]] true)],[(.sv [[(i (-3))],[(i 1)]] true)],[(.sv [[(i 6)],[(i 7)]] true)]] true)],[],(.ret (.tup [(.sv [[(i 3),(i 0),(.sv [[(i 1),(i 4),.nils]] false)],[(i 3),(i 1),(.sv [[(i 4),(i 0),(.sv [[(i 1),(i 7),.nils]] false)]] false)]] false),(i 0)])),[(.cells 1 1 [(i 0)]),(.cells 1 4 [(i 4),(i 1),(i 3),(.sl 3 0 2 2 1 false)]),(.cells 1 4 [(i 1),(i 0),(i 1),.nils]),(.cells 2 1 [(.ref 2 0 1),(.ref 4 0 1)]),(.cells 1 4 [(i 2),(i 1),(i 4),(.sl 6 0 1 1 1 false)]),(.cells 1 4 [(i 1),(i 0),(i 1),.nils]),(.cells 1 1 [(.ref 5 0 1)])]⟩
theorem kk25:ee25.ok gl Trnx.aprog:=tbl_run (tbl:=[]) (n:=500) tblNil (by kernel_rfl)
def ee26:TE:=⟨26,[(.agg [(i 4),(i 0),(.sv [[(i 0),(i 0),.nils]] true)]),(i 2),(.sv [[(.sv [[(i 5)],[(i (-9))]] true)],[(.sv [[(i 2)],[(i 0)]] true)]] true)],[],(.ret (.tup [(.sv [[(i 4),(i 0),(.sv [[(i 0),(i 0),.nils],[(i 0),(i 0),.nils]] false)],[(i 4),(i 0),.nils]] false),(i 0)])),[(.cells 1 1 [(i 0)]),(.cells 1 4 [(i 2),(i 0),(i 4),(.sl 3 0 1 1 1 false)]),(.cells 1 4 [(i 0),(i 0),(i 0),.nils]),(.cells 1 1 [(.ref 2 0 1)])]⟩
theorem kk26:ee26.ok gl Trnx.aprog:=tbl_run (tbl:=[]) (n:=500) tblNil (by kernel_rfl)
def ee27:TE:=⟨26,[(.agg [(i 4),(i 0),(.sv [[(i 1),(i 0),.nils]] true)]),(i 2),(.sv [[(.sv [[(i 4611686018427387904)],[(i 0)]] true)],[(.sv [[(i 0)],[(i 1)]] true)],[(.sv [[(i 7)],[(i 4611686018427387904)]] true)]] true)],[],(.ret (.tup [(.sv [[(i 4),(i 0),.nils],[(i 4),(i 0),(.sv [[(i 1),(i 7),.nils]] false)]] false),(i 0)])),[(.cells 1 1 [(i 0)]),(.cells 1 4 [(i 2),(i 1),(i 4),(.sl 3 0 1 1 1 false)]),(.cells 1 4 [(i 1),(i 0),(i 1),.nils]),(.cells 1 1 [(.ref 2 0 1)])]⟩
theorem kk27:ee27.ok gl Trnx.aprog:=tbl_run (tbl:=[]) (n:=500) tblNil (by kernel_rfl)
def ee28:TE:=⟨31,[(.agg [(i 4),(i 0),(.sv [[(i 1),(i 0),.nils]] true)]),(i 1),(.sv [[(.sv [[(i 0)]] true)],[(.sv [[(i 0)]] true)],[(.sv [] true)]] true),(.sv [[(i 1)]] true)],[],(.ret (.tup [.nils,(i 2)])),[(.cells 1 1 [(i 1)]),(.cells 1 1 [(i 2)]),(.cells 1 4 [(i 2),(i 1),(i 4),(.sl 4 0 1 1 1 false)]),(.cells 1 4 [(i 1),(i 0),(i 1),.nils]),(.cells 1 1 [(.ref 3 0 1)])]⟩
theorem kk28:ee28.ok gl Trnx.aprog:=tbl_run (tbl:=[]) (n:=500) tblNil (by kernel_rfl)
def ee29:TE:=⟨20,[(.agg [(i 4),(i 0),(.sv [[(i 4),(i 0),(.sv [[(i 4),(i 0),(.sv [[(i 4),(i 0),(.sv [[(i 4),(i 0),(.sv [[(i 4),(i 0),(.sv [[(i 4),(i 0),(.sv [[(i 4),(i 0),(.sv [[(i 4),(i 0),(.sv [[(i 4),(i 0),(.sv [[(i 4),(i 0),(.sv [[(i 1),(i 1),.nils]] true)]] true)]] true)]] true)]] true)]] true)]] true)]] true)]] true)]] true)]] true)])],[],(.ret (.bool true)),[(.cells 1 1 [(.func (.func 61) [] [(.ref 0 0 1)])]),(.cells 1 1 [(i 12)]),(.cells 1 1 [(i 11)]),(.cells 1 1 [(i 10)]),(.cells 1 1 [(i 9)]),(.cells 1 1 [(i 8)]),(.cells 1 1 [(i 7)]),(.cells 1 1 [(i 6)]),(.cells 1 1 [(i 5)]),(.cells 1 1 [(i 4)]),(.cells 1 1 [(i 3)]),(.cells 1 1 [(i 2)]),(.cells 1 1 [(i 1)])]⟩
theorem kk29:ee29.ok gl Trnx.aprog:=tbl_run (tbl:=[]) (n:=500) tblNil (by kernel_rfl)
def ee30:TE:=⟨34,[(.agg [(i 4),(i 0),(.sv [[(i 1),(i 0),.nils]] true)]),(i 2),(.sv [[(.sv [[(i 0)],[(i 0)]] true)],[(.sv [[(i 0)],[(i 0)]] true)],[(.sv [] true)]] true),(.sv [[(.sv [[(i 0)],[(i 0)]] true)],[(.sv [[(i 1)]] true)],[(.sv [[(i 7)]] true)]] true)],[],(.ret (.tup [(.bool false),(i 8)])),[(.cells 1 1 [(i 8)]),(.cells 1 4 [(i 2),(i 1),(i 4),(.sl 3 0 1 1 1 false)]),(.cells 1 4 [(i 1),(i 0),(i 1),.nils]),(.cells 1 1 [(.ref 2 0 1)]),(.cells 1 1 [(i 2)]),(.cells 1 1 [(.sv [[(.sv [[(i 0)],[(i 0)]] true)],[(.sv [[(i 1)]] true)],[(.sv [[(i 7)]] true)]] true)])]⟩
theorem kk30:ee30.ok gl Trnx.aprog:=tbl_run (tbl:=[]) (n:=500) tblNil (by kernel_rfl)
def ee31:TE:=⟨20,[(.agg [(i 4),(i 0),(.sv [[(i 4),(i 0),(.sv [[(i 4),(i 0),(.sv [[(i 4),(i 0),(.sv [[(i 4),(i 0),(.sv [[(i 4),(i 0),(.sv [[(i 4),(i 0),(.sv [[(i 4),(i 0),(.sv [[(i 4),(i 0),(.sv [[(i 4),(i 0),(.sv [[(i 4),(i 0),(.sv [[(i 4),(i 0),(.sv [[(i 1),(i 1),.nils]] true)]] true)]] true)]] true)]] true)]] true)]] true)]] true)]] true)]] true)]] true)]] true)])],[],(.ret (.bool false)),[(.cells 1 1 [(.func (.func 61) [] [(.ref 0 0 1)])]),(.cells 1 1 [(i 12)]),(.cells 1 1 [(i 11)]),(.cells 1 1 [(i 10)]),(.cells 1 1 [(i 9)]),(.cells 1 1 [(i 8)]),(.cells 1 1 [(i 7)]),(.cells 1 1 [(i 6)]),(.cells 1 1 [(i 5)]),(.cells 1 1 [(i 4)]),(.cells 1 1 [(i 3)]),(.cells 1 1 [(i 2)]),(.cells 1 1 [(i 1)]),(.cells 1 1 [(i 0)])]⟩
theorem kk31:ee31.ok gl Trnx.aprog:=tbl_run (tbl:=[]) (n:=500) tblNil (by kernel_rfl)
def ee32:TE:=⟨34,[(.agg [(i 4),(i 0),(.sv [[(i 1),(i 0),.nils]] true)]),(i 2),(.sv [[(.sv [[(i 0)],[(i 0)]] true)],[(.sv [[(i 0)],[(i 0)]] true)],[(.sv [] true)]] true),(.sv [[(.sv [[(i 0)]] true)],[(.sv [[(i 1)],[(i 1)]] true)],[(.sv [[(i 7)]] true)]] true)],[],(.ret (.tup [(.bool false),(i 8)])),[(.cells 1 1 [(i 8)]),(.cells 1 4 [(i 2),(i 1),(i 4),(.sl 3 0 1 1 1 false)]),(.cells 1 4 [(i 1),(i 0),(i 1),.nils]),(.cells 1 1 [(.ref 2 0 1)]),(.cells 1 1 [(i 2)]),(.cells 1 1 [(.sv [[(.sv [[(i 0)]] true)],[(.sv [[(i 1)],[(i 1)]] true)],[(.sv [[(i 7)]] true)]] true)])]⟩
theorem kk32:ee32.ok gl Trnx.aprog:=tbl_run (tbl:=[]) (n:=500) tblNil (by kernel_rfl)
def ee33:TE:=⟨34,[(.agg [(i 4),(i 0),(.sv [[(i 1),(i 0),.nils]] true)]),(i 2),(.sv [[(.sv [[(i 0)],[(i 0)]] true)],[(.sv [[(i 0)],[(i 0)]] true)],[(.sv [] true)]] true),(.sv [[(.sv [[(i 0)],[(i 0)]] true)],[(.sv [[(i 1)],[(i 0)]] true)]] true)],[],(.ret (.tup [(.bool false),(i 8)])),[(.cells 1 1 [(i 8)]),(.cells 1 4 [(i 2),(i 1),(i 4),(.sl 3 0 1 1 1 false)]),(.cells 1 4 [(i 1),(i 0),(i 1),.nils]),(.cells 1 1 [(.ref 2 0 1)]),(.cells 1 1 [(i 2)]),(.cells 1 1 [(.sv [[(.sv [[(i 0)],[(i 0)]] true)],[(.sv [[(i 1)],[(i 0)]] true)]] true)])]⟩
theorem kk33:ee33.ok gl Trnx.aprog:=tbl_run (tbl:=[]) (n:=500) tblNil (by kernel_rfl)
def ee34:TE:=⟨34,[(.agg [(i 4),(i 0),(.sv [[(i 1),(i 0),.nils]] true)]),(i 2),(.sv [[(.sv [[(i 0)],[(i 0)]] true)],[(.sv [[(i 0)],[(i 0)]] true)],[(.sv [] true)]] true),(.sv [[(.sv [[(i 0)],[(i (-1))]] true)],[(.sv [[(i 1)],[(i 1)]] true)],[(.sv [[(i 7)]] true)]] true)],[],(.ret (.tup [(.bool false),(i 8)])),[(.cells 1 1 [(i 8)]),(.cells 1 4 [(i 2),(i 1),(i 4),(.sl 3 0 1 1 1 false)]),(.cells 1 4 [(i 1),(i 0),(i 1),.nils]),(.cells 1 1 [(.ref 2 0 1)]),(.cells 1 1 [(i 2)]),(.cells 1 1 [(.sv [[(.sv [[(i 0)],[(i (-1))]] true)],[(.sv [[(i 1)],[(i 1)]] true)],[(.sv [[(i 7)]] true)]] true)]),(.cells 1 3 [(.ref 1 0 1),(i 0),(i 2)]),(.loop 10690 [(.ref 5 0 1)] .exhausted none),(.cells 1 1 [(.yf 7)]),(.cells 1 1 [(.func (.func 110) [] [(.ref 8 0 1),(.ref 9 0 1)])]),(.map [((.agg [(.ref 2 0 1),(i 0)]),(i 1)),((.agg [(.ref 1 0 1),(i 0)]),(i 2))]),(.cells 1 2 [(.sv [[(.sv [[(i 0)],[(i (-1))]] true)],[(.sv [[(i 1)],[(i 1)]] true)],[(.sv [[(i 7)]] true)]] true),(.map 10)]),(.cells 1 1 [(i 2)]),(.cells 1 1 [(i 1)]),(.cells 1 1 [(i 1)])]⟩
theorem kk34:ee34.ok gl Trnx.aprog:=tbl_run (tbl:=[]) (n:=500) tblNil (by kernel_rfl)
def ee35:TE:=⟨34,[(.agg [(i 4),(i 0),(.sv [[(i 1),(i 0),.nils]] true)]),(i 2),(.sv [[(.sv [[(i 0)],[(i 0)]] true)],[(.sv [[(i 0)],[(i 0)]] true)],[(.sv [] true)]] true),(.sv [[(.sv [[(i 0)],[(i 9223372036854775807)]] true)],[(.sv [[(i 1)],[(i 1)]] true)],[(.sv [[(i 7)]] true)]] true)],[],(.ret (.tup [(.bool false),(i 8)])),[(.cells 1 1 [(i 8)]),(.cells 1 4 [(i 2),(i 1),(i 4),(.sl 3 0 1 1 1 false)]),(.cells 1 4 [(i 1),(i 0),(i 1),.nils]),(.cells 1 1 [(.ref 2 0 1)]),(.cells 1 1 [(i 2)]),(.cells 1 1 [(.sv [[(.sv [[(i 0)],[(i 9223372036854775807)]] true)],[(.sv [[(i 1)],[(i 1)]] true)],[(.sv [[(i 7)]] true)]] true)]),(.cells 1 3 [(.ref 1 0 1),(i 0),(i 2)]),(.loop 10690 [(.ref 5 0 1)] .exhausted none),(.cells 1 1 [(.yf 7)]),(.cells 1 1 [(.func (.func 110) [] [(.ref 8 0 1),(.ref 9 0 1)])]),(.map [((.agg [(.ref 2 0 1),(i 0)]),(i 1)),((.agg [(.ref 1 0 1),(i 0)]),(i 2))]),(.cells 1 2 [(.sv [[(.sv [[(i 0)],[(i 9223372036854775807)]] true)],[(.sv [[(i 1)],[(i 1)]] true)],[(.sv [[(i 7)]] true)]] true),(.map 10)]),(.cells 1 1 [(i 2)]),(.cells 1 1 [(i 1)]),(.cells 1 1 [(i 1)])]⟩
theorem kk35:ee35.ok gl Trnx.aprog:=tbl_run (tbl:=[]) (n:=500) tblNil (by kernel_rfl)
def ee36:TE:=⟨34,[(.agg [(i 4),(i 0),(.sv [[(i 1),(i 0),.nils]] true)]),(i 2),(.sv [[(.sv [[(i 0)],[(i 0)]] true)],[(.sv [[(i 0)],[(i 0)]] true)],[(.sv [] true)]] true),(.sv [[(.sv [[(i 1)],[(i 2)]] true)],[(.sv [[(i 2)],[(i 2)]] true)],[(.sv [[(i 7)],[(i 8)],[(i 9)]] true)]] true)],[],(.ret (.tup [(.bool false),(i 8)])),[(.cells 1 1 [(i 8)]),(.cells 1 4 [(i 2),(i 1),(i 4),(.sl 3 0 1 1 1 false)]),(.cells 1 4 [(i 1),(i 0),(i 1),.nils]),(.cells 1 1 [(.ref 2 0 1)]),(.cells 1 1 [(i 2)]),(.cells 1 1 [(.sv [[(.sv [[(i 1)],[(i 2)]] true)],[(.sv [[(i 2)],[(i 2)]] true)],[(.sv [[(i 7)],[(i 8)],[(i 9)]] true)]] true)]),(.cells 1 3 [(.ref 1 0 1),(i 0),(i 2)]),(.loop 10690 [(.ref 5 0 1)] .exhausted none),(.cells 1 1 [(.yf 7)]),(.cells 1 1 [(.func (.func 110) [] [(.ref 8 0 1),(.ref 9 0 1)])]),(.map [((.agg [(.ref 2 0 1),(i 1)]),(i 1)),((.agg [(.ref 2 0 1),(i 2)]),(i 1)),((.agg [(.ref 1 0 1),(i 0)]),(i 3))]),(.cells 1 2 [(.sv [[(.sv [[(i 1)],[(i 2)]] true)],[(.sv [[(i 2)],[(i 2)]] true)],[(.sv [[(i 7)],[(i 8)],[(i 9)]] true)]] true),(.map 10)]),(.cells 1 1 [(i 3)]),(.cells 1 1 [(i 1)]),(.cells 1 1 [(i 1)]),(.cells 1 1 [(i 1)])]⟩
theorem kk36:ee36.ok gl Trnx.aprog:=tbl_run (tbl:=[]) (n:=500) tblNil (by kernel_rfl)
def ee37:TE:=⟨34,[(.agg [(i 4),(i 0),(.sv [[(i 1),(i 0),.nils]] true)]),(i 2),(.sv [[(.sv [[(i 0)],[(i 0)]] true)],[(.sv [[(i 0)],[(i 0)]] true)],[(.sv [] true)]] true),(.sv [[(.sv [[(i 0)],[(i 0)]] true)],[(.sv [[(i 1)],[(i (-1))]] true)],[(.sv [[(i 7)]] true)]] true)],[],(.ret (.tup [(.bool false),(i 8)])),[(.cells 1 1 [(i 8)]),(.cells 1 4 [(i 2),(i 1),(i 4),(.sl 3 0 1 1 1 false)]),(.cells 1 4 [(i 1),(i 0),(i 1),.nils]),(.cells 1 1 [(.ref 2 0 1)]),(.cells 1 1 [(i 2)]),(.cells 1 1 [(.sv [[(.sv [[(i 0)],[(i 0)]] true)],[(.sv [[(i 1)],[(i (-1))]] true)],[(.sv [[(i 7)]] true)]] true)]),(.cells 1 3 [(.ref 1 0 1),(i 0),(i 2)]),(.loop 10690 [(.ref 5 0 1)] .exhausted none),(.cells 1 1 [(.yf 7)]),(.cells 1 1 [(.func (.func 110) [] [(.ref 8 0 1),(.ref 9 0 1)])]),(.map [((.agg [(.ref 2 0 1),(i 0)]),(i 1)),((.agg [(.ref 1 0 1),(i 0)]),(i 2))]),(.cells 1 2 [(.sv [[(.sv [[(i 0)],[(i 0)]] true)],[(.sv [[(i 1)],[(i (-1))]] true)],[(.sv [[(i 7)]] true)]] true),(.map 10)]),(.cells 1 1 [(i 2)]),(.cells 1 1 [(i 1)]),(.cells 1 1 [(i 1)])]⟩
theorem kk37:ee37.ok gl Trnx.aprog:=tbl_run (tbl:=[]) (n:=500) tblNil (by kernel_rfl)
def ee38:TE:=⟨34,[(.agg [(i 4),(i 0),(.sv [[(i 1),(i 0),.nils]] true)]),(i 2),(.sv [[(.sv [[(i 0)],[(i 0)]] true)],[(.sv [[(i 0)],[(i 0)]] true)],[(.sv [] true)]] true),(.sv [[(.sv [[(i 0)],[(i 0)]] true)],[(.sv [[(i 1)],[(i 0)]] true)],[(.sv [[(i 2147483648)]] true)]] true)],[],(.ret (.tup [(.bool false),(i 8)])),[(.cells 1 1 [(i 8)]),(.cells 1 4 [(i 2),(i 1),(i 4),(.sl 3 0 1 1 1 false)]),(.cells 1 4 [(i 1),(i 0),(i 1),.nils]),(.cells 1 1 [(.ref 2 0 1)]),(.cells 1 1 [(i 2)]),(.cells 1 1 [(.sv [[(.sv [[(i 0)],[(i 0)]] true)],[(.sv [[(i 1)],[(i 0)]] true)],[(.sv [[(i 2147483648)]] true)]] true)]),(.cells 1 3 [(.ref 1 0 1),(i 0),(i 2)]),(.loop 10690 [(.ref 5 0 1)] .exhausted none),(.cells 1 1 [(.yf 7)]),(.cells 1 1 [(.func (.func 110) [] [(.ref 8 0 1),(.ref 9 0 1)])]),(.map []),(.cells 1 2 [(.sv [[(.sv [[(i 0)],[(i 0)]] true)],[(.sv [[(i 1)],[(i 0)]] true)],[(.sv [[(i 2147483648)]] true)]] true),(.map 10)]),(.cells 1 1 [(i 1)]),(.cells 1 1 [(i 1)])]⟩
theorem kk38:ee38.ok gl Trnx.aprog:=tbl_run (tbl:=[]) (n:=500) tblNil (by kernel_rfl)
def ee39:TE:=⟨34,[(.agg [(i 4),(i 0),(.sv [[(i 1),(i 0),.nils]] true)]),(i 2),(.sv [[(.sv [[(i 0)],[(i 0)]] true)],[(.sv [[(i 0)],[(i 0)]] true)],[(.sv [] true)]] true),(.sv [[(.sv [[(i 0)],[(i 0)]] true)],[(.sv [[(i 1)],[(i 0)]] true)],[(.sv [[(i 7)]] true)],[(.sv [[(i 7)]] true)]] true)],[],(.ret (.tup [(.bool false),(i 8)])),[(.cells 1 1 [(i 8)]),(.cells 1 4 [(i 2),(i 1),(i 4),(.sl 3 0 1 1 1 false)]),(.cells 1 4 [(i 1),(i 0),(i 1),.nils]),(.cells 1 1 [(.ref 2 0 1)]),(.cells 1 1 [(i 2)]),(.cells 1 1 [(.sv [[(.sv [[(i 0)],[(i 0)]] true)],[(.sv [[(i 1)],[(i 0)]] true)],[(.sv [[(i 7)]] true)],[(.sv [[(i 7)]] true)]] true)])]⟩
theorem kk39:ee39.ok gl Trnx.aprog:=tbl_run (tbl:=[]) (n:=500) tblNil (by kernel_rfl)
def ee40:TE:=⟨12,[(.agg [(i 2),(i 0),(.sv [[(i 2),(i 0),(.sv [[(i 2),(i 0),(.sv [[(i 2),(i 0),(.sv [[(i 2),(i 0),(.sv [[(i 1),(i 0),.nils],[(i 1),(i 0),.nils]] true)],[(i 2),(i 0),(.sv [[(i 1),(i 0),.nils],[(i 1),(i 0),.nils]] true)]] true)],[(i 2),(i 0),(.sv [[(i 2),(i 0),(.sv [[(i 1),(i 0),.nils],[(i 1),(i 0),.nils]] true)],[(i 2),(i 0),(.sv [[(i 1),(i 0),.nils],[(i 1),(i 0),.nils]] true)]] true)]] true)],[(i 2),(i 0),(.sv [[(i 2),(i 0),(.sv [[(i 2),(i 0),(.sv [[(i 1),(i 0),.nils],[(i 1),(i 0),.nils]] true)],[(i 2),(i 0),(.sv [[(i 1),(i 0),.nils],[(i 1),(i 0),.nils]] true)]] true)],[(i 2),(i 0),(.sv [[(i 2),(i 0),(.sv [[(i 1),(i 0),.nils],[(i 1),(i 0),.nils]] true)],[(i 2),(i 0),(.sv [[(i 1),(i 0),.nils],[(i 1),(i 0),.nils]] true)]] true)]] true)]] true)],[(i 2),(i 0),(.sv [[(i 2),(i 0),(.sv [[(i 2),(i 0),(.sv [[(i 2),(i 0),(.sv [[(i 1),(i 0),.nils],[(i 1),(i 0),.nils]] true)],[(i 2),(i 0),(.sv [[(i 1),(i 0),.nils],[(i 1),(i 0),.nils]] true)]] true)],[(i 2),(i 0),(.sv [[(i 2),(i 0),(.sv [[(i 1),(i 0),.nils],[(i 1),(i 0),.nils]] true)],[(i 2),(i 0),(.sv [[(i 1),(i 0),.nils],[(i 1),(i 0),.nils]] true)]] true)]] true)],[(i 2),(i 0),(.sv [[(i 2),(i 0),(.sv [[(i 2),(i 0),(.sv [[(i 1),(i 0),.nils],[(i 1),(i 0),.nils]] true)],[(i 2),(i 0),(.sv [[(i 1),(i 0),.nils],[(i 1),(i 0),.nils]] true)]] true)],[(i 2),(i 0),(.sv [[(i 2),(i 0),(.sv [[(i 1),(i 0),.nils],[(i 1),(i 0),.nils]] true)],[(i 2),(i 0),(.sv [[(i 1),(i 0),.nils],[(i 1),(i 0),.nils]] true)]] true)]] true)]] true)]] true)])],[],(.ret (.tup [(i 0),(i 3)])),[(.cells 1 1 [(i 3)])]⟩
theorem kk40:ee40.ok gl Trnx.aprog:=tbl_run (tbl:=[]) (n:=500) tblNil (by kernel_rfl)
def ee41:TE:=⟨14,[(.agg [(i 2),(i 0),(.sv [[(i 2),(i 0),(.sv [[(i 2),(i 0),(.sv [[(i 2),(i 0),(.sv [[(i 2),(i 0),(.sv [[(i 1),(i 0),.nils],[(i 1),(i 0),.nils]] true)],[(i 2),(i 0),(.sv [[(i 1),(i 0),.nils],[(i 1),(i 0),.nils]] true)]] true)],[(i 2),(i 0),(.sv [[(i 2),(i 0),(.sv [[(i 1),(i 0),.nils],[(i 1),(i 0),.nils]] true)],[(i 2),(i 0),(.sv [[(i 1),(i 0),.nils],[(i 1),(i 0),.nils]] true)]] true)]] true)],[(i 2),(i 0),(.sv [[(i 2),(i 0),(.sv [[(i 2),(i 0),(.sv [[(i 1),(i 0),.nils],[(i 1),(i 0),.nils]] true)],[(i 2),(i 0),(.sv [[(i 1),(i 0),.nils],[(i 1),(i 0),.nils]] true)]] true)],[(i 2),(i 0),(.sv [[(i 2),(i 0),(.sv [[(i 1),(i 0),.nils],[(i 1),(i 0),.nils]] true)],[(i 2),(i 0),(.sv [[(i 1),(i 0),.nils],[(i 1),(i 0),.nils]] true)]] true)]] true)]] true)],[(i 2),(i 0),(.sv [[(i 2),(i 0),(.sv [[(i 2),(i 0),(.sv [[(i 2),(i 0),(.sv [[(i 1),(i 0),.nils],[(i 1),(i 0),.nils]] true)],[(i 2),(i 0),(.sv [[(i 1),(i 0),.nils],[(i 1),(i 0),.nils]] true)]] true)],[(i 2),(i 0),(.sv [[(i 2),(i 0),(.sv [[(i 1),(i 0),.nils],[(i 1),(i 0),.nils]] true)],[(i 2),(i 0),(.sv [[(i 1),(i 0),.nils],[(i 1),(i 0),.nils]] true)]] true)]] true)],[(i 2),(i 0),(.sv [[(i 2),(i 0),(.sv [[(i 2),(i 0),(.sv [[(i 1),(i 0),.nils],[(i 1),(i 0),.nils]] true)],[(i 2),(i 0),(.sv [[(i 1),(i 0),.nils],[(i 1),(i 0),.nils]] true)]] true)],[(i 2),(i 0),(.sv [[(i 2),(i 0),(.sv [[(i 1),(i 0),.nils],[(i 1),(i 0),.nils]] true)],[(i 2),(i 0),(.sv [[(i 1),(i 0),.nils],[(i 1),(i 0),.nils]] true)]] true)]] true)]] true)]] true)])],[],(.ret (.tup [(i 0),(i 3)])),[(.cells 1 1 [(i 3)])]⟩
theorem kk41:ee41.ok gl Trnx.aprog:=tbl_run (tbl:=[]) (n:=500) tblNil (by kernel_rfl)
def ee42:TE:=⟨26,[(.agg [(i 2),(i 0),(.sv [[(i 2),(i 0),(.sv [[(i 2),(i 0),(.sv [[(i 2),(i 0),(.sv [[(i 2),(i 0),(.sv [[(i 1),(i 0),.nils],[(i 1),(i 0),.nils]] true)],[(i 2),(i 0),(.sv [[(i 1),(i 0),.nils],[(i 1),(i 0),.nils]] true)]] true)],[(i 2),(i 0),(.sv [[(i 2),(i 0),(.sv [[(i 1),(i 0),.nils],[(i 1),(i 0),.nils]] true)],[(i 2),(i 0),(.sv [[(i 1),(i 0),.nils],[(i 1),(i 0),.nils]] true)]] true)]] true)],[(i 2),(i 0),(.sv [[(i 2),(i 0),(.sv [[(i 2),(i 0),(.sv [[(i 1),(i 0),.nils],[(i 1),(i 0),.nils]] true)],[(i 2),(i 0),(.sv [[(i 1),(i 0),.nils],[(i 1),(i 0),.nils]] true)]] true)],[(i 2),(i 0),(.sv [[(i 2),(i 0),(.sv [[(i 1),(i 0),.nils],[(i 1),(i 0),.nils]] true)],[(i 2),(i 0),(.sv [[(i 1),(i 0),.nils],[(i 1),(i 0),.nils]] true)]] true)]] true)]] true)],[(i 2),(i 0),(.sv [[(i 2),(i 0),(.sv [[(i 2),(i 0),(.sv [[(i 2),(i 0),(.sv [[(i 1),(i 0),.nils],[(i 1),(i 0),.nils]] true)],[(i 2),(i 0),(.sv [[(i 1),(i 0),.nils],[(i 1),(i 0),.nils]] true)]] true)],[(i 2),(i 0),(.sv [[(i 2),(i 0),(.sv [[(i 1),(i 0),.nils],[(i 1),(i 0),.nils]] true)],[(i 2),(i 0),(.sv [[(i 1),(i 0),.nils],[(i 1),(i 0),.nils]] true)]] true)]] true)],[(i 2),(i 0),(.sv [[(i 2),(i 0),(.sv [[(i 2),(i 0),(.sv [[(i 1),(i 0),.nils],[(i 1),(i 0),.nils]] true)],[(i 2),(i 0),(.sv [[(i 1),(i 0),.nils],[(i 1),(i 0),.nils]] true)]] true)],[(i 2),(i 0),(.sv [[(i 2),(i 0),(.sv [[(i 1),(i 0),.nils],[(i 1),(i 0),.nils]] true)],[(i 2),(i 0),(.sv [[(i 1),(i 0),.nils],[(i 1),(i 0),.nils]] true)]] true)]] true)]] true)]] true)]),(i (-1)),.nils],[],(.ret (.tup [.nils,(i 3)])),[(.cells 1 1 [(i 3)])]⟩
theorem kk42:ee42.ok gl Trnx.aprog:=tbl_run (tbl:=[]) (n:=500) tblNil (by kernel_rfl)
def ee43:TE:=⟨18,[(.agg [(i 0),(i 0),.nils]),(.agg [(i 2),(i 0),(.sv [[(i 2),(i 0),(.sv [[(i 2),(i 0),(.sv [[(i 2),(i 0),(.sv [[(i 2),(i 0),(.sv [[(i 1),(i 0),.nils],[(i 1),(i 0),.nils]] true)],[(i 2),(i 0),(.sv [[(i 1),(i 0),.nils],[(i 1),(i 0),.nils]] true)]] true)],[(i 2),(i 0),(.sv [[(i 2),(i 0),(.sv [[(i 1),(i 0),.nils],[(i 1),(i 0),.nils]] true)],[(i 2),(i 0),(.sv [[(i 1),(i 0),.nils],[(i 1),(i 0),.nils]] true)]] true)]] true)],[(i 2),(i 0),(.sv [[(i 2),(i 0),(.sv [[(i 2),(i 0),(.sv [[(i 1),(i 0),.nils],[(i 1),(i 0),.nils]] true)],[(i 2),(i 0),(.sv [[(i 1),(i 0),.nils],[(i 1),(i 0),.nils]] true)]] true)],[(i 2),(i 0),(.sv [[(i 2),(i 0),(.sv [[(i 1),(i 0),.nils],[(i 1),(i 0),.nils]] true)],[(i 2),(i 0),(.sv [[(i 1),(i 0),.nils],[(i 1),(i 0),.nils]] true)]] true)]] true)]] true)],[(i 2),(i 0),(.sv [[(i 2),(i 0),(.sv [[(i 2),(i 0),(.sv [[(i 2),(i 0),(.sv [[(i 1),(i 0),.nils],[(i 1),(i 0),.nils]] true)],[(i 2),(i 0),(.sv [[(i 1),(i 0),.nils],[(i 1),(i 0),.nils]] true)]] true)],[(i 2),(i 0),(.sv [[(i 2),(i 0),(.sv [[(i 1),(i 0),.nils],[(i 1),(i 0),.nils]] true)],[(i 2),(i 0),(.sv [[(i 1),(i 0),.nils],[(i 1),(i 0),.nils]] true)]] true)]] true)],[(i 2),(i 0),(.sv [[(i 2),(i 0),(.sv [[(i 2),(i 0),(.sv [[(i 1),(i 0),.nils],[(i 1),(i 0),.nils]] true)],[(i 2),(i 0),(.sv [[(i 1),(i 0),.nils],[(i 1),(i 0),.nils]] true)]] true)],[(i 2),(i 0),(.sv [[(i 2),(i 0),(.sv [[(i 1),(i 0),.nils],[(i 1),(i 0),.nils]] true)],[(i 2),(i 0),(.sv [[(i 1),(i 0),.nils],[(i 1),(i 0),.nils]] true)]] true)]] true)]] true)]] true)])],[],(.ret (i 3)),[(.cells 1 1 [(i 3)])]⟩
theorem kk43:ee43.ok gl Trnx.aprog:=tbl_run (tbl:=[]) (n:=500) tblNil (by kernel_rfl)
def ee44:TE:=⟨27,[(.agg [(i 2),(i 0),(.sv [[(i 2),(i 0),(.sv [[(i 2),(i 0),(.sv [[(i 2),(i 0),(.sv [[(i 2),(i 0),(.sv [[(i 1),(i 0),.nils],[(i 1),(i 0),.nils]] true)],[(i 2),(i 0),(.sv [[(i 1),(i 0),.nils],[(i 1),(i 0),.nils]] true)]] true)],[(i 2),(i 0),(.sv [[(i 2),(i 0),(.sv [[(i 1),(i 0),.nils],[(i 1),(i 0),.nils]] true)],[(i 2),(i 0),(.sv [[(i 1),(i 0),.nils],[(i 1),(i 0),.nils]] true)]] true)]] true)],[(i 2),(i 0),(.sv [[(i 2),(i 0),(.sv [[(i 2),(i 0),(.sv [[(i 1),(i 0),.nils],[(i 1),(i 0),.nils]] true)],[(i 2),(i 0),(.sv [[(i 1),(i 0),.nils],[(i 1),(i 0),.nils]] true)]] true)],[(i 2),(i 0),(.sv [[(i 2),(i 0),(.sv [[(i 1),(i 0),.nils],[(i 1),(i 0),.nils]] true)],[(i 2),(i 0),(.sv [[(i 1),(i 0),.nils],[(i 1),(i 0),.nils]] true)]] true)]] true)]] true)],[(i 2),(i 0),(.sv [[(i 2),(i 0),(.sv [[(i 2),(i 0),(.sv [[(i 2),(i 0),(.sv [[(i 1),(i 0),.nils],[(i 1),(i 0),.nils]] true)],[(i 2),(i 0),(.sv [[(i 1),(i 0),.nils],[(i 1),(i 0),.nils]] true)]] true)],[(i 2),(i 0),(.sv [[(i 2),(i 0),(.sv [[(i 1),(i 0),.nils],[(i 1),(i 0),.nils]] true)],[(i 2),(i 0),(.sv [[(i 1),(i 0),.nils],[(i 1),(i 0),.nils]] true)]] true)]] true)],[(i 2),(i 0),(.sv [[(i 2),(i 0),(.sv [[(i 2),(i 0),(.sv [[(i 1),(i 0),.nils],[(i 1),(i 0),.nils]] true)],[(i 2),(i 0),(.sv [[(i 1),(i 0),.nils],[(i 1),(i 0),.nils]] true)]] true)],[(i 2),(i 0),(.sv [[(i 2),(i 0),(.sv [[(i 1),(i 0),.nils],[(i 1),(i 0),.nils]] true)],[(i 2),(i 0),(.sv [[(i 1),(i 0),.nils],[(i 1),(i 0),.nils]] true)]] true)]] true)]] true)]] true)]),(i (-1)),.nils],[],(.ret (.tup [.nils,(i 3)])),[(.cells 1 1 [(i 3)])]⟩
theorem kk44:ee44.ok gl Trnx.aprog:=tbl_run (tbl:=[]) (n:=500) tblNil (by kernel_rfl)
def ee45:TE:=⟨34,[(.agg [(i 2),(i 0),(.sv [[(i 2),(i 0),(.sv [[(i 2),(i 0),(.sv [[(i 2),(i 0),(.sv [[(i 2),(i 0),(.sv [[(i 1),(i 0),.nils],[(i 1),(i 0),.nils]] true)],[(i 2),(i 0),(.sv [[(i 1),(i 0),.nils],[(i 1),(i 0),.nils]] true)]] true)],[(i 2),(i 0),(.sv [[(i 2),(i 0),(.sv [[(i 1),(i 0),.nils],[(i 1),(i 0),.nils]] true)],[(i 2),(i 0),(.sv [[(i 1),(i 0),.nils],[(i 1),(i 0),.nils]] true)]] true)]] true)],[(i 2),(i 0),(.sv [[(i 2),(i 0),(.sv [[(i 2),(i 0),(.sv [[(i 1),(i 0),.nils],[(i 1),(i 0),.nils]] true)],[(i 2),(i 0),(.sv [[(i 1),(i 0),.nils],[(i 1),(i 0),.nils]] true)]] true)],[(i 2),(i 0),(.sv [[(i 2),(i 0),(.sv [[(i 1),(i 0),.nils],[(i 1),(i 0),.nils]] true)],[(i 2),(i 0),(.sv [[(i 1),(i 0),.nils],[(i 1),(i 0),.nils]] true)]] true)]] true)]] true)],[(i 2),(i 0),(.sv [[(i 2),(i 0),(.sv [[(i 2),(i 0),(.sv [[(i 2),(i 0),(.sv [[(i 1),(i 0),.nils],[(i 1),(i 0),.nils]] true)],[(i 2),(i 0),(.sv [[(i 1),(i 0),.nils],[(i 1),(i 0),.nils]] true)]] true)],[(i 2),(i 0),(.sv [[(i 2),(i 0),(.sv [[(i 1),(i 0),.nils],[(i 1),(i 0),.nils]] true)],[(i 2),(i 0),(.sv [[(i 1),(i 0),.nils],[(i 1),(i 0),.nils]] true)]] true)]] true)],[(i 2),(i 0),(.sv [[(i 2),(i 0),(.sv [[(i 2),(i 0),(.sv [[(i 1),(i 0),.nils],[(i 1),(i 0),.nils]] true)],[(i 2),(i 0),(.sv [[(i 1),(i 0),.nils],[(i 1),(i 0),.nils]] true)]] true)],[(i 2),(i 0),(.sv [[(i 2),(i 0),(.sv [[(i 1),(i 0),.nils],[(i 1),(i 0),.nils]] true)],[(i 2),(i 0),(.sv [[(i 1),(i 0),.nils],[(i 1),(i 0),.nils]] true)]] true)]] true)]] true)]] true)]),(i (-1)),.nils,.nils],[],(.ret (.tup [(.bool false),(i 3)])),[(.cells 1 1 [(i 3)])]⟩
theorem kk45:ee45.ok gl Trnx.aprog:=tbl_run (tbl:=[]) (n:=500) tblNil (by kernel_rfl)
def ee46:TE:=⟨53,[(.agg [(i 2),(i 0),(.sv [[(i 2),(i 0),(.sv [[(i 2),(i 0),(.sv [[(i 2),(i 0),(.sv [[(i 2),(i 0),(.sv [[(i 1),(i 0),.nils],[(i 1),(i 0),.nils]] true)],[(i 2),(i 0),(.sv [[(i 1),(i 0),.nils],[(i 1),(i 0),.nils]] true)]] true)],[(i 2),(i 0),(.sv [[(i 2),(i 0),(.sv [[(i 1),(i 0),.nils],[(i 1),(i 0),.nils]] true)],[(i 2),(i 0),(.sv [[(i 1),(i 0),.nils],[(i 1),(i 0),.nils]] true)]] true)]] true)],[(i 2),(i 0),(.sv [[(i 2),(i 0),(.sv [[(i 2),(i 0),(.sv [[(i 1),(i 0),.nils],[(i 1),(i 0),.nils]] true)],[(i 2),(i 0),(.sv [[(i 1),(i 0),.nils],[(i 1),(i 0),.nils]] true)]] true)],[(i 2),(i 0),(.sv [[(i 2),(i 0),(.sv [[(i 1),(i 0),.nils],[(i 1),(i 0),.nils]] true)],[(i 2),(i 0),(.sv [[(i 1),(i 0),.nils],[(i 1),(i 0),.nils]] true)]] true)]] true)]] true)],[(i 2),(i 0),(.sv [[(i 2),(i 0),(.sv [[(i 2),(i 0),(.sv [[(i 2),(i 0),(.sv [[(i 1),(i 0),.nils],[(i 1),(i 0),.nils]] true)],[(i 2),(i 0),(.sv [[(i 1),(i 0),.nils],[(i 1),(i 0),.nils]] true)]] true)],[(i 2),(i 0),(.sv [[(i 2),(i 0),(.sv [[(i 1),(i 0),.nils],[(i 1),(i 0),.nils]] true)],[(i 2),(i 0),(.sv [[(i 1),(i 0),.nils],[(i 1),(i 0),.nils]] true)]] true)]] true)],[(i 2),(i 0),(.sv [[(i 2),(i 0),(.sv [[(i 2),(i 0),(.sv [[(i 1),(i 0),.nils],[(i 1),(i 0),.nils]] true)],[(i 2),(i 0),(.sv [[(i 1),(i 0),.nils],[(i 1),(i 0),.nils]] true)]] true)],[(i 2),(i 0),(.sv [[(i 2),(i 0),(.sv [[(i 1),(i 0),.nils],[(i 1),(i 0),.nils]] true)],[(i 2),(i 0),(.sv [[(i 1),(i 0),.nils],[(i 1),(i 0),.nils]] true)]] true)]] true)]] true)]] true)])],[(.cells 1 1 [(i 0)])],(.pan (.iface 104 (.agg [(i 3)]))),[(.cells 1 1 [(i 0)])]⟩
theorem kk46:ee46.ok gl Trnx.aprog:=tbl_run (tbl:=[]) (n:=500) tblNil (by kernel_rfl)
def ee47:TE:=⟨31,[(.agg [(i 2),(i 0),(.sv [[(i 2),(i 0),(.sv [[(i 2),(i 0),(.sv [[(i 2),(i 0),(.sv [[(i 2),(i 0),(.sv [[(i 1),(i 0),.nils],[(i 1),(i 0),.nils]] true)],[(i 2),(i 0),(.sv [[(i 1),(i 0),.nils],[(i 1),(i 0),.nils]] true)]] true)],[(i 2),(i 0),(.sv [[(i 2),(i 0),(.sv [[(i 1),(i 0),.nils],[(i 1),(i 0),.nils]] true)],[(i 2),(i 0),(.sv [[(i 1),(i 0),.nils],[(i 1),(i 0),.nils]] true)]] true)]] true)],[(i 2),(i 0),(.sv [[(i 2),(i 0),(.sv [[(i 2),(i 0),(.sv [[(i 1),(i 0),.nils],[(i 1),(i 0),.nils]] true)],[(i 2),(i 0),(.sv [[(i 1),(i 0),.nils],[(i 1),(i 0),.nils]] true)]] true)],[(i 2),(i 0),(.sv [[(i 2),(i 0),(.sv [[(i 1),(i 0),.nils],[(i 1),(i 0),.nils]] true)],[(i 2),(i 0),(.sv [[(i 1),(i 0),.nils],[(i 1),(i 0),.nils]] true)]] true)]] true)]] true)],[(i 2),(i 0),(.sv [[(i 2),(i 0),(.sv [[(i 2),(i 0),(.sv [[(i 2),(i 0),(.sv [[(i 1),(i 0),.nils],[(i 1),(i 0),.nils]] true)],[(i 2),(i 0),(.sv [[(i 1),(i 0),.nils],[(i 1),(i 0),.nils]] true)]] true)],[(i 2),(i 0),(.sv [[(i 2),(i 0),(.sv [[(i 1),(i 0),.nils],[(i 1),(i 0),.nils]] true)],[(i 2),(i 0),(.sv [[(i 1),(i 0),.nils],[(i 1),(i 0),.nils]] true)]] true)]] true)],[(i 2),(i 0),(.sv [[(i 2),(i 0),(.sv [[(i 2),(i 0),(.sv [[(i 1),(i 0),.nils],[(i 1),(i 0),.nils]] true)],[(i 2),(i 0),(.sv [[(i 1),(i 0),.nils],[(i 1),(i 0),.nils]] true)]] true)],[(i 2),(i 0),(.sv [[(i 2),(i 0),(.sv [[(i 1),(i 0),.nils],[(i 1),(i 0),.nils]] true)],[(i 2),(i 0),(.sv [[(i 1),(i 0),.nils],[(i 1),(i 0),.nils]] true)]] true)]] true)]] true)]] true)]),(i (-1)),.nils,.nils],[],(.ret (.tup [.nils,(i 3)])),[(.cells 1 1 [(i (-1))]),(.cells 1 1 [(i 3)])]⟩
theorem kk47:ee47.ok gl Trnx.aprog:=tbl_run (tbl:=[]) (n:=500) tblNil (by kernel_rfl)
def ee48:TE:=⟨29,[(.agg [(i 2),(i 0),(.sv [[(i 2),(i 0),(.sv [[(i 2),(i 0),(.sv [[(i 2),(i 0),(.sv [[(i 2),(i 0),(.sv [[(i 1),(i 0),.nils],[(i 1),(i 0),.nils]] true)],[(i 2),(i 0),(.sv [[(i 1),(i 0),.nils],[(i 1),(i 0),.nils]] true)]] true)],[(i 2),(i 0),(.sv [[(i 2),(i 0),(.sv [[(i 1),(i 0),.nils],[(i 1),(i 0),.nils]] true)],[(i 2),(i 0),(.sv [[(i 1),(i 0),.nils],[(i 1),(i 0),.nils]] true)]] true)]] true)],[(i 2),(i 0),(.sv [[(i 2),(i 0),(.sv [[(i 2),(i 0),(.sv [[(i 1),(i 0),.nils],[(i 1),(i 0),.nils]] true)],[(i 2),(i 0),(.sv [[(i 1),(i 0),.nils],[(i 1),(i 0),.nils]] true)]] true)],[(i 2),(i 0),(.sv [[(i 2),(i 0),(.sv [[(i 1),(i 0),.nils],[(i 1),(i 0),.nils]] true)],[(i 2),(i 0),(.sv [[(i 1),(i 0),.nils],[(i 1),(i 0),.nils]] true)]] true)]] true)]] true)],[(i 2),(i 0),(.sv [[(i 2),(i 0),(.sv [[(i 2),(i 0),(.sv [[(i 2),(i 0),(.sv [[(i 1),(i 0),.nils],[(i 1),(i 0),.nils]] true)],[(i 2),(i 0),(.sv [[(i 1),(i 0),.nils],[(i 1),(i 0),.nils]] true)]] true)],[(i 2),(i 0),(.sv [[(i 2),(i 0),(.sv [[(i 1),(i 0),.nils],[(i 1),(i 0),.nils]] true)],[(i 2),(i 0),(.sv [[(i 1),(i 0),.nils],[(i 1),(i 0),.nils]] true)]] true)]] true)],[(i 2),(i 0),(.sv [[(i 2),(i 0),(.sv [[(i 2),(i 0),(.sv [[(i 1),(i 0),.nils],[(i 1),(i 0),.nils]] true)],[(i 2),(i 0),(.sv [[(i 1),(i 0),.nils],[(i 1),(i 0),.nils]] true)]] true)],[(i 2),(i 0),(.sv [[(i 2),(i 0),(.sv [[(i 1),(i 0),.nils],[(i 1),(i 0),.nils]] true)],[(i 2),(i 0),(.sv [[(i 1),(i 0),.nils],[(i 1),(i 0),.nils]] true)]] true)]] true)]] true)]] true)]),(i (-1)),.nils,(i (-1)),.nils],[],(.ret (.tup [.nils,(i 3)])),[(.cells 1 1 [.nils]),(.cells 1 1 [.nils]),(.cells 1 1 [(i 3)])]⟩
theorem kk48:ee48.ok gl Trnx.aprog:=tbl_run (tbl:=[]) (n:=500) tblNil (by kernel_rfl)
def ee49:TE:=⟨29,[(.agg [(i 4),(i 0),(.sv [[(i 1),(i 0),.nils]] true)]),(i 0),(.sv [[(.sv [] true)],[(.sv [] true)],[(.sv [] true)]] true),(i 2),(.sv [[(.sv [[(i 0)],[(i (-1))]] true)],[(.sv [[(i 1)],[(i 1)]] true)],[(.sv [[(i 7)]] true)]] true)],[],(.ret (.tup [.nils,(i 8)])),[(.cells 1 1 [(.sv [[(.sv [] true)],[(.sv [] true)],[(.sv [] true)]] true)]),(.cells 1 1 [(.sv [[(.sv [[(i 0)],[(i (-1))]] true)],[(.sv [[(i 1)],[(i 1)]] true)],[(.sv [[(i 7)]] true)]] true)]),(.cells 1 1 [(i 8)]),(.cells 1 4 [(i 2),(i 1),(i 4),(.sl 5 0 1 1 1 false)]),(.cells 1 4 [(i 1),(i 0),(i 1),.nils]),(.cells 1 1 [(.ref 4 0 1)]),(.cells 1 1 [(i 2)]),(.cells 1 1 [(.sv [[(.sv [[(i 0)],[(i (-1))]] true)],[(.sv [[(i 1)],[(i 1)]] true)],[(.sv [[(i 7)]] true)]] true)]),(.cells 1 3 [(.ref 3 0 1),(i 0),(i 2)]),(.loop 10690 [(.ref 7 0 1)] .exhausted none),(.cells 1 1 [(.yf 9)]),(.cells 1 1 [(.func (.func 110) [] [(.ref 10 0 1),(.ref 11 0 1)])]),(.map [((.agg [(.ref 4 0 1),(i 0)]),(i 1)),((.agg [(.ref 3 0 1),(i 0)]),(i 2))]),(.cells 1 2 [(.sv [[(.sv [[(i 0)],[(i (-1))]] true)],[(.sv [[(i 1)],[(i 1)]] true)],[(.sv [[(i 7)]] true)]] true),(.map 12)]),(.cells 1 1 [(i 2)]),(.cells 1 1 [(i 1)]),(.cells 1 1 [(i 1)])]⟩
theorem kk49:ee49.ok gl Trnx.aprog:=tbl_run (tbl:=[]) (n:=500) tblNil (by kernel_rfl)
def ee50:TE:=⟨29,[(.agg [(i 4),(i 0),(.sv [[(i 1),(i 0),.nils]] true)]),(i 0),(.sv [[(.sv [] true)],[(.sv [] true)],[(.sv [] true)]] true),(i 2),(.sv [[(.sv [[(i 1)],[(i 2)]] true)],[(.sv [[(i 2)],[(i 2)]] true)],[(.sv [[(i 7)],[(i 8)],[(i 9)]] true)]] true)],[],(.ret (.tup [.nils,(i 8)])),[(.cells 1 1 [(.sv [[(.sv [] true)],[(.sv [] true)],[(.sv [] true)]] true)]),(.cells 1 1 [(.sv [[(.sv [[(i 1)],[(i 2)]] true)],[(.sv [[(i 2)],[(i 2)]] true)],[(.sv [[(i 7)],[(i 8)],[(i 9)]] true)]] true)]),(.cells 1 1 [(i 8)]),(.cells 1 4 [(i 2),(i 1),(i 4),(.sl 5 0 1 1 1 false)]),(.cells 1 4 [(i 1),(i 0),(i 1),.nils]),(.cells 1 1 [(.ref 4 0 1)]),(.cells 1 1 [(i 2)]),(.cells 1 1 [(.sv [[(.sv [[(i 1)],[(i 2)]] true)],[(.sv [[(i 2)],[(i 2)]] true)],[(.sv [[(i 7)],[(i 8)],[(i 9)]] true)]] true)]),(.cells 1 3 [(.ref 3 0 1),(i 0),(i 2)]),(.loop 10690 [(.ref 7 0 1)] .exhausted none),(.cells 1 1 [(.yf 9)]),(.cells 1 1 [(.func (.func 110) [] [(.ref 10 0 1),(.ref 11 0 1)])]),(.map [((.agg [(.ref 4 0 1),(i 1)]),(i 1)),((.agg [(.ref 4 0 1),(i 2)]),(i 1)),((.agg [(.ref 3 0 1),(i 0)]),(i 3))]),(.cells 1 2 [(.sv [[(.sv [[(i 1)],[(i 2)]] true)],[(.sv [[(i 2)],[(i 2)]] true)],[(.sv [[(i 7)],[(i 8)],[(i 9)]] true)]] true),(.map 12)]),(.cells 1 1 [(i 3)]),(.cells 1 1 [(i 1)]),(.cells 1 1 [(i 1)]),(.cells 1 1 [(i 1)])]⟩
theorem kk50:ee50.ok gl Trnx.aprog:=tbl_run (tbl:=[]) (n:=500) tblNil (by kernel_rfl)
def ee51:TE:=⟨29,[(.agg [(i 4),(i 0),(.sv [[(i 1),(i 0),.nils]] true)]),(i 0),(.sv [[(.sv [] true)],[(.sv [] true)],[(.sv [] true)]] true),(i 2),(.sv [[(.sv [[(i 0)],[(i 9223372036854775807)]] true)],[(.sv [[(i 1)],[(i 1)]] true)],[(.sv [[(i 7)]] true)]] true)],[],(.ret (.tup [.nils,(i 8)])),[(.cells 1 1 [(.sv [[(.sv [] true)],[(.sv [] true)],[(.sv [] true)]] true)]),(.cells 1 1 [(.sv [[(.sv [[(i 0)],[(i 9223372036854775807)]] true)],[(.sv [[(i 1)],[(i 1)]] true)],[(.sv [[(i 7)]] true)]] true)]),(.cells 1 1 [(i 8)]),(.cells 1 4 [(i 2),(i 1),(i 4),(.sl 5 0 1 1 1 false)]),(.cells 1 4 [(i 1),(i 0),(i 1),.nils]),(.cells 1 1 [(.ref 4 0 1)]),(.cells 1 1 [(i 2)]),(.cells 1 1 [(.sv [[(.sv [[(i 0)],[(i 9223372036854775807)]] true)],[(.sv [[(i 1)],[(i 1)]] true)],[(.sv [[(i 7)]] true)]] true)]),(.cells 1 3 [(.ref 3 0 1),(i 0),(i 2)]),(.loop 10690 [(.ref 7 0 1)] .exhausted none),(.cells 1 1 [(.yf 9)]),(.cells 1 1 [(.func (.func 110) [] [(.ref 10 0 1),(.ref 11 0 1)])]),(.map [((.agg [(.ref 4 0 1),(i 0)]),(i 1)),((.agg [(.ref 3 0 1),(i 0)]),(i 2))]),(.cells 1 2 [(.sv [[(.sv [[(i 0)],[(i 9223372036854775807)]] true)],[(.sv [[(i 1)],[(i 1)]] true)],[(.sv [[(i 7)]] true)]] true),(.map 12)]),(.cells 1 1 [(i 2)]),(.cells 1 1 [(i 1)]),(.cells 1 1 [(i 1)])]⟩
theorem kk51:ee51.ok gl Trnx.aprog:=tbl_run (tbl:=[]) (n:=500) tblNil (by kernel_rfl)
def ee52:TE:=⟨29,[(.agg [(i 4),(i 0),(.sv [[(i 1),(i 0),.nils]] true)]),(i 0),(.sv [[(.sv [] true)],[(.sv [] true)],[(.sv [] true)]] true),(i 2),(.sv [[(.sv [[(i 0)],[(i 0)]] true)],[(.sv [[(i 1)],[(i (-1))]] true)],[(.sv [[(i 7)]] true)]] true)],[],(.ret (.tup [.nils,(i 8)])),[(.cells 1 1 [(.sv [[(.sv [] true)],[(.sv [] true)],[(.sv [] true)]] true)]),(.cells 1 1 [(.sv [[(.sv [[(i 0)],[(i 0)]] true)],[(.sv [[(i 1)],[(i (-1))]] true)],[(.sv [[(i 7)]] true)]] true)]),(.cells 1 1 [(i 8)]),(.cells 1 4 [(i 2),(i 1),(i 4),(.sl 5 0 1 1 1 false)]),(.cells 1 4 [(i 1),(i 0),(i 1),.nils]),(.cells 1 1 [(.ref 4 0 1)]),(.cells 1 1 [(i 2)]),(.cells 1 1 [(.sv [[(.sv [[(i 0)],[(i 0)]] true)],[(.sv [[(i 1)],[(i (-1))]] true)],[(.sv [[(i 7)]] true)]] true)]),(.cells 1 3 [(.ref 3 0 1),(i 0),(i 2)]),(.loop 10690 [(.ref 7 0 1)] .exhausted none),(.cells 1 1 [(.yf 9)]),(.cells 1 1 [(.func (.func 110) [] [(.ref 10 0 1),(.ref 11 0 1)])]),(.map [((.agg [(.ref 4 0 1),(i 0)]),(i 1)),((.agg [(.ref 3 0 1),(i 0)]),(i 2))]),(.cells 1 2 [(.sv [[(.sv [[(i 0)],[(i 0)]] true)],[(.sv [[(i 1)],[(i (-1))]] true)],[(.sv [[(i 7)]] true)]] true),(.map 12)]),(.cells 1 1 [(i 2)]),(.cells 1 1 [(i 1)]),(.cells 1 1 [(i 1)])]⟩
theorem kk52:ee52.ok gl Trnx.aprog:=tbl_run (tbl:=[]) (n:=500) tblNil (by kernel_rfl)
def ee53:TE:=⟨27,[(.agg [(i 4),(i 0),(.sv [[(i 1),(i 0),.nils]] true)]),(i 2),(.sv [[(.sv [[(i 0)],[(i (-1))]] true)],[(.sv [[(i 1)],[(i 1)]] true)],[(.sv [[(i 7)]] true)]] true)],[],(.ret (.tup [.nils,(i 8)])),[(.cells 1 1 [(i 8)]),(.cells 1 4 [(i 2),(i 1),(i 4),(.sl 3 0 1 1 1 false)]),(.cells 1 4 [(i 1),(i 0),(i 1),.nils]),(.cells 1 1 [(.ref 2 0 1)]),(.cells 1 1 [(i 2)]),(.cells 1 1 [(.sv [[(.sv [[(i 0)],[(i (-1))]] true)],[(.sv [[(i 1)],[(i 1)]] true)],[(.sv [[(i 7)]] true)]] true)]),(.cells 1 3 [(.ref 1 0 1),(i 0),(i 2)]),(.loop 10690 [(.ref 5 0 1)] .exhausted none),(.cells 1 1 [(.yf 7)]),(.cells 1 1 [(.func (.func 110) [] [(.ref 8 0 1),(.ref 9 0 1)])]),(.map [((.agg [(.ref 2 0 1),(i 0)]),(i 1)),((.agg [(.ref 1 0 1),(i 0)]),(i 2))]),(.cells 1 2 [(.sv [[(.sv [[(i 0)],[(i (-1))]] true)],[(.sv [[(i 1)],[(i 1)]] true)],[(.sv [[(i 7)]] true)]] true),(.map 10)]),(.cells 1 1 [(i 2)]),(.cells 1 1 [(i 1)]),(.cells 1 1 [(i 1)])]⟩
theorem kk53:ee53.ok gl Trnx.aprog:=tbl_run (tbl:=[]) (n:=500) tblNil (by kernel_rfl)
def ee54:TE:=⟨27,[(.agg [(i 4),(i 0),(.sv [[(i 1),(i 0),.nils]] true)]),(i 2),(.sv [[(.sv [[(i 1)],[(i 2)]] true)],[(.sv [[(i 2)],[(i 2)]] true)],[(.sv [[(i 7)],[(i 8)],[(i 9)]] true)]] true)],[],(.ret (.tup [.nils,(i 8)])),[(.cells 1 1 [(i 8)]),(.cells 1 4 [(i 2),(i 1),(i 4),(.sl 3 0 1 1 1 false)]),(.cells 1 4 [(i 1),(i 0),(i 1),.nils]),(.cells 1 1 [(.ref 2 0 1)]),(.cells 1 1 [(i 2)]),(.cells 1 1 [(.sv [[(.sv [[(i 1)],[(i 2)]] true)],[(.sv [[(i 2)],[(i 2)]] true)],[(.sv [[(i 7)],[(i 8)],[(i 9)]] true)]] true)]),(.cells 1 3 [(.ref 1 0 1),(i 0),(i 2)]),(.loop 10690 [(.ref 5 0 1)] .exhausted none),(.cells 1 1 [(.yf 7)]),(.cells 1 1 [(.func (.func 110) [] [(.ref 8 0 1),(.ref 9 0 1)])]),(.map [((.agg [(.ref 2 0 1),(i 1)]),(i 1)),((.agg [(.ref 2 0 1),(i 2)]),(i 1)),((.agg [(.ref 1 0 1),(i 0)]),(i 3))]),(.cells 1 2 [(.sv [[(.sv [[(i 1)],[(i 2)]] true)],[(.sv [[(i 2)],[(i 2)]] true)],[(.sv [[(i 7)],[(i 8)],[(i 9)]] true)]] true),(.map 10)]),(.cells 1 1 [(i 3)]),(.cells 1 1 [(i 1)]),(.cells 1 1 [(i 1)]),(.cells 1 1 [(i 1)])]⟩
theorem kk54:ee54.ok gl Trnx.aprog:=tbl_run (tbl:=[]) (n:=500) tblNil (by kernel_rfl)
def ee55:TE:=⟨26,[(.agg [(i 4),(i 0),(.sv [[(i 1),(i 0),.nils]] true)]),(i 2),(.sv [[(.sv [[(i 0)],[(i (-1))]] true)],[(.sv [[(i 1)],[(i 1)]] true)],[(.sv [[(i 7)]] true)]] true)],[],(.ret (.tup [.nils,(i 8)])),[(.cells 1 1 [(i 8)]),(.cells 1 4 [(i 2),(i 1),(i 4),(.sl 3 0 1 1 1 false)]),(.cells 1 4 [(i 1),(i 0),(i 1),.nils]),(.cells 1 1 [(.ref 2 0 1)]),(.cells 1 1 [(i 2)]),(.cells 1 1 [(.sv [[(.sv [[(i 0)],[(i (-1))]] true)],[(.sv [[(i 1)],[(i 1)]] true)],[(.sv [[(i 7)]] true)]] true)]),(.cells 1 3 [(.ref 1 0 1),(i 0),(i 2)]),(.loop 10690 [(.ref 5 0 1)] .exhausted none),(.cells 1 1 [(.yf 7)]),(.cells 1 1 [(.func (.func 110) [] [(.ref 8 0 1),(.ref 9 0 1)])]),(.map [((.agg [(.ref 2 0 1),(i 0)]),(i 1)),((.agg [(.ref 1 0 1),(i 0)]),(i 2))]),(.cells 1 2 [(.sv [[(.sv [[(i 0)],[(i (-1))]] true)],[(.sv [[(i 1)],[(i 1)]] true)],[(.sv [[(i 7)]] true)]] true),(.map 10)]),(.cells 1 1 [(i 2)]),(.cells 1 1 [(i 1)]),(.cells 1 1 [(i 1)])]⟩
theorem kk55:ee55.ok gl Trnx.aprog:=tbl_run (tbl:=[]) (n:=500) tblNil (by kernel_rfl)
def ee56:TE:=⟨26,[(.agg [(i 4),(i 0),(.sv [[(i 1),(i 0),.nils]] true)]),(i 2),(.sv [[(.sv [[(i 1)],[(i 2)]] true)],[(.sv [[(i 2)],[(i 2)]] true)],[(.sv [[(i 7)],[(i 8)],[(i 9)]] true)]] true)],[],(.ret (.tup [.nils,(i 8)])),[(.cells 1 1 [(i 8)]),(.cells 1 4 [(i 2),(i 1),(i 4),(.sl 3 0 1 1 1 false)]),(.cells 1 4 [(i 1),(i 0),(i 1),.nils]),(.cells 1 1 [(.ref 2 0 1)]),(.cells 1 1 [(i 2)]),(.cells 1 1 [(.sv [[(.sv [[(i 1)],[(i 2)]] true)],[(.sv [[(i 2)],[(i 2)]] true)],[(.sv [[(i 7)],[(i 8)],[(i 9)]] true)]] true)]),(.cells 1 3 [(.ref 1 0 1),(i 0),(i 2)]),(.loop 10690 [(.ref 5 0 1)] .exhausted none),(.cells 1 1 [(.yf 7)]),(.cells 1 1 [(.func (.func 110) [] [(.ref 8 0 1),(.ref 9 0 1)])]),(.map [((.agg [(.ref 2 0 1),(i 1)]),(i 1)),((.agg [(.ref 2 0 1),(i 2)]),(i 1)),((.agg [(.ref 1 0 1),(i 0)]),(i 3))]),(.cells 1 2 [(.sv [[(.sv [[(i 1)],[(i 2)]] true)],[(.sv [[(i 2)],[(i 2)]] true)],[(.sv [[(i 7)],[(i 8)],[(i 9)]] true)]] true),(.map 10)]),(.cells 1 1 [(i 3)]),(.cells 1 1 [(i 1)]),(.cells 1 1 [(i 1)]),(.cells 1 1 [(i 1)])]⟩
theorem kk56:ee56.ok gl Trnx.aprog:=tbl_run (tbl:=[]) (n:=500) tblNil (by kernel_rfl)
def ee57:TE:=⟨26,[(.agg [(i 3),(i 0),(.sv [[(i 1),(i 0),.nils],[(i 4),(i 0),(.sv [[(i 1),(i 0),.nils]] true)]] true)]),(i 1),(.sv [[(.sv [[(i 2)]] true)],[(.sv [[(i 4)]] true)],[(.sv [[(i 0)]] true)],[(.sv [[(i 0)]] true)],[(.sv [] true)]] true)],[],(.ret (.tup [.nils,(i 8)])),[(.cells 1 1 [(i 8)]),(.cells 1 4 [(i 4),(i 1),(i 3),(.sl 3 0 2 2 1 false)]),(.cells 1 4 [(i 1),(i 0),(i 1),.nils]),(.cells 2 1 [(.ref 2 0 1),(.ref 4 0 1)]),(.cells 1 4 [(i 2),(i 1),(i 4),(.sl 6 0 1 1 1 false)]),(.cells 1 4 [(i 1),(i 0),(i 1),.nils]),(.cells 1 1 [(.ref 5 0 1)]),(.cells 1 1 [(i 1)]),(.cells 1 1 [(.sv [[(.sv [[(i 2)]] true)],[(.sv [[(i 4)]] true)],[(.sv [[(i 0)]] true)],[(.sv [[(i 0)]] true)],[(.sv [] true)]] true)]),(.cells 1 3 [(.ref 1 0 1),(i 0),(i 4)]),(.loop 10690 [(.ref 8 0 1)] .exhausted none),(.cells 1 1 [(.yf 10)]),(.cells 1 1 [(.func (.func 110) [] [(.ref 11 0 1),(.ref 12 0 1)])]),(.map []),(.cells 1 2 [(.sv [[(.sv [[(i 2)]] true)],[(.sv [[(i 4)]] true)],[(.sv [[(i 0)]] true)],[(.sv [[(i 0)]] true)],[(.sv [] true)]] true),(.map 13)]),(.cells 1 1 [(i 1)])]⟩
theorem kk57:ee57.ok gl Trnx.aprog:=tbl_run (tbl:=[]) (n:=500) tblNil (by kernel_rfl)
def ee58:TE:=⟨27,[(.agg [(i 4),(i 0),(.sv [[(i 1),(i 0),.nils]] true)]),(i 2),(.sv [[(.sv [[(i 0)],[(i 9223372036854775807)]] true)],[(.sv [[(i 1)],[(i 1)]] true)],[(.sv [[(i 7)]] true)]] true)],[],(.ret (.tup [.nils,(i 8)])),[(.cells 1 1 [(i 8)]),(.cells 1 4 [(i 2),(i 1),(i 4),(.sl 3 0 1 1 1 false)]),(.cells 1 4 [(i 1),(i 0),(i 1),.nils]),(.cells 1 1 [(.ref 2 0 1)]),(.cells 1 1 [(i 2)]),(.cells 1 1 [(.sv [[(.sv [[(i 0)],[(i 9223372036854775807)]] true)],[(.sv [[(i 1)],[(i 1)]] true)],[(.sv [[(i 7)]] true)]] true)]),(.cells 1 3 [(.ref 1 0 1),(i 0),(i 2)]),(.loop 10690 [(.ref 5 0 1)] .exhausted none),(.cells 1 1 [(.yf 7)]),(.cells 1 1 [(.func (.func 110) [] [(.ref 8 0 1),(.ref 9 0 1)])]),(.map [((.agg [(.ref 2 0 1),(i 0)]),(i 1)),((.agg [(.ref 1 0 1),(i 0)]),(i 2))]),(.cells 1 2 [(.sv [[(.sv [[(i 0)],[(i 9223372036854775807)]] true)],[(.sv [[(i 1)],[(i 1)]] true)],[(.sv [[(i 7)]] true)]] true),(.map 10)]),(.cells 1 1 [(i 2)]),(.cells 1 1 [(i 1)]),(.cells 1 1 [(i 1)])]⟩
theorem kk58:ee58.ok gl Trnx.aprog:=tbl_run (tbl:=[]) (n:=500) tblNil (by kernel_rfl)
def ee59:TE:=⟨26,[(.agg [(i 4),(i 0),(.sv [[(i 1),(i 0),.nils]] true)]),(i 2),(.sv [[(.sv [[(i 0)],[(i 9223372036854775807)]] true)],[(.sv [[(i 1)],[(i 1)]] true)],[(.sv [[(i 7)]] true)]] true)],[],(.ret (.tup [.nils,(i 8)])),[(.cells 1 1 [(i 8)]),(.cells 1 4 [(i 2),(i 1),(i 4),(.sl 3 0 1 1 1 false)]),(.cells 1 4 [(i 1),(i 0),(i 1),.nils]),(.cells 1 1 [(.ref 2 0 1)]),(.cells 1 1 [(i 2)]),(.cells 1 1 [(.sv [[(.sv [[(i 0)],[(i 9223372036854775807)]] true)],[(.sv [[(i 1)],[(i 1)]] true)],[(.sv [[(i 7)]] true)]] true)]),(.cells 1 3 [(.ref 1 0 1),(i 0),(i 2)]),(.loop 10690 [(.ref 5 0 1)] .exhausted none),(.cells 1 1 [(.yf 7)]),(.cells 1 1 [(.func (.func 110) [] [(.ref 8 0 1),(.ref 9 0 1)])]),(.map [((.agg [(.ref 2 0 1),(i 0)]),(i 1)),((.agg [(.ref 1 0 1),(i 0)]),(i 2))]),(.cells 1 2 [(.sv [[(.sv [[(i 0)],[(i 9223372036854775807)]] true)],[(.sv [[(i 1)],[(i 1)]] true)],[(.sv [[(i 7)]] true)]] true),(.map 10)]),(.cells 1 1 [(i 2)]),(.cells 1 1 [(i 1)]),(.cells 1 1 [(i 1)])]⟩
theorem kk59:ee59.ok gl Trnx.aprog:=tbl_run (tbl:=[]) (n:=500) tblNil (by kernel_rfl)
def ee60:TE:=⟨31,[(.agg [(i 4),(i 0),(.sv [[(i 1),(i 0),.nils]] true)]),(i 2),(.sv [[(.sv [[(i 1)],[(i 2)]] true)],[(.sv [[(i 2)],[(i 2)]] true)],[(.sv [[(i 7)],[(i 8)],[(i 9)]] true)]] true),(.sv [[(i 5)]] true)],[],(.ret (.tup [.nils,(i 8)])),[(.cells 1 1 [(i 2)]),(.cells 1 1 [(i 8)]),(.cells 1 4 [(i 2),(i 1),(i 4),(.sl 4 0 1 1 1 false)]),(.cells 1 4 [(i 1),(i 0),(i 1),.nils]),(.cells 1 1 [(.ref 3 0 1)]),(.cells 1 1 [(i 2)]),(.cells 1 1 [(.sv [[(.sv [[(i 1)],[(i 2)]] true)],[(.sv [[(i 2)],[(i 2)]] true)],[(.sv [[(i 7)],[(i 8)],[(i 9)]] true)]] true)]),(.cells 1 3 [(.ref 2 0 1),(i 0),(i 2)]),(.loop 10690 [(.ref 6 0 1)] .exhausted none),(.cells 1 1 [(.yf 8)]),(.cells 1 1 [(.func (.func 110) [] [(.ref 9 0 1),(.ref 10 0 1)])]),(.map [((.agg [(.ref 3 0 1),(i 1)]),(i 1)),((.agg [(.ref 3 0 1),(i 2)]),(i 1)),((.agg [(.ref 2 0 1),(i 0)]),(i 3))]),(.cells 1 2 [(.sv [[(.sv [[(i 1)],[(i 2)]] true)],[(.sv [[(i 2)],[(i 2)]] true)],[(.sv [[(i 7)],[(i 8)],[(i 9)]] true)]] true),(.map 11)]),(.cells 1 1 [(i 3)]),(.cells 1 1 [(i 1)]),(.cells 1 1 [(i 1)]),(.cells 1 1 [(i 1)])]⟩
theorem kk60:ee60.ok gl Trnx.aprog:=tbl_run (tbl:=[]) (n:=500) tblNil (by kernel_rfl)
def ee61:TE:=⟨29,[(.agg [(i 4),(i 0),(.sv [[(i 1),(i 0),.nils]] true)]),(i 0),(.sv [[(.sv [] true)],[(.sv [] true)],[(.sv [] true)]] true),(i 2),(.sv [[(.sv [[(i 0)],[(i 0)]] true)],[(.sv [[(i 1)],[(i 0)]] true)],[(.sv [[(i 2147483648)]] true)]] true)],[],(.ret (.tup [.nils,(i 8)])),[(.cells 1 1 [(.sv [[(.sv [] true)],[(.sv [] true)],[(.sv [] true)]] true)]),(.cells 1 1 [(.sv [[(.sv [[(i 0)],[(i 0)]] true)],[(.sv [[(i 1)],[(i 0)]] true)],[(.sv [[(i 2147483648)]] true)]] true)]),(.cells 1 1 [(i 8)]),(.cells 1 4 [(i 2),(i 1),(i 4),(.sl 5 0 1 1 1 false)]),(.cells 1 4 [(i 1),(i 0),(i 1),.nils]),(.cells 1 1 [(.ref 4 0 1)]),(.cells 1 1 [(i 2)]),(.cells 1 1 [(.sv [[(.sv [[(i 0)],[(i 0)]] true)],[(.sv [[(i 1)],[(i 0)]] true)],[(.sv [[(i 2147483648)]] true)]] true)]),(.cells 1 3 [(.ref 3 0 1),(i 0),(i 2)]),(.loop 10690 [(.ref 7 0 1)] .exhausted none),(.cells 1 1 [(.yf 9)]),(.cells 1 1 [(.func (.func 110) [] [(.ref 10 0 1),(.ref 11 0 1)])]),(.map []),(.cells 1 2 [(.sv [[(.sv [[(i 0)],[(i 0)]] true)],[(.sv [[(i 1)],[(i 0)]] true)],[(.sv [[(i 2147483648)]] true)]] true),(.map 12)]),(.cells 1 1 [(i 1)]),(.cells 1 1 [(i 1)])]⟩
theorem kk61:ee61.ok gl Trnx.aprog:=tbl_run (tbl:=[]) (n:=500) tblNil (by kernel_rfl)
def ee62:TE:=⟨31,[(.agg [(i 4),(i 0),(.sv [[(i 1),(i 0),.nils]] true)]),(i 2),(.sv [[(.sv [[(i 0)],[(i (-1))]] true)],[(.sv [[(i 1)],[(i 1)]] true)],[(.sv [[(i 7)]] true)]] true),(.sv [[(i 5)]] true)],[],(.ret (.tup [.nils,(i 8)])),[(.cells 1 1 [(i 2)]),(.cells 1 1 [(i 8)]),(.cells 1 4 [(i 2),(i 1),(i 4),(.sl 4 0 1 1 1 false)]),(.cells 1 4 [(i 1),(i 0),(i 1),.nils]),(.cells 1 1 [(.ref 3 0 1)]),(.cells 1 1 [(i 2)]),(.cells 1 1 [(.sv [[(.sv [[(i 0)],[(i (-1))]] true)],[(.sv [[(i 1)],[(i 1)]] true)],[(.sv [[(i 7)]] true)]] true)]),(.cells 1 3 [(.ref 2 0 1),(i 0),(i 2)]),(.loop 10690 [(.ref 6 0 1)] .exhausted none),(.cells 1 1 [(.yf 8)]),(.cells 1 1 [(.func (.func 110) [] [(.ref 9 0 1),(.ref 10 0 1)])]),(.map [((.agg [(.ref 3 0 1),(i 0)]),(i 1)),((.agg [(.ref 2 0 1),(i 0)]),(i 2))]),(.cells 1 2 [(.sv [[(.sv [[(i 0)],[(i (-1))]] true)],[(.sv [[(i 1)],[(i 1)]] true)],[(.sv [[(i 7)]] true)]] true),(.map 11)]),(.cells 1 1 [(i 2)]),(.cells 1 1 [(i 1)]),(.cells 1 1 [(i 1)])]⟩
theorem kk62:ee62.ok gl Trnx.aprog:=tbl_run (tbl:=[]) (n:=500) tblNil (by kernel_rfl)
def ee63:TE:=⟨31,[(.agg [(i 4),(i 0),(.sv [[(i 1),(i 0),.nils]] true)]),(i 2),(.sv [[(.sv [[(i 0)],[(i 9223372036854775807)]] true)],[(.sv [[(i 1)],[(i 1)]] true)],[(.sv [[(i 7)]] true)]] true),(.sv [[(i 5)]] true)],[],(.ret (.tup [.nils,(i 8)])),[(.cells 1 1 [(i 2)]),(.cells 1 1 [(i 8)]),(.cells 1 4 [(i 2),(i 1),(i 4),(.sl 4 0 1 1 1 false)]),(.cells 1 4 [(i 1),(i 0),(i 1),.nils]),(.cells 1 1 [(.ref 3 0 1)]),(.cells 1 1 [(i 2)]),(.cells 1 1 [(.sv [[(.sv [[(i 0)],[(i 9223372036854775807)]] true)],[(.sv [[(i 1)],[(i 1)]] true)],[(.sv [[(i 7)]] true)]] true)]),(.cells 1 3 [(.ref 2 0 1),(i 0),(i 2)]),(.loop 10690 [(.ref 6 0 1)] .exhausted none),(.cells 1 1 [(.yf 8)]),(.cells 1 1 [(.func (.func 110) [] [(.ref 9 0 1),(.ref 10 0 1)])]),(.map [((.agg [(.ref 3 0 1),(i 0)]),(i 1)),((.agg [(.ref 2 0 1),(i 0)]),(i 2))]),(.cells 1 2 [(.sv [[(.sv [[(i 0)],[(i 9223372036854775807)]] true)],[(.sv [[(i 1)],[(i 1)]] true)],[(.sv [[(i 7)]] true)]] true),(.map 11)]),(.cells 1 1 [(i 2)]),(.cells 1 1 [(i 1)]),(.cells 1 1 [(i 1)])]⟩
theorem kk63:ee63.ok gl Trnx.aprog:=tbl_run (tbl:=[]) (n:=500) tblNil (by kernel_rfl)
def ee64:TE:=⟨27,[(.agg [(i 4),(i 0),(.sv [[(i 1),(i 0),.nils]] true)]),(i 2),(.sv [[(.sv [[(i 0)],[(i 0)]] true)],[(.sv [[(i 1)],[(i (-1))]] true)],[(.sv [[(i 7)]] true)]] true)],[],(.ret (.tup [.nils,(i 8)])),[(.cells 1 1 [(i 8)]),(.cells 1 4 [(i 2),(i 1),(i 4),(.sl 3 0 1 1 1 false)]),(.cells 1 4 [(i 1),(i 0),(i 1),.nils]),(.cells 1 1 [(.ref 2 0 1)]),(.cells 1 1 [(i 2)]),(.cells 1 1 [(.sv [[(.sv [[(i 0)],[(i 0)]] true)],[(.sv [[(i 1)],[(i (-1))]] true)],[(.sv [[(i 7)]] true)]] true)]),(.cells 1 3 [(.ref 1 0 1),(i 0),(i 2)]),(.loop 10690 [(.ref 5 0 1)] .exhausted none),(.cells 1 1 [(.yf 7)]),(.cells 1 1 [(.func (.func 110) [] [(.ref 8 0 1),(.ref 9 0 1)])]),(.map [((.agg [(.ref 2 0 1),(i 0)]),(i 1)),((.agg [(.ref 1 0 1),(i 0)]),(i 2))]),(.cells 1 2 [(.sv [[(.sv [[(i 0)],[(i 0)]] true)],[(.sv [[(i 1)],[(i (-1))]] true)],[(.sv [[(i 7)]] true)]] true),(.map 10)]),(.cells 1 1 [(i 2)]),(.cells 1 1 [(i 1)]),(.cells 1 1 [(i 1)])]⟩
theorem kk64:ee64.ok gl Trnx.aprog:=tbl_run (tbl:=[]) (n:=500) tblNil (by kernel_rfl)
def ee65:TE:=⟨26,[(.agg [(i 4),(i 0),(.sv [[(i 1),(i 0),.nils]] true)]),(i 2),(.sv [[(.sv [[(i 0)],[(i 0)]] true)],[(.sv [[(i 1)],[(i (-1))]] true)],[(.sv [[(i 7)]] true)]] true)],[],(.ret (.tup [.nils,(i 8)])),[(.cells 1 1 [(i 8)]),(.cells 1 4 [(i 2),(i 1),(i 4),(.sl 3 0 1 1 1 false)]),(.cells 1 4 [(i 1),(i 0),(i 1),.nils]),(.cells 1 1 [(.ref 2 0 1)]),(.cells 1 1 [(i 2)]),(.cells 1 1 [(.sv [[(.sv [[(i 0)],[(i 0)]] true)],[(.sv [[(i 1)],[(i (-1))]] true)],[(.sv [[(i 7)]] true)]] true)]),(.cells 1 3 [(.ref 1 0 1),(i 0),(i 2)]),(.loop 10690 [(.ref 5 0 1)] .exhausted none),(.cells 1 1 [(.yf 7)]),(.cells 1 1 [(.func (.func 110) [] [(.ref 8 0 1),(.ref 9 0 1)])]),(.map [((.agg [(.ref 2 0 1),(i 0)]),(i 1)),((.agg [(.ref 1 0 1),(i 0)]),(i 2))]),(.cells 1 2 [(.sv [[(.sv [[(i 0)],[(i 0)]] true)],[(.sv [[(i 1)],[(i (-1))]] true)],[(.sv [[(i 7)]] true)]] true),(.map 10)]),(.cells 1 1 [(i 2)]),(.cells 1 1 [(i 1)]),(.cells 1 1 [(i 1)])]⟩
theorem kk65:ee65.ok gl Trnx.aprog:=tbl_run (tbl:=[]) (n:=500) tblNil (by kernel_rfl)
def ee66:TE:=⟨31,[(.agg [(i 4),(i 0),(.sv [[(i 1),(i 0),.nils]] true)]),(i 2),(.sv [[(.sv [[(i 0)],[(i 0)]] true)],[(.sv [[(i 1)],[(i (-1))]] true)],[(.sv [[(i 7)]] true)]] true),(.sv [[(i 5)]] true)],[],(.ret (.tup [.nils,(i 8)])),[(.cells 1 1 [(i 2)]),(.cells 1 1 [(i 8)]),(.cells 1 4 [(i 2),(i 1),(i 4),(.sl 4 0 1 1 1 false)]),(.cells 1 4 [(i 1),(i 0),(i 1),.nils]),(.cells 1 1 [(.ref 3 0 1)]),(.cells 1 1 [(i 2)]),(.cells 1 1 [(.sv [[(.sv [[(i 0)],[(i 0)]] true)],[(.sv [[(i 1)],[(i (-1))]] true)],[(.sv [[(i 7)]] true)]] true)]),(.cells 1 3 [(.ref 2 0 1),(i 0),(i 2)]),(.loop 10690 [(.ref 6 0 1)] .exhausted none),(.cells 1 1 [(.yf 8)]),(.cells 1 1 [(.func (.func 110) [] [(.ref 9 0 1),(.ref 10 0 1)])]),(.map [((.agg [(.ref 3 0 1),(i 0)]),(i 1)),((.agg [(.ref 2 0 1),(i 0)]),(i 2))]),(.cells 1 2 [(.sv [[(.sv [[(i 0)],[(i 0)]] true)],[(.sv [[(i 1)],[(i (-1))]] true)],[(.sv [[(i 7)]] true)]] true),(.map 11)]),(.cells 1 1 [(i 2)]),(.cells 1 1 [(i 1)]),(.cells 1 1 [(i 1)])]⟩
theorem kk66:ee66.ok gl Trnx.aprog:=tbl_run (tbl:=[]) (n:=500) tblNil (by kernel_rfl)
def ee67:TE:=⟨27,[(.agg [(i 4),(i 0),(.sv [[(i 1),(i 0),.nils]] true)]),(i 2),(.sv [[(.sv [[(i 0)],[(i 0)]] true)],[(.sv [[(i 1)],[(i 0)]] true)],[(.sv [[(i 2147483648)]] true)]] true)],[],(.ret (.tup [.nils,(i 8)])),[(.cells 1 1 [(i 8)]),(.cells 1 4 [(i 2),(i 1),(i 4),(.sl 3 0 1 1 1 false)]),(.cells 1 4 [(i 1),(i 0),(i 1),.nils]),(.cells 1 1 [(.ref 2 0 1)]),(.cells 1 1 [(i 2)]),(.cells 1 1 [(.sv [[(.sv [[(i 0)],[(i 0)]] true)],[(.sv [[(i 1)],[(i 0)]] true)],[(.sv [[(i 2147483648)]] true)]] true)]),(.cells 1 3 [(.ref 1 0 1),(i 0),(i 2)]),(.loop 10690 [(.ref 5 0 1)] .exhausted none),(.cells 1 1 [(.yf 7)]),(.cells 1 1 [(.func (.func 110) [] [(.ref 8 0 1),(.ref 9 0 1)])]),(.map []),(.cells 1 2 [(.sv [[(.sv [[(i 0)],[(i 0)]] true)],[(.sv [[(i 1)],[(i 0)]] true)],[(.sv [[(i 2147483648)]] true)]] true),(.map 10)]),(.cells 1 1 [(i 1)]),(.cells 1 1 [(i 1)])]⟩
theorem kk67:ee67.ok gl Trnx.aprog:=tbl_run (tbl:=[]) (n:=500) tblNil (by kernel_rfl)
def ee68:TE:=⟨26,[(.agg [(i 4),(i 0),(.sv [[(i 1),(i 0),.nils]] true)]),(i 2),(.sv [[(.sv [[(i 0)],[(i 0)]] true)],[(.sv [[(i 1)],[(i 0)]] true)],[(.sv [[(i 2147483648)]] true)]] true)],[],(.ret (.tup [.nils,(i 8)])),[(.cells 1 1 [(i 8)]),(.cells 1 4 [(i 2),(i 1),(i 4),(.sl 3 0 1 1 1 false)]),(.cells 1 4 [(i 1),(i 0),(i 1),.nils]),(.cells 1 1 [(.ref 2 0 1)]),(.cells 1 1 [(i 2)]),(.cells 1 1 [(.sv [[(.sv [[(i 0)],[(i 0)]] true)],[(.sv [[(i 1)],[(i 0)]] true)],[(.sv [[(i 2147483648)]] true)]] true)]),(.cells 1 3 [(.ref 1 0 1),(i 0),(i 2)]),(.loop 10690 [(.ref 5 0 1)] .exhausted none),(.cells 1 1 [(.yf 7)]),(.cells 1 1 [(.func (.func 110) [] [(.ref 8 0 1),(.ref 9 0 1)])]),(.map []),(.cells 1 2 [(.sv [[(.sv [[(i 0)],[(i 0)]] true)],[(.sv [[(i 1)],[(i 0)]] true)],[(.sv [[(i 2147483648)]] true)]] true),(.map 10)]),(.cells 1 1 [(i 1)]),(.cells 1 1 [(i 1)])]⟩
theorem kk68:ee68.ok gl Trnx.aprog:=tbl_run (tbl:=[]) (n:=500) tblNil (by kernel_rfl)
def ee69:TE:=⟨29,[(.agg [(i 4),(i 0),(.sv [[(i 1),(i 0),.nils]] true)]),(i 0),(.sv [[(.sv [] true)],[(.sv [] true)],[(.sv [] true)]] true),(i 2),(.sv [[(.sv [[(i 0)],[(i 0)]] true)],[(.sv [[(i 1)]] true)],[(.sv [[(i 7)]] true)]] true)],[],(.ret (.tup [.nils,(i 8)])),[(.cells 1 1 [(.sv [[(.sv [] true)],[(.sv [] true)],[(.sv [] true)]] true)]),(.cells 1 1 [(.sv [[(.sv [[(i 0)],[(i 0)]] true)],[(.sv [[(i 1)]] true)],[(.sv [[(i 7)]] true)]] true)]),(.cells 1 1 [(i 8)]),(.cells 1 4 [(i 2),(i 1),(i 4),(.sl 5 0 1 1 1 false)]),(.cells 1 4 [(i 1),(i 0),(i 1),.nils]),(.cells 1 1 [(.ref 4 0 1)]),(.cells 1 1 [(i 2)]),(.cells 1 1 [(.sv [[(.sv [[(i 0)],[(i 0)]] true)],[(.sv [[(i 1)]] true)],[(.sv [[(i 7)]] true)]] true)])]⟩
theorem kk69:ee69.ok gl Trnx.aprog:=tbl_run (tbl:=[]) (n:=500) tblNil (by kernel_rfl)
def ee70:TE:=⟨31,[(.agg [(i 4),(i 0),(.sv [[(i 1),(i 0),.nils]] true)]),(i 2),(.sv [[(.sv [[(i 0)],[(i 0)]] true)],[(.sv [[(i 1)],[(i 0)]] true)],[(.sv [[(i 2147483648)]] true)]] true),(.sv [[(i 5)]] true)],[],(.ret (.tup [.nils,(i 8)])),[(.cells 1 1 [(i 2)]),(.cells 1 1 [(i 8)]),(.cells 1 4 [(i 2),(i 1),(i 4),(.sl 4 0 1 1 1 false)]),(.cells 1 4 [(i 1),(i 0),(i 1),.nils]),(.cells 1 1 [(.ref 3 0 1)]),(.cells 1 1 [(i 2)]),(.cells 1 1 [(.sv [[(.sv [[(i 0)],[(i 0)]] true)],[(.sv [[(i 1)],[(i 0)]] true)],[(.sv [[(i 2147483648)]] true)]] true)]),(.cells 1 3 [(.ref 2 0 1),(i 0),(i 2)]),(.loop 10690 [(.ref 6 0 1)] .exhausted none),(.cells 1 1 [(.yf 8)]),(.cells 1 1 [(.func (.func 110) [] [(.ref 9 0 1),(.ref 10 0 1)])]),(.map []),(.cells 1 2 [(.sv [[(.sv [[(i 0)],[(i 0)]] true)],[(.sv [[(i 1)],[(i 0)]] true)],[(.sv [[(i 2147483648)]] true)]] true),(.map 11)]),(.cells 1 1 [(i 1)]),(.cells 1 1 [(i 1)])]⟩
theorem kk70:ee70.ok gl Trnx.aprog:=tbl_run (tbl:=[]) (n:=500) tblNil (by kernel_rfl)
def ee71:TE:=⟨26,[(.agg [(i 0),(i 0),.nils]),(i 3),.nils],[],(.ret (.tup [(.sv [[(i 0),(i 0),.nils],[(i 0),(i 0),.nils],[(i 0),(i 0),.nils]] false),(i 0)])),[(.cells 1 1 [(i 0)]),(.cells 1 4 [(i 0),(i 0),(i 0),.nils])]⟩
theorem kk71:ee71.ok gl Trnx.aprog:=tbl_run (tbl:=[]) (n:=500) tblNil (by kernel_rfl)
def ee72:TE:=⟨18,[(.agg [(i 4),(i 0),(.sv [[(i 1),(i 1),.nils],[(i 0),(i 1),.nils]] true)]),(.agg [(i 4),(i 0),(.sv [[(i 1),(i 0),.nils]] true)])],[],(.ret (i 1)),[(.cells 1 1 [(i 1)]),(.cells 1 4 [(i 2),(i 1),(i 4),(.sl 3 0 1 1 1 false)]),(.cells 1 4 [(i 1),(i 0),(i 1),.nils]),(.cells 1 1 [(.ref 2 0 1)])]⟩
theorem kk72:ee72.ok gl Trnx.aprog:=tbl_run (tbl:=[]) (n:=500) tblNil (by kernel_rfl)
def ee73:TE:=⟨18,[(.agg [(i 3),(i 2),(.sv [[(i 1),(i 1),.nils]] true)]),(.agg [(i 3),(i 0),(.sv [[(i 1),(i 0),.nils],[(i 4),(i 0),(.sv [[(i 1),(i 0),.nils]] true)]] true)])],[],(.ret (i 1)),[(.cells 1 1 [(i 1)]),(.cells 1 4 [(i 4),(i 1),(i 3),(.sl 3 0 2 2 1 false)]),(.cells 1 4 [(i 1),(i 0),(i 1),.nils]),(.cells 2 1 [(.ref 2 0 1),(.ref 4 0 1)]),(.cells 1 4 [(i 2),(i 1),(i 4),(.sl 6 0 1 1 1 false)]),(.cells 1 4 [(i 1),(i 0),(i 1),.nils]),(.cells 1 1 [(.ref 5 0 1)])]⟩
theorem kk73:ee73.ok gl Trnx.aprog:=tbl_run (tbl:=[]) (n:=500) tblNil (by kernel_rfl)
def ee74:TE:=⟨20,[(.agg [(i 4),(i 0),(.sv [[(i 1),(i 3),.nils],[(i 4),(i 0),(.sv [[(i 1),(i 4),.nils]] true)]] true)])],[],(.ret (.bool true)),[(.cells 1 1 [(.func (.func 61) [] [(.ref 0 0 1)])]),(.cells 1 1 [(i 12)]),(.cells 1 1 [(i 11)]),(.cells 1 1 [(i 11)]),(.cells 1 1 [(i 10)])]⟩
theorem kk74:ee74.ok gl Trnx.aprog:=tbl_run (tbl:=[]) (n:=500) tblNil (by kernel_rfl)
def ee75:TE:=⟨18,[(.agg [(i 3),(i 0),.nils]),(.agg [(i 3),(i 0),(.sv [[(i 1),(i 0),.nils],[(i 4),(i 0),(.sv [[(i 1),(i 0),.nils]] true)]] true)])],[],(.ret (i 1)),[(.cells 1 1 [(i 1)]),(.cells 1 4 [(i 4),(i 1),(i 3),(.sl 3 0 2 2 1 false)]),(.cells 1 4 [(i 1),(i 0),(i 1),.nils]),(.cells 2 1 [(.ref 2 0 1),(.ref 4 0 1)]),(.cells 1 4 [(i 2),(i 1),(i 4),(.sl 6 0 1 1 1 false)]),(.cells 1 4 [(i 1),(i 0),(i 1),.nils]),(.cells 1 1 [(.ref 5 0 1)])]⟩
theorem kk75:ee75.ok gl Trnx.aprog:=tbl_run (tbl:=[]) (n:=500) tblNil (by kernel_rfl)
def ee76:TE:=⟨18,[(.agg [(i 4),(i 0),(.sv [[(i 1),(i 1),.nils],[(i 0),(i 1),.nils]] true)]),(.agg [(i 3),(i 0),(.sv [[(i 1),(i 0),.nils],[(i 4),(i 0),(.sv [[(i 1),(i 0),.nils]] true)]] true)])],[],(.ret (i 1)),[(.cells 1 1 [(i 1)]),(.cells 1 4 [(i 4),(i 1),(i 3),(.sl 3 0 2 2 1 false)]),(.cells 1 4 [(i 1),(i 0),(i 1),.nils]),(.cells 2 1 [(.ref 2 0 1),(.ref 4 0 1)]),(.cells 1 4 [(i 2),(i 1),(i 4),(.sl 6 0 1 1 1 false)]),(.cells 1 4 [(i 1),(i 0),(i 1),.nils]),(.cells 1 1 [(.ref 5 0 1)])]⟩
theorem kk76:ee76.ok gl Trnx.aprog:=tbl_run (tbl:=[]) (n:=500) tblNil (by kernel_rfl)
def ee77:TE:=⟨18,[(.agg [(i 1),(i 0),(.sv [[(i 1),(i 1),.nils]] true)]),(.agg [(i 3),(i 0),(.sv [[(i 1),(i 0),.nils],[(i 4),(i 0),(.sv [[(i 1),(i 0),.nils]] true)]] true)])],[],(.ret (i 1)),[(.cells 1 1 [(i 1)]),(.cells 1 4 [(i 4),(i 1),(i 3),(.sl 3 0 2 2 1 false)]),(.cells 1 4 [(i 1),(i 0),(i 1),.nils]),(.cells 2 1 [(.ref 2 0 1),(.ref 4 0 1)]),(.cells 1 4 [(i 2),(i 1),(i 4),(.sl 6 0 1 1 1 false)]),(.cells 1 4 [(i 1),(i 0),(i 1),.nils]),(.cells 1 1 [(.ref 5 0 1)])]⟩
theorem kk77:ee77.ok gl Trnx.aprog:=tbl_run (tbl:=[]) (n:=500) tblNil (by kernel_rfl)
def ee78:TE:=⟨18,[(.agg [(i 2),(i 0),(.sv [[(i 1),(i 1),.nils]] true)]),(.agg [(i 3),(i 0),(.sv [[(i 1),(i 0),.nils],[(i 4),(i 0),(.sv [[(i 1),(i 0),.nils]] true)]] true)])],[],(.ret (i 1)),[(.cells 1 1 [(i 1)]),(.cells 1 4 [(i 4),(i 1),(i 3),(.sl 3 0 2 2 1 false)]),(.cells 1 4 [(i 1),(i 0),(i 1),.nils]),(.cells 2 1 [(.ref 2 0 1),(.ref 4 0 1)]),(.cells 1 4 [(i 2),(i 1),(i 4),(.sl 6 0 1 1 1 false)]),(.cells 1 4 [(i 1),(i 0),(i 1),.nils]),(.cells 1 1 [(.ref 5 0 1)])]⟩
theorem kk78:ee78.ok gl Trnx.aprog:=tbl_run (tbl:=[]) (n:=500) tblNil (by kernel_rfl)
def ee79:TE:=⟨22,[(.agg [(i 1),(i 0),.nils]),(.sv [[(i 1),(i 1),.nils],[(i 4),(i 0),.nils]] true)],[],(.ret (.tup [.nils,(i 1)])),[(.cells 1 1 [(i 1)]),(.cells 1 4 [(i 1),(i 0),(i 1),.nils])]⟩
theorem kk79:ee79.ok gl Trnx.aprog:=tbl_run (tbl:=[]) (n:=500) tblNil (by kernel_rfl)
def ee80:TE:=⟨18,[(.agg [(i 4),(i 1),.nils]),(.agg [(i 3),(i 0),(.sv [[(i 1),(i 0),.nils],[(i 4),(i 0),(.sv [[(i 1),(i 0),.nils]] true)]] true)])],[],(.ret (i 1)),[(.cells 1 1 [(i 1)]),(.cells 1 4 [(i 4),(i 1),(i 3),(.sl 3 0 2 2 1 false)]),(.cells 1 4 [(i 1),(i 0),(i 1),.nils]),(.cells 2 1 [(.ref 2 0 1),(.ref 4 0 1)]),(.cells 1 4 [(i 2),(i 1),(i 4),(.sl 6 0 1 1 1 false)]),(.cells 1 4 [(i 1),(i 0),(i 1),.nils]),(.cells 1 1 [(.ref 5 0 1)])]⟩
theorem kk80:ee80.ok gl Trnx.aprog:=tbl_run (tbl:=[]) (n:=500) tblNil (by kernel_rfl)
def ee81:TE:=⟨18,[(.agg [(i 5),(i 0),.nils]),(.agg [(i 3),(i 0),(.sv [[(i 1),(i 0),.nils],[(i 4),(i 0),(.sv [[(i 1),(i 0),.nils]] true)]] true)])],[],(.ret (i 1)),[(.cells 1 1 [(i 1)]),(.cells 1 4 [(i 4),(i 1),(i 3),(.sl 3 0 2 2 1 false)]),(.cells 1 4 [(i 1),(i 0),(i 1),.nils]),(.cells 2 1 [(.ref 2 0 1),(.ref 4 0 1)]),(.cells 1 4 [(i 2),(i 1),(i 4),(.sl 6 0 1 1 1 false)]),(.cells 1 4 [(i 1),(i 0),(i 1),.nils]),(.cells 1 1 [(.ref 5 0 1)])]⟩
theorem kk81:ee81.ok gl Trnx.aprog:=tbl_run (tbl:=[]) (n:=500) tblNil (by kernel_rfl)
def ee82:TE:=⟨18,[(.agg [(i 1),(i 2147483648),.nils]),(.agg [(i 3),(i 0),(.sv [[(i 1),(i 0),.nils],[(i 4),(i 0),(.sv [[(i 1),(i 0),.nils]] true)]] true)])],[],(.ret (i 1)),[(.cells 1 1 [(i 1)]),(.cells 1 4 [(i 4),(i 1),(i 3),(.sl 3 0 2 2 1 false)]),(.cells 1 4 [(i 1),(i 0),(i 1),.nils]),(.cells 2 1 [(.ref 2 0 1),(.ref 4 0 1)]),(.cells 1 4 [(i 2),(i 1),(i 4),(.sl 6 0 1 1 1 false)]),(.cells 1 4 [(i 1),(i 0),(i 1),.nils]),(.cells 1 1 [(.ref 5 0 1)])]⟩
theorem kk82:ee82.ok gl Trnx.aprog:=tbl_run (tbl:=[]) (n:=500) tblNil (by kernel_rfl)
def ee83:TE:=⟨20,[(.agg [(i 4),(i 0),(.sv [[(i 1),(i 1),.nils],[(i 0),(i 1),.nils]] true)])],[],(.ret (.bool false)),[(.cells 1 1 [(.func (.func 61) [] [(.ref 0 0 1)])]),(.cells 1 1 [(i 12)]),(.cells 1 1 [(i 11)]),(.cells 1 1 [(i 11)])]⟩
theorem kk83:ee83.ok gl Trnx.aprog:=tbl_run (tbl:=[]) (n:=500) tblNil (by kernel_rfl)
def ee84:TE:=⟨18,[(.agg [(i 4),(i 1),.nils]),(.agg [(i 4),(i 0),(.sv [[(i 1),(i 0),.nils]] true)])],[],(.ret (i 1)),[(.cells 1 1 [(i 1)]),(.cells 1 4 [(i 2),(i 1),(i 4),(.sl 3 0 1 1 1 false)]),(.cells 1 4 [(i 1),(i 0),(i 1),.nils]),(.cells 1 1 [(.ref 2 0 1)])]⟩
theorem kk84:ee84.ok gl Trnx.aprog:=tbl_run (tbl:=[]) (n:=500) tblNil (by kernel_rfl)
def ee85:TE:=⟨18,[(.agg [(i 1),(i 0),(.sv [[(i 1),(i 1),.nils]] true)]),(.agg [(i 4),(i 0),(.sv [[(i 1),(i 0),.nils]] true)])],[],(.ret (i 1)),[(.cells 1 1 [(i 1)]),(.cells 1 4 [(i 2),(i 1),(i 4),(.sl 3 0 1 1 1 false)]),(.cells 1 4 [(i 1),(i 0),(i 1),.nils]),(.cells 1 1 [(.ref 2 0 1)])]⟩
theorem kk85:ee85.ok gl Trnx.aprog:=tbl_run (tbl:=[]) (n:=500) tblNil (by kernel_rfl)
def ee86:TE:=⟨18,[(.agg [(i 3),(i 2),(.sv [[(i 1),(i 1),.nils]] true)]),(.agg [(i 4),(i 0),(.sv [[(i 1),(i 0),.nils]] true)])],[],(.ret (i 1)),[(.cells 1 1 [(i 1)]),(.cells 1 4 [(i 2),(i 1),(i 4),(.sl 3 0 1 1 1 false)]),(.cells 1 4 [(i 1),(i 0),(i 1),.nils]),(.cells 1 1 [(.ref 2 0 1)])]⟩
theorem kk86:ee86.ok gl Trnx.aprog:=tbl_run (tbl:=[]) (n:=500) tblNil (by kernel_rfl)
def ee87:TE:=⟨18,[(.agg [(i 2),(i 0),(.sv [[(i 1),(i 1),.nils]] true)]),(.agg [(i 4),(i 0),(.sv [[(i 1),(i 0),.nils]] true)])],[],(.ret (i 1)),[(.cells 1 1 [(i 1)]),(.cells 1 4 [(i 2),(i 1),(i 4),(.sl 3 0 1 1 1 false)]),(.cells 1 4 [(i 1),(i 0),(i 1),.nils]),(.cells 1 1 [(.ref 2 0 1)])]⟩
theorem kk87:ee87.ok gl Trnx.aprog:=tbl_run (tbl:=[]) (n:=500) tblNil (by kernel_rfl)
def ee88:TE:=⟨29,[(.agg [(i 4),(i 0),(.sv [[(i 1),(i 0),.nils]] true)]),(i 0),(.sv [[(.sv [] true)],[(.sv [] true)],[(.sv [] true)]] true),(i 2),(.sv [[(.sv [[(i 0)]] true)],[(.sv [[(i 1)],[(i 1)]] true)],[(.sv [[(i 7)]] true)]] true)],[],(.ret (.tup [.nils,(i 8)])),[(.cells 1 1 [(.sv [[(.sv [] true)],[(.sv [] true)],[(.sv [] true)]] true)]),(.cells 1 1 [(.sv [[(.sv [[(i 0)]] true)],[(.sv [[(i 1)],[(i 1)]] true)],[(.sv [[(i 7)]] true)]] true)]),(.cells 1 1 [(i 8)]),(.cells 1 4 [(i 2),(i 1),(i 4),(.sl 5 0 1 1 1 false)]),(.cells 1 4 [(i 1),(i 0),(i 1),.nils]),(.cells 1 1 [(.ref 4 0 1)]),(.cells 1 1 [(i 2)]),(.cells 1 1 [(.sv [[(.sv [[(i 0)]] true)],[(.sv [[(i 1)],[(i 1)]] true)],[(.sv [[(i 7)]] true)]] true)])]⟩
theorem kk88:ee88.ok gl Trnx.aprog:=tbl_run (tbl:=[]) (n:=500) tblNil (by kernel_rfl)
def ee89:TE:=⟨18,[(.agg [(i 3),(i 0),.nils]),(.agg [(i 4),(i 0),(.sv [[(i 1),(i 0),.nils]] true)])],[],(.ret (i 1)),[(.cells 1 1 [(i 1)]),(.cells 1 4 [(i 2),(i 1),(i 4),(.sl 3 0 1 1 1 false)]),(.cells 1 4 [(i 1),(i 0),(i 1),.nils]),(.cells 1 1 [(.ref 2 0 1)])]⟩
theorem kk89:ee89.ok gl Trnx.aprog:=tbl_run (tbl:=[]) (n:=500) tblNil (by kernel_rfl)
def ee90:TE:=⟨18,[(.agg [(i 5),(i 0),.nils]),(.agg [(i 4),(i 0),(.sv [[(i 1),(i 0),.nils]] true)])],[],(.ret (i 1)),[(.cells 1 1 [(i 1)]),(.cells 1 4 [(i 2),(i 1),(i 4),(.sl 3 0 1 1 1 false)]),(.cells 1 4 [(i 1),(i 0),(i 1),.nils]),(.cells 1 1 [(.ref 2 0 1)])]⟩
theorem kk90:ee90.ok gl Trnx.aprog:=tbl_run (tbl:=[]) (n:=500) tblNil (by kernel_rfl)
def ee91:TE:=⟨29,[(.agg [(i 4),(i 0),(.sv [[(i 1),(i 0),.nils]] true)]),(i 0),(.sv [[(.sv [] true)],[(.sv [] true)],[(.sv [] true)]] true),(i 2),(.sv [[(.sv [[(i 0)],[(i 0)]] true)],[(.sv [[(i 1)],[(i 0)]] true)]] true)],[],(.ret (.tup [.nils,(i 8)])),[(.cells 1 1 [(.sv [[(.sv [] true)],[(.sv [] true)],[(.sv [] true)]] true)]),(.cells 1 1 [(.sv [[(.sv [[(i 0)],[(i 0)]] true)],[(.sv [[(i 1)],[(i 0)]] true)]] true)]),(.cells 1 1 [(i 8)]),(.cells 1 4 [(i 2),(i 1),(i 4),(.sl 5 0 1 1 1 false)]),(.cells 1 4 [(i 1),(i 0),(i 1),.nils]),(.cells 1 1 [(.ref 4 0 1)]),(.cells 1 1 [(i 2)]),(.cells 1 1 [(.sv [[(.sv [[(i 0)],[(i 0)]] true)],[(.sv [[(i 1)],[(i 0)]] true)]] true)])]⟩
theorem kk91:ee91.ok gl Trnx.aprog:=tbl_run (tbl:=[]) (n:=500) tblNil (by kernel_rfl)
def ee92:TE:=⟨18,[(.agg [(i 1),(i 2147483648),.nils]),(.agg [(i 4),(i 0),(.sv [[(i 1),(i 0),.nils]] true)])],[],(.ret (i 1)),[(.cells 1 1 [(i 1)]),(.cells 1 4 [(i 2),(i 1),(i 4),(.sl 3 0 1 1 1 false)]),(.cells 1 4 [(i 1),(i 0),(i 1),.nils]),(.cells 1 1 [(.ref 2 0 1)])]⟩
theorem kk92:ee92.ok gl Trnx.aprog:=tbl_run (tbl:=[]) (n:=500) tblNil (by kernel_rfl)
def ee93:TE:=⟨18,[(.agg [(i 1),(i 0),(.sv [[(i 1),(i 1),.nils]] true)]),(.agg [(i 1),(i 0),.nils])],[],(.ret (i 1)),[(.cells 1 1 [(i 1)]),(.cells 1 4 [(i 1),(i 0),(i 1),.nils])]⟩
theorem kk93:ee93.ok gl Trnx.aprog:=tbl_run (tbl:=[]) (n:=500) tblNil (by kernel_rfl)
def ee94:TE:=⟨18,[(.agg [(i 4),(i 0),(.sv [[(i 1),(i 1),.nils],[(i 0),(i 1),.nils]] true)]),(.agg [(i 1),(i 0),.nils])],[],(.ret (i 1)),[(.cells 1 1 [(i 1)]),(.cells 1 4 [(i 1),(i 0),(i 1),.nils])]⟩
theorem kk94:ee94.ok gl Trnx.aprog:=tbl_run (tbl:=[]) (n:=500) tblNil (by kernel_rfl)
def ee95:TE:=⟨28,[(.sv [[(i 3),(i 0),(.sv [[(i 1),(i 4),.nils]] false)],[(i 3),(i 1),(.sv [[(i 4),(i 0),(.sv [[(i 1),(i 7),.nils]] false)]] false)]] false),(.sv [[(i 3),(i 0),(.sv [[(i 1),(i 4),.nils]] true)],[(i 3),(i 1),(.sv [[(i 4),(i 0),(.sv [[(i 1),(i 7),.nils]] true)]] true)]] true)],[],(.ret (.bool true)),[]⟩
theorem kk95:ee95.ok gl Trnx.aprog:=tbl_run (tbl:=[]) (n:=500) tblNil (by kernel_rfl)
def ee96:TE:=⟨12,[(.agg [(i 4),(i 0),(.sv [[(i 4),(i 0),(.sv [[(i 4),(i 0),(.sv [[(i 4),(i 0),(.sv [[(i 4),(i 0),(.sv [[(i 4),(i 0),(.sv [[(i 4),(i 0),(.sv [[(i 4),(i 0),(.sv [[(i 4),(i 0),(.sv [[(i 4),(i 0),(.sv [[(i 4),(i 0),(.sv [[(i 4),(i 0),(.sv [[(i 1),(i 0),.nils]] true)]] true)]] true)]] true)]] true)]] true)]] true)]] true)]] true)]] true)]] true)]] true)])],[],(.ret (.tup [(i 0),(i 3)])),[(.cells 1 1 [(i 3)])]⟩
theorem kk96:ee96.ok gl Trnx.aprog:=tbl_run (tbl:=[]) (n:=500) tblNil (by kernel_rfl)
def ee97:TE:=⟨14,[(.agg [(i 4),(i 0),(.sv [[(i 4),(i 0),(.sv [[(i 4),(i 0),(.sv [[(i 4),(i 0),(.sv [[(i 4),(i 0),(.sv [[(i 4),(i 0),(.sv [[(i 4),(i 0),(.sv [[(i 4),(i 0),(.sv [[(i 4),(i 0),(.sv [[(i 4),(i 0),(.sv [[(i 4),(i 0),(.sv [[(i 4),(i 0),(.sv [[(i 1),(i 0),.nils]] true)]] true)]] true)]] true)]] true)]] true)]] true)]] true)]] true)]] true)]] true)]] true)])],[],(.ret (.tup [(i 0),(i 3)])),[(.cells 1 1 [(i 3)])]⟩
theorem kk97:ee97.ok gl Trnx.aprog:=tbl_run (tbl:=[]) (n:=500) tblNil (by kernel_rfl)
def ee98:TE:=⟨18,[(.agg [(i 3),(i 2),(.sv [[(i 1),(i 1),.nils]] true)]),(.agg [(i 1),(i 0),.nils])],[],(.ret (i 1)),[(.cells 1 1 [(i 1)]),(.cells 1 4 [(i 1),(i 0),(i 1),.nils])]⟩
theorem kk98:ee98.ok gl Trnx.aprog:=tbl_run (tbl:=[]) (n:=500) tblNil (by kernel_rfl)
def ee99:TE:=⟨18,[(.agg [(i 2),(i 0),(.sv [[(i 1),(i 1),.nils]] true)]),(.agg [(i 1),(i 0),.nils])],[],(.ret (i 1)),[(.cells 1 1 [(i 1)]),(.cells 1 4 [(i 1),(i 0),(i 1),.nils])]⟩
theorem kk99:ee99.ok gl Trnx.aprog:=tbl_run (tbl:=[]) (n:=500) tblNil (by kernel_rfl)
def ee100:TE:=⟨18,[(.agg [(i 1),(i 2147483648),.nils]),(.agg [(i 1),(i 0),.nils])],[],(.ret (i 1)),[(.cells 1 1 [(i 1)]),(.cells 1 4 [(i 1),(i 0),(i 1),.nils])]⟩
theorem kk100:ee100.ok gl Trnx.aprog:=tbl_run (tbl:=[]) (n:=500) tblNil (by kernel_rfl)
def ee101:TE:=⟨26,[(.agg [(i 4),(i 0),(.sv [[(i 4),(i 0),(.sv [[(i 4),(i 0),(.sv [[(i 4),(i 0),(.sv [[(i 4),(i 0),(.sv [[(i 4),(i 0),(.sv [[(i 4),(i 0),(.sv [[(i 4),(i 0),(.sv [[(i 4),(i 0),(.sv [[(i 4),(i 0),(.sv [[(i 4),(i 0),(.sv [[(i 4),(i 0),(.sv [[(i 1),(i 0),.nils]] true)]] true)]] true)]] true)]] true)]] true)]] true)]] true)]] true)]] true)]] true)]] true)]),(i (-1)),.nils],[],(.ret (.tup [.nils,(i 3)])),[(.cells 1 1 [(i 3)])]⟩
theorem kk101:ee101.ok gl Trnx.aprog:=tbl_run (tbl:=[]) (n:=500) tblNil (by kernel_rfl)
def ee102:TE:=⟨18,[(.agg [(i 0),(i 0),.nils]),(.agg [(i 4),(i 0),(.sv [[(i 4),(i 0),(.sv [[(i 4),(i 0),(.sv [[(i 4),(i 0),(.sv [[(i 4),(i 0),(.sv [[(i 4),(i 0),(.sv [[(i 4),(i 0),(.sv [[(i 4),(i 0),(.sv [[(i 4),(i 0),(.sv [[(i 4),(i 0),(.sv [[(i 4),(i 0),(.sv [[(i 4),(i 0),(.sv [[(i 1),(i 0),.nils]] true)]] true)]] true)]] true)]] true)]] true)]] true)]] true)]] true)]] true)]] true)]] true)])],[],(.ret (i 3)),[(.cells 1 1 [(i 3)])]⟩
theorem kk102:ee102.ok gl Trnx.aprog:=tbl_run (tbl:=[]) (n:=500) tblNil (by kernel_rfl)
def ee103:TE:=⟨27,[(.agg [(i 4),(i 0),(.sv [[(i 4),(i 0),(.sv [[(i 4),(i 0),(.sv [[(i 4),(i 0),(.sv [[(i 4),(i 0),(.sv [[(i 4),(i 0),(.sv [[(i 4),(i 0),(.sv [[(i 4),(i 0),(.sv [[(i 4),(i 0),(.sv [[(i 4),(i 0),(.sv [[(i 4),(i 0),(.sv [[(i 4),(i 0),(.sv [[(i 1),(i 0),.nils]] true)]] true)]] true)]] true)]] true)]] true)]] true)]] true)]] true)]] true)]] true)]] true)]),(i (-1)),.nils],[],(.ret (.tup [.nils,(i 3)])),[(.cells 1 1 [(i 3)])]⟩
theorem kk103:ee103.ok gl Trnx.aprog:=tbl_run (tbl:=[]) (n:=500) tblNil (by kernel_rfl)
def ee104:TE:=⟨29,[(.agg [(i 4),(i 0),(.sv [[(i 1),(i 0),.nils]] true)]),(i 0),(.sv [[(.sv [] true)],[(.sv [] true)],[(.sv [] true)]] true),(i 2),(.sv [[(.sv [[(i 0)],[(i 0)]] true)],[(.sv [[(i 1)],[(i 0)]] true)],[(.sv [[(i 7)]] true)],[(.sv [[(i 7)]] true)]] true)],[],(.ret (.tup [.nils,(i 8)])),[(.cells 1 1 [(.sv [[(.sv [] true)],[(.sv [] true)],[(.sv [] true)]] true)]),(.cells 1 1 [(.sv [[(.sv [[(i 0)],[(i 0)]] true)],[(.sv [[(i 1)],[(i 0)]] true)],[(.sv [[(i 7)]] true)],[(.sv [[(i 7)]] true)]] true)]),(.cells 1 1 [(i 8)]),(.cells 1 4 [(i 2),(i 1),(i 4),(.sl 5 0 1 1 1 false)]),(.cells 1 4 [(i 1),(i 0),(i 1),.nils]),(.cells 1 1 [(.ref 4 0 1)]),(.cells 1 1 [(i 2)]),(.cells 1 1 [(.sv [[(.sv [[(i 0)],[(i 0)]] true)],[(.sv [[(i 1)],[(i 0)]] true)],[(.sv [[(i 7)]] true)],[(.sv [[(i 7)]] true)]] true)])]⟩
theorem kk104:ee104.ok gl Trnx.aprog:=tbl_run (tbl:=[]) (n:=500) tblNil (by kernel_rfl)
def ee105:TE:=⟨28,[(.sv [[(i 4),(i 0),(.sv [[(i 0),(i 0),.nils],[(i 0),(i 0),.nils]] false)],[(i 4),(i 0),.nils]] false),(.sv [[(i 4),(i 0),(.sv [[(i 0),(i 0),.nils],[(i 0),(i 0),.nils]] true)],[(i 4),(i 0),.nils]] true)],[],(.ret (.bool true)),[]⟩
theorem kk105:ee105.ok gl Trnx.aprog:=tbl_run (tbl:=[]) (n:=500) tblNil (by kernel_rfl)
def ee106:TE:=⟨34,[(.agg [(i 4),(i 0),(.sv [[(i 4),(i 0),(.sv [[(i 4),(i 0),(.sv [[(i 4),(i 0),(.sv [[(i 4),(i 0),(.sv [[(i 4),(i 0),(.sv [[(i 4),(i 0),(.sv [[(i 4),(i 0),(.sv [[(i 4),(i 0),(.sv [[(i 4),(i 0),(.sv [[(i 4),(i 0),(.sv [[(i 4),(i 0),(.sv [[(i 1),(i 0),.nils]] true)]] true)]] true)]] true)]] true)]] true)]] true)]] true)]] true)]] true)]] true)]] true)]),(i (-1)),.nils,.nils],[],(.ret (.tup [(.bool false),(i 3)])),[(.cells 1 1 [(i 3)])]⟩
theorem kk106:ee106.ok gl Trnx.aprog:=tbl_run (tbl:=[]) (n:=500) tblNil (by kernel_rfl)
def ee107:TE:=⟨22,[(.agg [(i 4),(i 0),(.sv [[(i 4),(i 0),(.sv [[(i 4),(i 0),(.sv [[(i 4),(i 0),(.sv [[(i 4),(i 0),(.sv [[(i 4),(i 0),(.sv [[(i 4),(i 0),(.sv [[(i 4),(i 0),(.sv [[(i 4),(i 0),(.sv [[(i 4),(i 0),(.sv [[(i 4),(i 0),(.sv [[(i 4),(i 0),(.sv [[(i 1),(i 0),.nils]] true)]] true)]] true)]] true)]] true)]] true)]] true)]] true)]] true)]] true)]] true)]] true)]),(.sv [[(i 9),(i 0),.nils]] true)],[],(.ret (.tup [.nils,(i 3)])),[(.cells 1 1 [(i 3)])]⟩
theorem kk107:ee107.ok gl Trnx.aprog:=tbl_run (tbl:=[]) (n:=500) tblNil (by kernel_rfl)
def ee108:TE:=⟨31,[(.agg [(i 4),(i 0),(.sv [[(i 4),(i 0),(.sv [[(i 4),(i 0),(.sv [[(i 4),(i 0),(.sv [[(i 4),(i 0),(.sv [[(i 4),(i 0),(.sv [[(i 4),(i 0),(.sv [[(i 4),(i 0),(.sv [[(i 4),(i 0),(.sv [[(i 4),(i 0),(.sv [[(i 4),(i 0),(.sv [[(i 4),(i 0),(.sv [[(i 1),(i 0),.nils]] true)]] true)]] true)]] true)]] true)]] true)]] true)]] true)]] true)]] true)]] true)]] true)]),(i (-1)),.nils,.nils],[],(.ret (.tup [.nils,(i 3)])),[(.cells 1 1 [(i (-1))]),(.cells 1 1 [(i 3)])]⟩
theorem kk108:ee108.ok gl Trnx.aprog:=tbl_run (tbl:=[]) (n:=500) tblNil (by kernel_rfl)
def ee109:TE:=⟨18,[(.agg [(i 3),(i 0),.nils]),(.agg [(i 1),(i 0),.nils])],[],(.ret (i 1)),[(.cells 1 1 [(i 1)]),(.cells 1 4 [(i 1),(i 0),(i 1),.nils])]⟩
theorem kk109:ee109.ok gl Trnx.aprog:=tbl_run (tbl:=[]) (n:=500) tblNil (by kernel_rfl)
def ee110:TE:=⟨18,[(.agg [(i 4),(i 1),.nils]),(.agg [(i 1),(i 0),.nils])],[],(.ret (i 1)),[(.cells 1 1 [(i 1)]),(.cells 1 4 [(i 1),(i 0),(i 1),.nils])]⟩
theorem kk110:ee110.ok gl Trnx.aprog:=tbl_run (tbl:=[]) (n:=500) tblNil (by kernel_rfl)
def ee111:TE:=⟨18,[(.agg [(i 5),(i 0),.nils]),(.agg [(i 1),(i 0),.nils])],[],(.ret (i 1)),[(.cells 1 1 [(i 1)]),(.cells 1 4 [(i 1),(i 0),(i 1),.nils])]⟩
theorem kk111:ee111.ok gl Trnx.aprog:=tbl_run (tbl:=[]) (n:=500) tblNil (by kernel_rfl)
def ee112:TE:=⟨29,[(.agg [(i 4),(i 0),(.sv [[(i 4),(i 0),(.sv [[(i 4),(i 0),(.sv [[(i 4),(i 0),(.sv [[(i 4),(i 0),(.sv [[(i 4),(i 0),(.sv [[(i 4),(i 0),(.sv [[(i 4),(i 0),(.sv [[(i 4),(i 0),(.sv [[(i 4),(i 0),(.sv [[(i 4),(i 0),(.sv [[(i 4),(i 0),(.sv [[(i 1),(i 0),.nils]] true)]] true)]] true)]] true)]] true)]] true)]] true)]] true)]] true)]] true)]] true)]] true)]),(i (-1)),.nils,(i (-1)),.nils],[],(.ret (.tup [.nils,(i 3)])),[(.cells 1 1 [.nils]),(.cells 1 1 [.nils]),(.cells 1 1 [(i 3)])]⟩
theorem kk112:ee112.ok gl Trnx.aprog:=tbl_run (tbl:=[]) (n:=500) tblNil (by kernel_rfl)
def ee113:TE:=⟨27,[(.agg [(i 4),(i 0),(.sv [[(i 1),(i 0),.nils]] true)]),(i 2),(.sv [[(.sv [[(i 0)],[(i 0)]] true)],[(.sv [[(i 1)]] true)],[(.sv [[(i 7)]] true)]] true)],[],(.ret (.tup [.nils,(i 8)])),[(.cells 1 1 [(i 8)]),(.cells 1 4 [(i 2),(i 1),(i 4),(.sl 3 0 1 1 1 false)]),(.cells 1 4 [(i 1),(i 0),(i 1),.nils]),(.cells 1 1 [(.ref 2 0 1)]),(.cells 1 1 [(i 2)]),(.cells 1 1 [(.sv [[(.sv [[(i 0)],[(i 0)]] true)],[(.sv [[(i 1)]] true)],[(.sv [[(i 7)]] true)]] true)])]⟩
theorem kk113:ee113.ok gl Trnx.aprog:=tbl_run (tbl:=[]) (n:=500) tblNil (by kernel_rfl)
def ee114:TE:=⟨26,[(.agg [(i 4),(i 0),(.sv [[(i 1),(i 0),.nils]] true)]),(i 2),(.sv [[(.sv [[(i 0)],[(i 0)]] true)],[(.sv [[(i 1)]] true)],[(.sv [[(i 7)]] true)]] true)],[],(.ret (.tup [.nils,(i 8)])),[(.cells 1 1 [(i 8)]),(.cells 1 4 [(i 2),(i 1),(i 4),(.sl 3 0 1 1 1 false)]),(.cells 1 4 [(i 1),(i 0),(i 1),.nils]),(.cells 1 1 [(.ref 2 0 1)]),(.cells 1 1 [(i 2)]),(.cells 1 1 [(.sv [[(.sv [[(i 0)],[(i 0)]] true)],[(.sv [[(i 1)]] true)],[(.sv [[(i 7)]] true)]] true)])]⟩
theorem kk114:ee114.ok gl Trnx.aprog:=tbl_run (tbl:=[]) (n:=500) tblNil (by kernel_rfl)
def ee115:TE:=⟨28,[(.sv [[(i 4),(i 0),.nils],[(i 4),(i 0),(.sv [[(i 1),(i 7),.nils]] false)]] false),(.sv [[(i 4),(i 0),.nils],[(i 4),(i 0),(.sv [[(i 1),(i 7),.nils]] true)]] true)],[],(.ret (.bool true)),[]⟩
theorem kk115:ee115.ok gl Trnx.aprog:=tbl_run (tbl:=[]) (n:=500) tblNil (by kernel_rfl)
def ee116:TE:=⟨12,[(.agg [(i 4),(i 0),(.sv [[(i 6),(i 0),.nils]] true)])],[],(.ret (.tup [(i 0),(i 15)])),[(.cells 1 1 [(i 15)]),(.cells 1 4 [(i 0),(i 0),(i 4),.nils])]⟩
theorem kk116:ee116.ok gl Trnx.aprog:=tbl_run (tbl:=[]) (n:=500) tblNil (by kernel_rfl)
def ee117:TE:=⟨14,[(.agg [(i 4),(i 0),(.sv [[(i 6),(i 0),.nils]] true)])],[],(.ret (.tup [(i 0),(i 15)])),[(.cells 1 1 [(i 15)]),(.cells 1 4 [(i 0),(i 0),(i 4),.nils])]⟩
theorem kk117:ee117.ok gl Trnx.aprog:=tbl_run (tbl:=[]) (n:=500) tblNil (by kernel_rfl)
def ee118:TE:=⟨53,[(.agg [(i 4),(i 0),(.sv [[(i 1),(i 0),.nils]] true)])],[(.cells 1 1 [(i 0)])],(.ret (.ref 1 0 1)),[(.cells 1 1 [(i 0)]),(.cells 1 4 [(i 2),(i 1),(i 4),(.sl 3 0 1 1 1 false)]),(.cells 1 4 [(i 1),(i 0),(i 1),.nils]),(.cells 1 1 [(.ref 2 0 1)])]⟩
theorem kk118:ee118.ok gl Trnx.aprog:=tbl_run (tbl:=[]) (n:=500) tblNil (by kernel_rfl)
def ee119:TE:=⟨31,[(.agg [(i 4),(i 0),(.sv [[(i 1),(i 0),.nils]] true)]),(i 2),(.sv [[(.sv [[(i 0)],[(i 0)]] true)],[(.sv [[(i 1)]] true)],[(.sv [[(i 7)]] true)]] true),(.sv [[(i 5)]] true)],[],(.ret (.tup [.nils,(i 8)])),[(.cells 1 1 [(i 2)]),(.cells 1 1 [(i 8)]),(.cells 1 4 [(i 2),(i 1),(i 4),(.sl 4 0 1 1 1 false)]),(.cells 1 4 [(i 1),(i 0),(i 1),.nils]),(.cells 1 1 [(.ref 3 0 1)]),(.cells 1 1 [(i 2)]),(.cells 1 1 [(.sv [[(.sv [[(i 0)],[(i 0)]] true)],[(.sv [[(i 1)]] true)],[(.sv [[(i 7)]] true)]] true)])]⟩
theorem kk119:ee119.ok gl Trnx.aprog:=tbl_run (tbl:=[]) (n:=500) tblNil (by kernel_rfl)
def ee120:TE:=⟨26,[(.agg [(i 4),(i 0),(.sv [[(i 6),(i 0),.nils]] true)]),(i (-1)),.nils],[],(.ret (.tup [.nils,(i 15)])),[(.cells 1 1 [(i 15)]),(.cells 1 4 [(i 0),(i 0),(i 4),.nils])]⟩
theorem kk120:ee120.ok gl Trnx.aprog:=tbl_run (tbl:=[]) (n:=500) tblNil (by kernel_rfl)
def ee121:TE:=⟨18,[(.agg [(i 0),(i 0),.nils]),(.agg [(i 4),(i 0),(.sv [[(i 6),(i 0),.nils]] true)])],[],(.ret (i 15)),[(.cells 1 1 [(i 15)]),(.cells 1 4 [(i 0),(i 0),(i 4),.nils])]⟩
theorem kk121:ee121.ok gl Trnx.aprog:=tbl_run (tbl:=[]) (n:=500) tblNil (by kernel_rfl)
def ee122:TE:=⟨27,[(.agg [(i 4),(i 0),(.sv [[(i 6),(i 0),.nils]] true)]),(i (-1)),.nils],[],(.ret (.tup [.nils,(i 15)])),[(.cells 1 1 [(i 15)]),(.cells 1 4 [(i 0),(i 0),(i 4),.nils])]⟩
theorem kk122:ee122.ok gl Trnx.aprog:=tbl_run (tbl:=[]) (n:=500) tblNil (by kernel_rfl)
def ee123:TE:=⟨31,[(.agg [(i 4),(i 0),(.sv [[(i 1),(i 0),.nils]] true)]),(i 2),(.sv [[(.sv [[(i 0)]] true)],[(.sv [[(i 1)],[(i 1)]] true)],[(.sv [[(i 7)]] true)]] true),(.sv [[(i 5)]] true)],[],(.ret (.tup [.nils,(i 8)])),[(.cells 1 1 [(i 2)]),(.cells 1 1 [(i 8)]),(.cells 1 4 [(i 2),(i 1),(i 4),(.sl 4 0 1 1 1 false)]),(.cells 1 4 [(i 1),(i 0),(i 1),.nils]),(.cells 1 1 [(.ref 3 0 1)]),(.cells 1 1 [(i 2)]),(.cells 1 1 [(.sv [[(.sv [[(i 0)]] true)],[(.sv [[(i 1)],[(i 1)]] true)],[(.sv [[(i 7)]] true)]] true)])]⟩
theorem kk123:ee123.ok gl Trnx.aprog:=tbl_run (tbl:=[]) (n:=500) tblNil (by kernel_rfl)
def ee124:TE:=⟨53,[(.agg [(i 4),(i 0),(.sv [[(i 1),(i 0),.nils]] true)])],[(.cells 1 1 [(i 2)]),(.cells 1 1 [(i 0)])],(.ret (.ref 2 0 1)),[(.cells 1 1 [(i 2)]),(.cells 1 1 [(i 0)]),(.cells 1 4 [(i 2),(i 1),(i 4),(.sl 4 0 1 1 1 false)]),(.cells 1 4 [(i 1),(i 0),(i 1),.nils]),(.cells 1 1 [(.ref 3 0 1)])]⟩
theorem kk124:ee124.ok gl Trnx.aprog:=tbl_run (tbl:=[]) (n:=500) tblNil (by kernel_rfl)
def ee125:TE:=⟨12,[(.agg [(i 5),(i 0),(.sv [[(i 1),(i 0),.nils],[(i 1),(i 0),.nils]] true)])],[],(.ret (.tup [(i 0),(i 15)])),[(.cells 1 1 [(i 15)])]⟩
theorem kk125:ee125.ok gl Trnx.aprog:=tbl_run (tbl:=[]) (n:=500) tblNil (by kernel_rfl)
def ee126:TE:=⟨14,[(.agg [(i 5),(i 0),(.sv [[(i 1),(i 0),.nils],[(i 1),(i 0),.nils]] true)])],[],(.ret (.tup [(i 0),(i 15)])),[(.cells 1 1 [(i 15)])]⟩
theorem kk126:ee126.ok gl Trnx.aprog:=tbl_run (tbl:=[]) (n:=500) tblNil (by kernel_rfl)
def ee127:TE:=⟨34,[(.agg [(i 4),(i 0),(.sv [[(i 6),(i 0),.nils]] true)]),(i (-1)),.nils,.nils],[],(.ret (.tup [(.bool false),(i 15)])),[(.cells 1 1 [(i 15)]),(.cells 1 4 [(i 0),(i 0),(i 4),.nils])]⟩
theorem kk127:ee127.ok gl Trnx.aprog:=tbl_run (tbl:=[]) (n:=500) tblNil (by kernel_rfl)
def ee128:TE:=⟨22,[(.agg [(i 4),(i 0),(.sv [[(i 6),(i 0),.nils]] true)]),(.sv [[(i 9),(i 0),.nils]] true)],[],(.ret (.tup [.nils,(i 15)])),[(.cells 1 1 [(i 15)]),(.cells 1 4 [(i 0),(i 0),(i 4),.nils])]⟩
theorem kk128:ee128.ok gl Trnx.aprog:=tbl_run (tbl:=[]) (n:=500) tblNil (by kernel_rfl)
def ee129:TE:=⟨31,[(.agg [(i 4),(i 0),(.sv [[(i 6),(i 0),.nils]] true)]),(i (-1)),.nils,.nils],[],(.ret (.tup [.nils,(i 15)])),[(.cells 1 1 [(i (-1))]),(.cells 1 1 [(i 15)]),(.cells 1 4 [(i 0),(i 0),(i 4),.nils])]⟩
theorem kk129:ee129.ok gl Trnx.aprog:=tbl_run (tbl:=[]) (n:=500) tblNil (by kernel_rfl)
def ee130:TE:=⟨26,[(.agg [(i 5),(i 0),(.sv [[(i 1),(i 0),.nils],[(i 1),(i 0),.nils]] true)]),(i (-1)),.nils],[],(.ret (.tup [.nils,(i 15)])),[(.cells 1 1 [(i 15)])]⟩
theorem kk130:ee130.ok gl Trnx.aprog:=tbl_run (tbl:=[]) (n:=500) tblNil (by kernel_rfl)
def ee131:TE:=⟨18,[(.agg [(i 0),(i 0),.nils]),(.agg [(i 5),(i 0),(.sv [[(i 1),(i 0),.nils],[(i 1),(i 0),.nils]] true)])],[],(.ret (i 15)),[(.cells 1 1 [(i 15)])]⟩
theorem kk131:ee131.ok gl Trnx.aprog:=tbl_run (tbl:=[]) (n:=500) tblNil (by kernel_rfl)
def ee132:TE:=⟨27,[(.agg [(i 5),(i 0),(.sv [[(i 1),(i 0),.nils],[(i 1),(i 0),.nils]] true)]),(i (-1)),.nils],[],(.ret (.tup [.nils,(i 15)])),[(.cells 1 1 [(i 15)])]⟩
theorem kk132:ee132.ok gl Trnx.aprog:=tbl_run (tbl:=[]) (n:=500) tblNil (by kernel_rfl)
def ee133:TE:=⟨20,[(.agg [(i 3),(i 2),(.sv [[(i 1),(i 1),.nils]] true)])],[],(.ret (.bool false)),[(.cells 1 1 [(.func (.func 61) [] [(.ref 0 0 1)])]),(.cells 1 1 [(i 12)])]⟩
theorem kk133:ee133.ok gl Trnx.aprog:=tbl_run (tbl:=[]) (n:=500) tblNil (by kernel_rfl)
def ee134:TE:=⟨29,[(.agg [(i 4),(i 0),(.sv [[(i 6),(i 0),.nils]] true)]),(i (-1)),.nils,(i (-1)),.nils],[],(.ret (.tup [.nils,(i 15)])),[(.cells 1 1 [.nils]),(.cells 1 1 [.nils]),(.cells 1 1 [(i 15)]),(.cells 1 4 [(i 0),(i 0),(i 4),.nils])]⟩
theorem kk134:ee134.ok gl Trnx.aprog:=tbl_run (tbl:=[]) (n:=500) tblNil (by kernel_rfl)
def ee135:TE:=⟨20,[(.agg [(i 1),(i 0),(.sv [[(i 1),(i 1),.nils]] true)])],[],(.ret (.bool false)),[(.cells 1 1 [(.func (.func 61) [] [(.ref 0 0 1)])]),(.cells 1 1 [(i 12)])]⟩
theorem kk135:ee135.ok gl Trnx.aprog:=tbl_run (tbl:=[]) (n:=500) tblNil (by kernel_rfl)
def ee136:TE:=⟨34,[(.agg [(i 5),(i 0),(.sv [[(i 1),(i 0),.nils],[(i 1),(i 0),.nils]] true)]),(i (-1)),.nils,.nils],[],(.ret (.tup [(.bool false),(i 15)])),[(.cells 1 1 [(i 15)])]⟩
theorem kk136:ee136.ok gl Trnx.aprog:=tbl_run (tbl:=[]) (n:=500) tblNil (by kernel_rfl)
def ee137:TE:=⟨22,[(.agg [(i 5),(i 0),(.sv [[(i 1),(i 0),.nils],[(i 1),(i 0),.nils]] true)]),(.sv [[(i 9),(i 0),.nils]] true)],[],(.ret (.tup [.nils,(i 15)])),[(.cells 1 1 [(i 15)])]⟩
theorem kk137:ee137.ok gl Trnx.aprog:=tbl_run (tbl:=[]) (n:=500) tblNil (by kernel_rfl)
def ee138:TE:=⟨20,[(.agg [(i 2),(i 0),(.sv [[(i 1),(i 1),.nils]] true)])],[],(.ret (.bool false)),[(.cells 1 1 [(.func (.func 61) [] [(.ref 0 0 1)])]),(.cells 1 1 [(i 12)])]⟩
theorem kk138:ee138.ok gl Trnx.aprog:=tbl_run (tbl:=[]) (n:=500) tblNil (by kernel_rfl)
def ee139:TE:=⟨31,[(.agg [(i 5),(i 0),(.sv [[(i 1),(i 0),.nils],[(i 1),(i 0),.nils]] true)]),(i (-1)),.nils,.nils],[],(.ret (.tup [.nils,(i 15)])),[(.cells 1 1 [(i (-1))]),(.cells 1 1 [(i 15)])]⟩
theorem kk139:ee139.ok gl Trnx.aprog:=tbl_run (tbl:=[]) (n:=500) tblNil (by kernel_rfl)
def ee140:TE:=⟨12,[(.agg [(i 2),(i 0),(.sv [[(i 1),(i 0),.nils]] true)])],[],(.ret (.tup [(i 0),(i 15)])),[(.cells 1 1 [(i 15)])]⟩
theorem kk140:ee140.ok gl Trnx.aprog:=tbl_run (tbl:=[]) (n:=500) tblNil (by kernel_rfl)
def ee141:TE:=⟨14,[(.agg [(i 2),(i 0),(.sv [[(i 1),(i 0),.nils]] true)])],[],(.ret (.tup [(i 0),(i 15)])),[(.cells 1 1 [(i 15)])]⟩
theorem kk141:ee141.ok gl Trnx.aprog:=tbl_run (tbl:=[]) (n:=500) tblNil (by kernel_rfl)
def ee142:TE:=⟨12,[(.agg [(i 0),(i 0),(.sv [[(i 1),(i 0),.nils]] true)])],[],(.ret (.tup [(i 0),(i 15)])),[(.cells 1 1 [(i 15)])]⟩
theorem kk142:ee142.ok gl Trnx.aprog:=tbl_run (tbl:=[]) (n:=500) tblNil (by kernel_rfl)
def ee143:TE:=⟨14,[(.agg [(i 0),(i 0),(.sv [[(i 1),(i 0),.nils]] true)])],[],(.ret (.tup [(i 0),(i 15)])),[(.cells 1 1 [(i 15)])]⟩
theorem kk143:ee143.ok gl Trnx.aprog:=tbl_run (tbl:=[]) (n:=500) tblNil (by kernel_rfl)
def ee144:TE:=⟨12,[(.agg [(i 4),(i 1),(.sv [[(i 1),(i 0),.nils]] true)])],[],(.ret (.tup [(i 0),(i 15)])),[(.cells 1 1 [(i 15)])]⟩
theorem kk144:ee144.ok gl Trnx.aprog:=tbl_run (tbl:=[]) (n:=500) tblNil (by kernel_rfl)
def ee145:TE:=⟨14,[(.agg [(i 4),(i 1),(.sv [[(i 1),(i 0),.nils]] true)])],[],(.ret (.tup [(i 0),(i 15)])),[(.cells 1 1 [(i 15)])]⟩
theorem kk145:ee145.ok gl Trnx.aprog:=tbl_run (tbl:=[]) (n:=500) tblNil (by kernel_rfl)
def ee146:TE:=⟨26,[(.agg [(i 2),(i 0),(.sv [[(i 1),(i 0),.nils]] true)]),(i (-1)),.nils],[],(.ret (.tup [.nils,(i 15)])),[(.cells 1 1 [(i 15)])]⟩
theorem kk146:ee146.ok gl Trnx.aprog:=tbl_run (tbl:=[]) (n:=500) tblNil (by kernel_rfl)
def ee147:TE:=⟨26,[(.agg [(i 0),(i 0),(.sv [[(i 1),(i 0),.nils]] true)]),(i (-1)),.nils],[],(.ret (.tup [.nils,(i 15)])),[(.cells 1 1 [(i 15)])]⟩
theorem kk147:ee147.ok gl Trnx.aprog:=tbl_run (tbl:=[]) (n:=500) tblNil (by kernel_rfl)
def ee148:TE:=⟨26,[(.agg [(i 4),(i 1),(.sv [[(i 1),(i 0),.nils]] true)]),(i (-1)),.nils],[],(.ret (.tup [.nils,(i 15)])),[(.cells 1 1 [(i 15)])]⟩
theorem kk148:ee148.ok gl Trnx.aprog:=tbl_run (tbl:=[]) (n:=500) tblNil (by kernel_rfl)
def ee149:TE:=⟨29,[(.agg [(i 5),(i 0),(.sv [[(i 1),(i 0),.nils],[(i 1),(i 0),.nils]] true)]),(i (-1)),.nils,(i (-1)),.nils],[],(.ret (.tup [.nils,(i 15)])),[(.cells 1 1 [.nils]),(.cells 1 1 [.nils]),(.cells 1 1 [(i 15)])]⟩
theorem kk149:ee149.ok gl Trnx.aprog:=tbl_run (tbl:=[]) (n:=500) tblNil (by kernel_rfl)
def ee150:TE:=⟨18,[(.agg [(i 0),(i 0),.nils]),(.agg [(i 2),(i 0),(.sv [[(i 1),(i 0),.nils]] true)])],[],(.ret (i 15)),[(.cells 1 1 [(i 15)])]⟩
theorem kk150:ee150.ok gl Trnx.aprog:=tbl_run (tbl:=[]) (n:=500) tblNil (by kernel_rfl)
def ee151:TE:=⟨18,[(.agg [(i 0),(i 0),.nils]),(.agg [(i 0),(i 0),(.sv [[(i 1),(i 0),.nils]] true)])],[],(.ret (i 15)),[(.cells 1 1 [(i 15)])]⟩
theorem kk151:ee151.ok gl Trnx.aprog:=tbl_run (tbl:=[]) (n:=500) tblNil (by kernel_rfl)
def ee152:TE:=⟨18,[(.agg [(i 0),(i 0),.nils]),(.agg [(i 4),(i 1),(.sv [[(i 1),(i 0),.nils]] true)])],[],(.ret (i 15)),[(.cells 1 1 [(i 15)])]⟩
theorem kk152:ee152.ok gl Trnx.aprog:=tbl_run (tbl:=[]) (n:=500) tblNil (by kernel_rfl)
def ee153:TE:=⟨27,[(.agg [(i 2),(i 0),(.sv [[(i 1),(i 0),.nils]] true)]),(i (-1)),.nils],[],(.ret (.tup [.nils,(i 15)])),[(.cells 1 1 [(i 15)])]⟩
theorem kk153:ee153.ok gl Trnx.aprog:=tbl_run (tbl:=[]) (n:=500) tblNil (by kernel_rfl)
def ee154:TE:=⟨27,[(.agg [(i 0),(i 0),(.sv [[(i 1),(i 0),.nils]] true)]),(i (-1)),.nils],[],(.ret (.tup [.nils,(i 15)])),[(.cells 1 1 [(i 15)])]⟩
theorem kk154:ee154.ok gl Trnx.aprog:=tbl_run (tbl:=[]) (n:=500) tblNil (by kernel_rfl)
def ee155:TE:=⟨27,[(.agg [(i 4),(i 1),(.sv [[(i 1),(i 0),.nils]] true)]),(i (-1)),.nils],[],(.ret (.tup [.nils,(i 15)])),[(.cells 1 1 [(i 15)])]⟩
theorem kk155:ee155.ok gl Trnx.aprog:=tbl_run (tbl:=[]) (n:=500) tblNil (by kernel_rfl)
def ee156:TE:=⟨20,[(.agg [(i 3),(i 0),.nils])],[],(.ret (.bool false)),[(.cells 1 1 [(.func (.func 61) [] [(.ref 0 0 1)])]),(.cells 1 1 [(i 12)])]⟩
theorem kk156:ee156.ok gl Trnx.aprog:=tbl_run (tbl:=[]) (n:=500) tblNil (by kernel_rfl)
def ee157:TE:=⟨34,[(.agg [(i 2),(i 0),(.sv [[(i 1),(i 0),.nils]] true)]),(i (-1)),.nils,.nils],[],(.ret (.tup [(.bool false),(i 15)])),[(.cells 1 1 [(i 15)])]⟩
theorem kk157:ee157.ok gl Trnx.aprog:=tbl_run (tbl:=[]) (n:=500) tblNil (by kernel_rfl)
def ee158:TE:=⟨34,[(.agg [(i 0),(i 0),(.sv [[(i 1),(i 0),.nils]] true)]),(i (-1)),.nils,.nils],[],(.ret (.tup [(.bool false),(i 15)])),[(.cells 1 1 [(i 15)])]⟩
theorem kk158:ee158.ok gl Trnx.aprog:=tbl_run (tbl:=[]) (n:=500) tblNil (by kernel_rfl)
def ee159:TE:=⟨34,[(.agg [(i 4),(i 1),(.sv [[(i 1),(i 0),.nils]] true)]),(i (-1)),.nils,.nils],[],(.ret (.tup [(.bool false),(i 15)])),[(.cells 1 1 [(i 15)])]⟩
theorem kk159:ee159.ok gl Trnx.aprog:=tbl_run (tbl:=[]) (n:=500) tblNil (by kernel_rfl)
def ee160:TE:=⟨22,[(.agg [(i 2),(i 0),(.sv [[(i 1),(i 0),.nils]] true)]),(.sv [[(i 9),(i 0),.nils]] true)],[],(.ret (.tup [.nils,(i 15)])),[(.cells 1 1 [(i 15)])]⟩
theorem kk160:ee160.ok gl Trnx.aprog:=tbl_run (tbl:=[]) (n:=500) tblNil (by kernel_rfl)
def ee161:TE:=⟨22,[(.agg [(i 0),(i 0),(.sv [[(i 1),(i 0),.nils]] true)]),(.sv [[(i 9),(i 0),.nils]] true)],[],(.ret (.tup [.nils,(i 15)])),[(.cells 1 1 [(i 15)])]⟩
theorem kk161:ee161.ok gl Trnx.aprog:=tbl_run (tbl:=[]) (n:=500) tblNil (by kernel_rfl)
def ee162:TE:=⟨22,[(.agg [(i 4),(i 1),(.sv [[(i 1),(i 0),.nils]] true)]),(.sv [[(i 9),(i 0),.nils]] true)],[],(.ret (.tup [.nils,(i 15)])),[(.cells 1 1 [(i 15)])]⟩
theorem kk162:ee162.ok gl Trnx.aprog:=tbl_run (tbl:=[]) (n:=500) tblNil (by kernel_rfl)
def ee163:TE:=⟨31,[(.agg [(i 2),(i 0),(.sv [[(i 1),(i 0),.nils]] true)]),(i (-1)),.nils,.nils],[],(.ret (.tup [.nils,(i 15)])),[(.cells 1 1 [(i (-1))]),(.cells 1 1 [(i 15)])]⟩
theorem kk163:ee163.ok gl Trnx.aprog:=tbl_run (tbl:=[]) (n:=500) tblNil (by kernel_rfl)
def ee164:TE:=⟨31,[(.agg [(i 0),(i 0),(.sv [[(i 1),(i 0),.nils]] true)]),(i (-1)),.nils,.nils],[],(.ret (.tup [.nils,(i 15)])),[(.cells 1 1 [(i (-1))]),(.cells 1 1 [(i 15)])]⟩
theorem kk164:ee164.ok gl Trnx.aprog:=tbl_run (tbl:=[]) (n:=500) tblNil (by kernel_rfl)
def ee165:TE:=⟨31,[(.agg [(i 4),(i 1),(.sv [[(i 1),(i 0),.nils]] true)]),(i (-1)),.nils,.nils],[],(.ret (.tup [.nils,(i 15)])),[(.cells 1 1 [(i (-1))]),(.cells 1 1 [(i 15)])]⟩
theorem kk165:ee165.ok gl Trnx.aprog:=tbl_run (tbl:=[]) (n:=500) tblNil (by kernel_rfl)
def ee166:TE:=⟨20,[(.agg [(i 1),(i 2147483648),.nils])],[],(.ret (.bool false)),[(.cells 1 1 [(.func (.func 61) [] [(.ref 0 0 1)])]),(.cells 1 1 [(i 12)])]⟩
theorem kk166:ee166.ok gl Trnx.aprog:=tbl_run (tbl:=[]) (n:=500) tblNil (by kernel_rfl)
def ee167:TE:=⟨12,[(.agg [(i 6),(i 0),.nils])],[],(.ret (.tup [(i 0),(i 15)])),[(.cells 1 1 [(i 15)])]⟩
theorem kk167:ee167.ok gl Trnx.aprog:=tbl_run (tbl:=[]) (n:=500) tblNil (by kernel_rfl)
def ee168:TE:=⟨14,[(.agg [(i 6),(i 0),.nils])],[],(.ret (.tup [(i 0),(i 15)])),[(.cells 1 1 [(i 15)])]⟩
theorem kk168:ee168.ok gl Trnx.aprog:=tbl_run (tbl:=[]) (n:=500) tblNil (by kernel_rfl)
def ee169:TE:=⟨12,[(.agg [(i 1),(i 1),.nils])],[],(.ret (.tup [(i 0),(i 15)])),[(.cells 1 1 [(i 15)])]⟩
theorem kk169:ee169.ok gl Trnx.aprog:=tbl_run (tbl:=[]) (n:=500) tblNil (by kernel_rfl)
def ee170:TE:=⟨14,[(.agg [(i 1),(i 1),.nils])],[],(.ret (.tup [(i 0),(i 15)])),[(.cells 1 1 [(i 15)])]⟩
theorem kk170:ee170.ok gl Trnx.aprog:=tbl_run (tbl:=[]) (n:=500) tblNil (by kernel_rfl)
def ee171:TE:=⟨12,[(.agg [(i 4),(i 0),.nils])],[],(.ret (.tup [(i 0),(i 15)])),[(.cells 1 1 [(i 15)])]⟩
theorem kk171:ee171.ok gl Trnx.aprog:=tbl_run (tbl:=[]) (n:=500) tblNil (by kernel_rfl)
def ee172:TE:=⟨14,[(.agg [(i 4),(i 0),.nils])],[],(.ret (.tup [(i 0),(i 15)])),[(.cells 1 1 [(i 15)])]⟩
theorem kk172:ee172.ok gl Trnx.aprog:=tbl_run (tbl:=[]) (n:=500) tblNil (by kernel_rfl)
def ee173:TE:=⟨12,[(.agg [(i (-1)),(i 0),.nils])],[],(.ret (.tup [(i 0),(i 15)])),[(.cells 1 1 [(i 15)])]⟩
theorem kk173:ee173.ok gl Trnx.aprog:=tbl_run (tbl:=[]) (n:=500) tblNil (by kernel_rfl)
def ee174:TE:=⟨14,[(.agg [(i (-1)),(i 0),.nils])],[],(.ret (.tup [(i 0),(i 15)])),[(.cells 1 1 [(i 15)])]⟩
theorem kk174:ee174.ok gl Trnx.aprog:=tbl_run (tbl:=[]) (n:=500) tblNil (by kernel_rfl)
def ee175:TE:=⟨20,[(.agg [(i 4),(i 1),.nils])],[],(.ret (.bool false)),[(.cells 1 1 [(.func (.func 61) [] [(.ref 0 0 1)])]),(.cells 1 1 [(i 12)])]⟩
theorem kk175:ee175.ok gl Trnx.aprog:=tbl_run (tbl:=[]) (n:=500) tblNil (by kernel_rfl)
def ee176:TE:=⟨29,[(.agg [(i 2),(i 0),(.sv [[(i 1),(i 0),.nils]] true)]),(i (-1)),.nils,(i (-1)),.nils],[],(.ret (.tup [.nils,(i 15)])),[(.cells 1 1 [.nils]),(.cells 1 1 [.nils]),(.cells 1 1 [(i 15)])]⟩
theorem kk176:ee176.ok gl Trnx.aprog:=tbl_run (tbl:=[]) (n:=500) tblNil (by kernel_rfl)
def ee177:TE:=⟨29,[(.agg [(i 0),(i 0),(.sv [[(i 1),(i 0),.nils]] true)]),(i (-1)),.nils,(i (-1)),.nils],[],(.ret (.tup [.nils,(i 15)])),[(.cells 1 1 [.nils]),(.cells 1 1 [.nils]),(.cells 1 1 [(i 15)])]⟩
theorem kk177:ee177.ok gl Trnx.aprog:=tbl_run (tbl:=[]) (n:=500) tblNil (by kernel_rfl)
def ee178:TE:=⟨29,[(.agg [(i 4),(i 1),(.sv [[(i 1),(i 0),.nils]] true)]),(i (-1)),.nils,(i (-1)),.nils],[],(.ret (.tup [.nils,(i 15)])),[(.cells 1 1 [.nils]),(.cells 1 1 [.nils]),(.cells 1 1 [(i 15)])]⟩
theorem kk178:ee178.ok gl Trnx.aprog:=tbl_run (tbl:=[]) (n:=500) tblNil (by kernel_rfl)
def ee179:TE:=⟨20,[(.agg [(i 5),(i 0),.nils])],[],(.ret (.bool false)),[(.cells 1 1 [(.func (.func 61) [] [(.ref 0 0 1)])]),(.cells 1 1 [(i 12)])]⟩
theorem kk179:ee179.ok gl Trnx.aprog:=tbl_run (tbl:=[]) (n:=500) tblNil (by kernel_rfl)
def ee180:TE:=⟨26,[(.agg [(i 6),(i 0),.nils]),(i (-1)),.nils],[],(.ret (.tup [.nils,(i 15)])),[(.cells 1 1 [(i 15)])]⟩
theorem kk180:ee180.ok gl Trnx.aprog:=tbl_run (tbl:=[]) (n:=500) tblNil (by kernel_rfl)
def ee181:TE:=⟨26,[(.agg [(i 1),(i 1),.nils]),(i (-1)),.nils],[],(.ret (.tup [.nils,(i 15)])),[(.cells 1 1 [(i 15)])]⟩
theorem kk181:ee181.ok gl Trnx.aprog:=tbl_run (tbl:=[]) (n:=500) tblNil (by kernel_rfl)
def ee182:TE:=⟨26,[(.agg [(i 4),(i 0),.nils]),(i (-1)),.nils],[],(.ret (.tup [.nils,(i 15)])),[(.cells 1 1 [(i 15)])]⟩
theorem kk182:ee182.ok gl Trnx.aprog:=tbl_run (tbl:=[]) (n:=500) tblNil (by kernel_rfl)
def ee183:TE:=⟨26,[(.agg [(i (-1)),(i 0),.nils]),(i (-1)),.nils],[],(.ret (.tup [.nils,(i 15)])),[(.cells 1 1 [(i 15)])]⟩
theorem kk183:ee183.ok gl Trnx.aprog:=tbl_run (tbl:=[]) (n:=500) tblNil (by kernel_rfl)
def ee184:TE:=⟨18,[(.agg [(i 0),(i 0),.nils]),(.agg [(i 6),(i 0),.nils])],[],(.ret (i 15)),[(.cells 1 1 [(i 15)])]⟩
theorem kk184:ee184.ok gl Trnx.aprog:=tbl_run (tbl:=[]) (n:=500) tblNil (by kernel_rfl)
def ee185:TE:=⟨18,[(.agg [(i 0),(i 0),.nils]),(.agg [(i 1),(i 1),.nils])],[],(.ret (i 15)),[(.cells 1 1 [(i 15)])]⟩
theorem kk185:ee185.ok gl Trnx.aprog:=tbl_run (tbl:=[]) (n:=500) tblNil (by kernel_rfl)
def ee186:TE:=⟨18,[(.agg [(i 0),(i 0),.nils]),(.agg [(i 4),(i 0),.nils])],[],(.ret (i 15)),[(.cells 1 1 [(i 15)])]⟩
theorem kk186:ee186.ok gl Trnx.aprog:=tbl_run (tbl:=[]) (n:=500) tblNil (by kernel_rfl)
def ee187:TE:=⟨27,[(.agg [(i 6),(i 0),.nils]),(i (-1)),.nils],[],(.ret (.tup [.nils,(i 15)])),[(.cells 1 1 [(i 15)])]⟩
theorem kk187:ee187.ok gl Trnx.aprog:=tbl_run (tbl:=[]) (n:=500) tblNil (by kernel_rfl)
def ee188:TE:=⟨18,[(.agg [(i 0),(i 0),.nils]),(.agg [(i (-1)),(i 0),.nils])],[],(.ret (i 15)),[(.cells 1 1 [(i 15)])]⟩
theorem kk188:ee188.ok gl Trnx.aprog:=tbl_run (tbl:=[]) (n:=500) tblNil (by kernel_rfl)
def ee189:TE:=⟨27,[(.agg [(i 1),(i 1),.nils]),(i (-1)),.nils],[],(.ret (.tup [.nils,(i 15)])),[(.cells 1 1 [(i 15)])]⟩
theorem kk189:ee189.ok gl Trnx.aprog:=tbl_run (tbl:=[]) (n:=500) tblNil (by kernel_rfl)
def ee190:TE:=⟨27,[(.agg [(i 4),(i 0),.nils]),(i (-1)),.nils],[],(.ret (.tup [.nils,(i 15)])),[(.cells 1 1 [(i 15)])]⟩
theorem kk190:ee190.ok gl Trnx.aprog:=tbl_run (tbl:=[]) (n:=500) tblNil (by kernel_rfl)
def ee191:TE:=⟨27,[(.agg [(i (-1)),(i 0),.nils]),(i (-1)),.nils],[],(.ret (.tup [.nils,(i 15)])),[(.cells 1 1 [(i 15)])]⟩
theorem kk191:ee191.ok gl Trnx.aprog:=tbl_run (tbl:=[]) (n:=500) tblNil (by kernel_rfl)
def ee192:TE:=⟨34,[(.agg [(i 6),(i 0),.nils]),(i (-1)),.nils,.nils],[],(.ret (.tup [(.bool false),(i 15)])),[(.cells 1 1 [(i 15)])]⟩
theorem kk192:ee192.ok gl Trnx.aprog:=tbl_run (tbl:=[]) (n:=500) tblNil (by kernel_rfl)
def ee193:TE:=⟨34,[(.agg [(i 1),(i 1),.nils]),(i (-1)),.nils,.nils],[],(.ret (.tup [(.bool false),(i 15)])),[(.cells 1 1 [(i 15)])]⟩
theorem kk193:ee193.ok gl Trnx.aprog:=tbl_run (tbl:=[]) (n:=500) tblNil (by kernel_rfl)
def ee194:TE:=⟨34,[(.agg [(i 4),(i 0),.nils]),(i (-1)),.nils,.nils],[],(.ret (.tup [(.bool false),(i 15)])),[(.cells 1 1 [(i 15)])]⟩
theorem kk194:ee194.ok gl Trnx.aprog:=tbl_run (tbl:=[]) (n:=500) tblNil (by kernel_rfl)
def ee195:TE:=⟨34,[(.agg [(i (-1)),(i 0),.nils]),(i (-1)),.nils,.nils],[],(.ret (.tup [(.bool false),(i 15)])),[(.cells 1 1 [(i 15)])]⟩
theorem kk195:ee195.ok gl Trnx.aprog:=tbl_run (tbl:=[]) (n:=500) tblNil (by kernel_rfl)
def ee196:TE:=⟨22,[(.agg [(i 6),(i 0),.nils]),(.sv [[(i 9),(i 0),.nils]] true)],[],(.ret (.tup [.nils,(i 15)])),[(.cells 1 1 [(i 15)])]⟩
theorem kk196:ee196.ok gl Trnx.aprog:=tbl_run (tbl:=[]) (n:=500) tblNil (by kernel_rfl)
def ee197:TE:=⟨22,[(.agg [(i 1),(i 1),.nils]),(.sv [[(i 9),(i 0),.nils]] true)],[],(.ret (.tup [.nils,(i 15)])),[(.cells 1 1 [(i 15)])]⟩
theorem kk197:ee197.ok gl Trnx.aprog:=tbl_run (tbl:=[]) (n:=500) tblNil (by kernel_rfl)
def ee198:TE:=⟨22,[(.agg [(i 4),(i 0),.nils]),(.sv [[(i 9),(i 0),.nils]] true)],[],(.ret (.tup [.nils,(i 15)])),[(.cells 1 1 [(i 15)])]⟩
theorem kk198:ee198.ok gl Trnx.aprog:=tbl_run (tbl:=[]) (n:=500) tblNil (by kernel_rfl)
def ee199:TE:=⟨22,[(.agg [(i (-1)),(i 0),.nils]),(.sv [[(i 9),(i 0),.nils]] true)],[],(.ret (.tup [.nils,(i 15)])),[(.cells 1 1 [(i 15)])]⟩
theorem kk199:ee199.ok gl Trnx.aprog:=tbl_run (tbl:=[]) (n:=500) tblNil (by kernel_rfl)
def ee200:TE:=⟨31,[(.agg [(i 6),(i 0),.nils]),(i (-1)),.nils,.nils],[],(.ret (.tup [.nils,(i 15)])),[(.cells 1 1 [(i (-1))]),(.cells 1 1 [(i 15)])]⟩
theorem kk200:ee200.ok gl Trnx.aprog:=tbl_run (tbl:=[]) (n:=500) tblNil (by kernel_rfl)
def ee201:TE:=⟨31,[(.agg [(i 1),(i 1),.nils]),(i (-1)),.nils,.nils],[],(.ret (.tup [.nils,(i 15)])),[(.cells 1 1 [(i (-1))]),(.cells 1 1 [(i 15)])]⟩
theorem kk201:ee201.ok gl Trnx.aprog:=tbl_run (tbl:=[]) (n:=500) tblNil (by kernel_rfl)
def ee202:TE:=⟨31,[(.agg [(i 4),(i 0),.nils]),(i (-1)),.nils,.nils],[],(.ret (.tup [.nils,(i 15)])),[(.cells 1 1 [(i (-1))]),(.cells 1 1 [(i 15)])]⟩
theorem kk202:ee202.ok gl Trnx.aprog:=tbl_run (tbl:=[]) (n:=500) tblNil (by kernel_rfl)
def ee203:TE:=⟨31,[(.agg [(i (-1)),(i 0),.nils]),(i (-1)),.nils,.nils],[],(.ret (.tup [.nils,(i 15)])),[(.cells 1 1 [(i (-1))]),(.cells 1 1 [(i 15)])]⟩
theorem kk203:ee203.ok gl Trnx.aprog:=tbl_run (tbl:=[]) (n:=500) tblNil (by kernel_rfl)
def ee204:TE:=⟨29,[(.agg [(i 6),(i 0),.nils]),(i (-1)),.nils,(i (-1)),.nils],[],(.ret (.tup [.nils,(i 15)])),[(.cells 1 1 [.nils]),(.cells 1 1 [.nils]),(.cells 1 1 [(i 15)])]⟩
theorem kk204:ee204.ok gl Trnx.aprog:=tbl_run (tbl:=[]) (n:=500) tblNil (by kernel_rfl)
def ee205:TE:=⟨29,[(.agg [(i 1),(i 1),.nils]),(i (-1)),.nils,(i (-1)),.nils],[],(.ret (.tup [.nils,(i 15)])),[(.cells 1 1 [.nils]),(.cells 1 1 [.nils]),(.cells 1 1 [(i 15)])]⟩
theorem kk205:ee205.ok gl Trnx.aprog:=tbl_run (tbl:=[]) (n:=500) tblNil (by kernel_rfl)
def ee206:TE:=⟨29,[(.agg [(i 4),(i 0),.nils]),(i (-1)),.nils,(i (-1)),.nils],[],(.ret (.tup [.nils,(i 15)])),[(.cells 1 1 [.nils]),(.cells 1 1 [.nils]),(.cells 1 1 [(i 15)])]⟩
theorem kk206:ee206.ok gl Trnx.aprog:=tbl_run (tbl:=[]) (n:=500) tblNil (by kernel_rfl)
def ee207:TE:=⟨29,[(.agg [(i (-1)),(i 0),.nils]),(i (-1)),.nils,(i (-1)),.nils],[],(.ret (.tup [.nils,(i 15)])),[(.cells 1 1 [.nils]),(.cells 1 1 [.nils]),(.cells 1 1 [(i 15)])]⟩
theorem kk207:ee207.ok gl Trnx.aprog:=tbl_run (tbl:=[]) (n:=500) tblNil (by kernel_rfl)
def ee208:TE:=⟨27,[(.agg [(i 4),(i 0),(.sv [[(i 1),(i 0),.nils]] true)]),(i 2),(.sv [[(.sv [[(i 0)]] true)],[(.sv [[(i 1)],[(i 1)]] true)],[(.sv [[(i 7)]] true)]] true)],[],(.ret (.tup [.nils,(i 8)])),[(.cells 1 1 [(i 8)]),(.cells 1 4 [(i 2),(i 1),(i 4),(.sl 3 0 1 1 1 false)]),(.cells 1 4 [(i 1),(i 0),(i 1),.nils]),(.cells 1 1 [(.ref 2 0 1)]),(.cells 1 1 [(i 2)]),(.cells 1 1 [(.sv [[(.sv [[(i 0)]] true)],[(.sv [[(i 1)],[(i 1)]] true)],[(.sv [[(i 7)]] true)]] true)])]⟩
theorem kk208:ee208.ok gl Trnx.aprog:=tbl_run (tbl:=[ee118]) (n:=500) (tblCons kk118 tblNil) (by kernel_rfl)
def ee209:TE:=⟨26,[(.agg [(i 4),(i 0),(.sv [[(i 1),(i 0),.nils]] true)]),(i 2),(.sv [[(.sv [[(i 0)]] true)],[(.sv [[(i 1)],[(i 1)]] true)],[(.sv [[(i 7)]] true)]] true)],[],(.ret (.tup [.nils,(i 8)])),[(.cells 1 1 [(i 8)]),(.cells 1 4 [(i 2),(i 1),(i 4),(.sl 3 0 1 1 1 false)]),(.cells 1 4 [(i 1),(i 0),(i 1),.nils]),(.cells 1 1 [(.ref 2 0 1)]),(.cells 1 1 [(i 2)]),(.cells 1 1 [(.sv [[(.sv [[(i 0)]] true)],[(.sv [[(i 1)],[(i 1)]] true)],[(.sv [[(i 7)]] true)]] true)])]⟩
theorem kk209:ee209.ok gl Trnx.aprog:=tbl_run (tbl:=[ee118]) (n:=500) (tblCons kk118 tblNil) (by kernel_rfl)
def ee210:TE:=⟨9,[],[],(.ret (.bool true)),[]⟩
theorem kk210:ee210.ok gl Trnx.aprog:=tbl_run (tbl:=[ee0,ee1,ee2,ee3,ee4,ee5,ee6,ee7,ee8,ee9,ee10,ee11,ee24,ee25,ee26,ee27,ee28,ee29,ee30,ee31,ee32,ee33,ee34,ee35,ee36,ee37,ee38,ee39,ee40,ee41,ee42,ee43,ee44,ee45,ee46,ee47,ee48,ee49,ee50,ee51,ee52,ee53,ee54,ee55,ee56,ee57,ee58,ee59,ee60,ee61,ee62,ee63,ee64,ee65,ee66,ee67,ee68,ee69,ee70,ee71,ee72,ee73,ee74,ee75,ee76,ee77,ee78,ee79,ee80,ee81,ee82,ee83,ee84,ee85,ee86,ee87,ee88,ee89,ee90,ee91,ee92,ee93,ee94,ee95,ee96,ee97,ee98,ee99,ee100,ee101,ee102,ee103,ee104,ee105,ee106,ee107,ee108,ee109,ee110,ee111,ee112,ee113,ee114,ee115,ee116,ee117,ee118,ee119,ee120,ee121,ee122,ee123,ee124,ee125,ee126,ee127,ee128,ee129,ee130,ee131,ee132,ee133,ee134,ee135,ee136,ee137,ee138,ee139,ee140,ee141,ee142,ee143,ee144,ee145,ee146,ee147,ee148,ee149,ee150,ee151,ee152,ee153,ee154,ee155,ee156,ee157,ee158,ee159,ee160,ee161,ee162,ee163,ee164,ee165,ee166,ee167,ee168,ee169,ee170,ee171,ee172,ee173,ee174,ee175,ee176,ee177,ee178,ee179,ee180,ee181,ee182,ee183,ee184,ee185,ee186,ee187,ee188,ee189,ee190,ee191,ee192,ee193,ee194,ee195,ee196,ee197,ee198,ee199,ee200,ee201,ee202,ee203,ee204,ee205,ee206,ee207,ee208,ee209]) (n:=500) (tblCons kk0 (tblCons kk1 (tblCons kk2 (tblCons kk3 (tblCons kk4 (tblCons kk5 (tblCons kk6 (tblCons kk7 (tblCons kk8 (tblCons kk9 (tblCons kk10 (tblCons kk11 (tblCons kk24 (tblCons kk25 (tblCons kk26 (tblCons kk27 (tblCons kk28 (tblCons kk29 (tblCons kk30 (tblCons kk31 (tblCons kk32 (tblCons kk33 (tblCons kk34 (tblCons kk35 (tblCons kk36 (tblCons kk37 (tblCons kk38 (tblCons kk39 (tblCons kk40 (tblCons kk41 (tblCons kk42 (tblCons kk43 (tblCons kk44 (tblCons kk45 (tblCons kk46 (tblCons kk47 (tblCons kk48 (tblCons kk49 (tblCons kk50 (tblCons kk51 (tblCons kk52 (tblCons kk53 (tblCons kk54 (tblCons kk55 (tblCons kk56 (tblCons kk57 (tblCons kk58 (tblCons kk59 (tblCons kk60 (tblCons kk61 (tblCons kk62 (tblCons kk63 (tblCons kk64 (tblCons kk65 (tblCons kk66 (tblCons kk67 (tblCons kk68 (tblCons kk69 (tblCons kk70 (tblCons kk71 (tblCons kk72 (tblCons kk73 (tblCons kk74 (tblCons kk75 (tblCons kk76 (tblCons kk77 (tblCons kk78 (tblCons kk79 (tblCons kk80 (tblCons kk81 (tblCons kk82 (tblCons kk83 (tblCons kk84 (tblCons kk85 (tblCons kk86 (tblCons kk87 (tblCons kk88 (tblCons kk89 (tblCons kk90 (tblCons kk91 (tblCons kk92 (tblCons kk93 (tblCons kk94 (tblCons kk95 (tblCons kk96 (tblCons kk97 (tblCons kk98 (tblCons kk99 (tblCons kk100 (tblCons kk101 (tblCons kk102 (tblCons kk103 (tblCons kk104 (tblCons kk105 (tblCons kk106 (tblCons kk107 (tblCons kk108 (tblCons kk109 (tblCons kk110 (tblCons kk111 (tblCons kk112 (tblCons kk113 (tblCons kk114 (tblCons kk115 (tblCons kk116 (tblCons kk117 (tblCons kk118 (tblCons kk119 (tblCons kk120 (tblCons kk121 (tblCons kk122 (tblCons kk123 (tblCons kk124 (tblCons kk125 (tblCons kk126 (tblCons kk127 (tblCons kk128 (tblCons kk129 (tblCons kk130 (tblCons kk131 (tblCons kk132 (tblCons kk133 (tblCons kk134 (tblCons kk135 (tblCons kk136 (tblCons kk137 (tblCons kk138 (tblCons kk139 (tblCons kk140 (tblCons kk141 (tblCons kk142 (tblCons kk143 (tblCons kk144 (tblCons kk145 (tblCons kk146 (tblCons kk147 (tblCons kk148 (tblCons kk149 (tblCons kk150 (tblCons kk151 (tblCons kk152 (tblCons kk153 (tblCons kk154 (tblCons kk155 (tblCons kk156 (tblCons kk157 (tblCons kk158 (tblCons kk159 (tblCons kk160 (tblCons kk161 (tblCons kk162 (tblCons kk163 (tblCons kk164 (tblCons kk165 (tblCons kk166 (tblCons kk167 (tblCons kk168 (tblCons kk169 (tblCons kk170 (tblCons kk171 (tblCons kk172 (tblCons kk173 (tblCons kk174 (tblCons kk175 (tblCons kk176 (tblCons kk177 (tblCons kk178 (tblCons kk179 (tblCons kk180 (tblCons kk181 (tblCons kk182 (tblCons kk183 (tblCons kk184 (tblCons kk185 (tblCons kk186 (tblCons kk187 (tblCons kk188 (tblCons kk189 (tblCons kk190 (tblCons kk191 (tblCons kk192 (tblCons kk193 (tblCons kk194 (tblCons kk195 (tblCons kk196 (tblCons kk197 (tblCons kk198 (tblCons kk199 (tblCons kk200 (tblCons kk201 (tblCons kk202 (tblCons kk203 (tblCons kk204 (tblCons kk205 (tblCons kk206 (tblCons kk207 (tblCons kk208 (tblCons kk209 tblNil)))))))))))))))))))))))))))))))))))))))))))))))))))))))))))))))))))))))))))))))))))))))))))))))))))))))))))))))))))))))))))))))))))))))))))))))))))))))))))))))))))))))))))))))))))))))))))))))))))))) (by kernel_rfl)
end Go.Proofs.Nst
