/- A part of the law's proof: PartC. -/
import Derived.Test.YtlgehpjbhijknaaGreatDoorPartB
set_option linter.unusedVariables false
set_option linter.unusedSimpArgs false
namespace Go.Proofs.Nst
open Go Go.Am
def NoLong (l:List (Option Tr)):Prop:=∀ t,some t∈l→t.long=false
theorem long_kids {t:Tr} (h:t.long=false):∀ x∈t.l,x.long=false:=by
 obtain ⟨k,n,v,l⟩:=t
 simp only [Tr.long,Bool.or_eq_false_iff] at h
 intro x hx
 rw [Bool.eq_false_iff]
 intro e
 have:Tr.longL l=true:=Tr.longL_iff.2 ⟨x,hx,e⟩
 rw [this] at h
 cases h.2
theorem NoLong.map {l:List (Option Tr)} (h:NoLong l) (f:Option Tr→Option Tr) (h0:f none=none) (hf:∀ t u,f (some t)=some u→u∈t.l):NoLong (l.map f):=by
 intro t ht
 obtain ⟨o,ho,he⟩:=List.mem_map.1 ht
 cases o with
 | none=>rw [h0] at he; cases he
 | some u=>exact long_kids (h u ho) t (hf u t he)
theorem NoLong.partU {l:List (Option Tr)} (h:NoLong l) (k:Int):NoLong (l.map (partU k)):=h.map _ rfl fun t u e=>by
 simp only [Nst.partU] at e
 split at e
 ·exact List.mem_of_getElem? e
 ·cases e
theorem rd_isV:∀ (τ:Ty) (own data:List (List Int)) (i:Nat) (t:Tr),rd τ own data i=some t.vl→isV τ t=true
 | .unit,own,data,i,t,h=>by
  obtain ⟨k,n,v,l⟩:=t
  simp [rd,Tr.vl,Tr.vlL_eq] at h
  obtain ⟨rfl,rfl,rfl⟩:=h
  rfl
 | .int,own,data,i,t,h=>by
  obtain ⟨k,n,v,l⟩:=t
  simp only [rd] at h
  split at h
  ·rename_i hw
   simp [Tr.vl,Tr.vlL_eq] at h
   obtain ⟨rfl,rfl,rfl⟩:=h
   simp [isV,hw]
  ·cases h
 | .pair a b,own,data,i,t,h=>by
  obtain ⟨k,n,v,l⟩:=t
  simp only [rd] at h
  cases e1:rd a (own.take a.own) (data.take a.data) i with
  | none=>rw [e1] at h; cases h
  | some x =>
   cases e2:rd b (own.drop a.own) (data.drop a.data) i with
   | none=>rw [e1,e2] at h; cases h
   | some y =>
    rw [e1,e2] at h
    simp [pairO,Tr.vl,Tr.vlL_eq] at h
    obtain ⟨rfl,rfl,h3⟩:=h
    match l,h3 with
    | [p,q],h3 =>
     simp at h3
     obtain ⟨rfl,rfl⟩:=h3
     have i1:=rd_isV a _ _ _ p e1
     have i2:=rd_isV b _ _ _ q e2
     simp [isV,i1,i2]
 | .sum a b,own,data,i,t,h=>by
  obtain ⟨k,n,v,l⟩:=t
  simp only [rd] at h
  split at h
  ·cases e1:rd a ((own.drop 1).take a.own) (data.take a.data) i with
   | none=>rw [e1] at h; cases h
   | some x =>
    rw [e1] at h
    simp [Tr.vl,Tr.vlL_eq] at h
    obtain ⟨rfl,rfl,h3⟩:=h
    match l,h3 with
    | [p],h3 =>
     simp at h3
     subst h3
     have i1:=rd_isV a _ _ _ p e1
     simp [isV,i1]
  ·split at h
   ·cases e1:rd b ((own.drop 1).drop a.own) (data.drop a.data) i with
    | none=>rw [e1] at h; cases h
    | some x =>
     rw [e1] at h
     simp [Tr.vl,Tr.vlL_eq] at h
     obtain ⟨rfl,rfl,h3⟩:=h
     match l,h3 with
     | [p],h3 =>
      simp at h3
      subst h3
      have i1:=rd_isV b _ _ _ p e1
      simp [isV,i1]
   ·cases h
 | .seq a,own,data,i,t,h=>by
  obtain ⟨k,n,v,l⟩:=t
  simp only [rd] at h
  split at h
  ·cases h
  split at h
  ·simp [Tr.vl,Tr.vlL_eq] at h
   obtain ⟨rfl,rfl,rfl⟩:=h
   rfl
  split at h
  ·cases h
  rename_i hz hc
  cases e1:allO ((List.range (rg own 1 i).toNat).map fun k=>rd a (data.take a.own) (data.drop a.own) (if a.own=0 then 0 else (rg own 0 i).toNat+k)) with
  | none=>rw [e1] at h; cases h
  | some xs =>
   rw [e1] at h
   simp [Tr.vl,Tr.vlL_eq] at h
   obtain ⟨rfl,rfl,rfl⟩:=h
   have h1:=allO_some.1 e1
   simp only [isV,beq_self_eq_true,Bool.true_and,Bool.and_true,List.all_eq_true]
   intro x hx
   obtain ⟨j,hj,rfl⟩:=List.mem_iff_getElem.1 hx
   have:=congrArg (·[j]?) h1
   simp [hj] at this
   obtain ⟨j',h2,h3⟩:=this
   exact rd_isV a _ _ _ _ h3
def Vl.n:Vl→Int
 | .mk _ n _=>n
def Vl.l:Vl→List Vl
 | .mk _ _ l=>l
theorem ecf_ret {n:Nat} {args:List V} {H H':Heap} {v:V} (h:CC n args H (.ret v) H'):ecallF (lim gl Trnz.aprog) H false (.func (.func n) [] []) args=some (.val v H'):=by
 simp only [ecallF,callee_func,List.nil_append,List.append_nil,h]
 simp
theorem ecf_pan {n:Nat} {args:List V} {H H':Heap} {v:V} (h:CC n args H (.pan v) H') (b:Bool):ecallF (lim gl Trnz.aprog) H b (.func (.func n) [] []) args=some (.pan v H'):=by
 simp only [ecallF,callee_func,List.nil_append,List.append_nil,h]
theorem ecf_cut {n:Nat} {args:List V} {H X:Heap} {v u:V} (hc:Closed H) (h:CC n args H (.ret v) (H++X)) (hv:viewW H.length (H++X) v=some u):ecallF (lim gl Trnz.aprog) H true (.func (.func n) [] []) args=some (.val u H):=by
 simp only [ecallF,callee_func,List.nil_append,List.append_nil,h,if_true,hc.to X,hv]
 simp
theorem layL_cells:∀ (τ:Ty) (b:Nat),∀ o∈layL b τ,∃ n sz cs,o=Am.Obj.cells n sz cs
 | .unit,b,o,h=>by simp [layL] at h; exact ⟨_,_,_,h⟩
 | .int,b,o,h=>by simp [layL] at h; exact ⟨_,_,_,h⟩
 | .pair x y,b,o,h=>by
  simp only [layL,List.mem_cons,List.mem_append] at h
  rcases h with rfl | h | rfl | h
  ·exact ⟨_,_,_,rfl⟩
  ·exact layL_cells x _ o h
  ·exact ⟨_,_,_,rfl⟩
  ·exact layL_cells y _ o h
 | .sum x y,b,o,h=>by
  simp only [layL,List.mem_cons,List.mem_append] at h
  rcases h with rfl | h | rfl | h
  ·exact ⟨_,_,_,rfl⟩
  ·exact layL_cells x _ o h
  ·exact ⟨_,_,_,rfl⟩
  ·exact layL_cells y _ o h
 | .seq x,b,o,h=>by
  simp only [layL,List.mem_cons,List.mem_append,List.not_mem_nil,or_false] at h
  rcases h with rfl | h | rfl
  ·exact ⟨_,_,_,rfl⟩
  ·exact layL_cells x _ o h
  ·exact ⟨_,_,_,rfl⟩
theorem layL_ok:∀ (τ:Ty) (b m:Nat),b+objs τ≤m→∀ o∈layL b τ,okO m o=true
 | .unit,b,m,hm,o,h=>by simp [layL] at h; subst h; simp [okO,belowV]
 | .int,b,m,hm,o,h=>by simp [layL] at h; subst h; simp [okO,belowV]
 | .pair x y,b,m,hm,o,h=>by
  simp only [objs] at hm
  have:=objs_pos y
  simp only [layL,List.mem_cons,List.mem_append] at h
  rcases h with rfl | h | rfl | h
  ·simp [okO,belowV]; omega
  ·exact layL_ok x _ m (by omega) o h
  ·simp [okO,belowV]; omega
  ·exact layL_ok y _ m (by omega) o h
 | .sum x y,b,m,hm,o,h=>by
  simp only [objs] at hm
  have:=objs_pos y
  simp only [layL,List.mem_cons,List.mem_append] at h
  rcases h with rfl | h | rfl | h
  ·simp [okO,belowV]; omega
  ·exact layL_ok x _ m (by omega) o h
  ·simp [okO,belowV]; omega
  ·exact layL_ok y _ m (by omega) o h
 | .seq x,b,m,hm,o,h=>by
  simp only [objs] at hm
  have:=objs_pos x
  simp only [layL,List.mem_cons,List.mem_append,List.not_mem_nil,or_false] at h
  rcases h with rfl | h | rfl
  ·simp [okO,belowV]; omega
  ·exact layL_ok x _ m (by omega) o h
  ·simp [okO,belowV]; omega
theorem AllC.app {H X:Heap} (h:AllC H) (hx:AllC X):AllC (H++X):=fun o ho=>by
 rcases List.mem_append.1 ho with ho | ho
 ·exact h o ho
 ·exact hx o ho
def BL (τ:Ty) (n:Int) (R:List (List Int)) (ts:List Tr) (u:V):Prop:=SlV (ts.map Tr.cs) u∧(∀ t∈ts,t.Ok)∧ts.map Tr.vl=bldL τ n R
theorem view_sl {cs:List (List V)} {u:V} (h:SlV cs u) (hp:pureV u=true) (lo:Nat) (G:Heap):viewW lo G u=some u∧∀ e,viewW lo G (.tup [u,.int .i64 e])=some (.tup [u,.int .i64 e]):=by
 cases h <;> exact ⟨rfl,fun _=>rfl⟩
theorem built_use {H:Heap} {b:Nat} {n:Int} {v:V} {R:List (List Int)} {τ:Ty} (hA:AllC H) (hC:Closed H) (hv:belowV H.length v=true) (hR:RegsH H v R) (hL:LayD H b τ) (hz:τ.size<2 ^ 20) (lR:R.length<2 ^ 39) (ll:∀ r∈R,r.length<2 ^ 39) (hn64:is64 n) :
  (bldE τ n R=0∧∃ u ts,ecallF (lim gl Trnz.aprog) H true (.func (.func 50) [] []) [.ref b 0 1,.int .i64 n,v]=some (.val u H)∧BL τ n R ts u) ∨
  (bldE τ n R≠0∧∃ G,ecallF (lim gl Trnz.aprog) H true (.func (.func 50) [] []) [.ref b 0 1,.int .i64 n,v]=some (.pan (wrong (bldE τ n R)) G)∧Le H G):=by
 rcases built_q hA hC hv hR hL hz lR ll hn64 with ⟨h0,w,ts,X,e,h1,h2,h3⟩ | ⟨h0,G,e,h1⟩
 ·exact .inl ⟨h0,w,ts,ecf_cut hC e (view_sl h1 (h1.pure) _ _).1,h1,h2,h3⟩
 ·exact .inr ⟨h0,G,ecf_pan e true,h1⟩
theorem asked_ecf {t:Tr} {τ:Ty} (hτ:IsTy t τ) (ho:t.Ok) (h1:τ.size≤60) (h2:τ.deep≤12) (H:Heap):ecallF (lim gl Trnz.aprog) H false (.func (.func 49) [] []) [.agg t.cs]=some (.val (.ref H.length 0 1) (H++layL H.length τ)):=ecf_ret (asked_q hτ ho h1 h2 H)
structure BldH (H H2:Heap) (τ:Ty):Prop where
 eq:H2=H++[.cells 1 1 [.int .i64 0]]++layL (H.length+1) τ
 cell:H2[H.length]?=some (.cells 1 1 [.int .i64 0])
 lay:LayD H2 (H.length+1) τ
 len:H.length+1<H2.length
 le:Le H H2
theorem bldH (H:Heap) (τ:Ty):BldH H (H++[.cells 1 1 [.int .i64 0]]++layL (H.length+1) τ) τ:=by
 have h1:=layD_of τ (H++[.cells 1 1 [.int .i64 0]]) []
 simp only [List.append_nil,List.length_append,List.length_singleton] at h1
 refine ⟨rfl,by simp,h1,?_,((Le.refl H).app _).app _⟩
 have:=objs_pos τ
 simp [layL_length]
 omega
theorem BldH.allC {H H2:Heap} {τ:Ty} (h:BldH H H2 τ) (hA:AllC H):AllC H2:=by
 rw [h.eq]
 exact (hA.app fun o ho=>⟨_,_,_,List.mem_singleton.1 ho⟩).app (layL_cells τ _)
theorem BldH.closed {H H2:Heap} {τ:Ty} (h:BldH H H2 τ) (hC:Closed H):Closed H2:=by
 rw [h.eq]
 refine (hC.app fun o ho => ?_).app fun o ho=>layL_ok τ _ _ (by simp [layL_length]; omega) o ho
 rw [List.mem_singleton.1 ho]
 exact okO_ints _ _ _ [_]
theorem set_err {H G H2:Heap} {τ:Ty} (hb:BldH H H2 τ) (hA:AllC H) (hl:Le H2 G) (e:Int):∃ X,G.set H.length (.cells 1 1 [.int .i64 e])=H++X∧objCells (G.set H.length (.cells 1 1 [.int .i64 e])) H.length=some (1,1,[.int .i64 e]):=by
 have hg:=hl _ _ _ _ hb.cell
 obtain ⟨X,hX⟩:=hA.ext ((hb.le.trans hl).set_new (b:=H.length) (Nat.le_refl _) (.cells 1 1 [.int .i64 e])) (by
  have:=(List.getElem?_eq_some_iff.1 hg).1
  simp; omega)
 exact ⟨X,hX,objCells_set hg 1 1 _⟩
theorem bad53 {t:Tr} (ho:t.Ok) (hn:t.nodes<2 ^ 50) {e:Int} (he:e=3∨e=15) (ht:tyErr t=e) (H:Heap):∃ X,ecallF (lim gl Trnz.aprog) (H++[.cells 1 1 [.int .i64 0]]) false (.func (.func 49) [] []) [.agg t.cs]=some (.pan (wrong e) (H ++ .cells 1 1 [.int .i64 0] :: X)) ∧
  (lim gl Trnz.aprog).dcall 48 [.ref H.length 0 1] (some (wrong e)) (H ++ .cells 1 1 [.int .i64 0] :: X)=some (none,H ++ .cells 1 1 [.int .i64 e] :: X)∧objCells (H ++ .cells 1 1 [.int .i64 e] :: X) H.length=some (1,1,[.int .i64 e]):=by
 obtain ⟨X,hc⟩:=asked_bad t ho hn he ht (H++[.cells 1 1 [.int .i64 0]])
 have hd:=caught_wrong H.length e 0 (H ++ .cells 1 1 [.int .i64 0] :: X) (by simp)
 rw [List.append_assoc] at hc
 refine ⟨X,ecf_pan hc _,?_,objCells_of (by simp)⟩
 rw [hd]
 simp
theorem bld_ok {τ:Ty} {n:Int} {R:List (List Int)} {ts:List Tr} (h0:bldE τ n R=0) (h:ts.map Tr.vl=bldL τ n R):(∀ t∈ts,isV τ t=true)∧Tr.nodesL ts≤20000∧(ts.length:Int)=n:=by
 simp only [bldE] at h0
 split at h0
 ·cases h0
 split at h0
 ·cases h0
 simp only [bldL] at h
 cases e:rdAll τ (R.take τ.own) (R.drop τ.own) n.toNat with
 | none=>rw [e] at h0; cases h0
 | some l =>
  rw [e] at h h0
  simp only [Option.getD_some] at h
  obtain ⟨h1,h2⟩:=rdAll_get e
  have hln:ts.length=l.length:=by rw [← h]; simp
  refine ⟨fun t ht => ?_,?_,by omega⟩
  ·obtain ⟨i,hi,rfl⟩:=List.mem_iff_getElem.1 ht
   obtain ⟨x,h3,h4⟩:=h2 i (by omega)
   have:ts[i].vl=x:=by
    have:=congrArg (·[i]?) h
    simp [hi] at this
    rw [h4] at this
    simpa using this
   exact rd_isV τ _ _ _ _ (by rw [h3,this])
  ·simp only [sumE] at h0
   split at h0
   ·rename_i hle
    rw [← h,← Tr.vlL_eq,vlL_nodes] at hle
    exact hle
   ·cases h0
theorem headSz_map (cs:List V):headSz 1 (cs.map fun x=>[x])=true:=by cases cs <;> rfl
theorem CellsV.slcT {cs:List V} {v:V} (h:CellsV cs v) {k:Nat} (hk:k≤cs.length):∃ w,slcV v none (some (.int .i64 k)) none false 1=some w∧CellsV (cs.take k) w:=by
 cases h with
 | nil e =>
  have:cs=[]:=by simpa using e
  subst this
  obtain rfl:k=0:=by simpa using hk
  exact ⟨.nils,by simp [slcV,bnds,optInt],.nil rfl⟩
 | sv ex =>
  refine ⟨.sv ((cs.take k).map fun x=>[x]) (ex&&k == cs.length),?_,.sv _⟩
  have hb:bnds cs.length none (some (.int .i64 k)) none=some (0,k,false):=bnds_eq0 hk
  simp [slcV,hb,headSz_map]
theorem CellsV.slcD {cs:List V} {v:V} (h:CellsV cs v) {k:Nat} (hk:k≤cs.length):∃ w,slcV v (some (.int .i64 k)) none none false 1=some w∧CellsV (cs.drop k) w:=by
 cases h with
 | nil e =>
  have:cs=[]:=by simpa using e
  subst this
  obtain rfl:k=0:=by simpa using hk
  exact ⟨.nils,by simp [slcV,bnds,optInt],.nil rfl⟩
 | sv ex =>
  refine ⟨.sv ((cs.drop k).map fun x=>[x]) ex,?_,.sv _⟩
  have hb:bnds cs.length (some (.int .i64 k)) none none=some (k,cs.length,false):=by
   simp [bnds,optInt]; omega
  have e:(cs.map fun x=>[x]).take cs.length=cs.map fun x=>[x]:=List.take_of_length_le (by simp)
  simp [slcV,hb,headSz_map,e]
theorem ListsV.slcT {ls:List (List Int)} {v:V} (h:ListsV ls v) {k:Nat} (hk:k≤ls.length):∃ w,slcV v none (some (.int .i64 k)) none false 1=some w∧ListsV (ls.take k) w:=by
 obtain ⟨vs,h1,h2⟩:=h
 obtain ⟨w,e,hw⟩:=h1.slcT (k:=k) (by rw [← h2.length]; exact hk)
 exact ⟨w,e,_,hw,h2.take k⟩
theorem ListsV.slcD {ls:List (List Int)} {v:V} (h:ListsV ls v) {k:Nat} (hk:k≤ls.length):∃ w,slcV v (some (.int .i64 k)) none none false 1=some w∧ListsV (ls.drop k) w:=by
 obtain ⟨vs,h1,h2⟩:=h
 obtain ⟨w,e,hw⟩:=h1.slcD (k:=k) (by rw [← h2.length]; exact hk)
 exact ⟨w,e,_,hw,h2.drop k⟩
theorem view_pure1 {v:V} {ls:List (List Int)} (h:ListsV ls v) (lo:Nat) (hp:Heap):view1 lo hp v=some v:=by
 obtain ⟨vs,h1,_⟩:=h
 simp [view1,SlV.view h1 lo hp]
theorem view_lists2 {ls ms:List (List Int)} {u w:V} (h:ListsV ls u) (h2:ListsV ms w) (hp:Heap):viewW 0 hp (.tup [u,w])=some (.tup [u,w]):=by
 simp [viewW,viewWL,view_pure1 h,view_pure1 h2]
theorem view_lists3 {ls ms:List (List Int)} {u w:V} (h:ListsV ls u) (h2:ListsV ms w) (b:Bool) (hp:Heap):viewW 0 hp (.tup [u,w,.bool b])=some (.tup [u,w,.bool b]):=by
 have:view1 0 hp (.bool b)=some (.bool b):=rfl
 simp [viewW,viewWL,view_pure1 h,view_pure1 h2,this]
def cutO (K:Int) (own:List (List Int)):List (List Int):=if K=3 then own.drop 1 else own
theorem cut_q (K:Int) (hK:K=2∨K=3) {x y:Ty} (hsx:x.size<2 ^ 20) (hsy:y.size<2 ^ 20) {w:V} {a b:Tr} (hta:IsTy a x) (htb:IsTy b y) (ho:(Tr.mk K 0 w [a,b]).Ok)
  {own data:List (List Int)} {vo vd:V} (h1:ListsV own vo) (h2:ListsV data vd) (l1:(cutO K own).length=x.own+y.own) (l2:data.length=x.data+y.data) (l3:K=3→1≤own.length) :
  (∃ o d,PC 103 [.agg (Tr.mk K 0 w [a,b]).cs,vo,vd,.int .i64 0] (.tup [o,d])∧ListsV ((cutO K own).take x.own) o∧ListsV (data.take x.data) d) ∧
  (∃ o d,PC 103 [.agg (Tr.mk K 0 w [a,b]).cs,vo,vd,.int .i64 1] (.tup [o,d])∧ListsV ((cutO K own).drop x.own) o∧ListsV (data.drop x.data) d):=by
 obtain ⟨_,_,hv,hkids⟩:=ho.inv
 have hbx:=x.both_size
 have hw:=hv.cell
 have i0:=idx_tr hv (i:=0) (by simp)
 simp only [List.getElem_cons_zero,Int.natCast_zero] at i0
 have hca:=cells_tr (hkids a (by simp))
 have c1:=own_q hta (hkids a (by simp)) (by omega)
 have c2:=data_q hta (hkids a (by simp)) (by omega)
 have hp:=pure_tr ho
 have hcut:∃ w1,(if K=3 then slcV vo (some (.int .i64 1)) none none false 1 else some vo)=some w1∧ListsV (cutO K own) w1:=by
  rcases hK with rfl | rfl
  ·exact ⟨vo,by rw [if_neg (by omega)],by simpa [cutO] using h1⟩
  ·obtain ⟨w1,e,hw1⟩:=h1.slcD (k:=1) (l3 rfl)
   exact ⟨w1,by rw [if_pos rfl]; exact e,by simpa [cutO] using hw1⟩
 obtain ⟨w1,e1,hw1⟩:=hcut
 obtain ⟨o1,s1,p1⟩:=hw1.slcT (k:=x.own) (by omega)
 obtain ⟨d1,s2,p2⟩:=h2.slcT (k:=x.data) (by omega)
 obtain ⟨o2,s3,p3⟩:=hw1.slcD (k:=x.own) (by omega)
 obtain ⟨d2,s4,p4⟩:=h2.slcD (k:=x.data) (by omega)
 have hcs:(Tr.mk K 0 w [a,b]).cs=[.int .i64 K,.int .i64 0,w]:=rfl
 rw [hcs] at hp ⊢
 rw [PC] at c1 c2
 refine ⟨⟨o1,d1,pc_of (by simpa [pureL,pureV,h1.pure,h2.pure] using hp) (view_lists2 p1 p2) ?_,p1,p2⟩,⟨o2,d2,pc_of (by simpa [pureL,pureV,h1.pure,h2.pure] using hp) (view_lists2 p3 p4) ?_,p3,p4⟩⟩
 ·refine call_ofQ (af:=Trnz.a103) rfl rfl fun Q hQ => ?_
  simp only [Trnz.a103]
  rcases hK with rfl | rfl
  ·simp at e1
   subst e1
   simp [hw,i0,hca,c1,c2,s1,s2,slotOf,-pcall]
   exact hQ _ _ rfl
  ·simp at e1
   simp [hw,i0,hca,c1,c2,e1,s1,s2,slotOf,-pcall]
   exact hQ _ _ rfl
 ·refine call_ofQ (af:=Trnz.a103) rfl rfl fun Q hQ => ?_
  simp only [Trnz.a103]
  rcases hK with rfl | rfl
  ·simp at e1
   subst e1
   simp [hw,i0,hca,c1,c2,s3,s4,slotOf,-pcall]
   exact hQ _ _ rfl
  ·simp at e1
   simp [hw,i0,hca,c1,c2,e1,s3,s4,slotOf,-pcall]
   exact hQ _ _ rfl
def pszI:Option Nat→Int
 | some n=>n
 | none => -1
theorem pool_q {x:Ty} (hsx:x.size<2 ^ 20) {w:V} {a:Tr} (hta:IsTy a x) (ho:(Tr.mk 4 0 w [a]).Ok) {data:List (List Int)} {vd:V} (h2:ListsV data vd) (l2:data.length=x.own+x.data) :
  (∃ o d,PC 104 [.agg (Tr.mk 4 0 w [a]).cs,vd] (.tup [o,d])∧ListsV (data.take x.own) o∧ListsV (data.drop x.own) d) ∧
  PC 109 [.agg (Tr.mk 4 0 w [a]).cs,vd] (.int .i64 (pszI (psz x data))):=by
 obtain ⟨_,_,hv,hkids⟩:=ho.inv
 have hbx:=x.both_size
 have hw:=hv.cell
 have i0:=idx_tr hv (i:=0) (by simp)
 simp only [List.getElem_cons_zero,Int.natCast_zero] at i0
 have hca:=cells_tr (hkids a (by simp))
 have c1:=own_q hta (hkids a (by simp)) (by omega)
 have hp:=pure_tr ho
 obtain ⟨o1,s1,p1⟩:=h2.slcT (k:=x.own) (by omega)
 obtain ⟨d1,s2,p2⟩:=h2.slcD (k:=x.own) (by omega)
 have hcs:(Tr.mk 4 0 w [a]).cs=[.int .i64 4,.int .i64 0,w]:=rfl
 rw [hcs] at hp ⊢
 rw [PC] at c1
 refine ⟨⟨o1,d1,pc_of (by simpa [pureL,pureV,h2.pure] using hp) (view_lists2 p1 p2) ?_,p1,p2⟩,pc_of (by simpa [pureL,pureV,h2.pure] using hp) (fun h=>rfl) ?_⟩
 ·refine call_ofQ (af:=Trnz.a104) rfl rfl fun Q hQ => ?_
  simp only [Trnz.a104]
  simp [hw,i0,hca,c1,s1,s2,slotOf,-pcall]
  exact hQ _ _ rfl
 ·refine call_ofQ (af:=Trnz.a109) rfl rfl fun Q hQ => ?_
  simp only [Trnz.a109]
  by_cases h0:x.own=0
  ·simp [hw,i0,hca,c1,h0,slotOf,-pcall]
   exact hQ _ _ (by simp [psz,pszI,h0])
  ·have h0':¬ (x.own:Int)=0:=by omega
   have hb:((x.own:Int) == 0)=false:=by simpa using h0'
   obtain ⟨u,e1,e2⟩:=h2.idx (i:=0) (by omega)
   have e3:=e2.len'
   have e4:data[0]'(by omega)=data.headD []:=by
    cases data with
    | nil=>simp at l2; omega
    | cons=>rfl
   rw [e4] at e3
   simp only [Int.natCast_zero] at e1
   simp [hw,i0,hca,c1,hb,e1,e3,slotOf,-pcall]
   exact hQ _ _ (by simp [psz,pszI,h0])
theorem split_q {t:Tr} {τ:Ty} (hτ:IsTy t τ) (ho:t.Ok) (hs:τ.size<2 ^ 20) {R:List (List Int)} {v:V} (hR:ListsV R v) (hl:R.length<2 ^ 40) :
  if R.length=τ.own+τ.data then ∃ o d,PC 53 [.agg t.cs,v] (.tup [o,d,.bool true])∧ListsV (R.take τ.own) o∧ListsV (R.drop τ.own) d else PC 53 [.agg t.cs,v] (.tup [.nils,.nils,.bool false]):=by
 have hbs:=τ.both_size
 have hcc:=cells_tr ho
 have c1:=own_q hτ ho (by omega)
 have c2:=data_q hτ ho (by omega)
 have hlv:=hR.len
 have hwr:IntKind.i64.wrap ((τ.own:Int)+τ.data)=((τ.own+τ.data:Nat):Int):=add_nat _ _ (by omega)
 rw [PC] at c1 c2
 split
 ·rename_i h
  obtain ⟨o,s1,p1⟩:=hR.slcT (k:=τ.own) (by omega)
  obtain ⟨d,s2,p2⟩:=hR.slcD (k:=τ.own) (by omega)
  have hne:((R.length:Int) != ((τ.own+τ.data:Nat):Int))=false:=by simp [h]
  refine ⟨o,d,pc_of (by simp [pureL,pureV,pure_tr ho,hR.pure]) (view_lists3 p1 p2 true) ?_,p1,p2⟩
  refine call_ofQ (af:=Trnz.a53) rfl rfl fun Q hQ => ?_
  simp only [Trnz.a53]
  simp [hcc,c1,c2,hlv,hwr,hne,s1,s2,slotOf,-pcall,-Int.natCast_add]
  exact hQ _ _ rfl
 ·rename_i h
  have hne:((R.length:Int) != ((τ.own+τ.data:Nat):Int))=true:=by simp; omega
  refine pc_of (by simp [pureL,pureV,pure_tr ho,hR.pure]) (fun h=>rfl) ?_
  refine call_ofQ (af:=Trnz.a53) rfl rfl fun Q hQ => ?_
  simp only [Trnz.a53]
  simp [hcc,c1,c2,hlv,hwr,hne,slotOf,-pcall,-Int.natCast_add]
  exact hQ _ _ rfl
abbrev ShapedOK (τ:Ty):Prop:=∀ (t:Tr),IsTy t τ→t.Ok→∀ (n:Nat) (own data:List (List Int)) (vo vd:V),ListsV own vo→ListsV data vd→own.length=τ.own→data.length=τ.data→n<2 ^ 40 →
 (∀ r∈own,r.length<2 ^ 40)→(∀ r∈data,r.length<2 ^ 40)→PC 99 [.agg t.cs,.int .i64 n,vo,vd] (.bool (own.all (fun r=>r.length == n)&&shp τ data))
def ShapedKids:Ty→Prop
 | .pair x y=>ShapedOK x∧ShapedOK y
 | .sum x y=>ShapedOK x∧ShapedOK y
 | .seq x=>ShapedOK x
 | _=>True
theorem mem_td {α:Type} {l:List α} {a:α} {k:Nat}:(a∈l.take k→a∈l)∧(a∈l.drop k→a∈l):=⟨List.mem_of_mem_take,List.mem_of_mem_drop⟩
theorem cutO_mem {K:Int} {own:List (List Int)} {r:List Int} (h:r∈cutO K own):r∈own:=by
 unfold cutO at h
 split at h
 ·exact List.mem_of_mem_drop h
 ·exact h
theorem shaped_step (τ:Ty) (hs:τ.size<2 ^ 20) (ih:ShapedKids τ):ShapedOK τ:=by
 intro t ht ho n own data vo vd h1 h2 l1 l2 hn lo ld
 have hbs:=τ.both_size
 have hcc:=cells_tr ho
 have hlv:=h1.len
 refine pc_of (by simp [pureL,pureV,pure_tr ho,h1.pure,h2.pure]) (fun h=>rfl) ?_
 refine call_ofQ (af:=Trnz.a99) rfl rfl fun Q hQ => ?_
 simp only [Trnz.a99]
 simp [hcc,slotOf,-List.all_eq_true]
 refine loop_nQ own.length (fun i c=>c=⟨[.agg t.cs,.int .i64 n,vo,vd,.agg t.cs,.bool false,.int .i64 i,.undef,.undef,.undef,.undef,.undef,.undef,.undef,.undef],[],none,none,[]⟩∧∀ r∈own.take i,r.length=n) ?_ ⟨rfl,by simp⟩
 rintro I hI i c hi ⟨rfl,hz⟩
 by_cases hlt:i<own.length
 ·have hlt':(i:Int)<own.length:=by omega
  have hw2:IntKind.i64.wrap ((i:Int)+1)=(i:Int)+1:=wrap64 (by omega) (by omega)
  obtain ⟨u,e1,e2⟩:=h1.idx hlt
  have e3:=e2.len'
  have hm:=List.getElem_mem hlt
  by_cases he:(own[i]).length=n
  ·have hne:(((own[i]).length:Int) != (n:Int))=false:=by simp [he]
   have hst:∀ r∈own.take (i+1),r.length=n:=fun r hr=>by
    rcases mem_take_succ hlt hr with h | rfl
    ·exact hz r h
    ·exact he
   generalize own[i]=r0 at *
   simp [hlv,hlt',e1,e3,hne,hw2,slotOf,-List.all_eq_true]
   exact ⟨hlt,hI _ _ ⟨rfl,hst⟩⟩
  ·have hne:(((own[i]).length:Int) != (n:Int))=true:=by simp; omega
   have hf:own.all (fun r=>r.length == n)=false:=by
    rw [Bool.eq_false_iff]
    intro h
    have:=List.all_eq_true.1 h _ hm
    simp at this
    exact he this
   generalize own[i]=r0 at *
   rw [hf,Bool.false_and] at hQ
   simp [hlv,hlt',e1,e3,hne,slotOf,-List.all_eq_true]
   exact hQ _ _ rfl
 ·obtain rfl:i=own.length:=by omega
  rw [List.take_length] at hz
  have ht':own.all (fun r=>r.length == n)=true:=List.all_eq_true.2 fun r hr=>by simp [hz r hr]
  rw [ht',Bool.true_and] at hQ
  cases ht with
  | unit w =>
   simp [hlv,Tr.cs,slotOf,-List.all_eq_true]
   exact hQ _ _ (by simp [shp])
  | int w =>
   simp [hlv,Tr.cs,slotOf,-List.all_eq_true]
   exact hQ _ _ (by simp [shp])
  | pair w a b x y ha hb =>
   obtain ⟨_,_,hv,hkids⟩:=ho.inv
   simp only [Ty.own,Ty.data,Ty.size] at l1 l2 hs
   have i0:=idx_tr hv (i:=0) (by simp)
   have i1:=idx_tr hv (i:=1) (by simp)
   simp only [List.getElem_cons_zero,List.getElem_cons_succ,Int.natCast_zero,Int.natCast_one] at i0 i1
   have hca:=cells_tr (hkids a (by simp))
   have hcb:=cells_tr (hkids b (by simp))
   have hbx:=x.both_size
   obtain ⟨⟨o1,d1,c1,p1,q1⟩,⟨o2,d2,c2,p2,q2⟩⟩:=cut_q 2 (.inl rfl) (by omega) (by omega) ha hb ho h1 h2 (by simp [cutO,l1]) l2 (by omega)
   have r1:=ih.1 a ha (hkids a (by simp)) n _ _ o1 d1 p1 q1 (by simp [cutO]; omega) (by simp; omega) hn (fun r hr=>lo r (cutO_mem (mem_td.1 hr))) (fun r hr=>ld r (mem_td.1 hr))
   have r2:=ih.2 b hb (hkids b (by simp)) n _ _ o2 d2 p2 q2 (by simp [cutO]; omega) (by simp; omega) hn (fun r hr=>lo r (cutO_mem (mem_td.2 hr))) (fun r hr=>ld r (mem_td.2 hr))
   have t1:((cutO 2 own).take x.own).all (fun r=>r.length == n)=true:=List.all_eq_true.2 fun r hr=>by simp [hz r (cutO_mem (mem_td.1 hr))]
   have t2:((cutO 2 own).drop x.own).all (fun r=>r.length == n)=true:=List.all_eq_true.2 fun r hr=>by simp [hz r (cutO_mem (mem_td.2 hr))]
   rw [t1,Bool.true_and] at r1
   rw [t2,Bool.true_and] at r2
   have hcs:(Tr.mk 2 0 w [a,b]).cs=[.int .i64 2,.int .i64 0,w]:=rfl
   simp only [shp] at hQ
   rw [hcs] at c1 c2 hcc ⊢
   rw [PC] at c1 c2 r1 r2
   generalize shp x (data.take x.data)=g1 at *
   generalize shp y (data.drop x.data)=g2 at *
   cases g1 with
   | true =>
    simp [hlv,c1,c2,i0,i1,hca,hcb,r1,r2,slotOf,-List.all_eq_true,-pcall]
    exact hQ _ _ rfl
   | false =>
    simp [hlv,c1,c2,i0,i1,hca,hcb,r1,slotOf,-List.all_eq_true,-pcall]
    exact hQ _ _ rfl
  | sum w a b x y ha hb =>
   obtain ⟨_,_,hv,hkids⟩:=ho.inv
   simp only [Ty.own,Ty.data,Ty.size] at l1 l2 hs
   have i0:=idx_tr hv (i:=0) (by simp)
   have i1:=idx_tr hv (i:=1) (by simp)
   simp only [List.getElem_cons_zero,List.getElem_cons_succ,Int.natCast_zero,Int.natCast_one] at i0 i1
   have hca:=cells_tr (hkids a (by simp))
   have hcb:=cells_tr (hkids b (by simp))
   have hbx:=x.both_size
   obtain ⟨⟨o1,d1,c1,p1,q1⟩,⟨o2,d2,c2,p2,q2⟩⟩:=cut_q 3 (.inr rfl) (by omega) (by omega) ha hb ho h1 h2 (by simp [cutO]; omega) l2 (by omega)
   have r1:=ih.1 a ha (hkids a (by simp)) n _ _ o1 d1 p1 q1 (by simp [cutO]; omega) (by simp; omega) hn (fun r hr=>lo r (cutO_mem (mem_td.1 hr))) (fun r hr=>ld r (mem_td.1 hr))
   have r2:=ih.2 b hb (hkids b (by simp)) n _ _ o2 d2 p2 q2 (by simp [cutO]; omega) (by simp; omega) hn (fun r hr=>lo r (cutO_mem (mem_td.2 hr))) (fun r hr=>ld r (mem_td.2 hr))
   have t1:((cutO 3 own).take x.own).all (fun r=>r.length == n)=true:=List.all_eq_true.2 fun r hr=>by simp [hz r (cutO_mem (mem_td.1 hr))]
   have t2:((cutO 3 own).drop x.own).all (fun r=>r.length == n)=true:=List.all_eq_true.2 fun r hr=>by simp [hz r (cutO_mem (mem_td.2 hr))]
   rw [t1,Bool.true_and] at r1
   rw [t2,Bool.true_and] at r2
   have hcs:(Tr.mk 3 0 w [a,b]).cs=[.int .i64 3,.int .i64 0,w]:=rfl
   simp only [shp] at hQ
   rw [hcs] at c1 c2 hcc ⊢
   rw [PC] at c1 c2 r1 r2
   generalize shp x (data.take x.data)=g1 at *
   generalize shp y (data.drop x.data)=g2 at *
   cases g1 with
   | true =>
    simp [hlv,c1,c2,i0,i1,hca,hcb,r1,r2,slotOf,-List.all_eq_true,-pcall]
    exact hQ _ _ rfl
   | false =>
    simp [hlv,c1,c2,i0,i1,hca,hcb,r1,slotOf,-List.all_eq_true,-pcall]
    exact hQ _ _ rfl
  | seq w a x ha =>
   obtain ⟨_,_,hv,hkids⟩:=ho.inv
   simp only [Ty.own,Ty.data,Ty.size] at l1 l2 hs
   have i0:=idx_tr hv (i:=0) (by simp)
   simp only [List.getElem_cons_zero,Int.natCast_zero] at i0
   have hca:=cells_tr (hkids a (by simp))
   have hbx:=x.both_size
   obtain ⟨⟨o1,d1,c1,p1,q1⟩,c2⟩:=pool_q (by omega) ha ho h2 l2
   have hmx:(if (0:Int)<pszI (psz x data) then pszI (psz x data) else 0)=(((psz x data).getD 0:Nat):Int):=by
    cases psz x data with
    | none=>rfl
    | some m=>simp [pszI]; omega
   have hm:(psz x data).getD 0<2 ^ 40:=by
    simp only [psz]
    split
    ·simp
    ·cases data with
     | nil=>simp
     | cons r _=>simpa using ld r (by simp)
   have r1:=ih a ha (hkids a (by simp)) ((psz x data).getD 0) _ _ o1 d1 p1 q1 (by simp; omega) (by simp; omega) hm (fun r hr=>ld r (mem_td.1 hr)) (fun r hr=>ld r (mem_td.2 hr))
   have hq:((data.take x.own).all (fun r=>r.length == (psz x data).getD 0)&&shp x (data.drop x.own))=shp (.seq x) data:=by
    simp only [shp,psz]
    split
    ·rename_i h0
     rw [h0]; simp
    ·rfl
   rw [hq] at r1
   have hcs:(Tr.mk 4 0 w [a]).cs=[.int .i64 4,.int .i64 0,w]:=rfl
   rw [hcs] at c1 c2 hcc ⊢
   rw [PC] at c1 c2 r1
   generalize shp (.seq x) data=g1 at *
   generalize pszI (psz x data)=sz at *
   simp [hlv,c1,c2,i0,hca,hmx,r1,slotOf,-List.all_eq_true,-pcall]
   exact hQ _ _ rfl
theorem shaped_q:∀ τ:Ty,τ.size<2 ^ 20→ShapedOK τ
 | .unit,hs=>shaped_step _ hs trivial
 | .int,hs=>shaped_step _ hs trivial
 | .pair x y,hs=>shaped_step _ hs (by simp only [Ty.size] at hs; exact ⟨shaped_q x (by omega),shaped_q y (by omega)⟩)
 | .sum x y,hs=>shaped_step _ hs (by simp only [Ty.size] at hs; exact ⟨shaped_q x (by omega),shaped_q y (by omega)⟩)
 | .seq x,hs=>shaped_step _ hs (by simp only [Ty.size] at hs; exact shaped_q x (by omega))
theorem bld_all {τ:Ty} {n:Int} {R:List (List Int)} (h:bldE τ n R=0):(0≤n∧n≤20000)∧R.length=τ.own+τ.data∧(R.take τ.own).all (fun r=>(r.length:Int) == n)=true∧shp τ (R.drop τ.own)=true ∧
  rdAll τ (R.take τ.own) (R.drop τ.own) n.toNat=some (bldL τ n R)∧Vl.nodesL (bldL τ n R)≤20000:=by
 simp only [bldE] at h
 split at h
 ·cases h
 split at h
 ·cases h
 rename_i h1 h2
 have h1:=Decidable.not_not.1 h1
 have h2:=Decidable.not_not.1 h2
 cases e:rdAll τ (R.take τ.own) (R.drop τ.own) n.toNat with
 | none=>rw [e] at h; cases h
 | some l =>
  have hL:bldL τ n R=l:=by simp only [bldL,e]; rfl
  rw [e] at h
  simp only [sumE] at h
  split at h
  ·rename_i hle
   rw [hL]
   exact ⟨h1,h2.1,h2.2.1,h2.2.2,rfl,hle⟩
  ·cases h
abbrev Ext (e:Nat) (D D':List (List Int)):Prop:=Fr (fun r r'=>∃ X:List Int,X.length=e∧r'=r++X) D D'
theorem Ext.head {e:Nat} {D D':List (List Int)} (h:Ext e D D'):(D.headD []).length≤(D'.headD []).length:=by
 cases h with
 | nil=>simp
 | cons h _=>obtain ⟨X,_,rfl⟩:=h; simp
theorem Fr.drop' {α β:Type} {p:α→β→Prop}:∀ {l:List α} {m:List β},Fr p l m→∀ n,Fr p (l.drop n) (m.drop n)
 | _,_,.nil,n=>by simp; exact .nil
 | _,_,.cons h t,0 => .cons h t
 | _,_,.cons h t,n+1=>by simpa using Fr.drop' t n
theorem Ext.all {e:Nat}:∀ {D D':List (List Int)},Ext e D D'→∀ k,D.all (fun r=>r.length == k)=true→D'.all (fun r=>r.length == k+e)=true
 | _,_,.nil,k,_=>rfl
 | _,_,.cons h t,k,ha=>by
  obtain ⟨X,hX,rfl⟩:=h
  simp only [List.all_cons,Bool.and_eq_true,beq_iff_eq] at ha ⊢
  exact ⟨by rw [List.length_append,hX,ha.1],Ext.all t k ha.2⟩
theorem Ext.shp {e:Nat}:∀ (τ:Ty) {D D':List (List Int)},Ext e D D'→shp τ D=true→Nst.shp τ D'=true
 | .unit,_,_,_,_=>rfl
 | .int,_,_,_,_=>rfl
 | .pair a b,D,D',h,hs=>by
  simp only [Nst.shp,Bool.and_eq_true] at hs ⊢
  exact ⟨Ext.shp a (h.take _) hs.1,Ext.shp b (h.drop' _) hs.2⟩
 | .sum a b,D,D',h,hs=>by
  simp only [Nst.shp,Bool.and_eq_true] at hs ⊢
  exact ⟨Ext.shp a (h.take _) hs.1,Ext.shp b (h.drop' _) hs.2⟩
 | .seq a,D,D',h,hs=>by
  simp only [Nst.shp,Bool.and_eq_true] at hs ⊢
  refine ⟨?_,Ext.shp a (h.drop' _) hs.2⟩
  cases h with
  | nil=>simp
  | cons hx t =>
   have:=Ext.all ((Fr.cons hx t).take a.own) _ hs.1
   obtain ⟨X,hX,rfl⟩:=hx
   simpa [hX] using this
theorem Ext.rg {e:Nat}:∀ {D D':List (List Int)},Ext e D D'→∀ {j i:Nat},i<(D.getD j []).length→rg D' j i=Nst.rg D j i
 | _,_,.nil,j,i,h=>by simp at h
 | _,_,.cons h t,0,i,hi=>by
  obtain ⟨X,_,rfl⟩:=h
  simp at hi
  simp [Nst.rg,List.getD_eq_getElem?_getD,List.getElem?_append_left hi]
 | _,_,.cons h t,j+1,i,hi=>by
  have:=Ext.rg t (j:=j) (i:=i) (by simpa using hi)
  simpa [Nst.rg] using this
def zipA (A B:List (List Int)):List (List Int):=List.zipWith (· ++ ·) A B
def jn:Ty→List (List Int)→List (List Int)→List (List Int)→List (List Int)→List (List Int)×List (List Int)
 | .unit,_,_,_,_=>([],[])
 | .int,A,_,B,_=>([A.getD 0 []++B.getD 0 []],[])
 | .pair a b,A,AD,B,BD=>((jn a (A.take a.own) (AD.take a.data) (B.take a.own) (BD.take a.data)).1++(jn b (A.drop a.own) (AD.drop a.data) (B.drop a.own) (BD.drop a.data)).1,
   (jn a (A.take a.own) (AD.take a.data) (B.take a.own) (BD.take a.data)).2++(jn b (A.drop a.own) (AD.drop a.data) (B.drop a.own) (BD.drop a.data)).2)
 | .sum a b,A,AD,B,BD=>((A.getD 0 []++B.getD 0 []) :: ((jn a ((A.drop 1).take a.own) (AD.take a.data) ((B.drop 1).take a.own) (BD.take a.data)).1++(jn b ((A.drop 1).drop a.own) (AD.drop a.data) ((B.drop 1).drop a.own) (BD.drop a.data)).1),
   (jn a ((A.drop 1).take a.own) (AD.take a.data) ((B.drop 1).take a.own) (BD.take a.data)).2++(jn b ((A.drop 1).drop a.own) (AD.drop a.data) ((B.drop 1).drop a.own) (BD.drop a.data)).2)
 | .seq a,A,AD,B,BD=>([A.getD 0 []++(if a.own=0 then B.getD 0 [] else (B.getD 0 []).map (fun x=>IntKind.i64.wrap (x+(AD.headD []).length))),A.getD 1 []++B.getD 1 []],
   (jn a (AD.take a.own) (AD.drop a.own) (BD.take a.own) (BD.drop a.own)).1++(jn a (AD.take a.own) (AD.drop a.own) (BD.take a.own) (BD.drop a.own)).2)
theorem jn_len:∀ (τ:Ty) (A AD B BD:List (List Int)),(jn τ A AD B BD).1.length=τ.own∧(jn τ A AD B BD).2.length=τ.data
 | .unit,_,_,_,_=>⟨rfl,rfl⟩
 | .int,_,_,_,_=>⟨rfl,rfl⟩
 | .pair a b,A,AD,B,BD=>by
  simp only [jn,List.length_append,(jn_len a _ _ _ _).1,(jn_len a _ _ _ _).2,(jn_len b _ _ _ _).1,(jn_len b _ _ _ _).2,Ty.own,Ty.data]
  exact ⟨trivial,trivial⟩
 | .sum a b,A,AD,B,BD=>by
  simp only [jn,List.length_append,List.length_cons,(jn_len a _ _ _ _).1,(jn_len a _ _ _ _).2,(jn_len b _ _ _ _).1,(jn_len b _ _ _ _).2,Ty.own,Ty.data]
  exact ⟨by omega,trivial⟩
 | .seq a,A,AD,B,BD=>by
  simp only [jn,List.length_append,List.length_cons,List.length_nil,(jn_len a _ _ _ _).1,(jn_len a _ _ _ _).2,Ty.own,Ty.data]
  exact ⟨trivial,trivial⟩
def Wide (n:Nat) (A:List (List Int)):Prop:=∀ r∈A,r.length=n
theorem Wide.take {n:Nat} {A:List (List Int)} (h:Wide n A) (k:Nat):Wide n (A.take k):=fun r hr=>h r (List.mem_of_mem_take hr)
theorem Wide.drop {n:Nat} {A:List (List Int)} (h:Wide n A) (k:Nat):Wide n (A.drop k):=fun r hr=>h r (List.mem_of_mem_drop hr)
theorem Wide.getD {n:Nat} {A:List (List Int)} (h:Wide n A) {j:Nat} (hj:j<A.length):(A.getD j []).length=n:=by
 rw [List.getD_eq_getElem?_getD,List.getElem?_eq_getElem hj]
 exact h _ (List.getElem_mem hj)
theorem shp_wide {a:Ty} {D:List (List Int)} (h:((D.take a.own).all fun r=>r.length == (D.headD []).length)=true):Wide (D.headD []).length (D.take a.own):=fun r hr=>by
 simpa using List.all_eq_true.1 h r hr
theorem splice_1 (cs:List V) (i:Nat) (x:V) (h:i<cs.length):splice cs i [x]=cs.set i x:=by
 simp only [splice,List.length_singleton]
 rw [List.set_eq_take_append_cons_drop,if_pos h]
 simp
theorem joined71_c (H:Heap) (vs:List V) (v:V) (hv:CellsV vs v) (css:List (List V)) (hf:Fr (fun cs w=>CellsV cs w) css vs) (hlen:css.flatten.length<2 ^ 40) (hl2:vs.length<2 ^ 40) :
  CC 67 [v] H (.ret (.sl H.length 0 css.flatten.length css.flatten.length 1 false)) (H++[.cells css.flatten.length 1 css.flatten]):=by
 have hlv:=CellsV.len' hv
 refine CallP.eq (call_ofQ (af:=Trnz.a67) rfl rfl fun Q hQ => ?_)
 simp only [Trnz.a67]
 have hvc:=SlV.cell hv
 simp [hlv,hvc,slotOf]
 refine loop_nQ vs.length (fun i c=>∃ x y,c=⟨[v,.nils,.sl H.length 0 (css.take i).flatten.length (css.take i).flatten.length 1 false,x,v,.int .i64 vs.length,.int .i64 i],[],y,none,H++[.cells (css.take i).flatten.length 1 (css.take i).flatten]⟩) ?_ ⟨.undef,none,by simp⟩
 rintro I hI i c hi ⟨x,y,rfl⟩
 by_cases hlt:i<vs.length
 ·have hlt':(i:Int)<vs.length:=by omega
  have hi1:=CellsV.idx' hv hlt
  have hw2:IntKind.i64.wrap ((i:Int)+1)=(i:Int)+1:=wrap64 (by omega) (by omega)
  have hlc:i<css.length:=by rw [hf.length]; exact hlt
  have h1:=hf.get hlc hlt
  have hs1:=CellsV.slen' h1
  have hs2:=CellsV.scells' h1
  have e:(css.take (i+1)).flatten=(css.take i).flatten++css[i]:=by rw [← List.take_append_getElem hlc,List.flatten_append]; simp
  have hbd:(css.take (i+1)).flatten.length≤css.flatten.length:=by
   have:=congrArg List.length (congrArg List.flatten (List.take_append_drop (i+1) css))
   rw [List.flatten_append,List.length_append] at this
   omega
  have hap:=appV_own (h:=H++[.cells (css.take i).flatten.length 1 (css.take i).flatten]) (o:=H.length) (n:=(css.take i).flatten.length) (sz:=1) (bytes:=8) (cs:=(css.take i).flatten) (by simp) hs1 (hs2 _) (by simp) (by
   rw [e,List.length_append] at hbd
   have:room=140737488355328:=by simp [room]
   omega)
  rw [set_last] at hap
  have hcl:=SlV.cell h1
  have hcs:=SlV.cells h1
  generalize vs[i]=w at *
  have hI:=hI (i+1)
  rw [e] at hI
  generalize (css.take i).flatten=F at *
  generalize css[i]=G at *
  simp [hlt',hi1,hap,hw2,hcl,hcs,slotOf]
  exact ⟨hlt,hI _ ⟨w,none,by simp⟩⟩
 ·obtain rfl:i=vs.length:=by omega
  have e:css.take vs.length=css:=by rw [← hf.length,List.take_length]
  rw [e]
  generalize css.flatten=F at *
  simp [slotOf]
  exact hQ _ _ ⟨rfl,rfl⟩
abbrev hdf (f0 j:Nat) (r:List Int):V:=.sl (f0+j) 0 r.length r.length 1 false
def hds:Nat→List (List Int)→List V
 | _,[]=>[]
 | f0,r :: R => .sl f0 0 r.length r.length 1 false :: hds (f0+1) R
theorem hds_len:∀ (f0:Nat) (R:List (List Int)),(hds f0 R).length=R.length
 | _,[]=>rfl
 | f0,r :: R=>by simp [hds,hds_len (f0+1) R]
theorem hds_app:∀ (f0:Nat) (R:List (List Int)) (r:List Int),hds f0 (R++[r])=hds f0 R++[hdf f0 R.length r]
 | _,[],r=>rfl
 | f0,x :: R,r=>by simp [hds,hds_app (f0+1) R r]; omega
theorem hds_get:∀ (f0:Nat) (R:List (List Int)) (i:Nat) (h:i<R.length),(hds f0 R)[i]?=some (hdf f0 i R[i])
 | f0,x :: R,0,h=>rfl
 | f0,x :: R,i+1,h=>by
  have:=hds_get (f0+1) R i (by simpa using h)
  simp only [hds,List.getElem?_cons_succ,this,List.getElem_cons_succ,hdf]
  rw [show f0+1+i=f0+(i+1) by omega]
theorem hds_set:∀ (f0:Nat) (R:List (List Int)) (i:Nat) (r:List Int),r.length=(R.getD i []).length→hds f0 (R.set i r)=hds f0 R
 | f0,[],i,r,_=>rfl
 | f0,x :: R,0,r,h=>by simp at h; simp [hds,h]
 | f0,x :: R,i+1,r,h=>by
  simp only [List.set_cons_succ,hds,hds_set (f0+1) R i r (by simpa using h)]
structure RowsF (H:Heap) (O f0:Nat) (R:List (List Int)):Prop where
 out:H[O]?=some (.cells R.length 1 (hds f0 R))
 row:∀ j (hj:j<R.length),H[f0+j]?=some (.cells R[j].length 1 (icells R[j]))
 off:O<f0∨f0+R.length≤O
def Off (H H':Heap) (f0 n:Nat):Prop:=H'.length=H.length∧∀ i,(i<f0∨f0+n≤i)→H'[i]?=H[i]?
theorem Off.refl (H:Heap) (f0 n:Nat):Off H H f0 n:=⟨rfl,fun _ _=>rfl⟩
theorem Off.trans {H H' H'':Heap} {f0 n:Nat} (h:Off H H' f0 n) (h':Off H' H'' f0 n):Off H H'' f0 n:=⟨h'.1.trans h.1,fun i hi=>(h'.2 i hi).trans (h.2 i hi)⟩
theorem RowsF.at {H:Heap} {O f0:Nat} {R:List (List Int)} (h:RowsF H O f0 R) {j:Nat} (hj:j<R.length) (r:List Int) (hr:r.length=R[j].length) :
  RowsF (H.set (f0+j) (.cells r.length 1 (icells r))) O f0 (R.set j r)∧Off H (H.set (f0+j) (.cells r.length 1 (icells r))) f0 R.length:=by
 have ho:=h.off
 have hlt:=(List.getElem?_eq_some_iff.1 (h.row j hj)).1
 refine ⟨⟨?_,?_,by simpa using ho⟩,by simp,fun i hi=>List.getElem?_set_ne (by omega)⟩
 ·rw [List.getElem?_set_ne (by omega),h.out,hds_set _ _ _ _ (by simp [hr,hj]),List.length_set]
 ·intro i hi
  simp at hi
  by_cases e:j=i
  ·subst e
   simp [hlt]
  ·rw [List.getElem?_set_ne (by omega),h.row i hi]
   simp [e]
abbrev outV (O n:Nat):V:=.sl O 0 n n 1 false
theorem out_idx {O n j:Nat} (h:j<n):idxV (outV O n) j 1=some (.ref O j n):=by
 simp only [idxV,Int.toNat_natCast]
 rw [if_pos ⟨by omega,by omega,trivial⟩]
 simp
theorem RowsF.load {H:Heap} {O f0:Nat} {R:List (List Int)} (h:RowsF H O f0 R) {j:Nat} (hj:j<R.length):loadV H (.ref O j R.length) 1 false=some (hdf f0 j R[j]) :=
 load_ref h.out (by rw [hds_get f0 R j hj])
theorem hdf_idx {f0 j k:Nat} {r:List Int} (h:k<r.length):idxV (hdf f0 j r) k 1=some (.ref (f0+j) k r.length):=by
 simp only [idxV,Int.toNat_natCast]
 rw [if_pos ⟨by omega,by omega,trivial⟩]
 simp
theorem RowsF.cell {H:Heap} {O f0:Nat} {R:List (List Int)} (h:RowsF H O f0 R) {j k:Nat} (hj:j<R.length) (hk:k<R[j].length):loadV H (.ref (f0+j) k R[j].length) 1 false=some (.int .i64 R[j][k]):=by
 refine load_ref (h.row j hj) ?_
 simp [hk]
theorem RowsF.store {H:Heap} {O f0:Nat} {R:List (List Int)} (h:RowsF H O f0 R) {j k:Nat} (hj:j<R.length) (hk:k<R[j].length) (x:Int):storeV H (.ref (f0+j) k R[j].length) (.int .i64 x) 1=some (H.set (f0+j) (.cells (R[j].set k x).length 1 (icells (R[j].set k x)))):=by
 have ho:=objCells_of (h.row j hj)
 have hsp:splice (icells R[j]) k [.int .i64 x]=icells (R[j].set k x):=by
  rw [splice_1 _ _ _ (by simpa using hk)]
  simp [icells,List.map_set]
 simp only [storeV,ho]
 simp [hsp,-splice,show k+1≤R[j].length by omega]
abbrev BoolsV (l:List Bool) (v:V):Prop:=CellsV (l.map fun b => .bool b) v
theorem BoolsV.len' {l:List Bool} {v:V} (h:BoolsV l v):lenV v=some (.int .i64 l.length):=by
 have:=CellsV.len' h
 simpa using this
theorem BoolsV.idx' {l:List Bool} {v:V} (h:BoolsV l v) {i:Nat} (hi:i<l.length):idxV v i 1=some (.pv [.bool (l.getD i false)]):=by
 have:=CellsV.idx' h (i:=i) (by simpa using hi)
 rw [this]
 simp [List.getD_eq_getElem?_getD,hi]
theorem bools_pure (l:List Bool):pureL (l.map fun b=>V.bool b)=true:=pureL_all.2 fun c hc=>by
 obtain ⟨n,_,rfl⟩:=List.mem_map.1 hc
 rfl
theorem row_at {own:List (List Int)} {vo:V} (h:ListsV own vo) {n:Nat} (hw:Wide n own) {j i:Nat} (hj:j<own.length) (hi:i<n) :
  ∃ u,idxV vo j 1=some (.pv [u])∧idxV u i 1=some (.pv [.int .i64 (rg own j i)]):=by
 obtain ⟨u,e1,e2⟩:=h.idx hj
 have hl:i<(own[j]).length:=by rw [hw _ (List.getElem_mem hj)]; exact hi
 refine ⟨u,e1,?_⟩
 rw [e2.idx' hl]
 simp [rg,List.getD_eq_getElem?_getD,hj,hl]
theorem own_idx {n i:Nat} (b:Nat) (h:i<n):idxV (.sl b 0 n n 1 false) i 1=some (.ref b i n):=by
 have:(i:Int)<n:=by omega
 simp [idxV,this]
theorem store_own {H:Heap} {b n i:Nat} {cs:List V} (hb:H[b]?=some (.cells n 1 cs)) (hl:cs.length=n) (hi:i<n) (x:V) (hx:cellsV x=[x]) (hc:isCell x=true):storeV H (.ref b i n) x 1=some (H.set b (.cells n 1 (cs.set i x))):=by
 simp only [storeV,objCells_of hb]
 rw [if_pos ⟨trivial,by omega,by rw [hx]; rfl,by rw [hx]; simp [hc]⟩,hx,splice_1 _ _ _ (by omega)]
abbrev RightOK (τ:Ty):Prop:=∀ (t:Tr),IsTy t τ→t.Ok→∀ (own data:List (List Int)) (want:List Bool) (vo vd vw:V),ListsV own vo→ListsV data vd→BoolsV want vw→own.length=τ.own→data.length=τ.data →
 Wide want.length own→shp τ data=true→(∀ r∈data,r.length<2 ^ 39)→want.length<2 ^ 39→∃ b,PC 100 [.agg t.cs,vo,vd,vw] (.bool b)∧(b=true↔RightP τ own data want)
theorem shp_seq {x:Ty} {data:List (List Int)} (h:shp (.seq x) data=true):Wide ((psz x data).getD 0) (data.take x.own)∧shp x (data.drop x.own)=true:=by
 simp only [shp,Bool.and_eq_true] at h
 refine ⟨?_,h.2⟩
 by_cases h0:x.own=0
 ·rw [h0]; intro r hr; simp at hr
 ·have:psz x data=some (data.headD []).length:=by rw [psz,if_neg h0]
  rw [this]
  exact shp_wide h.1
theorem psz_lt {x:Ty} {data:List (List Int)} {N:Nat} (hN:0<N) (ld:∀ r∈data,r.length<N):(psz x data).getD 0<N:=by
 simp only [psz]
 split
 ·simpa using hN
 ·cases data with
  | nil=>simpa using hN
  | cons r _=>simpa using ld r (by simp)
theorem psz_max (o:Option Nat):(if (0:Int)<pszI o then pszI o else 0)=((o.getD 0:Nat):Int):=by
 cases o with
 | none=>rfl
 | some m=>simp [pszI]; omega
theorem map_set_b (l:List Bool) (i:Nat):(l.map fun b=>V.bool b).set i (.bool true)=(l.set i true).map fun b=>V.bool b:=by simp [List.map_set]
theorem rightSeq_q (x:Ty) (hs:x.size<2 ^ 20) (ih:RightOK x) {w:V} {a:Tr} (ha:IsTy a x) (ho:(Tr.mk 4 0 w [a]).Ok) (own data:List (List Int)) (want:List Bool) (vo vd vw:V) (h1:ListsV own vo) (h2:ListsV data vd)
  (h3:BoolsV want vw) (l1:own.length=2) (l2:data.length=x.own+x.data) (hw:Wide want.length own) (hsh:shp (.seq x) data=true) (ld:∀ r∈data,r.length<2 ^ 39) (lw:want.length<2 ^ 39) :
  ∃ b,PC 124 [.agg (Tr.mk 4 0 w [a]).cs,vo,vd,vw] (.bool b)∧(b=true↔RightP (.seq x) own data want):=by
 obtain ⟨_,_,hv,hkids⟩:=ho.inv
 have hbx:=x.both_size
 have i0:=idx_tr hv (i:=0) (by simp)
 simp only [List.getElem_cons_zero,Int.natCast_zero] at i0
 have hca:=cells_tr (hkids a (by simp))
 have hwc:=hv.cell
 obtain ⟨⟨o1,d1,c1,p1,q1⟩,c2⟩:=pool_q (by omega) ha ho h2 l2
 have hmx:=psz_max (psz x data)
 have hsz:=psz_lt (x:=x) (by omega) ld
 obtain ⟨sw,sx⟩:=shp_seq hsh
 have hlw:=h3.len'
 have hroom:room=140737488355328:=by simp [room]
 have key:CallP gl Trnz.aprog 124 [.agg (Tr.mk 4 0 w [a]).cs,vo,vd,vw] [] (fun r h'=>∃ b,r = .ret (.bool b)∧(b=true↔RightP (.seq x) own data want)):=by
  have hcs:(Tr.mk 4 0 w [a]).cs=[.int .i64 4,.int .i64 0,w]:=rfl
  rw [hcs] at c1 c2 ⊢
  rw [PC] at c1 c2
  obtain ⟨sz,hszd⟩:∃ sz,sz=(psz x data).getD 0:=⟨_,rfl⟩
  obtain ⟨zi,hzi⟩:∃ zi,zi=pszI (psz x data):=⟨_,rfl⟩
  rw [← hszd] at hmx hsz
  rw [← hzi] at hmx c2
  have hmk:(List.replicate sz [V.bool false]).flatten=(comeS sz own want 0).map fun b=>V.bool b:=by simp [comeS,List.map_replicate]
  refine call_ofQ (af:=Trnz.a124) rfl rfl fun Q hQ => ?_
  simp only [Trnz.a124]
  have m1:(sz:Int)≤140737488355328:=by omega
  have m2:(sz:Int)≤9223372036854775807:=by omega
  simp [hwc,c2,hmx,hroom,m1,m2,hmk,slotOf,-pcall,-List.all_eq_true,-List.flatten_replicate_singleton]
  refine loop_nQ want.length (fun i c=>(∀ j,j<i→want.getD j false=true→seqOK (psz x data) own j)∧∃ s9 s10 s11,c=⟨[.agg [.int .i64 4,.int .i64 0,w],vo,vd,vw,.agg [.int .i64 4,.int .i64 0,w],.bool false,.int .i64 zi,.sl 0 0 sz sz 1 false,.int .i64 i,s9,s10,s11,.undef,.undef],[],none,none,
   [.cells sz 1 ((comeS sz own want i).map fun b => .bool b)]⟩) ?_ ⟨fun j hj=>by omega,.undef,.undef,.undef,by simp [comeS]⟩
  rintro I hI i c hi ⟨hz,s9,s10,s11,rfl⟩
  by_cases hlt:i<want.length
  ·have hlt':(i:Int)<want.length:=by omega
   have hw2:IntKind.i64.wrap ((i:Int)+1)=(i:Int)+1:=wrap64 (by omega) (by omega)
   have e1:=h3.idx' hlt
   have hI:=hI (i+1)
   simp only [comeS] at hI
   cases eb:want.getD i false with
   | false =>
    rw [eb] at e1 hI
    simp only [Bool.false_eq_true,if_false] at hI
    simp [hlw,hlt',e1,hw2,slotOf,-List.all_eq_true]
    exact ⟨hlt,hI _ ⟨fun j hj hj2=>by
     by_cases e:j=i
     ·subst e; rw [eb] at hj2; cases hj2
     ·exact hz j (by omega) hj2,_,_,_,rfl⟩⟩
   | true =>
    rw [eb] at e1 hI
    simp only [if_true] at hI
    obtain ⟨u0,r1,r2⟩:=row_at h1 hw (j:=0) (i:=i) (by omega) hlt
    obtain ⟨u1,r3,r4⟩:=row_at h1 hw (j:=1) (i:=i) (by omega) hlt
    simp only [Int.natCast_zero,Int.natCast_one] at r1 r3
    have hclen:=comeS_len sz own want i
    have bad:¬ seqOK (psz x data) own i→∃ b,R.ret (.bool false) = .ret (.bool b)∧(b=true↔RightP (.seq x) own data want):=fun hn=>⟨false,rfl,by
     rw [rightP_seq]
     simp only [Bool.false_eq_true,false_iff]
     rintro ⟨h,_⟩
     exact hn (h i eb)⟩
    have lies:=lies_q (rg own 1 i) 0 4096
    rw [PC] at lies
    have good:seqOK (psz x data) own i→∀ j,j<i+1→want.getD j false=true→seqOK (psz x data) own j:=fun hok j hj hj2=>by
     by_cases e:j=i
     ·subst e; exact hok
     ·exact hz j (by omega) hj2
    simp only [seqOK] at bad good
    generalize rg own 0 i=st at *
    generalize rg own 1 i=mn at *
    generalize comeS sz own want i=C at *
    by_cases hm:0≤mn∧mn≤4096
    ·have hmd:decide (0≤mn∧mn≤4096)=true:=decide_eq_true hm
     rw [hmd] at lies
     by_cases hm0:mn=0
     ·subst hm0
      have good:=good ⟨by omega,by omega,.inl rfl⟩
      simp only [Int.toNat_zero,markS] at hI
      cases hp:psz x data with
      | none =>
       rw [hp] at hzi
       simp only [pszI] at hzi
       subst hzi
       simp [hlw,hlt',e1,r1,r2,r3,r4,lies,slotOf,-pcall,-List.all_eq_true]
       refine loop_nQ 0 (fun k c=>c=⟨[.agg [.int .i64 4,.int .i64 0,w],vo,vd,vw,.agg [.int .i64 4,.int .i64 0,w],.bool false,.int .i64 (-1),.sl 0 0 sz sz 1 false,.int .i64 i,.int .i64 st,.int .i64 0,.int .i64 0,.undef,.undef],[],none,none,[.cells sz 1 (C.map fun b => .bool b)]⟩) ?_ rfl
       rintro J hJ k c hk rfl
       simp [hw2,slotOf,-List.all_eq_true]
       exact ⟨hlt,hI _ ⟨good,_,_,_,rfl⟩⟩
      | some m =>
       rw [hp] at hzi hszd
       simp only [pszI,Option.getD_some] at hzi hszd
       subst hzi hszd
       have hz0:(0:Int)≤sz:=by omega
       simp [hlw,hlt',e1,r1,r2,r3,r4,lies,hz0,slotOf,-pcall,-List.all_eq_true]
       refine loop_nQ 0 (fun k c=>c=⟨[.agg [.int .i64 4,.int .i64 0,w],vo,vd,vw,.agg [.int .i64 4,.int .i64 0,w],.bool false,.int .i64 sz,.sl 0 0 sz sz 1 false,.int .i64 i,.int .i64 st,.int .i64 0,.int .i64 0,.undef,.undef],[],none,none,[.cells sz 1 (C.map fun b => .bool b)]⟩) ?_ rfl
       rintro J hJ k c hk rfl
       simp [hw2,hz0,slotOf,-List.all_eq_true]
       exact ⟨hlt,hI _ ⟨good,_,_,_,rfl⟩⟩
     ·have hmp:0<mn:=by omega
      by_cases hst:st<0
      ·simp [hlw,hlt',e1,r1,r2,r3,r4,lies,hmp,hst,slotOf,-pcall,-List.all_eq_true]
       exact hQ _ _ (bad (by rintro ⟨_,_,h | h⟩ <;> omega))
      ·have hst2:¬ st<0:=hst
       cases hp:psz x data with
       | none =>
        have good:=good ⟨hm.1,hm.2,.inr ⟨by omega,fun n hn=>by rw [hp] at hn; cases hn⟩⟩
        rw [hp] at hzi hszd
        simp only [pszI,Option.getD_none] at hzi hszd
        subst hzi hszd
        have hC:C=[]:=List.length_eq_zero_iff.1 hclen
        subst hC
        have hmk:markS [] st.toNat mn.toNat=[]:=List.length_eq_zero_iff.1 (by rw [markS_len]; rfl)
        rw [hmk] at hI
        simp [hlw,hlt',e1,r1,r2,r3,r4,lies,hmp,hst2,slotOf,-pcall,-List.all_eq_true]
        refine loop_nQ 0 (fun k c=>c=⟨[.agg [.int .i64 4,.int .i64 0,w],vo,vd,vw,.agg [.int .i64 4,.int .i64 0,w],.bool false,.int .i64 (-1),.sl 0 0 0 0 1 false,.int .i64 i,.int .i64 st,.int .i64 mn,.int .i64 0,.undef,.undef],[],none,none,[.cells 0 1 []]⟩) ?_ rfl
        rintro J hJ k c hk rfl
        simp [hw2,slotOf,-List.all_eq_true]
        exact ⟨hlt,hI _ ⟨good,_,_,_,rfl⟩⟩
       | some m =>
        rw [hp] at hzi hszd
        simp only [pszI,Option.getD_some] at hzi hszd
        subst hzi hszd
        have hz0:(0:Int)≤sz:=by omega
        have hw3:IntKind.i64.wrap ((sz:Int) - mn)=(sz:Int) - mn:=wrap64 (by omega) (by omega)
        by_cases hgt:(sz:Int) - mn<st
        ·simp [hlw,hlt',e1,r1,r2,r3,r4,lies,hmp,hst2,hz0,hw3,hgt,slotOf,-pcall,-List.all_eq_true]
         refine hQ _ _ (bad ?_)
         rintro ⟨_,_,h | ⟨_,h⟩⟩
         ·omega
         ·have:=h sz hp; omega
        ·have good2:=good ⟨hm.1,hm.2,.inr ⟨by omega,fun n hn=>by rw [hp] at hn; cases hn; omega⟩⟩
         obtain ⟨s',rfl⟩:∃ s':Nat,st=s':=⟨st.toNat,by omega⟩
         obtain ⟨m',rfl⟩:∃ m':Nat,mn=m':=⟨mn.toNat,by omega⟩
         simp only [Int.toNat_natCast] at hI
         have hmpn:0<m':=by omega
         simp [hlw,hlt',e1,r1,r2,r3,r4,lies,hmp,hmpn,hst2,hz0,hw3,hgt,slotOf,-pcall,-List.all_eq_true]
         refine loop_nQ m' (fun k c=>c=⟨[.agg [.int .i64 4,.int .i64 0,w],vo,vd,vw,.agg [.int .i64 4,.int .i64 0,w],.bool false,.int .i64 sz,.sl 0 0 sz sz 1 false,.int .i64 i,.int .i64 s',.int .i64 m',.int .i64 k,.undef,.undef],[],none,none,[.cells sz 1 ((markS C s' k).map fun b => .bool b)]⟩) ?_ (by simp [markS])
         rintro J hJ k c hk rfl
         by_cases hkl:k<m'
         ·have hkl':(k:Int)<m':=by omega
          have hwk:IntKind.i64.wrap ((k:Int)+1)=(k:Int)+1:=wrap64 (by omega) (by omega)
          have hws:IntKind.i64.wrap ((s':Int)+k)=((s'+k:Nat):Int):=add_nat _ _ (by omega)
          have hix:=own_idx (n:=sz) (i:=s'+k) 0 (by omega)
          have hss:=store_own (H:=[.cells sz 1 ((markS C s' k).map fun b => .bool b)]) (b:=0) (n:=sz) (i:=s'+k) rfl (by simp [markS_len,hclen]) (by omega) (.bool true) rfl rfl
          rw [map_set_b] at hss
          have hJ:=hJ (k+1)
          simp only [markS] at hJ
          generalize markS C s' k=M at *
          simp [hz0,hkl',hws,hix,hss,hwk,slotOf,-List.all_eq_true,-Int.natCast_add]
          exact ⟨hkl,hJ _ (by rw [List.map_set]; rfl)⟩
         ·obtain rfl:k=m':=by omega
          simp [hz0,hw2,slotOf,-List.all_eq_true]
          exact ⟨hlt,hI _ ⟨good2,_,_,_,rfl⟩⟩
    ·have hmd:decide (0≤mn∧mn≤4096)=false:=decide_eq_false hm
     rw [hmd] at lies
     simp [hlw,hlt',e1,r1,r2,r3,r4,lies,slotOf,-pcall,-List.all_eq_true]
     exact hQ _ _ (bad (by rintro ⟨h1,h2,_⟩; exact hm ⟨h1,h2⟩))
  ·obtain rfl:i=want.length:=by omega
   have hcw:comeS sz own want want.length=comeW x own data want:=by rw [hszd]; rfl
   have hclen:(comeW x own data want).length=sz:=by rw [← hcw,comeS_len]
   rw [hcw]
   have hfz:=view_own (H:=[.cells sz 1 ((comeW x own data want).map fun b=>V.bool b)]) (b:=0) (n:=sz) (cs:=(comeW x own data want).map fun b=>V.bool b) rfl (by simp [hclen]) (bools_pure _)
   obtain ⟨u,hu⟩:∃ u,u=V.sv (((comeW x own data want).map fun b=>V.bool b).map fun x=>[x]) false:=⟨_,rfl⟩
   have bu:BoolsV (comeW x own data want) u:=by rw [hu]; exact .sv false
   rw [← hu] at hfz
   obtain ⟨b,c3,hb⟩:=ih a ha (hkids a (by simp)) _ _ _ o1 d1 u p1 q1 bu (by simp; omega) (by simp; omega) (by rw [hclen,hszd]; exact sw) sx (fun r hr=>ld r (mem_td.2 hr)) (by omega)
   rw [PC] at c3
   have hQ:=hQ (.ret (.bool b)) [.gone] ⟨b,rfl,by
    rw [hb,rightP_seq]
    constructor
    ·intro h
     exact ⟨fun i hi=>hz i (want_lt hi) hi,fun _=>h⟩
    ·rintro ⟨_,h⟩
     by_cases h0:x.own=0
     ·intro i hi
      have:=want_lt hi
      rw [hclen,hszd,psz,if_pos h0] at this
      simp at this
     ·exact h h0⟩
   generalize ((comeW x own data want).map fun b=>V.bool b)=cw at *
   simp [hlw,WX_frz,nthV_eq,hfz,c1,i0,hca,c3,slotOf,-pcall,-List.all_eq_true]
   exact hQ
 obtain ⟨r,h',e,b,rfl,hb⟩:=OptP.ex key
 refine ⟨b,?_,hb⟩
 simp only [PC,pcall,callee_func,List.append_nil,List.nil_append]
 rw [if_pos (by simp [pureL,pureV,pure_tr ho,h1.pure,h2.pure,SlV.pure h3]),e]
 rfl
def RightKids:Ty→Prop
 | .pair x y=>RightOK x∧RightOK y
 | .sum x y=>RightOK x∧RightOK y
 | .seq x=>RightOK x
 | _=>True
theorem mix_set {tg want:List Bool} (h:tg.length=want.length) {i:Nat} (hi:i<want.length) (x:Bool) (hx:tg.getD i false=x):(tg.take i++want.drop i).set i x=tg.take (i+1)++want.drop (i+1):=by
 have h1:(tg.take i).length=i:=by simp; omega
 rw [List.set_append_right _ _ (by omega),h1,Nat.sub_self,List.drop_eq_getElem_cons hi,List.set_cons_zero,← List.take_append_getElem (by omega:i<tg.length)]
 have:tg[i]'(by omega)=x:=by rw [← hx,List.getD_eq_getElem?_getD,List.getElem?_eq_getElem (by omega)]; rfl
 rw [this,List.append_assoc]
 rfl
theorem mix_set_b {tg want:List Bool} (h:tg.length=want.length) {i:Nat} (hi:i<want.length) (x:Bool) (hx:tg.getD i false=x):((tg.take i++want.drop i).map fun b=>V.bool b).set i (.bool x)=(tg.take (i+1)++want.drop (i+1)).map fun b=>V.bool b:=by
 rw [← mix_set h hi x hx,List.map_set]
theorem right_key (τ:Ty) (hs:τ.size<2 ^ 20) (ih:RightKids τ) (t:Tr) (ht:IsTy t τ) (ho:t.Ok) (own data:List (List Int)) (want:List Bool) (vo vd vw:V) (h1:ListsV own vo) (h2:ListsV data vd) (h3:BoolsV want vw)
  (l1:own.length=τ.own) (l2:data.length=τ.data) (hw:Wide want.length own) (hsh:shp τ data=true) (ld:∀ r∈data,r.length<2 ^ 39) (lw:want.length<2 ^ 39) :
  CallP gl Trnz.aprog 100 [.agg t.cs,vo,vd,vw] [] (fun r h'=>∃ b,r = .ret (.bool b)∧(b=true↔RightP τ own data want)):=by
 have hbs:=τ.both_size
 have hcc:=cells_tr ho
 have hlw:=h3.len'
 have hroom:room=140737488355328:=by simp [room]
 refine call_ofQ (af:=Trnz.a100) rfl rfl fun Q hQ => ?_
 simp only [Trnz.a100]
 cases ht with
 | unit w =>
  have hwc:=ho.inv.2.2.1.cell
  simp [Tr.cs,hwc,slotOf,-List.all_eq_true]
  exact hQ _ _ ⟨true,rfl,by simp; exact RightP.unit _ _ _⟩
 | int w =>
  have hwc:=ho.inv.2.2.1.cell
  simp only [Ty.own,Ty.data] at l1 l2
  simp [Tr.cs,hwc,slotOf,-List.all_eq_true]
  refine loop_nQ want.length (fun i c=>(∀ j,j<i→want.getD j false=true→isWord (rg own 0 j)=true)∧c=⟨[.agg [.int .i64 1,.int .i64 0,w],vo,vd,vw,.agg [.int .i64 1,.int .i64 0,w],.bool false,.int .i64 i,.undef,.undef,.undef,.undef,.undef,.undef,.undef,.int .i64 1],[],none,none,[]⟩) ?_ ⟨fun j hj=>by omega,rfl⟩
  rintro I hI i c hi ⟨hz,rfl⟩
  by_cases hlt:i<want.length
  ·have hlt':(i:Int)<want.length:=by omega
   have hw2:IntKind.i64.wrap ((i:Int)+1)=(i:Int)+1:=wrap64 (by omega) (by omega)
   have e1:=h3.idx' hlt
   obtain ⟨u0,r1,r2⟩:=row_at h1 hw (j:=0) (i:=i) (by omega) hlt
   simp only [Int.natCast_zero] at r1
   have isw:=isWord_q (rg own 0 i)
   rw [PC] at isw
   cases eb:want.getD i false with
   | false =>
    rw [eb] at e1
    simp [hlw,hlt',e1,hw2,slotOf,-List.all_eq_true,-pcall]
    exact ⟨hlt,hI _ _ ⟨fun j hj hj2=>by
     by_cases e:j=i
     ·subst e; rw [eb] at hj2; cases hj2
     ·exact hz j (by omega) hj2,rfl⟩⟩
   | true =>
    rw [eb] at e1
    by_cases hwd:isWord (rg own 0 i)=true
    ·have hd:decide (-2147483648≤rg own 0 i∧rg own 0 i≤2147483647)=true:=hwd
     rw [hd] at isw
     have hI:=hI (i+1)
     have good:∀ j,j<i+1→want.getD j false=true→isWord (rg own 0 j)=true:=fun j hj hj2=>by
      by_cases e:j=i
      ·subst e; exact hwd
      ·exact hz j (by omega) hj2
     generalize rg own 0 i=q at isw r2
     simp [hlw,hlt',e1,r1,r2,isw,hw2,slotOf,-List.all_eq_true,-pcall]
     exact ⟨hlt,hI _ ⟨good,rfl⟩⟩
    ·have hd:decide (-2147483648≤rg own 0 i∧rg own 0 i≤2147483647)=false:=by simpa [isWord] using hwd
     rw [hd] at isw
     have hQ:=hQ (.ret (.bool false)) [] ⟨false,rfl,by
      rw [rightP_int]
      simp only [Bool.false_eq_true,false_iff]
      intro h
      exact hwd (h i eb)⟩
     generalize rg own 0 i=q at isw r2
     simp [hlw,hlt',e1,r1,r2,isw,slotOf,-List.all_eq_true,-pcall]
     exact hQ
  ·obtain rfl:i=want.length:=by omega
   simp [hlw,slotOf,-List.all_eq_true]
   exact hQ _ _ ⟨true,rfl,by
    rw [rightP_int]
    simp only [true_iff]
    exact fun j hj=>hz j (want_lt hj) hj⟩
 | seq w a x ha =>
  have hwc:=ho.inv.2.2.1.cell
  simp only [Ty.own,Ty.data,Ty.size] at l1 l2 hs
  obtain ⟨b,c1,hb⟩:=rightSeq_q x (by omega) ih ha ho own data want vo vd vw h1 h2 h3 l1 l2 hw hsh ld lw
  have hcs:(Tr.mk 4 0 w [a]).cs=[.int .i64 4,.int .i64 0,w]:=rfl
  rw [hcs] at c1 ⊢
  rw [PC] at c1
  simp [hwc,c1,slotOf,-List.all_eq_true,-pcall]
  exact hQ _ _ ⟨b,rfl,hb⟩
 | pair w a b x y ha hb =>
  obtain ⟨_,_,hv,hkids⟩:=ho.inv
  simp only [Ty.own,Ty.data,Ty.size] at l1 l2 hs
  have i0:=idx_tr hv (i:=0) (by simp)
  have i1:=idx_tr hv (i:=1) (by simp)
  simp only [List.getElem_cons_zero,List.getElem_cons_succ,Int.natCast_zero,Int.natCast_one] at i0 i1
  have hca:=cells_tr (hkids a (by simp))
  have hcb:=cells_tr (hkids b (by simp))
  have hbx:=x.both_size
  have hwc:=hv.cell
  have ap1:=appV_own (h:=[.cells 0 1 []]) (o:=0) (n:=0) (sz:=1) (bytes:=1) (cs:=[]) (y:=vw) (k:=want.length) (ys:=want.map fun b => .bool b) rfl (by have:=CellsV.slen' h3; simpa using this) (CellsV.scells' h3 _) (by simp) (by omega)
  have ap2:=appV_own (h:=[.cells want.length 1 (want.map fun b => .bool b),.cells 0 1 []]) (o:=1) (n:=0) (sz:=1) (bytes:=1) (cs:=[]) (y:=vw) (k:=want.length) (ys:=want.map fun b => .bool b) rfl (by have:=CellsV.slen' h3; simpa using this) (CellsV.scells' h3 _) (by simp) (by omega)
  simp only [Nat.zero_add,List.nil_append,List.set_cons_zero,List.set_cons_succ] at ap1 ap2
  have hbody:∀ W0 W1:List Bool,W0=want→W1=want→W0.length=want.length→W1.length=want.length→True:=fun _ _ _ _ _ _=>trivial
  simp [Tr.cs,hwc,fill,ap1,ap2,slotOf,-List.all_eq_true]
  refine loop_nQ 0 (fun i c=>c=⟨[.agg [.int .i64 2,.int .i64 0,w],vo,vd,vw,.agg [.int .i64 2,.int .i64 0,w],.bool false,.undef,.sl 0 0 want.length want.length 1 false,.sl 1 0 want.length want.length 1 false,.int .i64 0,.undef,.undef,.undef,.undef,.int .i64 2],[],none,none,
   [.cells want.length 1 (want.map fun b => .bool b),.cells want.length 1 (want.map fun b => .bool b)]⟩) ?_ rfl
  rintro I hI i c hi rfl
  obtain ⟨W0,hW0e⟩:∃ W0,W0=want:=⟨_,rfl⟩
  obtain ⟨W1,hW1e⟩:∃ W1,W1=want:=⟨_,rfl⟩
  have hW0:W0.length=want.length:=by rw [hW0e]
  have hW1:W1.length=want.length:=by rw [hW1e]
  have e0:(want.map fun b=>V.bool b)=W0.map fun b=>V.bool b:=by rw [hW0e]
  have e01:[Am.Obj.cells want.length 1 (W0.map fun b => .bool b),.cells want.length 1 (W0.map fun b => .bool b)]=[Am.Obj.cells want.length 1 (W0.map fun b => .bool b),.cells want.length 1 (W1.map fun b => .bool b)]:=by rw [hW0e,hW1e]
  rw [e0,e01]
  have hf2:frzV [Am.Obj.cells want.length 1 (W0.map fun b => .bool b),.cells want.length 1 (W1.map fun b => .bool b)] (.sl 1 0 want.length want.length 1 false)=some (.sv ((W1.map fun b=>V.bool b).map fun x=>[x]) false,[.cells want.length 1 (W0.map fun b => .bool b),.gone]):=by
   have:=view_own (H:=[Am.Obj.cells want.length 1 (W0.map fun b => .bool b),.cells want.length 1 (W1.map fun b => .bool b)]) (b:=1) (n:=want.length) (cs:=W1.map fun b=>V.bool b) rfl (by simp [hW1]) (bools_pure _)
   rw [this]; rfl
  have hf1:frzV [Am.Obj.cells want.length 1 (W0.map fun b => .bool b),.gone] (.sl 0 0 want.length want.length 1 false)=some (.sv ((W0.map fun b=>V.bool b).map fun x=>[x]) false,[.gone,.gone]):=by
   have:=view_own (H:=[Am.Obj.cells want.length 1 (W0.map fun b => .bool b),.gone]) (b:=0) (n:=want.length) (cs:=W0.map fun b=>V.bool b) rfl (by simp [hW0]) (bools_pure _)
   rw [this]; rfl
  obtain ⟨u0,hu0⟩:∃ u,u=V.sv ((W0.map fun b=>V.bool b).map fun x=>[x]) false:=⟨_,rfl⟩
  obtain ⟨u1,hu1⟩:∃ u,u=V.sv ((W1.map fun b=>V.bool b).map fun x=>[x]) false:=⟨_,rfl⟩
  have bu0:BoolsV W0 u0:=by rw [hu0]; exact .sv false
  have bu1:BoolsV W1 u1:=by rw [hu1]; exact .sv false
  rw [← hu0] at hf1
  rw [← hu1] at hf2
  obtain ⟨⟨o1,d1,c1,p1,q1⟩,⟨o2,d2,c2,p2,q2⟩⟩:=cut_q 2 (.inl rfl) (by omega) (by omega) ha hb ho h1 h2 (by simp [cutO]; omega) l2 (by omega)
  have sh1:shp x (data.take x.data)=true∧shp y (data.drop x.data)=true:=by simpa [shp] using hsh
  obtain ⟨b1,r1,z1⟩:=ih.1 a ha (hkids a (by simp)) _ _ W0 o1 d1 u0 p1 q1 bu0 (by simp [cutO]; omega) (by simp; omega) (fun r hr=>by rw [hW0]; exact hw r (cutO_mem (mem_td.1 hr))) sh1.1 (fun r hr=>ld r (mem_td.1 hr)) (by omega)
  obtain ⟨b2,r2,z2⟩:=ih.2 b hb (hkids b (by simp)) _ _ W1 o2 d2 u1 p2 q2 bu1 (by simp [cutO]; omega) (by simp; omega) (fun r hr=>by rw [hW1]; exact hw r (cutO_mem (mem_td.2 hr))) sh1.2 (fun r hr=>ld r (mem_td.2 hr)) (by omega)
  have fin:(b1&&b2)=true↔RightP (.pair x y) own data want:=by
   rw [Bool.and_eq_true,z1,z2,rightP_pair]
   rw [hW0e,hW1e]; rfl
  have hcs:(Tr.mk 2 0 w [a,b]).cs=[.int .i64 2,.int .i64 0,w]:=rfl
  rw [hcs] at c1 c2 hcc
  rw [PC] at c1 c2 r1 r2
  generalize (W0.map fun b=>V.bool b)=A0 at *
  generalize (W1.map fun b=>V.bool b)=A1 at *
  cases b1 with
  | true =>
   simp [WX_frz,nthV_eq,hlw,hf1,hf2,c1,c2,i0,i1,hca,hcb,r1,r2,slotOf,-List.all_eq_true,-pcall]
   exact hQ _ _ ⟨b2,rfl,by simpa using fin⟩
  | false =>
   simp [WX_frz,nthV_eq,hlw,hf1,hf2,c1,c2,i0,i1,hca,hcb,r1,slotOf,-List.all_eq_true,-pcall]
   exact hQ _ _ ⟨false,rfl,by simpa using fin⟩
 | sum w a b x y ha hb =>
  obtain ⟨_,_,hv,hkids⟩:=ho.inv
  simp only [Ty.own,Ty.data,Ty.size] at l1 l2 hs
  have i0:=idx_tr hv (i:=0) (by simp)
  have i1:=idx_tr hv (i:=1) (by simp)
  simp only [List.getElem_cons_zero,List.getElem_cons_succ,Int.natCast_zero,Int.natCast_one] at i0 i1
  have hca:=cells_tr (hkids a (by simp))
  have hcb:=cells_tr (hkids b (by simp))
  have hbx:=x.both_size
  have hwc:=hv.cell
  have ap1:=appV_own (h:=[.cells 0 1 []]) (o:=0) (n:=0) (sz:=1) (bytes:=1) (cs:=[]) (y:=vw) (k:=want.length) (ys:=want.map fun b => .bool b) rfl (by have:=CellsV.slen' h3; simpa using this) (CellsV.scells' h3 _) (by simp) (by omega)
  have ap2:=appV_own (h:=[.cells want.length 1 (want.map fun b => .bool b),.cells 0 1 []]) (o:=1) (n:=0) (sz:=1) (bytes:=1) (cs:=[]) (y:=vw) (k:=want.length) (ys:=want.map fun b => .bool b) rfl (by have:=CellsV.slen' h3; simpa using this) (CellsV.scells' h3 _) (by simp) (by omega)
  simp only [Nat.zero_add,List.nil_append,List.set_cons_zero,List.set_cons_succ] at ap1 ap2
  have t0:=tagW_len own want 0
  have t1:=tagW_len own want 1
  simp [Tr.cs,hwc,fill,ap1,ap2,slotOf,-List.all_eq_true]
  refine loop_nQ want.length (fun i c=>(∀ j,j<i→want.getD j false=true→rg own 0 j=0∨rg own 0 j=1)∧c=⟨[.agg [.int .i64 3,.int .i64 0,w],vo,vd,vw,.agg [.int .i64 3,.int .i64 0,w],.bool false,.undef,.sl 0 0 want.length want.length 1 false,.sl 1 0 want.length want.length 1 false,.int .i64 i,.undef,.undef,.undef,.undef,.int .i64 3],[],none,none,
   [.cells want.length 1 (((tagW own want 0).take i++want.drop i).map fun b => .bool b),.cells want.length 1 (((tagW own want 1).take i++want.drop i).map fun b => .bool b)]⟩) ?_ ⟨fun j hj=>by omega,by simp⟩
  rintro I hI i c hi ⟨hz,rfl⟩
  by_cases hlt:i<want.length
  ·have hlt':(i:Int)<want.length:=by omega
   have hw2:IntKind.i64.wrap ((i:Int)+1)=(i:Int)+1:=wrap64 (by omega) (by omega)
   have e1:=h3.idx' hlt
   obtain ⟨u0,r1,r2⟩:=row_at h1 hw (j:=0) (i:=i) (by omega) hlt
   simp only [Int.natCast_zero] at r1
   have isw:=lies_q (rg own 0 i) 0 1
   rw [PC] at isw
   have hx0:=own_idx (n:=want.length) (i:=i) 0 hlt
   have hx1:=own_idx (n:=want.length) (i:=i) 1 hlt
   have g0:=tagW_get own want 0 i
   have g1:=tagW_get own want 1 i
   have hI:=hI (i+1)
   have st0:=fun (b:Bool) (B:Am.Obj) (hb:(tagW own want 0).getD i false=b)=>store_own (H:=[.cells want.length 1 (((tagW own want 0).take i++want.drop i).map fun b=>V.bool b),B]) (b:=0) (n:=want.length) (i:=i) rfl (by simp; omega) hlt (.bool b) rfl rfl
   have st1:=fun (b:Bool) (B:Am.Obj) (hb:(tagW own want 1).getD i false=b)=>store_own (H:=[B,.cells want.length 1 (((tagW own want 1).take i++want.drop i).map fun b=>V.bool b)]) (b:=1) (n:=want.length) (i:=i) rfl (by simp; omega) hlt (.bool b) rfl rfl
   have mx0:=fun (b:Bool) (hb:(tagW own want 0).getD i false=b)=>mix_set_b t0 hlt b hb
   have mx1:=fun (b:Bool) (hb:(tagW own want 1).getD i false=b)=>mix_set_b t1 hlt b hb
   simp only [List.set_cons_zero,List.set_cons_succ] at st0 st1
   cases eb:want.getD i false with
   | false =>
    rw [eb] at e1 g0 g1
    simp only [Bool.false_and] at g0 g1
    have st0:=fun B=>st0 false B g0
    have st1:=fun B=>st1 false B g1
    simp only [mx0 false g0] at st0
    simp only [mx1 false g1] at st1
    have good:∀ j,j<i+1→want.getD j false=true→rg own 0 j=0∨rg own 0 j=1:=fun j hj hj2=>by
     by_cases e:j=i
     ·subst e; rw [eb] at hj2; cases hj2
     ·exact hz j (by omega) hj2
    have hI:=fun c h=>hI c ⟨good,h⟩
    generalize (((tagW own want 0).take i++want.drop i).map fun b=>V.bool b)=A0 at *
    generalize (((tagW own want 1).take i++want.drop i).map fun b=>V.bool b)=A1 at *
    generalize (((tagW own want 0).take (i+1)++want.drop (i+1)).map fun b=>V.bool b)=B0 at *
    generalize (((tagW own want 1).take (i+1)++want.drop (i+1)).map fun b=>V.bool b)=B1 at *
    simp [hlw,hlt',e1,hw2,hx0,hx1,st0,st1,slotOf,-List.all_eq_true,-pcall]
    exact ⟨hlt,hI _ rfl⟩
   | true =>
    rw [eb] at e1 g0 g1
    simp only [Bool.true_and] at g0 g1
    by_cases hwd:0≤rg own 0 i∧rg own 0 i≤1
    ·have hd:decide (0≤rg own 0 i∧rg own 0 i≤1)=true:=decide_eq_true hwd
     rw [hd] at isw
     have st0:=fun B=>st0 _ B g0
     have st1:=fun B=>st1 _ B g1
     simp only [mx0 _ g0] at st0
     simp only [mx1 _ g1] at st1
     have good:∀ j,j<i+1→want.getD j false=true→rg own 0 j=0∨rg own 0 j=1:=fun j hj hj2=>by
      by_cases e:j=i
      ·subst e; omega
      ·exact hz j (by omega) hj2
     have hI:=fun c h=>hI c ⟨good,h⟩
     clear g0 g1 mx0 mx1
     generalize (((tagW own want 0).take i++want.drop i).map fun b=>V.bool b)=A0 at *
     generalize (((tagW own want 1).take i++want.drop i).map fun b=>V.bool b)=A1 at *
     generalize (((tagW own want 0).take (i+1)++want.drop (i+1)).map fun b=>V.bool b)=B0 at *
     generalize (((tagW own want 1).take (i+1)++want.drop (i+1)).map fun b=>V.bool b)=B1 at *
     generalize rg own 0 i=q at isw r2 st0 st1
     simp [hlw,hlt',e1,r1,r2,isw,hw2,hx0,hx1,st0,st1,slotOf,-List.all_eq_true,-pcall]
     exact ⟨hlt,hI _ rfl⟩
    ·have hd:decide (0≤rg own 0 i∧rg own 0 i≤1)=false:=decide_eq_false hwd
     rw [hd] at isw
     have hQ:=fun h=>hQ (.ret (.bool false)) h ⟨false,rfl,by
      rw [rightP_sum]
      simp only [Bool.false_eq_true,false_iff]
      rintro ⟨h,_⟩
      have:=h i eb
      omega⟩
     generalize (((tagW own want 0).take i++want.drop i).map fun b=>V.bool b)=A0 at *
     generalize (((tagW own want 1).take i++want.drop i).map fun b=>V.bool b)=A1 at *
     generalize rg own 0 i=q at isw r2
     simp [hlw,hlt',e1,r1,r2,isw,slotOf,-List.all_eq_true,-pcall]
     exact hQ _
  ·obtain rfl:i=want.length:=by omega
   have e0:(tagW own want 0).take want.length++want.drop want.length=tagW own want 0:=by rw [List.drop_length,List.append_nil,List.take_of_length_le (by omega)]
   have e1:(tagW own want 1).take want.length++want.drop want.length=tagW own want 1:=by rw [List.drop_length,List.append_nil,List.take_of_length_le (by omega)]
   rw [e0,e1]
   obtain ⟨W0,hW0e⟩:∃ W0,W0=tagW own want 0:=⟨_,rfl⟩
   obtain ⟨W1,hW1e⟩:∃ W1,W1=tagW own want 1:=⟨_,rfl⟩
   have hW0:W0.length=want.length:=by rw [hW0e,t0]
   have hW1:W1.length=want.length:=by rw [hW1e,t1]
   rw [← hW0e,← hW1e]
   have hf2:frzV [Am.Obj.cells want.length 1 (W0.map fun b => .bool b),.cells want.length 1 (W1.map fun b => .bool b)] (.sl 1 0 want.length want.length 1 false)=some (.sv ((W1.map fun b=>V.bool b).map fun x=>[x]) false,[.cells want.length 1 (W0.map fun b => .bool b),.gone]):=by
    have:=view_own (H:=[Am.Obj.cells want.length 1 (W0.map fun b => .bool b),.cells want.length 1 (W1.map fun b => .bool b)]) (b:=1) (n:=want.length) (cs:=W1.map fun b=>V.bool b) rfl (by simp [hW1]) (bools_pure _)
    rw [this]; rfl
   have hf1:frzV [Am.Obj.cells want.length 1 (W0.map fun b => .bool b),.gone] (.sl 0 0 want.length want.length 1 false)=some (.sv ((W0.map fun b=>V.bool b).map fun x=>[x]) false,[.gone,.gone]):=by
    have:=view_own (H:=[Am.Obj.cells want.length 1 (W0.map fun b => .bool b),.gone]) (b:=0) (n:=want.length) (cs:=W0.map fun b=>V.bool b) rfl (by simp [hW0]) (bools_pure _)
    rw [this]; rfl
   obtain ⟨u0,hu0⟩:∃ u,u=V.sv ((W0.map fun b=>V.bool b).map fun x=>[x]) false:=⟨_,rfl⟩
   obtain ⟨u1,hu1⟩:∃ u,u=V.sv ((W1.map fun b=>V.bool b).map fun x=>[x]) false:=⟨_,rfl⟩
   have bu0:BoolsV W0 u0:=by rw [hu0]; exact .sv false
   have bu1:BoolsV W1 u1:=by rw [hu1]; exact .sv false
   rw [← hu0] at hf1
   rw [← hu1] at hf2
   obtain ⟨⟨o1,d1,c1,p1,q1⟩,⟨o2,d2,c2,p2,q2⟩⟩:=cut_q 3 (.inr rfl) (by omega) (by omega) ha hb ho h1 h2 (by simp [cutO]; omega) l2 (by omega)
   have sh1:shp x (data.take x.data)=true∧shp y (data.drop x.data)=true:=by simpa [shp] using hsh
   obtain ⟨b1,r1,z1⟩:=ih.1 a ha (hkids a (by simp)) _ _ W0 o1 d1 u0 p1 q1 bu0 (by simp [cutO]; omega) (by simp; omega) (fun r hr=>by rw [hW0]; exact hw r (cutO_mem (mem_td.1 hr))) sh1.1 (fun r hr=>ld r (mem_td.1 hr)) (by omega)
   obtain ⟨b2,r2,z2⟩:=ih.2 b hb (hkids b (by simp)) _ _ W1 o2 d2 u1 p2 q2 bu1 (by simp [cutO]; omega) (by simp; omega) (fun r hr=>by rw [hW1]; exact hw r (cutO_mem (mem_td.2 hr))) sh1.2 (fun r hr=>ld r (mem_td.2 hr)) (by omega)
   have fin:(b1&&b2)=true↔RightP (.sum x y) own data want:=by
    rw [Bool.and_eq_true,z1,z2,rightP_sum]
    rw [hW0e,hW1e]
    exact ⟨fun h=>⟨fun i hi=>hz i (want_lt hi) hi,h⟩,fun h=>h.2⟩
   have hcs:(Tr.mk 3 0 w [a,b]).cs=[.int .i64 3,.int .i64 0,w]:=rfl
   rw [hcs] at c1 c2 hcc
   rw [PC] at c1 c2 r1 r2
   generalize (W0.map fun b=>V.bool b)=A0 at *
   generalize (W1.map fun b=>V.bool b)=A1 at *
   cases b1 with
   | true =>
    simp [WX_frz,nthV_eq,hlw,hf1,hf2,c1,c2,i0,i1,hca,hcb,r1,r2,slotOf,-List.all_eq_true,-pcall]
    exact hQ _ _ ⟨b2,rfl,by simpa using fin⟩
   | false =>
    simp [WX_frz,nthV_eq,hlw,hf1,hf2,c1,c2,i0,i1,hca,hcb,r1,slotOf,-List.all_eq_true,-pcall]
    exact hQ _ _ ⟨false,rfl,by simpa using fin⟩
theorem right_q:∀ τ:Ty,τ.size<2 ^ 20→RightOK τ:=by
 have fin:∀ τ:Ty,τ.size<2 ^ 20→RightKids τ→RightOK τ:=fun τ hs ih t ht ho own data want vo vd vw h1 h2 h3 l1 l2 hw hsh ld lw=>by
  obtain ⟨r,h',e,b,rfl,hb⟩:=OptP.ex (right_key τ hs ih t ht ho own data want vo vd vw h1 h2 h3 l1 l2 hw hsh ld lw)
  refine ⟨b,?_,hb⟩
  simp only [PC,pcall,callee_func,List.append_nil,List.nil_append]
  rw [if_pos (by simp [pureL,pureV,pure_tr ho,h1.pure,h2.pure,SlV.pure h3]),e]
  rfl
 intro τ
 induction τ with
 | unit=>exact fun hs=>fin _ hs trivial
 | int=>exact fun hs=>fin _ hs trivial
 | pair x y ihx ihy=>intro hs; exact fin _ hs (by simp only [Ty.size] at hs; exact ⟨ihx (by omega),ihy (by omega)⟩)
 | sum x y ihx ihy=>intro hs; exact fin _ hs (by simp only [Ty.size] at hs; exact ⟨ihx (by omega),ihy (by omega)⟩)
 | seq x ih=>intro hs; exact fin _ hs (by simp only [Ty.size] at hs; exact ih (by omega))
abbrev SizesOK (τ:Ty):Prop:=∀ (t:Tr),IsTy t τ→t.Ok→∀ (own data:List (List Int)) (want:List Bool) (vo vd vw:V),ListsV own vo→ListsV data vd→BoolsV want vw→own.length=τ.own→data.length=τ.data →
 Wide want.length own→shp τ data=true→(∀ r∈data,r.length<2 ^ 39)→want.length<2 ^ 39→RightP τ own data want→∃ u,PC 55 [.agg t.cs,vo,vd,vw] u∧IntsV (szS τ own data want) u
theorem rd_seq_get {x:Ty} {own data:List (List Int)} {i:Nat} (h:(rd (.seq x) own data i).isSome=true):∃ lv:List Vl,rd (.seq x) own data i=some (.mk 4 0 lv)∧(lv.length:Int)=rg own 1 i ∧
  ∀ k (hk:k<lv.length),rd x (data.take x.own) (data.drop x.own) (if x.own=0 then 0 else (rg own 0 i).toNat+k)=some lv[k]:=by
 have h0:=rd_seq_some.1 h
 simp only [rd] at h ⊢
 by_cases h1:0≤rg own 1 i∧rg own 1 i≤4096
 ·rw [if_neg (by simpa using h1)] at h ⊢
  by_cases hz:rg own 1 i=0
  ·rw [if_pos hz]
   exact ⟨[],rfl,by simp [hz],fun k hk=>by simp at hk⟩
  ·rw [if_neg hz] at h ⊢
   by_cases h2:rg own 0 i<0∨(x.own≠0∧rg own 0 i > (data.headD []).length - rg own 1 i)
   ·rw [if_pos h2] at h; cases h
   ·rw [if_neg h2] at h ⊢
    cases e:allO ((List.range (rg own 1 i).toNat).map fun k=>rd x (data.take x.own) (data.drop x.own) (if x.own=0 then 0 else (rg own 0 i).toNat+k)) with
    | none=>rw [e] at h; cases h
    | some lv =>
     have e2:=allO_some.1 e
     have el:lv.length=(rg own 1 i).toNat:=by
      have:=congrArg List.length e2
      simpa using this.symm
     refine ⟨lv,rfl,by omega,fun k hk => ?_⟩
     have:=congrArg (fun l=>l[k]?) e2
     simp only [List.getElem?_map,List.getElem?_range (by omega:k<(rg own 1 i).toNat)] at this
     simpa [hk] using this
 ·rw [if_pos (by simpa using h1)] at h; cases h
def part20 (lv:List Vl) (k:Nat):Int:=min 20001 ((1+Vl.nodesL (lv.take k):Nat):Int)
theorem part20_bd (lv:List Vl) (k:Nat):0≤part20 lv k∧part20 lv k≤20001:=by simp only [part20]; omega
theorem part20_step {lv:List Vl} {k:Nat} (hk:k<lv.length) {one:Int} (h:one=lv[k].nodes∨one=min 20001 (lv[k].nodes:Int)):(if 20001<part20 lv k+one then 20001 else part20 lv k+one)=part20 lv (k+1):=by
 have e:Vl.nodesL (lv.take (k+1))=Vl.nodesL (lv.take k)+lv[k].nodes:=by
  rw [← List.take_append_getElem hk,Vl.nodesL_append]; simp [Vl.nodesL]
 by_cases hc:(20001:Int)<part20 lv k+one
 ·rw [if_pos hc]; simp only [part20,e] at hc ⊢; omega
 ·rw [if_neg hc]; simp only [part20,e] at hc ⊢; omega
def upS (S:List Int) (d:Int) (i:Nat):List Int:=S.take i++List.replicate (S.length - i) d
theorem upS_len (S:List Int) (d:Int) (i:Nat) (h:i≤S.length):(upS S d i).length=S.length:=by simp [upS]; omega
theorem upS_set (S:List Int) (d y:Int) (i:Nat) (h:i<S.length):(upS S d i).set i y=S.take i++y :: List.replicate (S.length - (i+1)) d:=by
 have h1:(S.take i).length=i:=by simp; omega
 have h2:List.replicate (S.length - i) d=d :: List.replicate (S.length - (i+1)) d:=by
  rw [← List.replicate_succ]; congr 1; omega
 simp only [upS]
 rw [List.set_append_right _ _ (by omega),h1,Nat.sub_self,h2,List.set_cons_zero]
theorem upS_fin (S:List Int) (d:Int) (i:Nat) (h:i<S.length):S.take i++S[i] :: List.replicate (S.length - (i+1)) d=upS S d (i+1):=by
 simp only [upS]
 rw [← List.take_append_getElem h,List.append_assoc]
 rfl
theorem upS_put (S:List Int) (d y z:Int) (i:Nat) (h:i<S.length):(S.take i++y :: List.replicate (S.length - (i+1)) d).set i z=S.take i++z :: List.replicate (S.length - (i+1)) d:=by
 have h1:(S.take i).length=i:=by simp; omega
 rw [List.set_append_right _ _ (by omega),h1,Nat.sub_self,List.set_cons_zero]
theorem upS_at (S:List Int) (d y:Int) (i:Nat) (h:i<S.length):(S.take i++y :: List.replicate (S.length - (i+1)) d)[i]?=some y:=by
 have h1:(S.take i).length=i:=by simp; omega
 rw [List.getElem?_append_right (by omega),h1,Nat.sub_self]; rfl
theorem upS_zero (S:List Int) (d:Int):upS S d 0=List.replicate S.length d:=by simp [upS]
theorem take_drop1 {cs:List V} {i:Nat} {x:V} (hl:cs[i]?=some x):List.take 1 (List.drop i cs)=[x]:=by
 obtain ⟨hi,rfl⟩:=List.getElem?_eq_some_iff.1 hl
 rw [List.drop_eq_getElem_cons hi]; rfl
theorem seqSizes_q (x:Ty) (hs:x.size<2 ^ 20) (ih:SizesOK x) {w:V} {a:Tr} (ha:IsTy a x) (ho:(Tr.mk 4 0 w [a]).Ok) (own data:List (List Int)) (want:List Bool) (vo vd vw:V) (h1:ListsV own vo) (h2:ListsV data vd)
  (h3:BoolsV want vw) (l1:own.length=2) (l2:data.length=x.own+x.data) (hw:Wide want.length own) (hsh:shp (.seq x) data=true) (ld:∀ r∈data,r.length<2 ^ 39) (lw:want.length<2 ^ 39) (hR:RightP (.seq x) own data want) :
  ∃ u,PC 102 [.agg (Tr.mk 4 0 w [a]).cs,vo,vd,vw] u∧IntsV (szS (.seq x) own data want) u:=by
 obtain ⟨_,_,hv,hkids⟩:=ho.inv
 have hbx:=x.both_size
 have i0:=idx_tr hv (i:=0) (by simp)
 simp only [List.getElem_cons_zero,Int.natCast_zero] at i0
 have hca:=cells_tr (hkids a (by simp))
 have hwc:=hv.cell
 obtain ⟨⟨o1,d1,c1,p1,q1⟩,c2⟩:=pool_q (by omega) ha ho h2 l2
 have hmx:=psz_max (psz x data)
 have hsz:=psz_lt (x:=x) (by omega) ld
 obtain ⟨sw,sx⟩:=shp_seq hsh
 have hlw:=h3.len'
 have hroom:room=140737488355328:=by simp [room]
 have hnd:=nodes_q a (hkids a (by simp)) (by rw [ha.nodes]; omega)
 rw [ha.nodes] at hnd
 obtain ⟨hok,hRx⟩:=rightP_seq.1 hR
 refine ⟨.sv (((szS (.seq x) own data want).map fun n=>V.int .i64 n).map fun x=>[x]) false,?_,.sv false⟩
 refine pc_of (by simp [pureL,pureV,pure_tr ho,h1.pure,h2.pure,SlV.pure h3]) (fun hp=>(SlV.sv false).viewW 0 hp) ?_
 have hcs:(Tr.mk 4 0 w [a]).cs=[.int .i64 4,.int .i64 0,w]:=rfl
 rw [hcs] at c1 c2 ⊢
 rw [PC] at c1 c2 hnd
 obtain ⟨sz,hszd⟩:∃ sz,sz=(psz x data).getD 0:=⟨_,rfl⟩
 obtain ⟨zi,hzi⟩:∃ zi,zi=pszI (psz x data):=⟨_,rfl⟩
 rw [← hszd] at hmx hsz
 rw [← hzi] at hmx c2
 have hmk:(List.replicate sz [V.bool false]).flatten=(comeS sz own want 0).map fun b=>V.bool b:=by simp [comeS,List.map_replicate]
 refine call_ofQ (af:=Trnz.a102) rfl rfl fun Q hQ => ?_
 simp only [Trnz.a102]
 have m1:(sz:Int)≤140737488355328:=by omega
 have m2:(sz:Int)≤9223372036854775807:=by omega
 simp [hwc,c2,hmx,hroom,m1,m2,hmk,slotOf,-pcall,-List.all_eq_true,-List.flatten_replicate_singleton]
 refine loop_nQ want.length (fun i c=>∃ s9,c=⟨[.agg [.int .i64 4,.int .i64 0,w],vo,vd,vw,.agg [.int .i64 4,.int .i64 0,w],.nils,.int .i64 zi,.sl 0 0 sz sz 1 false,.int .i64 i,s9,.undef,.undef,.undef,.undef,.undef,.undef,.undef],[],none,none,
  [.cells sz 1 ((comeS sz own want i).map fun b => .bool b)]⟩) ?_ ⟨.undef,by simp [comeS]⟩
 rintro I hI i c hi ⟨s9,rfl⟩
 by_cases hlt:i<want.length
 ·have hlt':(i:Int)<want.length:=by omega
  have hw2:IntKind.i64.wrap ((i:Int)+1)=(i:Int)+1:=wrap64 (by omega) (by omega)
  have e1:=h3.idx' hlt
  have hI:=hI (i+1)
  simp only [comeS] at hI
  have hclen:=comeS_len sz own want i
  cases hp:psz x data with
  | none =>
   rw [hp] at hzi hszd
   simp only [pszI,Option.getD_none] at hzi hszd
   subst hzi hszd
   have hC:comeS 0 own want i=[]:=List.length_eq_zero_iff.1 hclen
   have hC2:(if want.getD i false=true then markS (comeS 0 own want i) (rg own 0 i).toNat (rg own 1 i).toNat else comeS 0 own want i)=[]:=by
    split
    ·exact List.length_eq_zero_iff.1 (by rw [markS_len]; exact hclen)
    ·exact hC
   rw [hC2] at hI
   rw [hC]
   simp [hlw,hlt',slotOf,-pcall,-List.all_eq_true]
   refine loop_nQ 0 (fun k c=>c=⟨[.agg [.int .i64 4,.int .i64 0,w],vo,vd,vw,.agg [.int .i64 4,.int .i64 0,w],.nils,.int .i64 (-1),.sl 0 0 0 0 1 false,.int .i64 i,.int .i64 0,.undef,.undef,.undef,.undef,.undef,.undef,.undef],[],none,none,[.cells 0 1 []]⟩) ?_ rfl
   rintro J hJ k c hk rfl
   simp [hw2,slotOf,-List.all_eq_true]
   exact ⟨hlt,hI _ ⟨_,rfl⟩⟩
  | some m =>
   rw [hp] at hzi hszd
   simp only [pszI,Option.getD_some] at hzi hszd
   subst hzi hszd
   have hz0:(0:Int)≤sz:=by omega
   cases eb:want.getD i false with
   | false =>
    rw [eb] at e1 hI
    simp only [Bool.false_eq_true,if_false] at hI
    generalize comeS sz own want i=C at *
    simp [hlw,hlt',slotOf,-pcall,-List.all_eq_true]
    refine loop_nQ 0 (fun k c=>c=⟨[.agg [.int .i64 4,.int .i64 0,w],vo,vd,vw,.agg [.int .i64 4,.int .i64 0,w],.nils,.int .i64 sz,.sl 0 0 sz sz 1 false,.int .i64 i,.int .i64 0,.undef,.undef,.undef,.undef,.undef,.undef,.undef],[],none,none,[.cells sz 1 (C.map fun b => .bool b)]⟩) ?_ rfl
    rintro J hJ k c hk rfl
    simp [hw2,hz0,e1,slotOf,-List.all_eq_true]
    exact ⟨hlt,hI _ ⟨_,rfl⟩⟩
   | true =>
    rw [eb] at e1 hI
    simp only [if_true] at hI
    obtain ⟨u0,r1,r2⟩:=row_at h1 hw (j:=0) (i:=i) (by omega) hlt
    obtain ⟨u1,r3,r4⟩:=row_at h1 hw (j:=1) (i:=i) (by omega) hlt
    simp only [Int.natCast_zero,Int.natCast_one] at r1 r3
    obtain ⟨b1,b2,b3⟩:=hok i eb
    have b4:rg own 1 i=0∨(0≤rg own 0 i∧rg own 0 i+rg own 1 i≤sz):=by
     rcases b3 with h | ⟨h,h'⟩
     ·exact .inl h
     ·have:=h' sz hp; exact .inr ⟨h,by omega⟩
    generalize rg own 0 i=st at *
    generalize rg own 1 i=mn at *
    generalize comeS sz own want i=C at *
    obtain ⟨m',rfl⟩:∃ m':Nat,mn=m':=⟨mn.toNat,by omega⟩
    simp only [Int.toNat_natCast] at hI
    simp [hlw,hlt',slotOf,-pcall,-List.all_eq_true]
    refine loop_nQ m' (fun k c=>c=⟨[.agg [.int .i64 4,.int .i64 0,w],vo,vd,vw,.agg [.int .i64 4,.int .i64 0,w],.nils,.int .i64 sz,.sl 0 0 sz sz 1 false,.int .i64 i,.int .i64 k,.undef,.undef,.undef,.undef,.undef,.undef,.undef],[],none,none,[.cells sz 1 ((markS C st.toNat k).map fun b => .bool b)]⟩) ?_ (by simp [markS])
    rintro J hJ k c hk rfl
    by_cases hkl:k<m'
    ·have hkl':(k:Int)<m':=by omega
     have hwk:IntKind.i64.wrap ((k:Int)+1)=(k:Int)+1:=wrap64 (by omega) (by omega)
     obtain ⟨s',rfl⟩:∃ s':Nat,st=s':=⟨st.toNat,by omega⟩
     simp only [Int.toNat_natCast] at *
     have hws:IntKind.i64.wrap ((s':Int)+k)=((s'+k:Nat):Int):=add_nat _ _ (by omega)
     have hix:=own_idx (n:=sz) (i:=s'+k) 0 (by omega)
     have hss:=store_own (H:=[.cells sz 1 ((markS C s' k).map fun b => .bool b)]) (b:=0) (n:=sz) (i:=s'+k) rfl (by simp [markS_len,hclen]) (by omega) (.bool true) rfl rfl
     rw [map_set_b] at hss
     have hJ:=hJ (k+1)
     simp only [markS] at hJ
     generalize markS C s' k=M at *
     simp [hz0,hlw,hlt',e1,r1,r2,r3,r4,hkl,hkl',hws,hix,hss,hwk,slotOf,-List.all_eq_true,-Int.natCast_add]
     exact hJ _ (by rw [List.map_set]; rfl)
    ·obtain rfl:k=m':=by omega
     simp [hz0,e1,r3,r4,hw2,slotOf,-List.all_eq_true]
     exact ⟨hlt,hI _ ⟨_,rfl⟩⟩
 ·obtain rfl:i=want.length:=by omega
  have hcw:comeS sz own want want.length=comeW x own data want:=by rw [hszd]; rfl
  have hclen:(comeW x own data want).length=sz:=by rw [← hcw,comeS_len]
  rw [hcw]
  have hfz:=view_own (H:=[.cells sz 1 ((comeW x own data want).map fun b=>V.bool b)]) (b:=0) (n:=sz) (cs:=(comeW x own data want).map fun b=>V.bool b) rfl (by simp [hclen]) (bools_pure _)
  obtain ⟨u,hu⟩:∃ u,u=V.sv (((comeW x own data want).map fun b=>V.bool b).map fun x=>[x]) false:=⟨_,rfl⟩
  have bu:BoolsV (comeW x own data want) u:=by rw [hu]; exact .sv false
  rw [← hu] at hfz
  have hRx':RightP x (data.take x.own) (data.drop x.own) (comeW x own data want):=by
   by_cases h0:x.own=0
   ·intro i hi
    have:=want_lt hi
    rw [hclen,hszd,psz,if_pos h0] at this
    simp at this
   ·exact hRx h0
  obtain ⟨ul,c3,hul⟩:=ih a ha (hkids a (by simp)) _ _ _ o1 d1 u p1 q1 bu (by simp; omega) (by simp; omega) (by rw [hclen,hszd]; exact sw) sx (fun r hr=>ld r (mem_td.2 hr)) (by omega) hRx'
  rw [PC] at c3
  have hSl:=szS_len (.seq x) own data want
  have hmk2:(List.replicate want.length [V.int .i64 0]).flatten=(upS (szS (.seq x) own data want) 0 0).map fun n=>V.int .i64 n:=by simp [upS_zero,hSl,List.map_replicate]
  have m3:(want.length:Int) * 8≤140737488355328:=by omega
  have m4:(want.length:Int)≤9223372036854775807:=by omega
  obtain ⟨S,hS⟩:∃ S,S=szS (.seq x) own data want:=⟨_,rfl⟩
  rw [← hS] at hSl hmk2 hQ
  have hCg:∀ i,i<want.length→want.getD i false=true→∀ k:Nat,(k:Int)<rg own 1 i→x.own≠0→(comeW x own data want).getD ((rg own 0 i).toNat+k) false=true:=by
   intro i hi eb k hk h0
   have hp:psz x data=some sz:=by rw [psz,if_neg h0] at hszd ⊢; rw [hszd]; rfl
   rw [← hcw]
   refine (comeS_get _ _ fun j _ hj=>by have:=hok j hj; rwa [hp] at this).2 ⟨i,hi,eb,?_⟩
   have:=(hok i eb).2.2
   omega
  generalize ((comeW x own data want).map fun b=>V.bool b)=cw at *
  simp [hlw,WX_frz,nthV_eq,hfz,c1,i0,hca,c3,hroom,m3,m4,hmk2,slotOf,-pcall,-List.all_eq_true,-List.flatten_replicate_singleton]
  refine loop_nQ want.length (fun i c=>∃ s15 s16,c=⟨[.agg [.int .i64 4,.int .i64 0,w],vo,vd,vw,.agg [.int .i64 4,.int .i64 0,w],.nils,.int .i64 zi,u,.int .i64 want.length,s9,o1,d1,ul,.sl 1 0 want.length want.length 1 false,.int .i64 i,s15,s16],[],none,none,
   [.gone,.cells want.length 1 ((upS S 0 i).map fun n => .int .i64 n)]⟩) ?_ ⟨.undef,.undef,rfl⟩
  rintro I hI i c hi ⟨s15,s16,rfl⟩
  by_cases hlt:i<want.length
  ·have hlt':(i:Int)<want.length:=by omega
   have hw2:IntKind.i64.wrap ((i:Int)+1)=(i:Int)+1:=wrap64 (by omega) (by omega)
   have e1:=h3.idx' hlt
   have hI:=hI (i+1)
   have hx1:=own_idx (n:=want.length) (i:=i) 1 hlt
   have hiS:i<S.length:=by omega
   have hi1:i+1≤want.length:=hlt
   have hfin:=upS_fin S 0 i hiS
   have st0:=store_own (H:=[.gone,.cells want.length 1 ((upS S 0 i).map fun n=>V.int .i64 n)]) (b:=1) (n:=want.length) (i:=i) rfl (by rw [List.length_map,upS_len _ _ _ (by omega)]; exact hSl) hlt (.int .i64 1) rfl rfl
   simp only [List.set_cons_zero,List.set_cons_succ] at st0
   have e0:((upS S 0 i).map fun n=>V.int .i64 n).set i (.int .i64 1)=(S.take i++1 :: List.replicate (S.length - (i+1)) 0).map fun n=>V.int .i64 n:=by
    rw [← upS_set S 0 1 i hiS,List.map_set]
   rw [e0] at st0
   have mid:∀ y:Int,[Am.Obj.gone,.cells want.length 1 ((S.take i++y :: List.replicate (S.length - (i+1)) 0).map fun n=>V.int .i64 n)][1]?=some (.cells want.length 1 ((S.take i++y :: List.replicate (S.length - (i+1)) 0).map fun n=>V.int .i64 n)):=fun y=>rfl
   have mlen:∀ y:Int,((S.take i++y :: List.replicate (S.length - (i+1)) 0).map fun n=>V.int .i64 n).length=want.length:=fun y=>by simp; omega
   have oc:∀ y:Int,objCells [Am.Obj.gone,.cells want.length 1 ((S.take i++y :: List.replicate (S.length - (i+1)) 0).map fun n=>V.int .i64 n)] 1=some (want.length,1,(S.take i++y :: List.replicate (S.length - (i+1)) 0).map fun n=>V.int .i64 n):=fun y=>objCells_of (mid y)
   have tk:∀ y:Int,List.take 1 (List.drop i ((S.take i++y :: List.replicate (S.length - (i+1)) 0).map fun n=>V.int .i64 n))=[.int .i64 y]:=fun y=>take_drop1 (by rw [List.getElem?_map,upS_at S 0 y i hiS]; rfl)
   have stm:∀ y z:Int,storeV [Am.Obj.gone,.cells want.length 1 ((S.take i++y :: List.replicate (S.length - (i+1)) 0).map fun n=>V.int .i64 n)] (.ref 1 i want.length) (.int .i64 z) 1=some [Am.Obj.gone,.cells want.length 1 ((S.take i++z :: List.replicate (S.length - (i+1)) 0).map fun n=>V.int .i64 n)]:=fun y z=>by
    have:=store_own (mid y) (mlen y) hlt (.int .i64 z) rfl rfl
    rw [this]
    simp only [List.set_cons_zero,List.set_cons_succ]
    rw [← upS_put S 0 y z i hiS,List.map_set]
   have hSi:S[i]?=some (if want.getD i false then satO (rd (.seq x) own data i) else 1):=by rw [hS]; exact szS_get hlt
   have hSi':S[i]=if want.getD i false then satO (rd (.seq x) own data i) else 1:=by
    have:=(List.getElem?_eq_some_iff.1 hSi).2
    exact this
   rw [← hfin,hSi'] at hI
   clear hfin e0 hSi hSi'
   generalize hMd:(fun y:Int=>((S.take i++y :: List.replicate (S.length - (i+1)) 0).map fun n=>V.int .i64 n))=Md at *
   have hMy:∀ y:Int,((S.take i++y :: List.replicate (S.length - (i+1)) 0).map fun n=>V.int .i64 n)=Md y:=fun y=>by rw [← hMd]
   simp only [hMy] at st0 oc tk mlen stm hI
   generalize ((upS S 0 i).map fun n=>V.int .i64 n)=U at *
   cases eb:want.getD i false with
   | false =>
    rw [eb] at e1 hI
    simp only [Bool.false_eq_true,if_false] at hI
    simp [hlw,hlt',hx1,st0,slotOf,-pcall,-List.all_eq_true]
    refine loop_nQ 0 (fun k c=>c=⟨[.agg [.int .i64 4,.int .i64 0,w],vo,vd,vw,.agg [.int .i64 4,.int .i64 0,w],.nils,.int .i64 zi,u,.int .i64 want.length,s9,o1,d1,ul,.sl 1 0 want.length want.length 1 false,.int .i64 i,.int .i64 0,s16],[],none,none,[.gone,.cells want.length 1 (Md 1)]⟩) ?_ rfl
    rintro J hJ k c hk rfl
    simp [hw2,e1,slotOf,-List.all_eq_true]
    exact ⟨hlt,hI _ ⟨_,_,rfl⟩⟩
   | true =>
    rw [eb] at e1 hI
    simp only [if_true] at hI
    obtain ⟨u0,r1,r2⟩:=row_at h1 hw (j:=0) (i:=i) (by omega) hlt
    obtain ⟨u1,r3,r4⟩:=row_at h1 hw (j:=1) (i:=i) (by omega) hlt
    simp only [Int.natCast_zero,Int.natCast_one] at r1 r3
    obtain ⟨lv,g1,g2,g3⟩:=rd_seq_get (hR i eb)
    have hCg:=hCg i hlt eb
    obtain ⟨b1,b2,b3⟩:=hok i eb
    rw [g1] at hI
    have hlast:satO (some (.mk 4 0 lv))=part20 lv lv.length:=by
     simp only [satO,part20,Vl.nodes,List.take_length]
    rw [hlast] at hI
    simp [hlw,hlt',hx1,st0,slotOf,-pcall,-List.all_eq_true]
    have hp0:part20 lv 0=1:=by simp [part20,Vl.nodesL]; omega
    refine loop_nQ lv.length (fun k c=>∃ s16,c=⟨[.agg [.int .i64 4,.int .i64 0,w],vo,vd,vw,.agg [.int .i64 4,.int .i64 0,w],.nils,.int .i64 zi,u,.int .i64 want.length,s9,o1,d1,ul,.sl 1 0 want.length want.length 1 false,.int .i64 i,.int .i64 k,s16],[],none,none,[.gone,.cells want.length 1 (Md (part20 lv k))]⟩) ?_ ⟨s16,by rw [hp0]; rfl⟩
    rintro J hJ k c hk ⟨s16',rfl⟩
    by_cases hkl:k<lv.length
    ·have hkl':(k:Int)<rg own 1 i:=by omega
     have hwk:IntKind.i64.wrap ((k:Int)+1)=(k:Int)+1:=wrap64 (by omega) (by omega)
     have g3:=g3 k hkl
     have hbd:=part20_bd lv k
     have hJ:=hJ (k+1)
     by_cases h0:x.own=0
     ·have hzneg:zi = -1:=by rw [hzi,psz,if_pos h0]; rfl
      subst hzneg
      rw [if_pos h0,rd_unit x h0] at g3
      have hnn:lv[k].nodes=x.size:=by
       have:unitV x=lv[k]:=by simpa using g3
       rw [← this]; exact unitV_nodes x h0
      have hstep:=part20_step hkl (one:=x.size) (.inl (by rw [hnn]))
      have hwr:IntKind.i64.wrap (part20 lv k+(x.size:Int))=part20 lv k+x.size:=wrap64 (by omega) (by omega)
      rw [← hstep] at hJ
      generalize part20 lv k=P at *
      simp [hlw,hlt',hx1,e1,r3,r4,hkl',i0,hca,hnd,oc,tk,mlen,hi1,stm,hwr,hwk,slotOf,-pcall,-List.all_eq_true]
      exact ⟨hkl,hJ _ ⟨_,rfl⟩⟩
     ·have hp:psz x data=some sz:=by rw [psz,if_neg h0] at hszd ⊢; rw [hszd]; rfl
      have hzs:zi=sz:=by rw [hzi,hp]; rfl
      subst hzs
      have hz0:(0:Int)≤sz:=by omega
      rw [if_neg h0] at g3
      have hcc:=hCg k hkl' h0
      have hcl:=want_lt hcc
      have hul1:=hul.idx' (i:=(rg own 0 i).toNat+k) (by rw [szS_len]; exact hcl)
      have hval:(szS x (data.take x.own) (data.drop x.own) (comeW x own data want))[(rg own 0 i).toNat+k]'(by rw [szS_len]; exact hcl)=min 20001 (lv[k].nodes:Int):=by
       have:=(List.getElem?_eq_some_iff.1 (szS_get (τ:=x) (own:=data.take x.own) (data:=data.drop x.own) hcl)).2
       rw [this,if_pos hcc,g3]; rfl
      rw [hval] at hul1
      rw [hclen] at hcl
      have b5:0≤rg own 0 i:=by omega
      have hws:IntKind.i64.wrap (rg own 0 i+(k:Int))=(((rg own 0 i).toNat+k:Nat):Int):=by rw [wrap64 (by omega) (by omega)]; omega
      have hstep:=part20_step hkl (one:=min 20001 (lv[k].nodes:Int)) (.inr rfl)
      obtain ⟨M,hM⟩:∃ M,M=min 20001 (lv[k].nodes:Int):=⟨_,rfl⟩
      have hMb:0≤M∧M≤20001:=by omega
      rw [← hM] at hstep hul1
      have hwr:IntKind.i64.wrap (part20 lv k+M)=part20 lv k+M:=wrap64 (by omega) (by omega)
      rw [← hstep] at hJ
      generalize part20 lv k=P at *
      simp [hlw,hlt',hx1,e1,r1,r2,r3,r4,hkl',hz0,i0,hca,hnd,hws,hul1,oc,tk,mlen,hi1,stm,hwr,hwk,slotOf,-pcall,-List.all_eq_true,-Int.natCast_add]
      exact ⟨hkl,hJ _ ⟨_,rfl⟩⟩
    ·obtain rfl:k=lv.length:=by omega
     have hnl:¬ ((lv.length:Int)<rg own 1 i):=by omega
     simp [e1,r3,r4,hnl,hw2,slotOf,-List.all_eq_true]
     exact ⟨hlt,hI _ ⟨_,_,rfl⟩⟩
  ·obtain rfl:i=want.length:=by omega
   have hup:upS S 0 want.length=S:=by simp [upS,← hSl]
   rw [hup]
   have hfz2:=view_own (H:=[.gone,.cells want.length 1 (S.map fun n=>V.int .i64 n)]) (b:=1) (n:=want.length) (cs:=S.map fun n=>V.int .i64 n) rfl (by simp [hSl]) (pureL_all.2 fun c hc=>by
    obtain ⟨n,_,rfl⟩:=List.mem_map.1 hc
    rfl)
   generalize (S.map fun n=>V.int .i64 n)=A at *
   simp [hlw,hfz2,slotOf,-List.all_eq_true]
   exact hQ _ _ rfl
def SizesKids:Ty→Prop
 | .pair x y=>SizesOK x∧SizesOK y
 | .sum x y=>SizesOK x∧SizesOK y
 | .seq x=>SizesOK x
 | _=>True
theorem szS_at {τ:Ty} {own data:List (List Int)} {want:List Bool} {i:Nat} (h:i<(szS τ own data want).length):(szS τ own data want)[i]=if want.getD i false then satO (rd τ own data i) else 1:=by
 have h':i<want.length:=by rw [szS_len] at h; exact h
 exact (List.getElem?_eq_some_iff.1 (szS_get h')).2
theorem szS_bd {τ:Ty} {own data:List (List Int)} {want:List Bool} {i:Nat} (h:i<(szS τ own data want).length):0≤(szS τ own data want)[i]∧(szS τ own data want)[i]≤20001:=by
 rw [szS_at h]
 split
 ·exact satO_bd _
 ·omega
theorem szS_one {τ:Ty} {own data:List (List Int)} {want:List Bool} (h:∀ i,want.getD i false=true→satO (rd τ own data i)=1):szS τ own data want=List.replicate want.length 1:=by
 refine List.ext_getElem (by simp [szS_len]) fun i h1 h2 => ?_
 rw [szS_at h1,List.getElem_replicate]
 split
 ·exact h i ‹_›
 ·rfl
def sz2 (b0 b1:Bool) (L M:Int):Int:=match b0,b1 with
 | true,true=>min 20001 (1+L+M)
 | true,false=>min 20001 (1+L)
 | false,true=>min 20001 (1+M)
 | false,false=>1
theorem upS_cur (S:List Int) (d:Int) (i:Nat) (h:i<S.length):upS S d i=S.take i++d :: List.replicate (S.length - (i+1)) d:=by
 have h2:List.replicate (S.length - i) d=d :: List.replicate (S.length - (i+1)) d:=by
  rw [← List.replicate_succ]; congr 1; omega
 rw [upS,h2]
theorem sizes_key (τ:Ty) (hs:τ.size<2 ^ 20) (ih:SizesKids τ) (t:Tr) (ht:IsTy t τ) (ho:t.Ok) (own data:List (List Int)) (want:List Bool) (vo vd vw:V) (h1:ListsV own vo) (h2:ListsV data vd) (h3:BoolsV want vw)
  (l1:own.length=τ.own) (l2:data.length=τ.data) (hw:Wide want.length own) (hsh:shp τ data=true) (ld:∀ r∈data,r.length<2 ^ 39) (lw:want.length<2 ^ 39) (hR:RightP τ own data want) :
  CallP gl Trnz.aprog 55 [.agg t.cs,vo,vd,vw] [] (fun r h'=>∃ u,r = .ret u∧IntsV (szS τ own data want) u):=by
 have hbs:=τ.both_size
 have hcc:=cells_tr ho
 have hlw:=h3.len'
 have hroom:room=140737488355328:=by simp [room]
 have hmk2:(List.replicate want.length [V.int .i64 0]).flatten=(upS (List.replicate want.length 1) 0 0).map fun n=>V.int .i64 n:=by simp [upS_zero,List.map_replicate]
 have m3:(want.length:Int) * 8≤140737488355328:=by omega
 have m4:(want.length:Int)≤9223372036854775807:=by omega
 suffices hsuff:CallP gl Trnz.aprog 55 [.agg t.cs,vo,vd,vw] [] (fun r h'=>r = .ret (.sv (((szS τ own data want).map fun n=>V.int .i64 n).map fun x=>[x]) false)∨∃ u,r = .ret u∧IntsV (szS τ own data want) u) by
  refine CallP.mono hsuff fun r h' h => ?_
  rcases h with rfl | h
  ·exact ⟨_,rfl,.sv false⟩
  ·exact h
 refine call_ofQ (af:=Trnz.a55) rfl rfl fun Q hQ => ?_
 simp only [Trnz.a55]
 simp [hcc,hlw,hroom,m3,m4,hmk2,slotOf,-List.all_eq_true,-List.flatten_replicate_singleton]
 refine loop_nQ want.length (fun i c=>c=⟨[.agg t.cs,vo,vd,vw,.agg t.cs,.nils,.sl 0 0 want.length want.length 1 false,.int .i64 i,.undef,.undef,.undef,.undef,.undef,.undef,.undef,.undef,.undef,.undef,.undef,.undef],[],none,none,
  [.cells want.length 1 ((upS (List.replicate want.length 1) 0 i).map fun n => .int .i64 n)]⟩) ?_ rfl
 rintro I hI i c hi rfl
 by_cases hlt:i<want.length
 ·have hlt':(i:Int)<want.length:=by omega
  have hw2:IntKind.i64.wrap ((i:Int)+1)=(i:Int)+1:=wrap64 (by omega) (by omega)
  have hx1:=own_idx (n:=want.length) (i:=i) 0 hlt
  have hR1:i<(List.replicate want.length (1:Int)).length:=by simpa using hlt
  have st0:=store_own (H:=[.cells want.length 1 ((upS (List.replicate want.length 1) 0 i).map fun n=>V.int .i64 n)]) (b:=0) (n:=want.length) (i:=i) rfl (by rw [List.length_map,upS_len _ _ _ (by simpa using hi)]; simp) hlt (.int .i64 1) rfl rfl
  have e0:((upS (List.replicate want.length 1) 0 i).map fun n=>V.int .i64 n).set i (.int .i64 1)=(upS (List.replicate want.length 1) 0 (i+1)).map fun n=>V.int .i64 n:=by
   rw [← upS_fin _ 0 i hR1,← upS_set _ 0 _ i hR1,List.map_set,List.getElem_replicate]
  rw [e0] at st0
  simp only [List.set_cons_zero] at st0
  have hI:=hI (i+1)
  generalize ((upS (List.replicate want.length 1) 0 i).map fun n=>V.int .i64 n)=A at *
  generalize ((upS (List.replicate want.length 1) 0 (i+1)).map fun n=>V.int .i64 n)=B at *
  simp [hlw,hlt',hx1,st0,hw2,slotOf,-List.all_eq_true]
  exact ⟨hlt,hI _ rfl⟩
 ·obtain rfl:i=want.length:=by omega
  have hup:upS (List.replicate want.length 1) 0 want.length=List.replicate want.length (1:Int):=by simp [upS]
  rw [hup]
  obtain ⟨O1,hO1d⟩:∃ O1,O1=Am.Obj.cells want.length 1 ((List.replicate want.length (1:Int)).map fun n => .int .i64 n):=⟨_,rfl⟩
  have hfz1:=view_own (H:=[O1]) (b:=0) (n:=want.length) (cs:=(List.replicate want.length (1:Int)).map fun n => .int .i64 n) (by rw [hO1d]; rfl) (by simp) (pureL_all.2 fun c hc=>by
   obtain ⟨n,_,rfl⟩:=List.mem_map.1 hc
   rfl)
  rw [← hO1d]
  cases ht with
  | unit w =>
   have hQ:=hQ (.ret (.sv (((List.replicate want.length (1:Int)).map fun n=>V.int .i64 n).map fun x=>[x]) false)) [.gone] (.inl (by rw [szS_one fun i _=>by simp only [rd,satO,Vl.nodes,Vl.nodesL]; rfl]))
   clear hO1d
   generalize ((List.replicate want.length (1:Int)).map fun n=>V.int .i64 n)=A at *
   simp [hlw,Tr.cs,hfz1,slotOf,-List.all_eq_true]
   exact hQ
  | int w =>
   have hQ:=hQ (.ret (.sv (((List.replicate want.length (1:Int)).map fun n=>V.int .i64 n).map fun x=>[x]) false)) [.gone] (.inl (by
    rw [szS_one fun i hi=>by
     have:=rightP_int.1 hR i hi
     simp only [rd,this,if_true,satO,Vl.nodes,Vl.nodesL]; rfl]))
   clear hO1d
   generalize ((List.replicate want.length (1:Int)).map fun n=>V.int .i64 n)=A at *
   simp [hlw,Tr.cs,hfz1,slotOf,-List.all_eq_true]
   exact hQ
  | seq w a x ha =>
   simp only [Ty.own,Ty.data,Ty.size] at l1 l2 hs
   obtain ⟨u,c1,hu⟩:=seqSizes_q x (by omega) ih ha ho own data want vo vd vw h1 h2 h3 l1 l2 hw hsh ld lw hR
   have hcs:(Tr.mk 4 0 w [a]).cs=[.int .i64 4,.int .i64 0,w]:=rfl
   rw [hcs] at c1 ⊢
   rw [PC] at c1
   simp [hlw,c1,slotOf,-List.all_eq_true,-pcall]
   exact hQ _ _ (.inr ⟨u,rfl,hu⟩)
  | pair w a b x y ha hb =>
   obtain ⟨_,_,hv,hkids⟩:=ho.inv
   simp only [Ty.own,Ty.data,Ty.size] at l1 l2 hs
   have i0:=idx_tr hv (i:=0) (by simp)
   have i1:=idx_tr hv (i:=1) (by simp)
   simp only [List.getElem_cons_zero,List.getElem_cons_succ,Int.natCast_zero,Int.natCast_one] at i0 i1
   have hca:=cells_tr (hkids a (by simp))
   have hcb:=cells_tr (hkids b (by simp))
   have hbx:=x.both_size
   have hwc:=hv.cell
   have ap1:=appV_own (h:=[O1,.cells 0 1 []]) (o:=1) (n:=0) (sz:=1) (bytes:=1) (cs:=[]) (y:=vw) (k:=want.length) (ys:=want.map fun b => .bool b) rfl (by have:=CellsV.slen' h3; simpa using this) (CellsV.scells' h3 _) (by simp) (by omega)
   have ap2:=appV_own (h:=[O1,.cells want.length 1 (want.map fun b => .bool b),.cells 0 1 []]) (o:=2) (n:=0) (sz:=1) (bytes:=1) (cs:=[]) (y:=vw) (k:=want.length) (ys:=want.map fun b => .bool b) rfl (by have:=CellsV.slen' h3; simpa using this) (CellsV.scells' h3 _) (by simp) (by omega)
   simp only [Nat.zero_add,List.nil_append,List.set_cons_zero,List.set_cons_succ] at ap1 ap2
   simp [hlw,Tr.cs,hwc,fill,ap1,ap2,slotOf,-List.all_eq_true]
   refine loop_nQ 0 (fun i c=>c=⟨[.agg [.int .i64 2,.int .i64 0,w],vo,vd,vw,.agg [.int .i64 2,.int .i64 0,w],.nils,.sl 0 0 want.length want.length 1 false,.int .i64 want.length,.sl 1 0 want.length want.length 1 false,.sl 2 0 want.length want.length 1 false,.int .i64 0,.undef,.undef,.undef,.undef,.undef,.undef,.undef,.int .i64 2,.bool false],[],none,none,
    [O1,.cells want.length 1 (want.map fun b => .bool b),.cells want.length 1 (want.map fun b => .bool b)]⟩) ?_ rfl
   rintro I2 hI2 i c hi rfl
   obtain ⟨W0,hW0e⟩:∃ W0,W0=want:=⟨_,rfl⟩
   obtain ⟨W1,hW1e⟩:∃ W1,W1=want:=⟨_,rfl⟩
   have hW0:W0.length=want.length:=by rw [hW0e]
   have hW1:W1.length=want.length:=by rw [hW1e]
   have e0:(want.map fun b=>V.bool b)=W0.map fun b=>V.bool b:=by rw [hW0e]
   have e01:[O1,Am.Obj.cells want.length 1 (W0.map fun b => .bool b),.cells want.length 1 (W0.map fun b => .bool b)]=[O1,Am.Obj.cells want.length 1 (W0.map fun b => .bool b),.cells want.length 1 (W1.map fun b => .bool b)]:=by rw [hW0e,hW1e]
   rw [e0,e01]
   obtain ⟨hR0,hR1⟩:=rightP_pair.1 hR
   rw [← hW0e] at hR0
   rw [← hW1e] at hR1
   have hf2:frzV [O1,.cells want.length 1 (W0.map fun b => .bool b),.cells want.length 1 (W1.map fun b => .bool b)] (.sl 2 0 want.length want.length 1 false)=some (.sv ((W1.map fun b=>V.bool b).map fun x=>[x]) false,[O1,.cells want.length 1 (W0.map fun b => .bool b),.gone]):=by
    have:=view_own (H:=[O1,.cells want.length 1 (W0.map fun b => .bool b),.cells want.length 1 (W1.map fun b => .bool b)]) (b:=2) (n:=want.length) (cs:=W1.map fun b=>V.bool b) rfl (by simp [hW1]) (bools_pure _)
    rw [this]; rfl
   have hf1:frzV [O1,.cells want.length 1 (W0.map fun b => .bool b),.gone] (.sl 1 0 want.length want.length 1 false)=some (.sv ((W0.map fun b=>V.bool b).map fun x=>[x]) false,[O1,.gone,.gone]):=by
    have:=view_own (H:=[O1,.cells want.length 1 (W0.map fun b => .bool b),.gone]) (b:=1) (n:=want.length) (cs:=W0.map fun b=>V.bool b) rfl (by simp [hW0]) (bools_pure _)
    rw [this]; rfl
   obtain ⟨u0,hu0⟩:∃ u,u=V.sv ((W0.map fun b=>V.bool b).map fun x=>[x]) false:=⟨_,rfl⟩
   obtain ⟨u1,hu1⟩:∃ u,u=V.sv ((W1.map fun b=>V.bool b).map fun x=>[x]) false:=⟨_,rfl⟩
   have bu0:BoolsV W0 u0:=by rw [hu0]; exact .sv false
   have bu1:BoolsV W1 u1:=by rw [hu1]; exact .sv false
   rw [← hu0] at hf1
   rw [← hu1] at hf2
   obtain ⟨⟨o1,d1,c1,p1,q1⟩,⟨o2,d2,c2,p2,q2⟩⟩:=cut_q 2 (.inl rfl) (by omega) (by omega) ha hb ho h1 h2 (by simp [cutO]; omega) l2 (by omega)
   have sh1:shp x (data.take x.data)=true∧shp y (data.drop x.data)=true:=by simpa [shp] using hsh
   obtain ⟨ul,r1,z1⟩:=ih.1 a ha (hkids a (by simp)) _ _ W0 o1 d1 u0 p1 q1 bu0 (by simp [cutO]; omega) (by simp; omega) (fun r hr=>by rw [hW0]; exact hw r (cutO_mem (mem_td.1 hr))) sh1.1 (fun r hr=>ld r (mem_td.1 hr)) (by omega) hR0
   obtain ⟨um,r2,z2⟩:=ih.2 b hb (hkids b (by simp)) _ _ W1 o2 d2 u1 p2 q2 bu1 (by simp [cutO]; omega) (by simp; omega) (fun r hr=>by rw [hW1]; exact hw r (cutO_mem (mem_td.2 hr))) sh1.2 (fun r hr=>ld r (mem_td.2 hr)) (by omega) hR1
   have hcs:(Tr.mk 2 0 w [a,b]).cs=[.int .i64 2,.int .i64 0,w]:=rfl
   rw [hcs] at c1 c2 hcc
   rw [PC] at c1 c2 r1 r2
   have hSl:=szS_len (.pair x y) own data want
   have hLl:=szS_len x ((cutO 2 own).take x.own) (data.take x.data) W0
   have hMl:=szS_len y ((cutO 2 own).drop x.own) (data.drop x.data) W1
   have hSv:∀ i (h0:i<(szS (.pair x y) own data want).length) (h1:i<(szS x ((cutO 2 own).take x.own) (data.take x.data) W0).length) (h2:i<(szS y ((cutO 2 own).drop x.own) (data.drop x.data) W1).length),
     (szS (.pair x y) own data want)[i]=sz2 (W0.getD i false) (W1.getD i false) ((szS x ((cutO 2 own).take x.own) (data.take x.data) W0)[i]) ((szS y ((cutO 2 own).drop x.own) (data.drop x.data) W1)[i]) ∧
     (0≤(szS x ((cutO 2 own).take x.own) (data.take x.data) W0)[i]∧(szS x ((cutO 2 own).take x.own) (data.take x.data) W0)[i]≤20001)∧(0≤(szS y ((cutO 2 own).drop x.own) (data.drop x.data) W1)[i]∧(szS y ((cutO 2 own).drop x.own) (data.drop x.data) W1)[i]≤20001):=by
    intro i g0 g1 g2
    refine ⟨?_,szS_bd g1,szS_bd g2⟩
    rw [szS_at g0,szS_at g1,szS_at g2]
    have hR:=hR i
    cases ew:want.getD i false with
    | false=>rw [hW0e,hW1e,ew]; rfl
    | true =>
     have k1:=hR0 i (by rw [hW0e]; exact ew)
     have k2:=hR1 i (by rw [hW1e]; exact ew)
     obtain ⟨v1,k1⟩:=Option.isSome_iff_exists.1 k1
     obtain ⟨v2,k2⟩:=Option.isSome_iff_exists.1 k2
     have hcut:cutO 2 own=own:=by simp [cutO]
     rw [hcut,k1,k2,hW0e,hW1e,ew]
     simp only [if_true,rd,k1,k2,pairO,satO,sz2,Vl.nodes,Vl.nodesL]
     omega
   obtain ⟨S,hS⟩:∃ S,S=szS (.pair x y) own data want:=⟨_,rfl⟩
   rw [← hS] at hSl hSv hQ
   generalize szS x ((cutO 2 own).take x.own) (data.take x.data) W0=L at *
   generalize szS y ((cutO 2 own).drop x.own) (data.drop x.data) W1=M at *
   have hO1:O1 = .cells want.length 1 ((upS S 1 0).map fun n => .int .i64 n):=by rw [hO1d,upS_zero,hSl]
   clear hO1d ap1 ap2
   generalize (W0.map fun b=>V.bool b)=A0 at *
   generalize (W1.map fun b=>V.bool b)=A1 at *
   simp [WX_frz,nthV_eq,hlw,hf1,hf2,c1,c2,i0,i1,hca,hcb,r1,r2,slotOf,-List.all_eq_true,-pcall]
   refine loop_nQ want.length (fun i c=>c=⟨[.agg [.int .i64 2,.int .i64 0,w],vo,vd,vw,.agg [.int .i64 2,.int .i64 0,w],.nils,.sl 0 0 want.length want.length 1 false,.int .i64 want.length,u0,u1,.int .i64 0,o1,d1,o2,d2,ul,um,.int .i64 i,.int .i64 2,.bool false],[],none,none,
    [.cells want.length 1 ((upS S 1 i).map fun n => .int .i64 n),.gone,.gone]⟩) ?_ (by rw [hO1]; rfl)
   rintro J hJ i c hi rfl
   by_cases hlt:i<want.length
   ·have hlt':(i:Int)<want.length:=by omega
    have hw2:IntKind.i64.wrap ((i:Int)+1)=(i:Int)+1:=wrap64 (by omega) (by omega)
    have b0:=bu0.idx' (i:=i) (by omega)
    have b1:=bu1.idx' (i:=i) (by omega)
    have x0:=z1.idx' (i:=i) (by omega)
    have x1:=z2.idx' (i:=i) (by omega)
    have hx1:=own_idx (n:=want.length) (i:=i) 0 hlt
    have hiS:i<S.length:=by omega
    have hi1:i+1≤want.length:=hlt
    obtain ⟨hv1,hLb,hMb⟩:=hSv i hiS (by omega) (by omega)
    have hJ:=hJ (i+1)
    rw [← upS_fin S 1 i hiS,hv1] at hJ
    rw [upS_cur S 1 i hiS]
    have mid:∀ y:Int,[Am.Obj.cells want.length 1 ((S.take i++y :: List.replicate (S.length - (i+1)) 1).map fun n=>V.int .i64 n),.gone,.gone][0]?=some (.cells want.length 1 ((S.take i++y :: List.replicate (S.length - (i+1)) 1).map fun n=>V.int .i64 n)):=fun y=>rfl
    have mlen:∀ y:Int,((S.take i++y :: List.replicate (S.length - (i+1)) 1).map fun n=>V.int .i64 n).length=want.length:=fun y=>by simp; omega
    have oc:∀ y:Int,objCells [Am.Obj.cells want.length 1 ((S.take i++y :: List.replicate (S.length - (i+1)) 1).map fun n=>V.int .i64 n),.gone,.gone] 0=some (want.length,1,(S.take i++y :: List.replicate (S.length - (i+1)) 1).map fun n=>V.int .i64 n):=fun y=>objCells_of (mid y)
    have tk:∀ y:Int,List.take 1 (List.drop i ((S.take i++y :: List.replicate (S.length - (i+1)) 1).map fun n=>V.int .i64 n))=[.int .i64 y]:=fun y=>take_drop1 (by rw [List.getElem?_map,upS_at S 1 y i hiS]; rfl)
    have stm:∀ y z:Int,storeV [Am.Obj.cells want.length 1 ((S.take i++y :: List.replicate (S.length - (i+1)) 1).map fun n=>V.int .i64 n),.gone,.gone] (.ref 0 i want.length) (.int .i64 z) 1=some [Am.Obj.cells want.length 1 ((S.take i++z :: List.replicate (S.length - (i+1)) 1).map fun n=>V.int .i64 n),.gone,.gone]:=fun y z=>by
     have:=store_own (mid y) (mlen y) hlt (.int .i64 z) rfl rfl
     rw [this]
     simp only [List.set_cons_zero]
     rw [← upS_put S 1 y z i hiS,List.map_set]
    generalize hMd:(fun y:Int=>((S.take i++y :: List.replicate (S.length - (i+1)) 1).map fun n=>V.int .i64 n))=Md at *
    have hMy:∀ y:Int,((S.take i++y :: List.replicate (S.length - (i+1)) 1).map fun n=>V.int .i64 n)=Md y:=fun y=>by rw [← hMd]
    simp only [hMy] at oc tk mlen stm hJ ⊢
    clear hv1 hMy hMd
    generalize L[i]'(by omega)=lv at *
    generalize M[i]'(by omega)=mv at *
    have w1:IntKind.i64.wrap (1+lv)=1+lv:=wrap64 (by omega) (by omega)
    have w2:IntKind.i64.wrap (1+mv)=1+mv:=wrap64 (by omega) (by omega)
    have w3:IntKind.i64.wrap (1+lv+mv)=1+lv+mv:=wrap64 (by omega) (by omega)
    cases e0:W0.getD i false with
    | false =>
     rw [e0] at b0 hJ
     cases e1:W1.getD i false with
     | false =>
      rw [e1] at b1 hJ
      simp only [sz2] at hJ
      simp [hlw,hlt',b0,b1,hx1,oc,tk,mlen,hi1,stm,hw2,slotOf,-pcall,-List.all_eq_true]
      exact ⟨hlt,hJ _ rfl⟩
     | true =>
      rw [e1] at b1 hJ
      by_cases hgt:20001<1+mv
      ·have:sz2 false true lv mv=20001:=by simp only [sz2]; omega
       rw [this] at hJ
       simp [hlw,hlt',b0,b1,x0,x1,hx1,oc,tk,mlen,hi1,stm,hw2,w1,w2,w3,hgt,slotOf,-pcall,-List.all_eq_true]
       exact ⟨hlt,hJ _ rfl⟩
      ·have:sz2 false true lv mv=1+mv:=by simp only [sz2]; omega
       rw [this] at hJ
       simp [hlw,hlt',b0,b1,x0,x1,hx1,oc,tk,mlen,hi1,stm,hw2,w1,w2,w3,hgt,slotOf,-pcall,-List.all_eq_true]
       exact ⟨hlt,hJ _ rfl⟩
    | true =>
     rw [e0] at b0 hJ
     cases e1:W1.getD i false with
     | false =>
      rw [e1] at b1 hJ
      by_cases hgt:20001<1+lv
      ·have:sz2 true false lv mv=20001:=by simp only [sz2]; omega
       rw [this] at hJ
       simp [hlw,hlt',b0,b1,x0,x1,hx1,oc,tk,mlen,hi1,stm,hw2,w1,w2,w3,hgt,slotOf,-pcall,-List.all_eq_true]
       exact ⟨hlt,hJ _ rfl⟩
      ·have:sz2 true false lv mv=1+lv:=by simp only [sz2]; omega
       rw [this] at hJ
       simp [hlw,hlt',b0,b1,x0,x1,hx1,oc,tk,mlen,hi1,stm,hw2,w1,w2,w3,hgt,slotOf,-pcall,-List.all_eq_true]
       exact ⟨hlt,hJ _ rfl⟩
     | true =>
      rw [e1] at b1 hJ
      by_cases hgt:20001<1+lv+mv
      ·have:sz2 true true lv mv=20001:=by simp only [sz2]; omega
       rw [this] at hJ
       simp [hlw,hlt',b0,b1,x0,x1,hx1,oc,tk,mlen,hi1,stm,hw2,w1,w2,w3,hgt,slotOf,-pcall,-List.all_eq_true]
       exact ⟨hlt,hJ _ rfl⟩
      ·have:sz2 true true lv mv=1+lv+mv:=by simp only [sz2]; omega
       rw [this] at hJ
       simp [hlw,hlt',b0,b1,x0,x1,hx1,oc,tk,mlen,hi1,stm,hw2,w1,w2,w3,hgt,slotOf,-pcall,-List.all_eq_true]
       exact ⟨hlt,hJ _ rfl⟩
   ·obtain rfl:i=want.length:=by omega
    have hup:upS S 1 want.length=S:=by simp [upS,← hSl]
    rw [hup]
    have hfz2:=view_own (H:=[.cells want.length 1 (S.map fun n=>V.int .i64 n),.gone,.gone]) (b:=0) (n:=want.length) (cs:=S.map fun n=>V.int .i64 n) rfl (by simp [hSl]) (pureL_all.2 fun c hc=>by
     obtain ⟨n,_,rfl⟩:=List.mem_map.1 hc
     rfl)
    generalize (S.map fun n=>V.int .i64 n)=A at *
    simp [hlw,hfz2,slotOf,-List.all_eq_true]
    exact hQ _ _ (.inl rfl)
  | sum w a b x y ha hb =>
   obtain ⟨_,_,hv,hkids⟩:=ho.inv
   simp only [Ty.own,Ty.data,Ty.size] at l1 l2 hs
   have i0:=idx_tr hv (i:=0) (by simp)
   have i1:=idx_tr hv (i:=1) (by simp)
   simp only [List.getElem_cons_zero,List.getElem_cons_succ,Int.natCast_zero,Int.natCast_one] at i0 i1
   have hca:=cells_tr (hkids a (by simp))
   have hcb:=cells_tr (hkids b (by simp))
   have hbx:=x.both_size
   have hwc:=hv.cell
   have ap1:=appV_own (h:=[O1,.cells 0 1 []]) (o:=1) (n:=0) (sz:=1) (bytes:=1) (cs:=[]) (y:=vw) (k:=want.length) (ys:=want.map fun b => .bool b) rfl (by have:=CellsV.slen' h3; simpa using this) (CellsV.scells' h3 _) (by simp) (by omega)
   have ap2:=appV_own (h:=[O1,.cells want.length 1 (want.map fun b => .bool b),.cells 0 1 []]) (o:=2) (n:=0) (sz:=1) (bytes:=1) (cs:=[]) (y:=vw) (k:=want.length) (ys:=want.map fun b => .bool b) rfl (by have:=CellsV.slen' h3; simpa using this) (CellsV.scells' h3 _) (by simp) (by omega)
   simp only [Nat.zero_add,List.nil_append,List.set_cons_zero,List.set_cons_succ] at ap1 ap2
   have t0:=tagW_len own want 0
   have t1:=tagW_len own want 1
   obtain ⟨hz0,hR0,hR1⟩:=rightP_sum.1 hR
   have hz:∀ j,j<want.length→want.getD j false=true→rg own 0 j=0∨rg own 0 j=1:=fun j _ hj=>hz0 j hj
   simp [hlw,Tr.cs,hwc,fill,ap1,ap2,slotOf,-List.all_eq_true]
   refine loop_nQ want.length (fun i c=>c=⟨[.agg [.int .i64 3,.int .i64 0,w],vo,vd,vw,.agg [.int .i64 3,.int .i64 0,w],.nils,.sl 0 0 want.length want.length 1 false,.int .i64 want.length,.sl 1 0 want.length want.length 1 false,.sl 2 0 want.length want.length 1 false,.int .i64 i,.undef,.undef,.undef,.undef,.undef,.undef,.undef,.int .i64 3,.bool false],[],none,none,
    [O1,.cells want.length 1 (((tagW own want 0).take i++want.drop i).map fun b => .bool b),.cells want.length 1 (((tagW own want 1).take i++want.drop i).map fun b => .bool b)]⟩) ?_ (by simp)
   rintro I2 hI2 i c hi rfl
   by_cases hlt:i<want.length
   ·have hlt':(i:Int)<want.length:=by omega
    have hw2:IntKind.i64.wrap ((i:Int)+1)=(i:Int)+1:=wrap64 (by omega) (by omega)
    have e1:=h3.idx' hlt
    obtain ⟨u0,r1,r2⟩:=row_at h1 hw (j:=0) (i:=i) (by omega) hlt
    simp only [Int.natCast_zero] at r1
    have hx0:=own_idx (n:=want.length) (i:=i) 1 hlt
    have hx1:=own_idx (n:=want.length) (i:=i) 2 hlt
    have g0:=tagW_get own want 0 i
    have g1:=tagW_get own want 1 i
    have hI2:=hI2 (i+1)
    have st0:=fun (b:Bool) (B:Am.Obj) (hb:(tagW own want 0).getD i false=b)=>store_own (H:=[O1,.cells want.length 1 (((tagW own want 0).take i++want.drop i).map fun b=>V.bool b),B]) (b:=1) (n:=want.length) (i:=i) rfl (by simp; omega) hlt (.bool b) rfl rfl
    have st1:=fun (b:Bool) (B:Am.Obj) (hb:(tagW own want 1).getD i false=b)=>store_own (H:=[O1,B,.cells want.length 1 (((tagW own want 1).take i++want.drop i).map fun b=>V.bool b)]) (b:=2) (n:=want.length) (i:=i) rfl (by simp; omega) hlt (.bool b) rfl rfl
    have mx0:=fun (b:Bool) (hb:(tagW own want 0).getD i false=b)=>mix_set_b t0 hlt b hb
    have mx1:=fun (b:Bool) (hb:(tagW own want 1).getD i false=b)=>mix_set_b t1 hlt b hb
    simp only [List.set_cons_zero,List.set_cons_succ] at st0 st1
    cases eb:want.getD i false with
    | false =>
     rw [eb] at e1 g0 g1
     simp only [Bool.false_and] at g0 g1
     have st0:=fun B=>st0 false B g0
     have st1:=fun B=>st1 false B g1
     simp only [mx0 false g0] at st0
     simp only [mx1 false g1] at st1
     clear g0 g1 mx0 mx1
     generalize (((tagW own want 0).take i++want.drop i).map fun b=>V.bool b)=A0 at *
     generalize (((tagW own want 1).take i++want.drop i).map fun b=>V.bool b)=A1 at *
     generalize (((tagW own want 0).take (i+1)++want.drop (i+1)).map fun b=>V.bool b)=B0 at *
     generalize (((tagW own want 1).take (i+1)++want.drop (i+1)).map fun b=>V.bool b)=B1 at *
     simp [hlw,hlt',e1,hw2,hx0,hx1,st0,st1,slotOf,-List.all_eq_true,-pcall]
     exact ⟨hlt,hI2 _ rfl⟩
    | true =>
     rw [eb] at e1 g0 g1
     simp only [Bool.true_and] at g0 g1
     have st0:=fun B=>st0 _ B g0
     have st1:=fun B=>st1 _ B g1
     simp only [mx0 _ g0] at st0
     simp only [mx1 _ g1] at st1
     clear g0 g1 mx0 mx1
     generalize (((tagW own want 0).take i++want.drop i).map fun b=>V.bool b)=A0 at *
     generalize (((tagW own want 1).take i++want.drop i).map fun b=>V.bool b)=A1 at *
     generalize (((tagW own want 0).take (i+1)++want.drop (i+1)).map fun b=>V.bool b)=B0 at *
     generalize (((tagW own want 1).take (i+1)++want.drop (i+1)).map fun b=>V.bool b)=B1 at *
     generalize rg own 0 i=q at r2 st0 st1
     simp [hlw,hlt',e1,r1,r2,hw2,hx0,hx1,st0,st1,slotOf,-List.all_eq_true,-pcall]
     exact ⟨hlt,hI2 _ rfl⟩
   ·obtain rfl:i=want.length:=by omega
    have e0:(tagW own want 0).take want.length++want.drop want.length=tagW own want 0:=by rw [List.drop_length,List.append_nil,List.take_of_length_le (by omega)]
    have e1:(tagW own want 1).take want.length++want.drop want.length=tagW own want 1:=by rw [List.drop_length,List.append_nil,List.take_of_length_le (by omega)]
    rw [e0,e1]
    obtain ⟨W0,hW0e⟩:∃ W0,W0=tagW own want 0:=⟨_,rfl⟩
    obtain ⟨W1,hW1e⟩:∃ W1,W1=tagW own want 1:=⟨_,rfl⟩
    have hW0:W0.length=want.length:=by rw [hW0e,t0]
    have hW1:W1.length=want.length:=by rw [hW1e,t1]
    rw [← hW0e,← hW1e]
    rw [← hW0e] at hR0
    rw [← hW1e] at hR1
    have hf2:frzV [O1,.cells want.length 1 (W0.map fun b => .bool b),.cells want.length 1 (W1.map fun b => .bool b)] (.sl 2 0 want.length want.length 1 false)=some (.sv ((W1.map fun b=>V.bool b).map fun x=>[x]) false,[O1,.cells want.length 1 (W0.map fun b => .bool b),.gone]):=by
     have:=view_own (H:=[O1,.cells want.length 1 (W0.map fun b => .bool b),.cells want.length 1 (W1.map fun b => .bool b)]) (b:=2) (n:=want.length) (cs:=W1.map fun b=>V.bool b) rfl (by simp [hW1]) (bools_pure _)
     rw [this]; rfl
    have hf1:frzV [O1,.cells want.length 1 (W0.map fun b => .bool b),.gone] (.sl 1 0 want.length want.length 1 false)=some (.sv ((W0.map fun b=>V.bool b).map fun x=>[x]) false,[O1,.gone,.gone]):=by
     have:=view_own (H:=[O1,.cells want.length 1 (W0.map fun b => .bool b),.gone]) (b:=1) (n:=want.length) (cs:=W0.map fun b=>V.bool b) rfl (by simp [hW0]) (bools_pure _)
     rw [this]; rfl
    obtain ⟨u0,hu0⟩:∃ u,u=V.sv ((W0.map fun b=>V.bool b).map fun x=>[x]) false:=⟨_,rfl⟩
    obtain ⟨u1,hu1⟩:∃ u,u=V.sv ((W1.map fun b=>V.bool b).map fun x=>[x]) false:=⟨_,rfl⟩
    have bu0:BoolsV W0 u0:=by rw [hu0]; exact .sv false
    have bu1:BoolsV W1 u1:=by rw [hu1]; exact .sv false
    rw [← hu0] at hf1
    rw [← hu1] at hf2
    obtain ⟨⟨o1,d1,c1,p1,q1⟩,⟨o2,d2,c2,p2,q2⟩⟩:=cut_q 3 (.inr rfl) (by omega) (by omega) ha hb ho h1 h2 (by simp [cutO]; omega) l2 (by omega)
    have sh1:shp x (data.take x.data)=true∧shp y (data.drop x.data)=true:=by simpa [shp] using hsh
    obtain ⟨ul,r1,z1⟩:=ih.1 a ha (hkids a (by simp)) _ _ W0 o1 d1 u0 p1 q1 bu0 (by simp [cutO]; omega) (by simp; omega) (fun r hr=>by rw [hW0]; exact hw r (cutO_mem (mem_td.1 hr))) sh1.1 (fun r hr=>ld r (mem_td.1 hr)) (by omega) hR0
    obtain ⟨um,r2,z2⟩:=ih.2 b hb (hkids b (by simp)) _ _ W1 o2 d2 u1 p2 q2 bu1 (by simp [cutO]; omega) (by simp; omega) (fun r hr=>by rw [hW1]; exact hw r (cutO_mem (mem_td.2 hr))) sh1.2 (fun r hr=>ld r (mem_td.2 hr)) (by omega) hR1
    have hcs:(Tr.mk 3 0 w [a,b]).cs=[.int .i64 3,.int .i64 0,w]:=rfl
    rw [hcs] at c1 c2 hcc
    rw [PC] at c1 c2 r1 r2
    have hSl:=szS_len (.sum x y) own data want
    have hLl:=szS_len x ((cutO 3 own).take x.own) (data.take x.data) W0
    have hMl:=szS_len y ((cutO 3 own).drop x.own) (data.drop x.data) W1
    have hSv:∀ i (h0:i<(szS (.sum x y) own data want).length) (h1:i<(szS x ((cutO 3 own).take x.own) (data.take x.data) W0).length) (h2:i<(szS y ((cutO 3 own).drop x.own) (data.drop x.data) W1).length),
      (szS (.sum x y) own data want)[i]=sz2 (W0.getD i false) (W1.getD i false) ((szS x ((cutO 3 own).take x.own) (data.take x.data) W0)[i]) ((szS y ((cutO 3 own).drop x.own) (data.drop x.data) W1)[i]) ∧
      (0≤(szS x ((cutO 3 own).take x.own) (data.take x.data) W0)[i]∧(szS x ((cutO 3 own).take x.own) (data.take x.data) W0)[i]≤20001)∧(0≤(szS y ((cutO 3 own).drop x.own) (data.drop x.data) W1)[i]∧(szS y ((cutO 3 own).drop x.own) (data.drop x.data) W1)[i]≤20001):=by
     intro i g0 g1 g2
     refine ⟨?_,szS_bd g1,szS_bd g2⟩
     rw [szS_at g0,szS_at g1,szS_at g2]
     have hR:=hR i
     cases ew:want.getD i false with
     | false=>rw [hW0e,hW1e,tagW_get,tagW_get,ew]; rfl
     | true =>
      rcases hz i (want_lt ew) ew with e | e
      ·have k1:=hR0 i (by rw [hW0e,tagW_get,ew,e]; rfl)
       obtain ⟨v1,k1⟩:=Option.isSome_iff_exists.1 k1
       have hcut:cutO 3 own=own.drop 1:=by simp [cutO]
       have q0:W0.getD i false=true:=by rw [hW0e,tagW_get,ew,e]; rfl
       have q1:W1.getD i false=false:=by rw [hW1e,tagW_get,ew,e]; rfl
       rw [hcut,q0,q1,k1]
       simp only [if_true,rd,e,k1,Option.map_some,satO,sz2,Vl.nodes,Vl.nodesL]
       omega
      ·have k1:=hR1 i (by rw [hW1e,tagW_get,ew,e]; rfl)
       obtain ⟨v1,k1⟩:=Option.isSome_iff_exists.1 k1
       have hcut:cutO 3 own=own.drop 1:=by simp [cutO]
       have q0:W0.getD i false=false:=by rw [hW0e,tagW_get,ew,e]; rfl
       have q1:W1.getD i false=true:=by rw [hW1e,tagW_get,ew,e]; rfl
       have e10:¬ (1:Int)=0:=by omega
       rw [hcut,q0,q1,k1]
       simp only [if_true,rd,e,e10,if_false,k1,Option.map_some,satO,sz2,Vl.nodes,Vl.nodesL]
       omega
    obtain ⟨S,hS⟩:∃ S,S=szS (.sum x y) own data want:=⟨_,rfl⟩
    rw [← hS] at hSl hSv hQ
    generalize szS x ((cutO 3 own).take x.own) (data.take x.data) W0=L at *
    generalize szS y ((cutO 3 own).drop x.own) (data.drop x.data) W1=M at *
    have hO1:O1 = .cells want.length 1 ((upS S 1 0).map fun n => .int .i64 n):=by rw [hO1d,upS_zero,hSl]
    clear hO1d ap1 ap2
    generalize (W0.map fun b=>V.bool b)=A0 at *
    generalize (W1.map fun b=>V.bool b)=A1 at *
    simp [WX_frz,nthV_eq,hlw,hf1,hf2,c1,c2,i0,i1,hca,hcb,r1,r2,slotOf,-List.all_eq_true,-pcall]
    refine loop_nQ want.length (fun i c=>c=⟨[.agg [.int .i64 3,.int .i64 0,w],vo,vd,vw,.agg [.int .i64 3,.int .i64 0,w],.nils,.sl 0 0 want.length want.length 1 false,.int .i64 want.length,u0,u1,.int .i64 want.length,o1,d1,o2,d2,ul,um,.int .i64 i,.int .i64 3,.bool false],[],none,none,
     [.cells want.length 1 ((upS S 1 i).map fun n => .int .i64 n),.gone,.gone]⟩) ?_ (by rw [hO1]; rfl)
    rintro J hJ i c hi rfl
    by_cases hlt:i<want.length
    ·have hlt':(i:Int)<want.length:=by omega
     have hw2:IntKind.i64.wrap ((i:Int)+1)=(i:Int)+1:=wrap64 (by omega) (by omega)
     have b0:=bu0.idx' (i:=i) (by omega)
     have b1:=bu1.idx' (i:=i) (by omega)
     have x0:=z1.idx' (i:=i) (by omega)
     have x1:=z2.idx' (i:=i) (by omega)
     have hx1:=own_idx (n:=want.length) (i:=i) 0 hlt
     have hiS:i<S.length:=by omega
     have hi1:i+1≤want.length:=hlt
     obtain ⟨hv1,hLb,hMb⟩:=hSv i hiS (by omega) (by omega)
     have hJ:=hJ (i+1)
     rw [← upS_fin S 1 i hiS,hv1] at hJ
     rw [upS_cur S 1 i hiS]
     have mid:∀ y:Int,[Am.Obj.cells want.length 1 ((S.take i++y :: List.replicate (S.length - (i+1)) 1).map fun n=>V.int .i64 n),.gone,.gone][0]?=some (.cells want.length 1 ((S.take i++y :: List.replicate (S.length - (i+1)) 1).map fun n=>V.int .i64 n)):=fun y=>rfl
     have mlen:∀ y:Int,((S.take i++y :: List.replicate (S.length - (i+1)) 1).map fun n=>V.int .i64 n).length=want.length:=fun y=>by simp; omega
     have oc:∀ y:Int,objCells [Am.Obj.cells want.length 1 ((S.take i++y :: List.replicate (S.length - (i+1)) 1).map fun n=>V.int .i64 n),.gone,.gone] 0=some (want.length,1,(S.take i++y :: List.replicate (S.length - (i+1)) 1).map fun n=>V.int .i64 n):=fun y=>objCells_of (mid y)
     have tk:∀ y:Int,List.take 1 (List.drop i ((S.take i++y :: List.replicate (S.length - (i+1)) 1).map fun n=>V.int .i64 n))=[.int .i64 y]:=fun y=>take_drop1 (by rw [List.getElem?_map,upS_at S 1 y i hiS]; rfl)
     have stm:∀ y z:Int,storeV [Am.Obj.cells want.length 1 ((S.take i++y :: List.replicate (S.length - (i+1)) 1).map fun n=>V.int .i64 n),.gone,.gone] (.ref 0 i want.length) (.int .i64 z) 1=some [Am.Obj.cells want.length 1 ((S.take i++z :: List.replicate (S.length - (i+1)) 1).map fun n=>V.int .i64 n),.gone,.gone]:=fun y z=>by
      have:=store_own (mid y) (mlen y) hlt (.int .i64 z) rfl rfl
      rw [this]
      simp only [List.set_cons_zero]
      rw [← upS_put S 1 y z i hiS,List.map_set]
     generalize hMd:(fun y:Int=>((S.take i++y :: List.replicate (S.length - (i+1)) 1).map fun n=>V.int .i64 n))=Md at *
     have hMy:∀ y:Int,((S.take i++y :: List.replicate (S.length - (i+1)) 1).map fun n=>V.int .i64 n)=Md y:=fun y=>by rw [← hMd]
     simp only [hMy] at oc tk mlen stm hJ ⊢
     clear hv1 hMy hMd
     generalize L[i]'(by omega)=lv at *
     generalize M[i]'(by omega)=mv at *
     have w1:IntKind.i64.wrap (1+lv)=1+lv:=wrap64 (by omega) (by omega)
     have w2:IntKind.i64.wrap (1+mv)=1+mv:=wrap64 (by omega) (by omega)
     have w3:IntKind.i64.wrap (1+lv+mv)=1+lv+mv:=wrap64 (by omega) (by omega)
     cases e0:W0.getD i false with
     | false =>
      rw [e0] at b0 hJ
      cases e1:W1.getD i false with
      | false =>
       rw [e1] at b1 hJ
       simp only [sz2] at hJ
       simp [hlw,hlt',b0,b1,hx1,oc,tk,mlen,hi1,stm,hw2,slotOf,-pcall,-List.all_eq_true]
       exact ⟨hlt,hJ _ rfl⟩
      | true =>
       rw [e1] at b1 hJ
       by_cases hgt:20001<1+mv
       ·have:sz2 false true lv mv=20001:=by simp only [sz2]; omega
        rw [this] at hJ
        simp [hlw,hlt',b0,b1,x0,x1,hx1,oc,tk,mlen,hi1,stm,hw2,w1,w2,w3,hgt,slotOf,-pcall,-List.all_eq_true]
        exact ⟨hlt,hJ _ rfl⟩
       ·have:sz2 false true lv mv=1+mv:=by simp only [sz2]; omega
        rw [this] at hJ
        simp [hlw,hlt',b0,b1,x0,x1,hx1,oc,tk,mlen,hi1,stm,hw2,w1,w2,w3,hgt,slotOf,-pcall,-List.all_eq_true]
        exact ⟨hlt,hJ _ rfl⟩
     | true =>
      rw [e0] at b0 hJ
      cases e1:W1.getD i false with
      | false =>
       rw [e1] at b1 hJ
       by_cases hgt:20001<1+lv
       ·have:sz2 true false lv mv=20001:=by simp only [sz2]; omega
        rw [this] at hJ
        simp [hlw,hlt',b0,b1,x0,x1,hx1,oc,tk,mlen,hi1,stm,hw2,w1,w2,w3,hgt,slotOf,-pcall,-List.all_eq_true]
        exact ⟨hlt,hJ _ rfl⟩
       ·have:sz2 true false lv mv=1+lv:=by simp only [sz2]; omega
        rw [this] at hJ
        simp [hlw,hlt',b0,b1,x0,x1,hx1,oc,tk,mlen,hi1,stm,hw2,w1,w2,w3,hgt,slotOf,-pcall,-List.all_eq_true]
        exact ⟨hlt,hJ _ rfl⟩
      | true =>
       rw [e1] at b1 hJ
       by_cases hgt:20001<1+lv+mv
       ·have:sz2 true true lv mv=20001:=by simp only [sz2]; omega
        rw [this] at hJ
        simp [hlw,hlt',b0,b1,x0,x1,hx1,oc,tk,mlen,hi1,stm,hw2,w1,w2,w3,hgt,slotOf,-pcall,-List.all_eq_true]
        exact ⟨hlt,hJ _ rfl⟩
       ·have:sz2 true true lv mv=1+lv+mv:=by simp only [sz2]; omega
        rw [this] at hJ
        simp [hlw,hlt',b0,b1,x0,x1,hx1,oc,tk,mlen,hi1,stm,hw2,w1,w2,w3,hgt,slotOf,-pcall,-List.all_eq_true]
        exact ⟨hlt,hJ _ rfl⟩
    ·obtain rfl:i=want.length:=by omega
     have hup:upS S 1 want.length=S:=by simp [upS,← hSl]
     rw [hup]
     have hfz2:=view_own (H:=[.cells want.length 1 (S.map fun n=>V.int .i64 n),.gone,.gone]) (b:=0) (n:=want.length) (cs:=S.map fun n=>V.int .i64 n) rfl (by simp [hSl]) (pureL_all.2 fun c hc=>by
      obtain ⟨n,_,rfl⟩:=List.mem_map.1 hc
      rfl)
     generalize (S.map fun n=>V.int .i64 n)=A at *
     simp [hlw,hfz2,slotOf,-List.all_eq_true]
     exact hQ _ _ (.inl rfl)
theorem sizes_q:∀ τ:Ty,τ.size<2 ^ 20→SizesOK τ:=by
 have fin:∀ τ:Ty,τ.size<2 ^ 20→SizesKids τ→SizesOK τ:=fun τ hs ih t ht ho own data want vo vd vw h1 h2 h3 l1 l2 hw hsh ld lw hR=>by
  obtain ⟨r,h',e,u,rfl,hu⟩:=OptP.ex (sizes_key τ hs ih t ht ho own data want vo vd vw h1 h2 h3 l1 l2 hw hsh ld lw hR)
  refine ⟨u,?_,hu⟩
  simp only [PC,pcall,callee_func,List.append_nil,List.nil_append]
  rw [if_pos (by simp [pureL,pureV,pure_tr ho,h1.pure,h2.pure,SlV.pure h3]),e]
  simp only [SlV.viewW hu,Option.map_some]
 intro τ
 induction τ with
 | unit=>exact fun hs=>fin _ hs trivial
 | int=>exact fun hs=>fin _ hs trivial
 | pair x y ihx ihy=>intro hs; exact fin _ hs (by simp only [Ty.size] at hs; exact ⟨ihx (by omega),ihy (by omega)⟩)
 | sum x y ihx ihy=>intro hs; exact fin _ hs (by simp only [Ty.size] at hs; exact ⟨ihx (by omega),ihy (by omega)⟩)
 | seq x ih=>intro hs; exact fin _ hs (by simp only [Ty.size] at hs; exact ih (by omega))
theorem all56_q (n:Nat) (hn:n<2 ^ 39):∃ u,PC 56 [.int .i64 n] u∧BoolsV (List.replicate n true) u:=by
 refine ⟨.sv (((List.replicate n true).map fun b=>V.bool b).map fun x=>[x]) false,?_,.sv false⟩
 refine pc_of (by simp [pureL,pureV]) (fun hp=>(SlV.sv false).viewW 0 hp) ?_
 refine call_ofQ (af:=Trnz.a56) rfl rfl fun Q hQ => ?_
 simp only [Trnz.a56]
 have hroom:room=140737488355328:=by simp [room]
 have m1:(n:Int)≤140737488355328:=by omega
 have m2:(n:Int)≤9223372036854775807:=by omega
 have hmk:(List.replicate n [V.bool false]).flatten=(markS (List.replicate n false) 0 0).map fun b=>V.bool b:=by simp [markS,List.map_replicate]
 simp [hroom,m1,m2,hmk,slotOf,-List.flatten_replicate_singleton]
 refine loop_nQ n (fun i c=>c=⟨[.int .i64 n,.nils,.sl 0 0 n n 1 false,.int .i64 i],[],none,none,[.cells n 1 ((markS (List.replicate n false) 0 i).map fun b => .bool b)]⟩) ?_ rfl
 rintro I hI i c hi rfl
 by_cases hlt:i<n
 ·have hlt':(i:Int)<n:=by omega
  have hw2:IntKind.i64.wrap ((i:Int)+1)=(i:Int)+1:=wrap64 (by omega) (by omega)
  have hix:=own_idx (n:=n) (i:=i) 0 (by omega)
  have hss:=store_own (H:=[.cells n 1 ((markS (List.replicate n false) 0 i).map fun b => .bool b)]) (b:=0) (n:=n) (i:=i) rfl (by simp [markS_len]) (by omega) (.bool true) rfl rfl
  have hI:=hI (i+1)
  have e:((markS (List.replicate n false) 0 i).map fun b=>V.bool b).set i (.bool true)=(markS (List.replicate n false) 0 (i+1)).map fun b=>V.bool b:=by
   rw [map_set_b]; simp [markS]
  rw [e] at hss
  simp only [List.set_cons_zero] at hss
  generalize ((markS (List.replicate n false) 0 i).map fun b=>V.bool b)=A at *
  generalize ((markS (List.replicate n false) 0 (i+1)).map fun b=>V.bool b)=B at *
  simp [hlt,hlt',hix,hss,hw2,slotOf]
  exact hI _ rfl
 ·obtain rfl:i=n:=by omega
  have e:markS (List.replicate i false) 0 i=List.replicate i true:=by
   refine List.ext_getElem (by simp [markS_len]) fun j h1 h2 => ?_
   have:=markS_get (List.replicate i false) 0 i j (by simp)
   rw [List.getD_eq_getElem?_getD,List.getElem?_eq_getElem h1] at this
   simp [markS_len] at h1
   simpa [h1] using this
  rw [e]
  have hfz:=view_own (H:=[.cells i 1 ((List.replicate i true).map fun b=>V.bool b)]) (b:=0) (n:=i) (cs:=(List.replicate i true).map fun b=>V.bool b) rfl (by simp) (bools_pure _)
  generalize ((List.replicate i true).map fun b=>V.bool b)=A at *
  simp [hfz,slotOf]
  exact hQ _ _ rfl
def sumI:List Int→Int
 | []=>0
 | x :: l=>x+sumI l
theorem sumI_append (a b:List Int):sumI (a++b)=sumI a+sumI b:=by
 induction a with
 | nil=>simp [sumI]
 | cons x a ih=>simp only [List.cons_append,sumI,ih]; omega
theorem sumI_take {l:List Int} {i:Nat} (h:i<l.length):sumI (l.take (i+1))=sumI (l.take i)+l[i]:=by
 rw [← List.take_append_getElem h,sumI_append]; simp [sumI]
theorem sumI_bd {l:List Int} {B:Int} (hB:0≤B) (h:∀ x∈l,0≤x∧x≤B):0≤sumI l∧sumI l≤l.length * B:=by
 induction l with
 | nil=>simp [sumI]
 | cons x l ih =>
  have h1:=h x (by simp)
  have h2:=ih fun y hy=>h y (by simp [hy])
  simp only [sumI,List.length_cons]
  have:(((l.length+1:Nat):Int)) * B=l.length * B+B:=by rw [Int.natCast_add]; simp [Int.add_mul]
  omega
theorem sum54_q (l:List Int) (v:V) (h:IntsV l v) (hb:∀ x∈l,0≤x∧x≤20001) (hl:l.length<2 ^ 30):PC 54 [v] (.int .i64 (sumI l)):=by
 have hlv:=h.len'
 refine pc_of (by simp [pureL,SlV.pure h]) (fun h=>rfl) ?_
 refine call_ofQ (af:=Trnz.a54) rfl rfl fun Q hQ => ?_
 simp only [Trnz.a54]
 simp [slotOf]
 refine loop_nQ l.length (fun i c=>c=⟨[v,.int .i64 0,.int .i64 (sumI (l.take i)),.int .i64 i],[],none,none,[]⟩) ?_ (by simp [sumI])
 rintro I hI i c hi rfl
 by_cases hlt:i<l.length
 ·have hlt':(i:Int)<l.length:=by omega
  have hw2:IntKind.i64.wrap ((i:Int)+1)=(i:Int)+1:=wrap64 (by omega) (by omega)
  have e1:=h.idx' hlt
  have hs:=sumI_take hlt
  have b1:=sumI_bd (B:=20001) (by omega) (fun x hx=>hb x (List.mem_of_mem_take (i:=i+1) hx))
  have b2:(l.take (i+1)).length≤l.length:=by simp; omega
  have b3:((l.take (i+1)).length:Int) * 20001≤(l.length:Int) * 20001:=by omega
  have hwr:IntKind.i64.wrap (sumI (l.take i)+l[i])=sumI (l.take (i+1)):=by rw [← hs,wrap64 (by omega) (by omega)]
  have hI:=hI (i+1)
  generalize sumI (l.take i)=A at *
  generalize sumI (l.take (i+1))=B at *
  simp [hlv,hlt',e1,hwr,hw2,slotOf]
  exact ⟨hlt,hI _ rfl⟩
 ·obtain rfl:i=l.length:=by omega
  rw [List.take_length]
  simp [hlv,slotOf]
  exact hQ _ _ rfl
def own3 (ys:List Tr):V:=if ys=[] then .nils else .sl 0 0 ys.length ys.length 3 false
def heap3 (ys:List Tr):Heap:=if ys=[] then [] else [.cells ys.length 3 (ys.map Tr.cs).flatten]
theorem own3_cell (ys:List Tr):isCell (own3 ys)=true∧cellsV (own3 ys)=[own3 ys]:=by unfold own3; split <;> exact ⟨rfl,rfl⟩
theorem app3 (ys:List Tr) (y:Tr) (h:ys.length<2 ^ 30):appV (heap3 ys) (own3 ys) (.sv [y.cs] true) 3 40=some (own3 (ys++[y]),heap3 (ys++[y])):=by
 have hroom:room=140737488355328:=by simp [room]
 by_cases h0:ys=[]
 ·subst h0
  simp [own3,heap3,appV,sliceLen,sliceCells,hroom]
 ·have:=appV_own (h:=[.cells ys.length 3 (ys.map Tr.cs).flatten]) (o:=0) (n:=ys.length) (sz:=3) (bytes:=40) (cs:=(ys.map Tr.cs).flatten) (y:=.sv [y.cs] true) (k:=1) (ys:=y.cs) rfl rfl (by simp [sliceCells]) (by simp) (by omega)
  simp only [own3,heap3,if_neg h0,this]
  simp
theorem cs_pure {ys:List Tr} (h:∀ t∈ys,t.Ok):pureL (ys.map Tr.cs).flatten=true:=by
 rw [pureL_all]
 intro c hc
 obtain ⟨cs,h1,h2⟩:=List.mem_flatten.1 hc
 obtain ⟨o,ho,rfl⟩:=List.mem_map.1 h1
 exact pureL_all.1 (pure_tr (h o ho)) c h2
theorem chunks_mapT (n:Nat):∀ l:List Tr,(∀ x∈l,x.cs.length=n)→chunks n l.length (l.map Tr.cs).flatten=l.map Tr.cs
 | [],_=>rfl
 | x :: l,h=>by
  have hx:=h x (by simp)
  simp only [List.length_cons,List.map_cons,List.flatten_cons,chunks]
  rw [List.take_append_of_le_length (by omega),List.take_of_length_le (by omega),List.drop_append_of_le_length (by omega),List.drop_of_length_le (by omega),List.nil_append,chunks_mapT n l fun y hy=>h y (by simp [hy])]
theorem view3 {ys:List Tr} (h:∀ t∈ys,t.Ok) (k n:Int):∃ u,viewW 0 (heap3 ys) (.agg [.int .i64 k,.int .i64 n,own3 ys])=some (.agg [.int .i64 k,.int .i64 n,u])∧SlV (ys.map Tr.cs) u:=by
 by_cases h0:ys=[]
 ·subst h0
  exact ⟨.nils,viewW_of (by simp [viewV,viewL,own3]),.nil rfl⟩
 ·refine ⟨.sv (ys.map Tr.cs) false,viewW_of ?_,.sv false⟩
  have hp:=cs_pure h
  have hc:=chunks_mapT 3 ys fun x _=>x.cs_length
  simp [viewV,viewL,own3,heap3,h0,objCells,hp,hc]
abbrev AtOK (τ:Ty):Prop:=∀ (t:Tr),IsTy t τ→t.Ok→∀ (own data:List (List Int)) (vo vd:V) (n i:Nat) (z:Int) (x:Vl),ListsV own vo→ListsV data vd→own.length=τ.own→data.length=τ.data→Wide n own→shp τ data=true →
 (∀ r∈data,r.length<2 ^ 39)→rd τ own data i=some x→(τ.own≠0→z=i∧i<n)→n<2 ^ 39→∃ y:Tr,y.Ok∧y.vl=x∧PC 57 [.agg t.cs,vo,vd,.int .i64 z] (.agg y.cs)
def AtKids:Ty→Prop
 | .pair x y=>AtOK x∧AtOK y
 | .sum x y=>AtOK x∧AtOK y
 | .seq x=>AtOK x
 | _=>True
theorem at_of {t:Tr} {vo vd:V} {z:Int} {x:Vl} (hp:pureL [.agg t.cs,vo,vd,.int .i64 z]=true) (k n:Int) (hk:is64 k) (hn:is64 n) (ls:List Vl) (hx:x = .mk k n ls)
  (key:CallP gl Trnz.aprog 57 [.agg t.cs,vo,vd,.int .i64 z] [] (fun r h'=>∃ ys:List Tr,(∀ y∈ys,y.Ok)∧ys.map Tr.vl=ls∧r = .ret (.agg [.int .i64 k,.int .i64 n,own3 ys])∧h'=heap3 ys)) :
  ∃ y:Tr,y.Ok∧y.vl=x∧PC 57 [.agg t.cs,vo,vd,.int .i64 z] (.agg y.cs):=by
 obtain ⟨r,h',e,ys,h1,h2,rfl,rfl⟩:=OptP.ex key
 obtain ⟨u,hv,hu⟩:=view3 h1 k n
 refine ⟨.mk k n u ys,.mk _ _ _ _ hk hn hu h1,?_,?_⟩
 ·rw [hx,Tr.vl,Tr.vlL_eq,h2]
 ·simp only [PC,pcall,callee_func,List.append_nil,List.nil_append]
  rw [if_pos hp,e]
  simp only [hv,Option.map_some]
  rfl
theorem at_step (τ:Ty) (hs:τ.size<2 ^ 20) (ih:AtKids τ):AtOK τ:=by
 intro t ht ho own data vo vd n i z x h1 h2 l1 l2 hw hsh ld hrd hz hn
 have hbs:=τ.both_size
 have hcc:=cells_tr ho
 have hpu:pureL [.agg t.cs,vo,vd,.int .i64 z]=true:=by simp [pureL,pureV,pure_tr ho,h1.pure,h2.pure]
 cases ht with
 | unit w =>
  have hwc:=ho.inv.2.2.1.cell
  simp only [rd,Option.some.injEq] at hrd
  refine at_of hpu 0 0 (by simp [is64]) (by simp [is64]) [] hrd.symm ?_
  refine call_ofQ (af:=Trnz.a57) rfl rfl fun Q hQ => ?_
  simp only [Trnz.a57]
  simp [Tr.cs,hwc,fill,splice,slotOf,-List.all_eq_true]
  exact hQ _ _ ⟨[],by simp,rfl,rfl,rfl⟩
 | int w =>
  have hwc:=ho.inv.2.2.1.cell
  simp only [Ty.own,Ty.data] at l1 l2 hz
  obtain ⟨rfl,hin⟩:=hz (by omega)
  simp only [rd] at hrd
  by_cases hwd:isWord (rg own 0 i)=true
  ·rw [if_pos hwd] at hrd
   simp only [Option.some.injEq] at hrd
   have hb : -2147483648≤rg own 0 i∧rg own 0 i≤2147483647:=by simpa [isWord] using hwd
   refine at_of hpu 1 (rg own 0 i) (by simp [is64]) (by simp only [is64]; omega) [] hrd.symm ?_
   obtain ⟨u0,r1,r2⟩:=row_at h1 hw (j:=0) (i:=i) (by omega) hin
   simp only [Int.natCast_zero] at r1
   refine call_ofQ (af:=Trnz.a57) rfl rfl fun Q hQ => ?_
   simp only [Trnz.a57]
   generalize rg own 0 i=q at *
   simp [Tr.cs,hwc,r1,r2,fill,splice,slotOf,-List.all_eq_true]
   exact hQ _ _ ⟨[],by simp,rfl,rfl,rfl⟩
  ·rw [if_neg hwd] at hrd; cases hrd
 | pair w a b x1 x2 ha hb =>
  obtain ⟨_,_,hv,hkids⟩:=ho.inv
  simp only [Ty.own,Ty.data,Ty.size] at l1 l2 hs hz
  have i0:=idx_tr hv (i:=0) (by simp)
  have i1:=idx_tr hv (i:=1) (by simp)
  simp only [List.getElem_cons_zero,List.getElem_cons_succ,Int.natCast_zero,Int.natCast_one] at i0 i1
  have hca:=cells_tr (hkids a (by simp))
  have hcb:=cells_tr (hkids b (by simp))
  have hwc:=hv.cell
  have hbx:=x1.both_size
  obtain ⟨⟨o1,d1,c1,p1,q1⟩,⟨o2,d2,c2,p2,q2⟩⟩:=cut_q 2 (.inl rfl) (by omega) (by omega) ha hb ho h1 h2 (by simp [cutO]; omega) l2 (by omega)
  have hcut:cutO 2 own=own:=by simp [cutO]
  rw [hcut] at p1 p2
  have sh1:shp x1 (data.take x1.data)=true∧shp x2 (data.drop x1.data)=true:=by simpa [shp] using hsh
  simp only [rd] at hrd
  have hso:(pairO (rd x1 (own.take x1.own) (data.take x1.data) i) (rd x2 (own.drop x1.own) (data.drop x1.data) i)).isSome=true:=by rw [hrd]; rfl
  obtain ⟨s1,s2⟩:=pairO_some.1 hso
  obtain ⟨v1,s1⟩:=Option.isSome_iff_exists.1 s1
  obtain ⟨v2,s2⟩:=Option.isSome_iff_exists.1 s2
  rw [s1,s2] at hrd
  simp only [pairO,Option.some.injEq] at hrd
  obtain ⟨y1,k1,k2,k3⟩:=ih.1 a ha (hkids a (by simp)) _ _ o1 d1 n i z v1 p1 q1 (by simp; omega) (by simp; omega) (hw.take _) sh1.1 (fun r hr=>ld r (mem_td.1 hr)) s1 (fun h=>hz (by omega)) hn
  obtain ⟨y2,k4,k5,k6⟩:=ih.2 b hb (hkids b (by simp)) _ _ o2 d2 n i z v2 p2 q2 (by simp; omega) (by simp; omega) (hw.drop _) sh1.2 (fun r hr=>ld r (mem_td.2 hr)) s2 (fun h=>hz (by omega)) hn
  refine at_of hpu 2 0 (by simp [is64]) (by simp [is64]) [v1,v2] hrd.symm ?_
  have hcs:(Tr.mk 2 0 w [a,b]).cs=[.int .i64 2,.int .i64 0,w]:=rfl
  rw [hcs] at c1 c2 hcc ⊢
  rw [PC] at c1 c2 k3 k6
  have hQ':=fun (Q:R→Heap→Prop) (hQ:∀ r h',(∃ ys:List Tr,(∀ y∈ys,y.Ok)∧ys.map Tr.vl=[v1,v2]∧r = .ret (.agg [.int .i64 2,.int .i64 0,own3 ys])∧h'=heap3 ys)→Q r h') =>
   hQ _ _ ⟨[y1,y2],by simp [k1,k4],by simp [k2,k5],rfl,rfl⟩
  have e1:=y1.cs_eq
  have e2:=y2.cs_eq
  have z1:=SlV.cell k1.sl
  have z2:=SlV.cell k4.sl
  simp only [own3,heap3,List.map_cons,List.map_nil,List.flatten_cons,List.flatten_nil,e1,e2] at hQ'
  rw [e1] at k3
  rw [e2] at k6
  refine call_ofQ (af:=Trnz.a57) rfl rfl fun Q hQ => ?_
  have hQ':=hQ' Q hQ
  simp only [Trnz.a57]
  simp [hwc,fill,splice,c1,c2,i0,i1,hca,hcb,k3,k6,z1,z2,slotOf,-List.all_eq_true,-pcall]
  simpa using hQ'
 | sum w a b x1 x2 ha hb =>
  obtain ⟨_,_,hv,hkids⟩:=ho.inv
  simp only [Ty.own,Ty.data,Ty.size] at l1 l2 hs hz
  have i0:=idx_tr hv (i:=0) (by simp)
  have i1:=idx_tr hv (i:=1) (by simp)
  simp only [List.getElem_cons_zero,List.getElem_cons_succ,Int.natCast_zero,Int.natCast_one] at i0 i1
  have hca:=cells_tr (hkids a (by simp))
  have hcb:=cells_tr (hkids b (by simp))
  have hwc:=hv.cell
  have hbx:=x1.both_size
  obtain ⟨rfl,hin⟩:=hz (by omega)
  obtain ⟨⟨o1,d1,c1,p1,q1⟩,⟨o2,d2,c2,p2,q2⟩⟩:=cut_q 3 (.inr rfl) (by omega) (by omega) ha hb ho h1 h2 (by simp [cutO]; omega) l2 (by omega)
  have hcut:cutO 3 own=own.drop 1:=by simp [cutO]
  rw [hcut] at p1 p2
  have sh1:shp x1 (data.take x1.data)=true∧shp x2 (data.drop x1.data)=true:=by simpa [shp] using hsh
  obtain ⟨u0,r1,r2⟩:=row_at h1 hw (j:=0) (i:=i) (by omega) hin
  simp only [Int.natCast_zero] at r1
  have hcs:(Tr.mk 3 0 w [a,b]).cs=[.int .i64 3,.int .i64 0,w]:=rfl
  simp only [rd] at hrd
  by_cases e0:rg own 0 i=0
  ·rw [if_pos e0] at hrd
   obtain ⟨v1,s1,hx⟩:=Option.map_eq_some_iff.1 hrd
   obtain ⟨y1,k1,k2,k3⟩:=ih.1 a ha (hkids a (by simp)) _ _ o1 d1 n i i v1 p1 q1 (by simp; omega) (by simp; omega) ((hw.drop _).take _) sh1.1 (fun r hr=>ld r (mem_td.1 hr)) s1 (fun h=>⟨rfl,hin⟩) hn
   refine at_of hpu 3 0 (by simp [is64]) (by simp [is64]) [v1] hx.symm ?_
   rw [hcs] at c1 c2 hcc ⊢
   rw [PC] at c1 c2 k3
   rw [e0] at r2
   have hQ':=fun (Q:R→Heap→Prop) (hQ:∀ r h',(∃ ys:List Tr,(∀ y∈ys,y.Ok)∧ys.map Tr.vl=[v1]∧r = .ret (.agg [.int .i64 3,.int .i64 0,own3 ys])∧h'=heap3 ys)→Q r h') =>
    hQ _ _ ⟨[y1],by simp [k1],by simp [k2],rfl,rfl⟩
   have e1:=y1.cs_eq
   have z1:=SlV.cell k1.sl
   simp only [own3,heap3,List.map_cons,List.map_nil,List.flatten_cons,List.flatten_nil,e1] at hQ'
   rw [e1] at k3
   refine call_ofQ (af:=Trnz.a57) rfl rfl fun Q hQ => ?_
   have hQ':=hQ' Q hQ
   simp only [Trnz.a57]
   simp [hwc,fill,splice,c1,c2,i0,i1,hca,hcb,r1,r2,k3,z1,slotOf,-List.all_eq_true,-pcall]
   simpa using hQ'
  ·rw [if_neg e0] at hrd
   by_cases e1:rg own 0 i=1
   ·rw [if_pos e1] at hrd
    obtain ⟨v1,s1,hx⟩:=Option.map_eq_some_iff.1 hrd
    obtain ⟨y1,k1,k2,k3⟩:=ih.2 b hb (hkids b (by simp)) _ _ o2 d2 n i i v1 p2 q2 (by simp; omega) (by simp; omega) ((hw.drop _).drop _) sh1.2 (fun r hr=>ld r (mem_td.2 hr)) s1 (fun h=>⟨rfl,hin⟩) hn
    refine at_of hpu 3 1 (by simp [is64]) (by simp [is64]) [v1] hx.symm ?_
    rw [hcs] at c1 c2 hcc ⊢
    rw [PC] at c1 c2 k3
    rw [e1] at r2
    have hQ':=fun (Q:R→Heap→Prop) (hQ:∀ r h',(∃ ys:List Tr,(∀ y∈ys,y.Ok)∧ys.map Tr.vl=[v1]∧r = .ret (.agg [.int .i64 3,.int .i64 1,own3 ys])∧h'=heap3 ys)→Q r h') =>
     hQ _ _ ⟨[y1],by simp [k1],by simp [k2],rfl,rfl⟩
    have e1:=y1.cs_eq
    have z1:=SlV.cell k1.sl
    simp only [own3,heap3,List.map_cons,List.map_nil,List.flatten_cons,List.flatten_nil,e1] at hQ'
    rw [e1] at k3
    refine call_ofQ (af:=Trnz.a57) rfl rfl fun Q hQ => ?_
    have hQ':=hQ' Q hQ
    simp only [Trnz.a57]
    simp [hwc,fill,splice,c1,c2,i0,i1,hca,hcb,r1,r2,k3,z1,slotOf,-List.all_eq_true,-pcall]
    simpa using hQ'
   ·rw [if_neg e1] at hrd; cases hrd
 | seq w a x1 ha =>
  obtain ⟨_,_,hv,hkids⟩:=ho.inv
  simp only [Ty.own,Ty.data,Ty.size] at l1 l2 hs hz
  have i0:=idx_tr hv (i:=0) (by simp)
  simp only [List.getElem_cons_zero,Int.natCast_zero] at i0
  have hca:=cells_tr (hkids a (by simp))
  have hwc:=hv.cell
  have hbx:=x1.both_size
  obtain ⟨rfl,hin⟩:=hz (by omega)
  obtain ⟨⟨o1,d1,c1,p1,q1⟩,c2⟩:=pool_q (by omega) ha ho h2 l2
  obtain ⟨sw,sx⟩:=shp_seq hsh
  have hsz:=psz_lt (x:=x1) (by omega) ld
  obtain ⟨u0,r1,r2⟩:=row_at h1 hw (j:=0) (i:=i) (by omega) hin
  obtain ⟨u1,r3,r4⟩:=row_at h1 hw (j:=1) (i:=i) (by omega) hin
  simp only [Int.natCast_zero,Int.natCast_one] at r1 r3
  have hso:(rd (.seq x1) own data i).isSome=true:=by rw [hrd]; rfl
  obtain ⟨⟨b1,b2,b3⟩,_⟩:=rd_seq_some.1 hso
  obtain ⟨lv,g1,g2,g3⟩:=rd_seq_get hso
  rw [g1] at hrd
  simp only [Option.some.injEq] at hrd
  refine at_of hpu 4 0 (by simp [is64]) (by simp [is64]) lv hrd.symm ?_
  have hcs:(Tr.mk 4 0 w [a]).cs=[.int .i64 4,.int .i64 0,w]:=rfl
  rw [hcs] at c1 hcc ⊢
  rw [PC] at c1
  refine call_ofQ (af:=Trnz.a57) rfl rfl fun Q hQ => ?_
  simp only [Trnz.a57]
  simp [hwc,fill,splice,c1,slotOf,-List.all_eq_true,-pcall]
  refine loop_nQ lv.length (fun k c=>∃ ys:List Tr,(∀ y∈ys,y.Ok)∧ys.length=k∧ys.map Tr.vl=lv.take k∧c=⟨[.agg [.int .i64 4,.int .i64 0,w],vo,vd,.int .i64 i,.agg [.int .i64 4,.int .i64 0,w],.agg [.int .i64 0,.int .i64 0,.nils],.agg [.int .i64 4,.int .i64 0,own3 ys],o1,d1,.int .i64 k,.undef,.undef,.undef,.undef,.int .i64 4],[],none,none,heap3 ys⟩) ?_ ⟨[],by simp,rfl,rfl,rfl⟩
  rintro I hI k c hk ⟨ys,y1,y2,y3,rfl⟩
  by_cases hkl:k<lv.length
  ·have hkl':(k:Int)<rg own 1 i:=by omega
   have hwk:IntKind.i64.wrap ((k:Int)+1)=(k:Int)+1:=wrap64 (by omega) (by omega)
   have g3:=g3 k hkl
   obtain ⟨y,k1,k2,k3⟩:=ih a ha (hkids a (by simp)) _ _ o1 d1 ((psz x1 data).getD 0) _ (IntKind.i64.wrap (rg own 0 i+(k:Int))) lv[k] p1 q1 (by simp; omega) (by simp; omega) sw sx (fun r hr=>ld r (mem_td.2 hr)) g3
    (fun h=>by
     have hp:psz x1 data=some ((psz x1 data).getD 0):=by rw [psz,if_neg h]; rfl
     have b4:=b3.resolve_left (by omega)
     have:=b4.2 _ hp
     rw [if_neg h,wrap64 (by omega) (by omega)]
     omega) hsz
   rw [PC] at k3
   have hap:=app3 ys y (by omega)
   obtain ⟨oc1,oc2⟩:=own3_cell ys
   obtain ⟨oc3,oc4⟩:=own3_cell (ys++[y])
   have e1:=y.cs_eq
   have z1:=SlV.cell k1.sl
   have z2:=SlV.pure k1.sl
   rw [e1] at k3 hap
   have hfin:=hI (k+1) ⟨[.agg [.int .i64 4,.int .i64 0,w],vo,vd,.int .i64 i,.agg [.int .i64 4,.int .i64 0,w],.agg [.int .i64 0,.int .i64 0,.nils],.agg [.int .i64 4,.int .i64 0,own3 (ys++[y])],o1,d1,.int .i64 ((k:Int)+1),.undef,.undef,.undef,.undef,.int .i64 4],[],none,none,heap3 (ys++[y])⟩ ⟨ys++[y],fun q hq=>by
    rcases List.mem_append.1 hq with h | h
    ·exact y1 q h
    ·rw [List.mem_singleton.1 h]; exact k1,by simp [y2],by rw [← List.take_append_getElem hkl,List.map_append,y3]; simp [k2],rfl⟩
   generalize own3 (ys++[y])=O2 at *
   generalize heap3 (ys++[y])=H2 at *
   generalize own3 ys=O1 at *
   generalize heap3 ys=H1 at *
   obtain ⟨jz,hjz⟩:∃ jz,jz=IntKind.i64.wrap (rg own 0 i+(k:Int)):=⟨_,rfl⟩
   rw [← hjz] at k3
   have hjz:=hjz.symm
   simp [r1,r2,r3,r4,hkl',i0,hca,hjz,k3,hap,hwk,oc1,oc2,oc3,oc4,z1,z2,fill,chunks,splice,slotOf,-List.all_eq_true,-pcall]
   exact ⟨hkl,hfin⟩
  ·obtain rfl:k=lv.length:=by omega
   have hnl:¬ ((lv.length:Int)<rg own 1 i):=by omega
   rw [List.take_length] at y3
   have hQ:=hQ _ _ ⟨ys,y1,y3,rfl,rfl⟩
   obtain ⟨oc1,oc2⟩:=own3_cell ys
   generalize own3 ys=O1 at *
   generalize heap3 ys=H1 at *
   simp [r3,r4,hnl,oc1,splice,slotOf,-List.all_eq_true]
   exact hQ
end Go.Proofs.Nst
