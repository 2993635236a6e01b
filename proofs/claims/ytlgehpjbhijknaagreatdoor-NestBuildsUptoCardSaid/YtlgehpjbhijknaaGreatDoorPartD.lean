/- A part of the law's proof: PartD. -/
import Derived.Test.YtlgehpjbhijknaaGreatDoorPartC
import Derived.Test.YtlgehpjbhijknaaGreatDoorPartA
set_option linter.unusedVariables false
set_option linter.unusedSimpArgs false
namespace Go.Proofs.Nst
open Go Go.Am
theorem rightP_all {τ:Ty} {own data:List (List Int)} {n:Nat}:RightP τ own data (List.replicate n true)↔(rdAll τ own data n).isSome=true:=by
 rw [rdAll,allO_isSome]
 simp only [List.mem_map,List.mem_range,forall_exists_index,and_imp,forall_apply_eq_imp_iff₂]
 constructor
 ·intro h i hi
  exact h i (by simp [List.getD_eq_getElem?_getD,List.getElem?_replicate,hi])
 ·intro h i hi
  have:=want_lt hi
  exact h i (by simpa using this)
theorem rdAll_at {τ:Ty} {own data:List (List Int)} {n:Nat} {l:List Vl} (h:rdAll τ own data n=some l):l.length=n∧∀ i (hi:i<l.length),rd τ own data i=some l[i]:=by
 have e2:=allO_some.1 h
 have el:l.length=n:=by
  have:=congrArg List.length e2
  simpa using this.symm
 refine ⟨el,fun i hi => ?_⟩
 have:=congrArg (fun l=>l[i]?) e2
 simp only [List.getElem?_map,List.getElem?_range (by omega:i<n)] at this
 simpa [hi] using this
theorem szS_all {τ:Ty} {own data:List (List Int)} {n:Nat} {l:List Vl} (h:rdAll τ own data n=some l):szS τ own data (List.replicate n true)=l.map fun x=>min 20001 (x.nodes:Int):=by
 obtain ⟨h1,h2⟩:=rdAll_at h
 refine List.ext_getElem (by simp [szS_len,h1]) fun i g1 g2 => ?_
 have hi:i<l.length:=by simpa using g2
 rw [szS_at g1,if_pos (by simp [List.getD_eq_getElem?_getD,List.getElem?_replicate,← h1,hi]),h2 i hi,List.getElem_map]
 rfl
theorem sum_sat:∀ l:List Vl,(0≤sumI (l.map fun x=>min 20001 (x.nodes:Int)))∧(sumI (l.map fun x=>min 20001 (x.nodes:Int))≤20000↔Vl.nodesL l≤20000)∧(Vl.nodesL l≤20000→sumI (l.map fun x=>min 20001 (x.nodes:Int))=Vl.nodesL l)
 | []=>by simp [sumI,Vl.nodesL]
 | x :: l=>by
  obtain ⟨h0,h1,h2⟩:=sum_sat l
  simp only [List.map_cons,sumI,Vl.nodesL]
  refine ⟨by omega,⟨fun h => ?_,fun h => ?_⟩,fun h => ?_⟩
  ·have:=h1.1 (by omega)
   have:=h2 this
   omega
  ·have:=h2 (by omega)
   omega
  ·have:=h2 (by omega)
   omega
theorem holds_q {t:Tr} {τ:Ty} (hτ:IsTy t τ) (ho:t.Ok) (hs:τ.size<2 ^ 20) {R:List (List Int)} {v:V} (hR:ListsV R v) (hl:R.length<2 ^ 39) (ll:∀ r∈R,r.length<2 ^ 39) (n:Nat) (hn:n<2 ^ 39) :
  ∃ b,PC 52 [.agg t.cs,.int .i64 n,v] (.bool b)∧(b=true↔(R.length=τ.own+τ.data∧(R.take τ.own).all (fun r=>r.length == n)=true∧shp τ (R.drop τ.own)=true)∧(rdAll τ (R.take τ.own) (R.drop τ.own) n).isSome=true):=by
 have hcc:=cells_tr ho
 have hsp:=split_q hτ ho hs hR (by omega)
 have key:CallP gl Trnz.aprog 52 [.agg t.cs,.int .i64 n,v] [] (fun r h'=>∃ b,r = .ret (.bool b)∧(b=true↔(R.length=τ.own+τ.data∧(R.take τ.own).all (fun r=>r.length == n)=true∧shp τ (R.drop τ.own)=true)∧(rdAll τ (R.take τ.own) (R.drop τ.own) n).isSome=true)):=by
  refine call_ofQ (af:=Trnz.a52) rfl rfl fun Q hQ => ?_
  simp only [Trnz.a52]
  split at hsp
  ·rename_i hlen
   obtain ⟨o,d,c1,p1,q1⟩:=hsp
   have c2:=shaped_q τ hs t hτ ho n _ _ o d p1 q1 (by simp; omega) (by simp; omega) (by omega) (fun r hr=>by have:=ll r (mem_td.1 hr); omega) (fun r hr=>by have:=ll r (mem_td.2 hr); omega)
   rw [PC] at c1 c2
   cases hsh:(R.take τ.own).all (fun r=>r.length == n)&&shp τ (R.drop τ.own) with
   | false =>
    rw [hsh] at c2
    simp [hcc,c1,c2,slotOf,-pcall,-List.all_eq_true]
    refine hQ _ _ ⟨false,rfl,?_⟩
    simp only [Bool.false_eq_true,false_iff]
    rintro ⟨⟨_,h1,h2⟩,_⟩
    rw [h1,h2] at hsh; cases hsh
   | true =>
    rw [hsh] at c2
    simp only [Bool.and_eq_true] at hsh
    obtain ⟨u,c3,hu⟩:=all56_q n hn
    obtain ⟨b,c4,hb⟩:=right_q τ hs t hτ ho _ _ (List.replicate n true) o d u p1 q1 hu (by simp; omega) (by simp; omega) (by
     rw [List.length_replicate]
     intro r hr
     simpa using List.all_eq_true.1 hsh.1 r hr) hsh.2 (fun r hr=>ll r (mem_td.2 hr)) (by simpa using hn)
    rw [PC] at c3 c4
    simp [hcc,c1,c2,c3,c4,slotOf,-pcall,-List.all_eq_true]
    refine hQ _ _ ⟨b,rfl,?_⟩
    rw [hb,rightP_all]
    exact ⟨fun h=>⟨⟨hlen,hsh⟩,h⟩,fun h=>h.2⟩
  ·rename_i hlen
   rw [PC] at hsp
   simp [hcc,hsp,slotOf,-pcall,-List.all_eq_true]
   refine hQ _ _ ⟨false,rfl,?_⟩
   simp only [Bool.false_eq_true,false_iff]
   rintro ⟨⟨h,_⟩,_⟩
   exact hlen h
 obtain ⟨r,h',e,b,rfl,hb⟩:=OptP.ex key
 refine ⟨b,?_,hb⟩
 simp only [PC,pcall,callee_func,List.append_nil,List.nil_append]
 rw [if_pos (by simp [pureL,pureV,pure_tr ho,hR.pure]),e]
 rfl
theorem bldE_ok {τ:Ty} {n:Nat} {R:List (List Int)} (hn:n≤20000):bldE τ n R=if (R.length=τ.own+τ.data∧(R.take τ.own).all (fun r=>r.length == n)=true∧shp τ (R.drop τ.own)=true) then sumE (rdAll τ (R.take τ.own) (R.drop τ.own) n) else 8:=by
 have e:(R.take τ.own).all (fun r=>(r.length:Int) == ((n:Nat):Int))=(R.take τ.own).all (fun r=>r.length == n):=by
  congr 1
  funext r
  rw [Bool.eq_iff_iff]
  simp
  omega
 simp only [bldE]
 rw [if_neg (by omega),e,Int.toNat_natCast]
 by_cases h:R.length=τ.own+τ.data∧(R.take τ.own).all (fun r=>r.length == n)=true∧shp τ (R.drop τ.own)=true
 ·rw [if_pos h,if_neg (by simpa using h)]
 ·rw [if_neg h,if_pos h]
theorem rbuild_q {t:Tr} {τ:Ty} (hτ:IsTy t τ) (ho:t.Ok) (h1:τ.size≤60) (h2:τ.deep≤12) {R:List (List Int)} {v:V} (hR:ListsV R v) (hl:R.length<2 ^ 39) (ll:∀ r∈R,r.length<2 ^ 39) {n:Int} (hn:is64 n) :
  ∃ (u:V) (ts:List Tr),PC 10 [.agg t.cs,.int .i64 n,v] (.tup [u,.int .i64 (bldE τ n R)])∧SlV (ts.map Tr.cs) u∧(∀ t∈ts,t.Ok)∧(bldE τ n R=0→ts.map Tr.vl=bldL τ n R)∧(bldE τ n R≠0→ts=[]):=by
 have hcc:=cells_tr ho
 have hbs:=τ.both_size
 have ht:=isType_q t ho (by rw [hτ.nodes]; omega)
 rw [tyErr_ok hτ h1 h2,PC] at ht
 have lies:=lies_q n 0 20000
 rw [PC] at lies
 have key:CallP gl Trnz.aprog 10 [.agg t.cs,.int .i64 n,v] [] (fun r h'=>∃ (u:V) (ts:List Tr),r = .ret (.tup [u,.int .i64 (bldE τ n R)])∧SlV (ts.map Tr.cs) u∧(∀ t∈ts,t.Ok)∧(bldE τ n R=0→ts.map Tr.vl=bldL τ n R)∧(bldE τ n R≠0→ts=[])):=by
  refine call_ofQ (af:=Trnz.a10) rfl rfl fun Q hQ => ?_
  simp only [Trnz.a10]
  have bad:∀ e:Int,bldE τ n R=e→e≠0→∃ (u:V) (ts:List Tr),Am.R.ret (.tup [.nils,.int .i64 e]) = .ret (.tup [u,.int .i64 (bldE τ n R)])∧SlV (ts.map Tr.cs) u∧(∀ t∈ts,t.Ok)∧(bldE τ n R=0→ts.map Tr.vl=bldL τ n R)∧(bldE τ n R≠0→ts=[]):=fun e he h0 =>
   ⟨.nils,[],by rw [he],.nil rfl,by simp,fun h=>by rw [he] at h; exact absurd h h0,fun _=>rfl⟩
  by_cases hln:0≤n∧n≤20000
  ·have hd:decide (0≤n∧n≤20000)=true:=decide_eq_true hln
   rw [hd] at lies
   obtain ⟨m,rfl⟩:∃ m:Nat,n=m:=⟨n.toNat,by omega⟩
   have hm:m≤20000:=by omega
   have hbe:=bldE_ok (τ:=τ) (R:=R) hm
   obtain ⟨b,c1,hb⟩:=holds_q hτ ho (by omega) hR hl ll m (by omega)
   have hsp:=split_q hτ ho (by omega) hR (by omega)
   rw [PC] at c1
   cases b with
   | false =>
    have h8:bldE τ m R=8:=by
     rw [hbe]
     split
     ·rename_i h
      cases e:rdAll τ (R.take τ.own) (R.drop τ.own) m with
      | none=>rfl
      | some l =>
       have:=hb.2 ⟨h,by rw [e]; rfl⟩
       cases this
     ·rfl
    simp [hcc,ht,lies,c1,slotOf,-pcall,-List.all_eq_true]
    exact hQ _ _ (bad 8 h8 (by omega))
   | true =>
    obtain ⟨h3,h4⟩:=hb.1 rfl
    obtain ⟨l,hl4⟩:=Option.isSome_iff_exists.1 h4
    rw [if_pos h3,hl4] at hbe
    rw [if_pos h3.1] at hsp
    obtain ⟨o,d,c2,p1,q1⟩:=hsp
    have hwide:Wide m (R.take τ.own):=fun r hr=>by simpa using List.all_eq_true.1 h3.2.1 r hr
    have ll2:∀ r∈R.drop τ.own,r.length<2 ^ 39:=fun r hr=>ll r (mem_td.2 hr)
    obtain ⟨u,c3,hu⟩:=all56_q m (by omega)
    obtain ⟨us,c4,hus⟩:=sizes_q τ (by omega) t hτ ho _ _ (List.replicate m true) o d u p1 q1 hu (by simp; omega) (by simp; omega) (by rw [List.length_replicate]; exact hwide) h3.2.2 ll2 (by simp; omega) (rightP_all.2 h4)
    obtain ⟨hlen,hget⟩:=rdAll_at hl4
    rw [szS_all hl4] at hus
    have c5:=sum54_q _ us hus (fun x hx=>by
     obtain ⟨y,_,rfl⟩:=List.mem_map.1 hx
     omega) (by simp; omega)
    obtain ⟨hs0,hs1,_⟩:=sum_sat l
    rw [PC] at c2 c3 c4 c5
    by_cases hbig:Vl.nodesL l≤20000
    ·have hng:¬ (20000<sumI (l.map fun x=>min 20001 (x.nodes:Int))):=by have:=hs1.2 hbig; omega
     have h0:bldE τ m R=0:=by rw [hbe]; simp [sumE,hbig]
     have hL:bldL τ m R=l:=by simp only [bldL,Int.toNat_natCast,hl4,Option.getD_some]
     generalize sumI (l.map fun x=>min 20001 (x.nodes:Int))=sm at *
     simp [hcc,ht,lies,c1,c2,c3,c4,c5,hng,fill,slotOf,-pcall,-List.all_eq_true]
     refine loop_nQ m (fun i c=>∃ ys:List Tr,(∀ y∈ys,y.Ok)∧ys.length=i∧ys.map Tr.vl=l.take i∧c=⟨[.agg t.cs,.int .i64 m,v,.agg t.cs,.nils,.int .i64 0,.int .i64 0,o,d,.sl 0 0 i i 3 false,.int .i64 i],[],none,none,[.cells i 3 (ys.map Tr.cs).flatten]⟩) ?_ ⟨[],by simp,rfl,rfl,rfl⟩
     rintro I hI i c hi ⟨ys,y1,y2,y3,rfl⟩
     by_cases hlt:i<m
     ·have hlt':(i:Int)<m:=by omega
      have hw2:IntKind.i64.wrap ((i:Int)+1)=(i:Int)+1:=wrap64 (by omega) (by omega)
      have hroom:room=140737488355328:=by simp [room]
      obtain ⟨y,k1,k2,k3⟩:∃ y:Tr,y.Ok∧y.vl=l[i]'(by omega)∧PC 57 [.agg t.cs,o,d,.int .i64 i] (.agg y.cs):=by
       have hat:AtOK τ:=by
        have:∀ τ:Ty,τ.size<2 ^ 20→AtOK τ:=by
         intro τ
         induction τ with
         | unit=>exact fun hs=>at_step _ hs trivial
         | int=>exact fun hs=>at_step _ hs trivial
         | pair x y ihx ihy=>intro hs; exact at_step _ hs (by simp only [Ty.size] at hs; exact ⟨ihx (by omega),ihy (by omega)⟩)
         | sum x y ihx ihy=>intro hs; exact at_step _ hs (by simp only [Ty.size] at hs; exact ⟨ihx (by omega),ihy (by omega)⟩)
         | seq x ih=>intro hs; exact at_step _ hs (by simp only [Ty.size] at hs; exact ih (by omega))
        exact this τ (by omega)
       exact hat t hτ ho _ _ o d m i i _ p1 q1 (by simp; omega) (by simp; omega) hwide h3.2.2 ll2 (hget i (by omega)) (fun _=>⟨rfl,hlt⟩) (by omega)
      rw [PC] at k3
      have hap:=appV_own (h:=[.cells i 3 (ys.map Tr.cs).flatten]) (o:=0) (n:=i) (sz:=3) (bytes:=40) (cs:=(ys.map Tr.cs).flatten) (y:=.sv [y.cs] true) (k:=1) (ys:=y.cs) rfl rfl (by simp [sliceCells]) (by simp) (by omega)
      have hfin:=hI (i+1) ⟨[.agg t.cs,.int .i64 m,v,.agg t.cs,.nils,.int .i64 0,.int .i64 0,o,d,.sl 0 0 (i+1) (i+1) 3 false,.int .i64 ((i:Int)+1)],[],none,none,[.cells (i+1) 3 ((ys.map Tr.cs).flatten++y.cs)]⟩ ⟨ys++[y],fun q hq=>by
       rcases List.mem_append.1 hq with h | h
       ·exact y1 q h
       ·rw [List.mem_singleton.1 h]; exact k1,by simp [y2],by rw [← List.take_append_getElem (by omega),List.map_append,y3]; simp [k2],by simp⟩
      have e1:=y.cs_eq
      have z1:=SlV.cell k1.sl
      have z2:=SlV.pure k1.sl
      rw [e1] at k3 hap hfin
      simp only [List.set_cons_zero] at hap
      generalize (ys.map Tr.cs).flatten=F at *
      simp [hcc,hlt,hlt',k3,hap,hw2,z1,z2,fill,chunks,slotOf,-List.all_eq_true,-pcall]
      exact hfin
     ·obtain rfl:i=m:=by omega
      have hfz:frzV [.cells i 3 (ys.map Tr.cs).flatten] (.sl 0 0 i i 3 false)=some (.sv (ys.map Tr.cs) false,[.gone]):=by
       have hp:=cs_pure y1
       have hc:=chunks_mapT 3 ys fun x _=>x.cs_length
       rw [y2] at hc
       simp [frzV,viewV,objCells,hp,hc]
      have hQ:=hQ (.ret (.tup [.sv (ys.map Tr.cs) false,.int .i64 0])) [.gone] ⟨_,ys,by rw [h0],.sv false,y1,fun _=>by rw [y3,hL,List.take_of_length_le (by omega)],fun h=>absurd h0 h⟩
      generalize V.sv (ys.map Tr.cs) false=sv at *
      generalize (ys.map Tr.cs).flatten=F at *
      simp [hfz,slotOf,-List.all_eq_true]
      exact hQ
    ·have hng:20000<sumI (l.map fun x=>min 20001 (x.nodes:Int)):=by
      have:¬ sumI (l.map fun x=>min 20001 (x.nodes:Int))≤20000:=fun h=>hbig (hs1.1 h)
      omega
     have h3':bldE τ m R=3:=by rw [hbe]; simp [sumE,hbig]
     generalize sumI (l.map fun x=>min 20001 (x.nodes:Int))=sm at *
     simp [hcc,ht,lies,c1,c2,c3,c4,c5,hng,slotOf,-pcall,-List.all_eq_true]
     exact hQ _ _ (bad 3 h3' (by omega))
  ·have hd:decide (0≤n∧n≤20000)=false:=decide_eq_false hln
   rw [hd] at lies
   have h2:bldE τ n R=2:=by simp only [bldE]; rw [if_pos hln]
   simp [hcc,ht,lies,slotOf,-pcall,-List.all_eq_true]
   exact hQ _ _ (bad 2 h2 (by omega))
 obtain ⟨r,h',e,u,ts,rfl,q1,q2,q3,q4⟩:=OptP.ex key
 refine ⟨u,ts,?_,q1,q2,q3,q4⟩
 simp only [PC,pcall,callee_func,List.append_nil,List.nil_append]
 rw [if_pos (by simp [pureL,pureV,pure_tr ho,hR.pure]),e]
 simp only [(view_sl q1 q1.pure 0 _).2,Option.map_some]
structure Seen (τ:Ty) (n:Nat) (R R3:List (List Int)):Prop where
 sum:∀ a b,τ = .sum a b→∀ i,i<n→rg R3 0 i=rg R 0 i∧(rg R 0 i≠1→∀ j,1≤j→j<1+a.own→rg R3 j i=rg R j i)∧(rg R 0 i=1→∀ j,1+a.own≤j→j<1+a.own+b.own→rg R3 j i=rg R j i)
 rest:(∀ a b,τ ≠ .sum a b)→∀ i,i<n→∀ j,j<τ.own→rg R3 j i=rg R j i
abbrev hdr (j:Nat) (r:List Int):V:=.sl (1+2 * j) 0 r.length r.length 1 false
def hdrs:Nat→List (List Int)→List V
 | _,[]=>[]
 | j,r :: R=>hdr j r :: hdrs (j+1) R
theorem hdrs_len:∀ (j:Nat) (R:List (List Int)),(hdrs j R).length=R.length
 | _,[]=>rfl
 | j,r :: R=>by simp [hdrs,hdrs_len (j+1) R]
theorem hdrs_app:∀ (j:Nat) (R:List (List Int)) (r:List Int),hdrs j (R++[r])=hdrs j R++[hdr (j+R.length) r]
 | _,[],r=>rfl
 | j,x :: R,r=>by simp [hdrs,hdrs_app (j+1) R r]; omega
theorem hdrs_get:∀ (j:Nat) (R:List (List Int)) (i:Nat) (h:i<R.length),(hdrs j R)[i]?=some (hdr (j+i) R[i])
 | j,x :: R,0,h=>rfl
 | j,x :: R,i+1,h=>by
  have:=hdrs_get (j+1) R i (by simpa using h)
  simp only [hdrs,List.getElem?_cons_succ,this,List.getElem_cons_succ]
  congr 2
  omega
theorem hdrs_set:∀ (j:Nat) (R:List (List Int)) (i:Nat) (r:List Int),hdrs j (R.set i r)=(hdrs j R).set i (hdr (j+i) r)
 | j,[],i,r=>rfl
 | j,x :: R,0,r=>rfl
 | j,x :: R,i+1,r=>by
  simp only [List.set_cons_succ,hdrs,hdrs_set (j+1) R i r]
  congr 3
  omega
theorem hdrs_pure (m:Nat):∀ (j:Nat) (R:List (List Int)),1+2 * (j+R.length)≤m+1→∀ v∈hdrs j R,belowV m v=true
 | j,[],_,v,h=>by cases h
 | j,x :: R,hm,v,h=>by
  simp only [List.length_cons] at hm
  rcases List.mem_cons.1 h with rfl | h
  ·simp [belowV]; omega
  ·exact hdrs_pure m (j+1) R (by omega) v h
structure Rows (H:Heap) (R:List (List Int)):Prop where
 len:H.length=1+2 * R.length
 out:H[0]?=some (.cells R.length 1 (hdrs 0 R))
 row:∀ j (hj:j<R.length),H[1+2 * j]?=some (.cells R[j].length 1 (icells R[j]))
 all:AllC H
 cl:Closed H
theorem AllC.set {H:Heap} (h:AllC H) (j n sz:Nat) (cs:List V):AllC (H.set j (.cells n sz cs)):=fun o ho=>by
 rcases List.mem_or_eq_of_mem_set ho with ho | rfl
 ·exact h o ho
 ·exact ⟨_,_,_,rfl⟩
abbrev rowsV (R:List (List Int)):V:=.sl 0 0 R.length R.length 1 false
theorem Rows.regs {H:Heap} {R:List (List Int)} (h:Rows H R):RegsH H (rowsV R) R:=by
 have hl:=hdrs_len 0 R
 refine ⟨hdrs 0 R,.sl 0 0 _ _ _ _ _ h.out (by omega) (by omega) (by rw [List.drop_zero,List.take_of_length_le (by omega)]),?_⟩
 have gen:∀ (T:List (List Int)) (j:Nat),(∀ i (hi:i<T.length),H[1+2 * (j+i)]?=some (.cells T[i].length 1 (icells T[i])))→Fr (fun r w=>Sh H w (icells r)) T (hdrs j T):=by
  intro T
  induction T with
  | nil=>intro j _; exact .nil
  | cons r T ih =>
   intro j hj
   refine .cons ?_ (ih (j+1) fun i hi => ?_)
   ·have:=hj 0 (by simp)
    simp only [Nat.add_zero,List.getElem_cons_zero] at this
    exact .sl _ 0 _ _ _ _ _ this (by omega) (by simp) (by rw [List.drop_zero,List.take_of_length_le (by simp)])
   ·have:=hj (i+1) (by simpa using hi)
    simpa [show j+1+i=j+(i+1) by omega] using this
 exact gen R 0 fun i hi=>by rw [Nat.zero_add]; exact h.row i hi
theorem Rows.below {H:Heap} {R:List (List Int)} (h:Rows H R):belowV H.length (rowsV R)=true:=by
 have:=h.len
 simp [belowV]
 omega
theorem Rows.nil:Rows [.cells 0 1 []] []:=⟨rfl,rfl,fun j hj=>by simp at hj,fun o ho=>⟨_,_,_,List.mem_singleton.1 ho⟩,fun o ho=>by rw [List.mem_singleton.1 ho]; rfl⟩
theorem Rows.add {H:Heap} {R:List (List Int)} (h:Rows H R) (r:List Int):Rows ((H++[Am.Obj.cells r.length 1 (icells r),Am.Obj.cells 1 1 [hdr R.length r]]).set 0 (.cells (R.length+1) 1 (hdrs 0 R++[hdr R.length r]))) (R++[r]):=by
 have hl:=h.len
 have ha:=hdrs_app 0 R r
 rw [Nat.zero_add] at ha
 refine ⟨by simp [hl]; omega,by simp [ha,hl],?_,?_,?_⟩
 ·intro j hj
  rw [List.getElem?_set_ne (by omega)]
  simp at hj
  by_cases e:j<R.length
  ·rw [List.getElem?_append_left (by omega),h.row j e]
   simp [e]
  ·obtain rfl:j=R.length:=by omega
   rw [List.getElem?_append_right (by omega),hl]
   simp
 ·refine AllC.set (h.all.app fun o ho => ?_) _ _ _ _
  simp only [List.mem_cons,List.not_mem_nil,or_false] at ho
  rcases ho with rfl | rfl <;> exact ⟨_,_,_,rfl⟩
 ·refine (h.cl.app fun o ho => ?_).set _ ?_
  ·simp only [List.mem_cons,List.not_mem_nil,or_false] at ho
   rcases ho with rfl | rfl
   ·exact okO_ints _ _ _ _
   ·simp [okO,belowV,hl]
  ·rw [← ha]
   simp only [okO,List.all_eq_true]
   exact hdrs_pure _ 0 _ (by simp [hl]; omega)
theorem Rows.put {H:Heap} {R:List (List Int)} (h:Rows H R) {i:Nat} (hi:i<R.length) (r:List Int):Rows ((H.set (1+2 * i) (.cells r.length 1 (icells r))).set 0 (.cells R.length 1 ((hdrs 0 R).set i (hdr i r)))) (R.set i r):=by
 have hl:=h.len
 have hs:=hdrs_set 0 R i r
 rw [Nat.zero_add] at hs
 refine ⟨by simp [hl],by rw [List.getElem?_set_self (by simp; omega),hs,List.length_set],?_,?_,?_⟩
 ·intro j hj
  simp at hj
  rw [List.getElem?_set_ne (by omega)]
  by_cases e:i=j
  ·subst e
   simp [show 1+2 * i<H.length by omega]
  ·rw [List.getElem?_set_ne (by omega),h.row j hj]
   simp [e]
 ·exact AllC.set (AllC.set h.all _ _ _ _) _ _ _ _
 ·refine (h.cl.set _ (okO_ints _ _ _ _)).set _ ?_
  rw [← hs]
  simp only [okO,List.all_eq_true]
  exact hdrs_pure _ 0 _ (by simp [hl])
theorem Rows.at {H:Heap} {R:List (List Int)} (h:Rows H R) {i:Nat} (hi:i<R.length) (r:List Int) (hr:r.length=R[i].length):Rows (H.set (1+2 * i) (.cells r.length 1 (icells r))) (R.set i r):=by
 have:=h.put hi r
 have h2:(H.set (1+2 * i) (.cells r.length 1 (icells r))).set 0 (.cells R.length 1 ((hdrs 0 R).set i (hdr i r)))=H.set (1+2 * i) (.cells r.length 1 (icells r)):=by
  have hg:=hdrs_get 0 R i hi
  simp only [hdr,Nat.zero_add,← hr] at hg
  have h3:(hdrs 0 R).set i (hdr i r)=hdrs 0 R:=by
   refine List.ext_getElem? fun j => ?_
   by_cases e:i=j
   ·subst e
    rw [List.getElem?_set_self (by rw [hdrs_len]; exact hi),hg]
   ·rw [List.getElem?_set_ne e]
  rw [h3]
  refine List.ext_getElem? fun j => ?_
  by_cases e:0=j
  ·subst e
   have:=h.len
   rw [List.getElem?_set_self (by simp; omega),List.getElem?_set_ne (by omega),h.out]
  ·rw [List.getElem?_set_ne e]
 rwa [h2] at this
inductive OwnM (n:Nat) (H:Heap):List V→V→Prop
 | nil:OwnM n H [] .nils
 | sv (vs:List V):OwnM n H vs (.sv (vs.map fun x=>[x]) true)
 | sl (vs:List V) (b:Nat) (hb:n≤b) (h:H[b]?=some (.cells vs.length 1 vs)):OwnM n H vs (.sl b 0 vs.length vs.length 1 false)
namespace OwnM
variable {n:Nat} {H:Heap} {vs:List V} {v:V}
theorem slen (h:OwnM n H vs v):sliceLen v=some vs.length:=by cases h <;> simp [sliceLen]
theorem scells (h:OwnM n H vs v):sliceCells H v=some vs:=by
 cases h with
 | nil=>rfl
 | sv=>simp [sliceCells,flatten_single]
 | sl vs b hb h=>simp [sliceCells,objCells_of h]
theorem cell (h:OwnM n H vs v):isCell v=true:=by cases h <;> rfl
theorem cells (h:OwnM n H vs v):cellsV v=[v]:=by cases h <;> rfl
theorem blk_lt (h:OwnM n H vs v) {b:Nat} (hb:blk v=some b):n≤b∧b<H.length:=by
 cases h with
 | nil=>cases hb
 | sv=>cases hb
 | sl vs c hc h=>cases hb; exact ⟨hc,(List.getElem?_eq_some_iff.1 h).1⟩
theorem frame (h:OwnM n H vs v) {H':Heap} (he:∀ b,blk v=some b→H'[b]?=H[b]?):OwnM n H' vs v:=by
 cases h with
 | nil=>exact .nil
 | sv=>exact .sv _
 | sl vs b hb h=>exact .sl vs b hb (by rw [he b rfl]; exact h)
theorem lower {m:Nat} (h:OwnM n H vs v) (hm:m≤n):OwnM m H vs v:=by
 cases h with
 | nil=>exact .nil
 | sv=>exact .sv _
 | sl vs b hb h=>exact .sl vs b (by omega) h
theorem frz (h:OwnM n H vs v) (hp:pureL vs=true):∃ u G,frzV H v=some (u,G)∧CellsV vs u:=by
 cases h with
 | nil=>exact ⟨.nils,H,rfl,.nil rfl⟩
 | sv=>exact ⟨_,H,rfl,.sv true⟩
 | sl vs b hb h=>exact ⟨_,_,view_own h rfl hp,.sv false⟩
end OwnM
section
variable (A B:List (List Int))
end
abbrev clo72 (c7 c11 c6 c13:Nat):V:=.func (.func 70) [] [.ref c7 0 1,.ref c11 0 1,.ref c6 0 1,.ref c13 0 1]
structure JoH (H:Heap) (c7 c11 c6 c13 O f0:Nat) (vA vB:V) (R:List (List Int)):Prop where
 rows:RowsF H O f0 R
 h7:H[c7]?=some (.cells 1 1 [vB])
 h11:H[c11]?=some (.cells 1 1 [outV O R.length])
 h6:H[c6]?=some (.cells 1 1 [vA])
 h13:H[c13]?=some (.cells 1 1 [clo72 c7 c11 c6 c13])
 o7:c7<f0∨f0+R.length≤c7
 o11:c11<f0∨f0+R.length≤c11
 o6:c6<f0∨f0+R.length≤c6
 o13:c13<f0∨f0+R.length≤c13
theorem JoH.off {H H':Heap} {c7 c11 c6 c13 O f0:Nat} {vA vB:V} {R R':List (List Int)} (h:JoH H c7 c11 c6 c13 O f0 vA vB R) (hO:Off H H' f0 R.length) (hr:RowsF H' O f0 R') (hl:R'.length=R.length):JoH H' c7 c11 c6 c13 O f0 vA vB R' :=
 ⟨hr,(hO.2 _ h.o7).trans h.h7,by rw [hl]; exact (hO.2 _ h.o11).trans h.h11,(hO.2 _ h.o6).trans h.h6,(hO.2 _ h.o13).trans h.h13,by rw [hl]; exact h.o7,by rw [hl]; exact h.o11,by rw [hl]; exact h.o6,by rw [hl]; exact h.o13⟩
theorem LayD.off {H H':Heap} {f0 n:Nat} {τ:Ty} {b:Nat} (h:LayD H b τ) (hO:Off H H' f0 n) (hb:b+objs τ≤f0):LayD H' b τ:=h.ext fun i h1 h2=>hO.2 i (.inl (by omega))
abbrev cut (A:List (List Int)) (o n:Nat):List (List Int):=(A.drop o).take n
theorem RowsF.mono {H H':Heap} {O f0 n:Nat} {R:List (List Int)} (h:RowsF H O f0 R) (he:∀ (i:Nat) o,H[i]?=some o→H'[i]?=some o):RowsF H' O f0 R:=⟨he _ _ h.out,fun j hj=>he _ _ (h.row j hj),h.off⟩
theorem set_same {H:Heap} {i:Nat} {o:Am.Obj} (h:H[i]?=some o):H.set i o=H:=by
 refine List.ext_getElem? fun j => ?_
 by_cases e:i=j
 ·subst e; rw [List.getElem?_set_self (List.getElem?_eq_some_iff.1 h).1,h]
 ·rw [List.getElem?_set_ne e]
variable {H2:Heap} {N:Nat} {Z:List (List Int)}
abbrev f79:V:=.func (.func 60) [] []
abbrev EqP (N:Nat):Prop:=∀ (x y:Tr),x.nodes≤N→x.Ok→y.Ok→∀ H,∃ b,CC 60 [.agg x.cs,.agg y.cs] H (.ret (.bool b)) H∧(b=true↔x.vl=y.vl)
theorem eqf_q {N:Nat} (ih:EqP N) (l m:List Tr) (v w:V) (hv:SlV (l.map Tr.cs) v) (hw:SlV (m.map Tr.cs) w) (hl:∀ x∈l,x.Ok) (hm:∀ x∈m,x.Ok) (hn:∀ x∈l,x.nodes≤N) (hlen:l.length<2 ^ 50) (H:Heap) :
  ∃ b,CC 59 [v,w,f79] H (.ret (.bool b)) H∧(b=true↔l.map Tr.vl=m.map Tr.vl):=by
 have lv:=len_tr hv
 have lw:=len_tr hw
 have vc:=SlV.cell hv
 have wc:=SlV.cell hw
 have key:CallP gl Trnz.aprog 59 [v,w,f79] H (fun r H'=>∃ b,r = .ret (.bool b)∧H'=H∧(b=true↔l.map Tr.vl=m.map Tr.vl)):=by
  refine call_ofQ (af:=Trnz.a59) rfl rfl fun Q hQ => ?_
  simp only [Trnz.a59]
  by_cases he:l.length=m.length
  case neg =>
   have hne:=ne_true (show (l.length:Int)≠m.length by omega)
   simp [lv,lw,hne,slotOf]
   refine hQ _ _ ⟨false,rfl,rfl,?_⟩
   simp only [Bool.false_eq_true,false_iff]
   intro h
   have:=congrArg List.length h
   simp at this
   exact he this
  have hne:((l.length:Int) != (m.length:Int))=false:=by simp [he]
  simp [lv,lw,hne,slotOf]
  refine loop_nQ l.length (fun i c=>∃ s4 s5 s6 fl,c=⟨[v,w,f79,.bool false,s4,s5,s6,v,.int .i64 l.length,.int .i64 i],[],fl,none,H⟩∧(l.take i).map Tr.vl=(m.take i).map Tr.vl) ?_ ⟨.undef,.undef,.undef,none,rfl,by simp⟩
  rintro I hI i c hi ⟨s4,s5,s6,fl,rfl,hz⟩
  by_cases hlt:i<l.length
  ·have hlt':(i:Int)<l.length:=by omega
   have hlm:i<m.length:=by omega
   have w1:IntKind.i64.wrap ((i:Int)+1)=(i:Int)+1:=wrap64 (by omega) (by omega)
   have a1:=idx_tr hv hlt
   have a2:=idx_tr hw hlm
   have c1:=cells_tr (hl _ (List.getElem_mem hlt))
   have c2:=cells_tr (hm _ (List.getElem_mem hlm))
   obtain ⟨b,hb,hbb⟩:=ih l[i] m[i] (hn _ (List.getElem_mem hlt)) (hl _ (List.getElem_mem hlt)) (hm _ (List.getElem_mem hlm)) H
   have hti:=vl_take_iff hlt hlm
   have hmap:l.map Tr.vl=m.map Tr.vl→l[i].vl=m[i].vl:=fun h=>by
    have:=congrArg (·[i]?) h
    simpa [hlt,hlm] using this
   generalize l[i]=x at *
   generalize m[i]=y at *
   cases b with
   | true =>
    simp [hlt',a1,a2,hb,w1,c1,c2,slotOf,-List.all_eq_true]
    exact ⟨hlt,hI _ _ ⟨_,_,_,_,rfl,hti.2 ⟨hz,hbb.1 rfl⟩⟩⟩
   | false =>
    simp [hlt',a1,a2,hb,c1,c2,slotOf,-List.all_eq_true]
    refine hQ _ _ ⟨false,rfl,rfl,?_⟩
    simp only [Bool.false_eq_true,false_iff]
    intro h
    have:=hbb.2 (hmap h)
    cases this
  ·obtain rfl:i=l.length:=by omega
   simp [slotOf]
   refine hQ _ _ ⟨true,rfl,rfl,?_⟩
   rw [List.take_length,he,List.take_length] at hz
   simp [hz]
 obtain ⟨r,H',e,b,rfl,rfl,hb⟩:=OptP.ex key
 exact ⟨b,e,hb⟩
theorem eq79_q:∀ N:Nat,N<2 ^ 50→EqP N
 | 0,_,.mk ..,y,h,_,_,_=>by simp [Tr.nodes] at h
 | N+1,hN2,.mk k n v l,.mk k' n' v' l',hN,hx,hy,H=>by
  have sx:SlV (l.map Tr.cs) v:=hx.sl
  have sy:SlV (l'.map Tr.cs) v':=hy.sl
  have kx:∀ t∈l,t.Ok:=hx.kids
  have ky:∀ t∈l',t.Ok:=hy.kids
  have hnl:Tr.nodesL l≤N:=by simp only [Tr.nodes] at hN; omega
  have hlen:=Tr.nodesL_length l
  have cvx:=SlV.cell sx
  have cvy:=SlV.cell sy
  obtain ⟨b,hb,hbb⟩:=eqf_q (eq79_q N (by omega)) l l' v v' sx sy kx ky (fun x hx=>by have:=Tr.nodesL_mem hx; omega) (by omega) H
  have key:CallP gl Trnz.aprog 60 [.agg (Tr.mk k n v l).cs,.agg (Tr.mk k' n' v' l').cs] H (fun r H'=>∃ b,r = .ret (.bool b)∧H'=H∧(b=true↔(Tr.mk k n v l).vl=(Tr.mk k' n' v' l').vl)):=by
   refine call_ofQ (af:=Trnz.a60) rfl rfl fun Q hQ => ?_
   simp only [Trnz.a60,Tr.cs]
   by_cases e1:k=k'
   case neg =>
    have h1:=ne_false e1
    simp [h1,cvx,cvy,slotOf]
    exact hQ _ _ ⟨false,rfl,rfl,by rw [vl_eq]; simp [e1]⟩
   by_cases e2:n=n'
   case neg =>
    have h1:=ne_false e2
    simp [e1,h1,cvx,cvy,slotOf]
    exact hQ _ _ ⟨false,rfl,rfl,by rw [vl_eq]; simp [e2]⟩
   simp [e1,e2,hb,cvx,cvy,slotOf]
   exact hQ _ _ ⟨b,rfl,rfl,by rw [vl_eq,hbb]; simp [e1,e2]⟩
  obtain ⟨r,H',e,b2,rfl,rfl,hb2⟩:=OptP.ex key
  exact ⟨b2,e,hb2⟩
def sameE (τ:Ty) (n:Int) (A B:List (List Int)):Int:=if bldE τ n A=0 then bldE τ n B else bldE τ n A
theorem same_p {A B:List (List Int)} {vA vB:V} (hA:ListsV A vA) (hB:ListsV B vB) (lA:∀ r∈A,r.length<2 ^ 39) (lB:∀ r∈B,r.length<2 ^ 39) (lA2:A.length<2 ^ 39) (lB2:B.length<2 ^ 39)
  {t:Tr} {τ:Ty} (hτ:IsTy t τ) (ho:t.Ok) (h1:τ.size≤60) (h2:τ.deep≤12) {n:Int} (hn:is64 n) :
  ∃ b,PC 12 [.agg t.cs,.int .i64 n,vA,vB] (.tup [.bool b,.int .i64 (sameE τ n A B)])∧(b=true↔sameE τ n A B=0∧bldL τ n A=bldL τ n B):=by
 have hcc:=cells_tr ho
 have hbs:=τ.both_size
 have aH:AllC []:=allC_nil
 have hb:=bldH [] τ
 obtain ⟨H2,hH2⟩:∃ H2,H2=[]++[.cells 1 1 [.int .i64 0]]++layL (([]:Heap).length+1) τ:=⟨_,rfl⟩
 have hc:=asked_ecf hτ ho h1 h2 ([]++[.cells 1 1 [.int .i64 0]])
 simp only [List.length_append,List.length_singleton] at hc
 rw [← hH2] at hc hb
 have hcl:=hb.cell
 have hla:=hb.lay
 simp only [List.length_nil,Nat.zero_add,List.nil_append] at hc hcl hla
 have vac:=hA.cell
 have vacs:=hA.cells
 have vbc:=hB.cell
 have vbcs:=hB.cells
 have pa:pureL [.agg t.cs,.int .i64 n,vA,vB]=true:=by simp [pureL,pureV,pure_tr ho,hA.pure,hB.pure]
 have key:CallP gl Trnz.aprog 12 [.agg t.cs,.int .i64 n,vA,vB] [] (fun r H'=>∃ b,r = .ret (.tup [.bool b,.int .i64 (sameE τ n A B)])∧(b=true↔sameE τ n A B=0∧bldL τ n A=bldL τ n B)):=by
  refine call_ofQ (af:=Trnz.a12) rfl rfl fun Q hQ => ?_
  simp only [Trnz.a12]
  rcases built_use (hb.allC aH) (hb.closed closed_nil) (below_pure _ vA hA.pure) (hA.regs H2) hla (by omega) lA2 lA hn with ⟨eA,uA,tA,cA,a1,a2,a3⟩ | ⟨eA,G,cA,gl1⟩
  case inr =>
   obtain ⟨X,hX,oX⟩:=set_err hb aH gl1 (bldE τ n A)
   have d1:=caught_wrong 0 (bldE τ n A) 0 G (gl1 _ _ _ _ hb.cell)
   simp only [List.length_nil] at hX oX
   rw [hX] at oX
   simp only [List.nil_append] at hX oX
   have hE:sameE τ n A B=bldE τ n A:=by simp only [sameE]; rw [if_neg eA]
   rw [hE] at hQ
   generalize bldE τ n A=q at *
   simp [hcc,hc,cA,d1,oX,hX,storeV,vac,vacs,vbc,vbcs,slotOf,forget,AOper.writes,-ecallF,-List.all_eq_true]
   exact hQ _ _ ⟨false,rfl,by simp [eA]⟩
  have hE:sameE τ n A B=bldE τ n B:=by simp only [sameE]; rw [if_pos eA]
  rw [hE] at hQ
  rcases built_use (hb.allC aH) (hb.closed closed_nil) (below_pure _ vB hB.pure) (hB.regs H2) hla (by omega) lB2 lB hn with ⟨eB,uB,tB,cB,b1,b2,b3⟩ | ⟨eB,G,cB,gl1⟩
  case inr =>
   obtain ⟨X,hX,oX⟩:=set_err hb aH gl1 (bldE τ n B)
   have d1:=caught_wrong 0 (bldE τ n B) 0 G (gl1 _ _ _ _ hb.cell)
   simp only [List.length_nil] at hX oX
   rw [hX] at oX
   simp only [List.nil_append] at hX oX
   generalize bldE τ n B=q at *
   simp [hcc,hc,cA,cB,d1,oX,hX,storeV,vac,vacs,vbc,vbcs,slotOf,forget,AOper.writes,-ecallF,-List.all_eq_true]
   exact hQ _ _ ⟨false,rfl,by simp [eB]⟩
  obtain ⟨k1,k2,k3⟩:=bld_ok eA a3
  have hlen:=Tr.nodesL_length tA
  obtain ⟨b,hbq,hbb⟩:=eqf_q (eq79_q (2 ^ 49) (by omega)) tA tB uA uB a1 b1 a2 b2 (fun x hx=>by have:=Tr.nodesL_mem hx; omega) (by omega) H2
  have hbq:=ecf_ret hbq
  have z1:=hcl
  have zs:storeV H2 (.ref 0 0 1) (.int .i64 0) 1=some H2:=by
   have:=set_same z1
   simp only [storeV,objCells_of z1]
   simp [this]
  have zl:=load_cell z1
  have d0:=caught_none 0 H2
  have uac:=SlV.cell a1
  have uacs:=SlV.cells a1
  have ubc:=SlV.cell b1
  have ubcs:=SlV.cells b1
  simp [hcc,hc,cA,cB,hbq,zs,zl,d0,vac,vacs,vbc,vbcs,slotOf,-ecallF,-loadV,-List.all_eq_true]
  exact hQ _ _ ⟨b,by rw [eB],by rw [hbb,a3,b3]; simp [eB]⟩
 obtain ⟨r,H',e,b,rfl,hw⟩:=OptP.ex key
 refine ⟨b,?_,hw⟩
 simp only [PC,pcall,callee_func,List.append_nil,List.nil_append]
 rw [if_pos pa,e]
 rfl
theorem rsame_q {A B:List (List Int)} {vA vB:V} (hA:ListsV A vA) (hB:ListsV B vB) (lA:∀ r∈A,r.length<2 ^ 39) (lB:∀ r∈B,r.length<2 ^ 39) (lA2:A.length<2 ^ 39) (lB2:B.length<2 ^ 39)
  {t:Tr} {τ:Ty} (hτ:IsTy t τ) (ho:t.Ok) (h1:τ.size≤60) (h2:τ.deep≤12) {n:Int} (hn:is64 n) :
  ∃ b,PC 13 [.agg t.cs,.int .i64 n,vA,vB] (.tup [.bool b,.int .i64 (sameE τ n A B)])∧(b=true↔sameE τ n A B=0∧bldL τ n A=bldL τ n B):=by
 have hcc:=cells_tr ho
 obtain ⟨uA,tA,cA,a1,a2,a3,_⟩:=rbuild_q hτ ho h1 h2 hA lA2 lA hn
 obtain ⟨uB,tB,cB,b1,b2,b3,_⟩:=rbuild_q hτ ho h1 h2 hB lB2 lB hn
 rw [PC] at cA cB
 by_cases eA:bldE τ n A=0
 ·have hE:sameE τ n A B=bldE τ n B:=by simp only [sameE]; rw [if_pos eA]
  rw [hE]
  have ecA:((bldE τ n A) != 0)=false:=by rw [eA]; rfl
  by_cases eB:bldE τ n B=0
  ·obtain ⟨_,nA,_⟩:=bld_ok eA (a3 eA)
   obtain ⟨b,cS,hb⟩:=sames_q tA tB uA uB a1 b1 a2 b2 (by omega)
   rw [a3 eA,b3 eB] at hb
   rw [PC] at cS
   refine ⟨b,pc_of (by simp [pureL,pureV,pure_tr ho,hA.pure,hB.pure]) (view_boolint _ _ _) ?_,by rw [hb]; exact ⟨fun h=>⟨eB,h⟩,fun h=>h.2⟩⟩
   refine call_ofQ (af:=Trnz.a13) rfl rfl fun Q hQ => ?_
   simp only [Trnz.a13]
   rw [eA] at cA
   rw [eB] at cB
   simp [hcc,cA,cB,cS,slotOf,-pcall,-List.all_eq_true]
   exact hQ _ _ (by rw [eB])
  ·have ecB:((bldE τ n B) != 0)=true:=by simpa using eB
   refine ⟨false,pc_of (by simp [pureL,pureV,pure_tr ho,hA.pure,hB.pure]) (view_boolint _ _ _) ?_,by simp [eB]⟩
   refine call_ofQ (af:=Trnz.a13) rfl rfl fun Q hQ => ?_
   simp only [Trnz.a13]
   rw [eA] at cA
   generalize bldE τ n B=q at *
   simp [hcc,cA,cB,ecB,slotOf,-pcall,-List.all_eq_true]
   exact hQ _ _ rfl
 ·have hE:sameE τ n A B=bldE τ n A:=by simp only [sameE]; rw [if_neg eA]
  rw [hE]
  have ecA:((bldE τ n A) != 0)=true:=by simpa using eA
  refine ⟨false,pc_of (by simp [pureL,pureV,pure_tr ho,hA.pure,hB.pure]) (view_boolint _ _ _) ?_,by simp [eA]⟩
  refine call_ofQ (af:=Trnz.a13) rfl rfl fun Q hQ => ?_
  simp only [Trnz.a13]
  generalize bldE τ n A=q at *
  simp [hcc,cA,ecA,slotOf,-pcall,-List.all_eq_true]
  exact hQ _ _ rfl
theorem rcanon_q {v:V} {R:List (List Int)} (hR:ListsV R v) (lR:R.length<2 ^ 39) (ll:∀ r∈R,r.length<2 ^ 39) {t:Tr} {τ:Ty} (hτ:IsTy t τ) (ho:t.Ok) (h1:τ.size≤60) (h2:τ.deep≤12) {n:Int} (hn:is64 n) :
  ∃ (u:V) (ts:List Tr),PC 15 [.agg t.cs,.int .i64 n,v] (.tup [u,.int .i64 (bldE τ n R)])∧ListsV (if bldE τ n R=0 then canonS τ ts else []) u∧(bldE τ n R=0→ts.map Tr.vl=bldL τ n R):=by
 have hcc:=cells_tr ho
 obtain ⟨uA,tA,cA,a1,a2,a3,_⟩:=rbuild_q hτ ho h1 h2 hR lR ll hn
 rw [PC] at cA
 by_cases eA:bldE τ n R=0
 ·obtain ⟨vA,nA,_⟩:=bld_ok eA (a3 eA)
  obtain ⟨u,cF,hu⟩:=rflatl_q hτ ho (by omega) tA uA a1 (fun x hx=>⟨a2 x hx,vA x hx⟩) (by omega)
  rw [PC] at cF
  refine ⟨u,tA,pc_of (by simp [pureL,pureV,pure_tr ho,hR.pure]) (view_lists hu _ 0) ?_,by rw [if_pos eA]; exact hu,a3⟩
  refine call_ofQ (af:=Trnz.a15) rfl rfl fun Q hQ => ?_
  simp only [Trnz.a15]
  rw [eA] at cA
  simp [hcc,cA,cF,slotOf,-pcall,-List.all_eq_true]
  exact hQ _ _ (by rw [eA])
 ·have ecA:((bldE τ n R) != 0)=true:=by simpa using eA
  refine ⟨.nils,tA,pc_of (by simp [pureL,pureV,pure_tr ho,hR.pure]) (view_lists ListsV.nil _ 0) ?_,by rw [if_neg eA]; exact ListsV.nil,a3⟩
  refine call_ofQ (af:=Trnz.a15) rfl rfl fun Q hQ => ?_
  simp only [Trnz.a15]
  generalize bldE τ n R=q at *
  simp [hcc,cA,ecA,slotOf,-pcall,-List.all_eq_true]
  exact hQ _ _ rfl
theorem bads_build {t:Tr} (ho:t.Ok) (hn:t.nodes<2 ^ 50) {e:Int} (he:e=3∨e=15) (ht:tyErr t=e) {A B:List (List Int)} {vA vB:V} (hA:ListsV A vA) (hB:ListsV B vB) (n:Int):PC 9 [.agg t.cs,.int .i64 n,vA] (.tup [.nils,.int .i64 e])∧PC 14 [.agg t.cs,.int .i64 n,vA] (.tup [.nils,.int .i64 e]):=by
 obtain ⟨X,h1⟩:=build_bad (hA.regs []) ho hn he ht n
 obtain ⟨Y,h2⟩:=canon_bad (hA.regs []) ho hn he ht n
 have hp:pureL [.agg t.cs,.int .i64 n,vA]=true:=by simp [pureL,pureV,pure_tr ho,hA.pure]
 constructor
 ·simp only [PC,pcall,callee_func,List.append_nil,List.nil_append]
  rw [if_pos hp,h1]
  simp only [view_lists ListsV.nil,Option.map_some]
 ·simp only [PC,pcall,callee_func,List.append_nil,List.nil_append]
  rw [if_pos hp,h2]
  simp only [view_lists ListsV.nil,Option.map_some]
theorem rbads_build {t:Tr} (ho:t.Ok) (hn:t.nodes<2 ^ 50) {e:Int} (he:e=3∨e=15) (ht:tyErr t=e) {A B:List (List Int)} {vA vB:V} (hA:ListsV A vA) (hB:ListsV B vB) (n:Int):PC 10 [.agg t.cs,.int .i64 n,vA] (.tup [.nils,.int .i64 e]):=by
 have hcc:=cells_tr ho
 have h1:=isType_q t ho (by omega)
 rw [ht,PC] at h1
 have hne:(e != 0)=true:=by rcases he with rfl | rfl <;> rfl
 refine pc_of (by simp [pureL,pureV,pure_tr ho,hA.pure]) (view_lists ListsV.nil _ 0) ?_
 refine call_ofQ (af:=Trnz.a10) rfl rfl fun Q hQ => ?_
 simp only [Trnz.a10]
 simp [hcc,h1,hne,slotOf,-pcall,-List.all_eq_true]
 exact hQ _ _ rfl
section
variable {t:Tr} (ho:t.Ok) (hn:t.nodes<2 ^ 50) {e:Int} (he:e=3∨e=15) (ht:tyErr t=e) {A B:List (List Int)} {vA vB:V} (hA:ListsV A vA) (hB:ListsV B vB) (n m:Int)
include ho hn he ht hA hB
theorem bads_same:PC 12 [.agg t.cs,.int .i64 n,vA,vB] (.tup [.bool false,.int .i64 e]):=by
 have hcc:=cells_tr ho
 obtain ⟨X,h1,h2,h3⟩:=bad53 ho hn he ht []
 have vac:=hA.cell
 have vacs:=hA.cells
 have vbc:=hB.cell
 have vbcs:=hB.cells
 simp only [List.nil_append,List.length_nil] at h1 h2 h3
 refine pc_of (by simp [pureL,pureV,pure_tr ho,hA.pure,hB.pure]) (view_boolint _ _ _) ?_
 refine call_ofQ (af:=Trnz.a12) rfl rfl fun Q hQ => ?_
 simp only [Trnz.a12]
 simp [hcc,h1,h2,h3,vac,vacs,vbc,vbcs,slotOf,forget,AOper.writes,-ecallF,-List.all_eq_true]
 exact hQ _ _ rfl
theorem rbads:PC 13 [.agg t.cs,.int .i64 n,vA,vB] (.tup [.bool false,.int .i64 e])∧PC 15 [.agg t.cs,.int .i64 n,vA] (.tup [.nils,.int .i64 e]) ∧
  PC 20 [.agg t.cs,.int .i64 n,vA,.int .i64 m,vB] (.tup [.nils,.int .i64 e])∧∀ {p:List Int} {vp:V},IntsV p vp→PC 18 [.agg t.cs,.int .i64 n,vA,vp] (.tup [.nils,.int .i64 e]):=by
 have hcc:=cells_tr ho
 have h1:=rbads_build ho hn he ht hA hB n
 rw [PC] at h1
 have hne:(e != 0)=true:=by rcases he with rfl | rfl <;> rfl
 refine ⟨pc_of (by simp [pureL,pureV,pure_tr ho,hA.pure,hB.pure]) (view_boolint _ _ _) ?_,pc_of (by simp [pureL,pureV,pure_tr ho,hA.pure]) (view_lists ListsV.nil _ 0) ?_,pc_of (by simp [pureL,pureV,pure_tr ho,hA.pure,hB.pure]) (view_lists ListsV.nil _ 0) ?_,
  fun {p vp} hp=>pc_of (by simp [pureL,pureV,pure_tr ho,hA.pure,SlV.pure hp]) (view_lists ListsV.nil _ 0) ?_⟩
 ·refine call_ofQ (af:=Trnz.a13) rfl rfl fun Q hQ => ?_
  simp only [Trnz.a13]
  simp [hcc,h1,hne,slotOf,-pcall,-List.all_eq_true]
  exact hQ _ _ rfl
 ·refine call_ofQ (af:=Trnz.a15) rfl rfl fun Q hQ => ?_
  simp only [Trnz.a15]
  simp [hcc,h1,hne,slotOf,-pcall,-List.all_eq_true]
  exact hQ _ _ rfl
 ·refine call_ofQ (af:=Trnz.a20) rfl rfl fun Q hQ => ?_
  simp only [Trnz.a20]
  simp [hcc,h1,hne,slotOf,-pcall,-List.all_eq_true]
  exact hQ _ _ rfl
 ·refine call_ofQ (af:=Trnz.a18) rfl rfl fun Q hQ => ?_
  simp only [Trnz.a18]
  simp [hcc,h1,hne,slotOf,-pcall,-List.all_eq_true]
  exact hQ _ _ rfl
end
theorem wide_q {R:List (List Int)} {v:V} (hR:ListsV R v) (lR:R.length<2 ^ 39) (n:Int):∃ b,PC 6 [.int .i64 n,v] (.bool b):=by
 have hlv:=hR.len
 have lies:=lies_q n 401 20000
 rw [PC] at lies
 have key:CallP gl Trnz.aprog 6 [.int .i64 n,v] [] (fun r h'=>∃ b,r = .ret (.bool b)):=by
  refine call_ofQ (af:=Trnz.a6) rfl rfl fun Q hQ => ?_
  simp only [Trnz.a6]
  simp [slotOf]
  refine loop_nQ R.length (fun i c=>∃ z:Int,c=⟨[.int .i64 n,v,.bool false,.int .i64 z,.int .i64 i],[],none,none,[]⟩) ?_ ⟨0,rfl⟩
  rintro I hI i c hi ⟨z,rfl⟩
  by_cases hlt:i<R.length
  ·have hlt':(i:Int)<R.length:=by omega
   have hw2:IntKind.i64.wrap ((i:Int)+1)=(i:Int)+1:=wrap64 (by omega) (by omega)
   obtain ⟨u,e1,e2⟩:=hR.idx hlt
   have e3:=e2.len'
   generalize R[i]=r0 at *
   simp [hlv,hlt',e1,e3,hw2,slotOf]
   exact ⟨hlt,hI _ _ ⟨_,rfl⟩⟩
  ·obtain rfl:i=R.length:=by omega
   generalize decide (401≤n∧n≤20000)=b at lies
   cases b
   ·simp [hlv,lies,slotOf,-pcall]
    exact hQ _ _ ⟨_,rfl⟩
   ·simp [hlv,lies,slotOf,-pcall]
    exact hQ _ _ ⟨_,rfl⟩
 obtain ⟨r,h',e,b,rfl⟩:=OptP.ex key
 refine ⟨b,?_⟩
 simp only [PC,pcall,callee_func,List.append_nil,List.nil_append]
 rw [if_pos (by simp [pureL,pureV,hR.pure]),e]
 rfl
theorem few_q {t:Tr} (ho:t.Ok) (hnn:t.nodes<2 ^ 50) {R:List (List Int)} {v:V} (hR:ListsV R v) (lR:R.length<2 ^ 39) (ll:∀ r∈R,r.length<2 ^ 39) {n:Int} (hn:is64 n):∃ b,PC 7 [.agg t.cs,.int .i64 n,v] (.bool b):=by
 have hcc:=cells_tr ho
 obtain ⟨u,e,ts,c1,q1,q2,q3,q4⟩:∃ (u:V) (e:Int) (ts:List Tr),PC 10 [.agg t.cs,.int .i64 n,v] (.tup [u,.int .i64 e])∧SlV (ts.map Tr.cs) u∧(∀ x∈ts,x.Ok)∧Tr.nodesL ts≤20000∧True:=by
  rcases tyErr_cases t with ⟨e,he,hte⟩ | ⟨x,hx,hx1,hx2,hte⟩
  ·exact ⟨.nils,e,[],rbads_build ho hnn he hte hR hR n,.nil rfl,by simp,by simp [Tr.nodesL],trivial⟩
  ·obtain ⟨u,ts,c1,a1,a2,a3,a4⟩:=rbuild_q hx ho hx1 hx2 hR lR ll hn
   refine ⟨u,_,ts,c1,a1,a2,?_,trivial⟩
   by_cases h0:bldE x n R=0
   ·exact (bld_ok h0 (a3 h0)).2.1
   ·rw [a4 h0]; simp [Tr.nodesL]
 have hlv:=len_tr q1
 have hlen:=Tr.nodesL_length ts
 rw [PC] at c1
 have key:CallP gl Trnz.aprog 7 [.agg t.cs,.int .i64 n,v] [] (fun r h'=>∃ b,r = .ret (.bool b)):=by
  refine call_ofQ (af:=Trnz.a7) rfl rfl fun Q hQ => ?_
  simp only [Trnz.a7]
  simp [hcc,c1,slotOf,-pcall,-List.all_eq_true]
  refine loop_nQ ts.length (fun i c=>∃ z:Int,c=⟨[.agg t.cs,.int .i64 n,v,.agg t.cs,.bool false,u,.int .i64 e,.int .i64 z,.int .i64 i],[],none,none,[]⟩) ?_ ⟨0,rfl⟩
  rintro I hI i c hi ⟨z,rfl⟩
  by_cases h0:e=0
  ·subst h0
   by_cases hlt:i<ts.length
   ·have hlt':(i:Int)<ts.length:=by omega
    have hw2:IntKind.i64.wrap ((i:Int)+1)=(i:Int)+1:=wrap64 (by omega) (by omega)
    have e1:=idx_tr q1 hlt
    have c2:=sizeOf_q ts[i] (q2 _ (List.getElem_mem hlt)) (by have:=Tr.nodesL_mem (List.getElem_mem hlt); omega)
    have hci:=cells_tr (q2 _ (List.getElem_mem hlt))
    rw [PC] at c2
    generalize ts[i]=y at *
    simp [hlv,hlt',e1,c2,hci,hw2,slotOf,-pcall,-List.all_eq_true]
    exact ⟨hlt,hI _ _ ⟨_,rfl⟩⟩
   ·obtain rfl:i=ts.length:=by omega
    simp [hlv,slotOf,-pcall,-List.all_eq_true]
    exact hQ _ _ ⟨_,rfl⟩
  ·have hne:(e == 0)=false:=by simpa using h0
   simp [hne,slotOf,-pcall,-List.all_eq_true]
   exact hQ _ _ ⟨_,rfl⟩
 obtain ⟨r,h',e,b,rfl⟩:=OptP.ex key
 refine ⟨b,?_⟩
 simp only [PC,pcall,callee_func,List.append_nil,List.nil_append]
 rw [if_pos (by simp [pureL,pureV,pure_tr ho,hR.pure]),e]
 rfl
theorem build_q2 {H:Heap} {v:V} {R:List (List Int)} (hA:AllC H) (hC:Closed H) (hv:belowV H.length v=true) (hR:RegsH H v R) (lR:R.length<2 ^ 39) (ll:∀ r∈R,r.length<2 ^ 39) {t:Tr} {τ:Ty} (hτ:IsTy t τ) (ho:t.Ok) (h1:τ.size≤60) (h2:τ.deep≤12) {n:Int} (hn:is64 n) :
  ∃ (u:V) (X:Heap) (ts:List Tr),CC 9 [.agg t.cs,.int .i64 n,v] H (.ret (.tup [u,.int .i64 (bldE τ n R)])) (H++X)∧SlV (ts.map Tr.cs) u∧(∀ t∈ts,t.Ok)∧(bldE τ n R=0→ts.map Tr.vl=bldL τ n R)∧(bldE τ n R≠0→ts=[]):=by
 have hcc:=cells_tr ho
 have hb:=bldH H τ
 obtain ⟨H2,hH2⟩:∃ H2,H2=H++[.cells 1 1 [.int .i64 0]]++layL (H.length+1) τ:=⟨_,rfl⟩
 have hc:=asked_ecf hτ ho h1 h2 (H++[.cells 1 1 [.int .i64 0]])
 simp only [List.length_append,List.length_singleton] at hc
 rw [← hH2] at hc hb
 have hvc:=hR.cell
 have hvcs:=hR.cells
 have key:CallP gl Trnz.aprog 9 [.agg t.cs,.int .i64 n,v] H (fun r h'=>∃ (u:V) (X:Heap) (ts:List Tr),r = .ret (.tup [u,.int .i64 (bldE τ n R)])∧h'=H++X∧SlV (ts.map Tr.cs) u∧(∀ t∈ts,t.Ok)∧(bldE τ n R=0→ts.map Tr.vl=bldL τ n R)∧(bldE τ n R≠0→ts=[])):=by
  refine call_ofQ (af:=Trnz.a9) rfl rfl fun Q hQ => ?_
  simp only [Trnz.a9]
  rcases built_use (hb.allC hA) (hb.closed hC) (belowV_mono (by have:=hb.len; omega) v hv) (hR.le hb.le) hb.lay (by omega) lR ll hn with ⟨e0,u,ts,e,q1,q2,q3⟩ | ⟨e0,G,e,hl⟩
  ·have d0:=caught_none H.length H2
   have o2:=objCells_of hb.cell
   have s2:H2.set H.length (.cells 1 1 [.int .i64 0])=H2:=by
    refine List.ext_getElem? fun j => ?_
    by_cases hj:H.length=j
    ·subst hj; rw [hb.cell]; simp [show H.length<H2.length by have:=hb.len; omega]
    ·rw [List.getElem?_set_ne hj]
   have uc:=SlV.cell q1
   have ucs:=SlV.cells q1
   simp [hcc,hc,e,d0,o2,s2,storeV,hvc,hvcs,slotOf,-ecallF,-List.all_eq_true]
   exact hQ _ _ ⟨u,_,ts,by rw [e0],by rw [hH2,List.append_assoc],q1,q2,fun _=>q3,fun h=>absurd e0 h⟩
  ·obtain ⟨X,hX,oX⟩:=set_err hb hA hl (bldE τ n R)
   have d1:=caught_wrong H.length (bldE τ n R) 0 G (hl _ _ _ _ hb.cell)
   rw [hX] at oX
   generalize bldE τ n R=q at *
   simp [hcc,hc,e,d1,oX,hX,storeV,hvc,hvcs,slotOf,forget,AOper.writes,-ecallF,-List.all_eq_true]
   exact hQ _ _ ⟨.nils,X,[],rfl,rfl,.nil rfl,by simp,fun h=>absurd h e0,fun _=>rfl⟩
 obtain ⟨r,H',e,u,X,ts,rfl,rfl,q1,q2,q3,q4⟩:=OptP.ex key
 exact ⟨u,X,ts,e,q1,q2,q3,q4⟩
theorem build_p2 {v:V} {R:List (List Int)} (hR:ListsV R v) (lR:R.length<2 ^ 39) (ll:∀ r∈R,r.length<2 ^ 39) {t:Tr} {τ:Ty} (hτ:IsTy t τ) (ho:t.Ok) (h1:τ.size≤60) (h2:τ.deep≤12) {n:Int} (hn:is64 n) :
  ∃ (u:V) (ts:List Tr),PC 9 [.agg t.cs,.int .i64 n,v] (.tup [u,.int .i64 (bldE τ n R)])∧SlV (ts.map Tr.cs) u∧(∀ t∈ts,t.Ok)∧(bldE τ n R=0→ts.map Tr.vl=bldL τ n R)∧(bldE τ n R≠0→ts=[]):=by
 obtain ⟨u,X,ts,e,q1,q2,q3,q4⟩:=build_q2 allC_nil closed_nil (below_pure 0 v hR.pure) (hR.regs []) lR ll hτ ho h1 h2 hn
 refine ⟨u,ts,?_,q1,q2,q3,q4⟩
 simp only [PC,pcall,callee_func,List.append_nil,List.nil_append]
 rw [if_pos (by simp [pureL,pureV,pure_tr ho,hR.pure]),e]
 simp only [(view_sl q1 q1.pure 0 _).2,Option.map_some]
theorem law_builds (t:Tr) (ht:t.Ok) (hnn:t.nodes<2 ^ 50) (n:Int) (hn:is64 n) {A B:List (List Int)} {vA vB:V} (hA:ListsV A vA) (hB:ListsV B vB) (lA:A.length<2 ^ 39) (lB:B.length<2 ^ 39) (llA:∀ r∈A,r.length<2 ^ 39) (llB:∀ r∈B,r.length<2 ^ 39) :
  ∃ h',(lim gl Trnz.aprog).call 3 [.agg t.cs,.int .i64 n,vA,vB] []=some (.ret (.bool true),h'):=by
 have key:CallP gl Trnz.aprog 3 [.agg t.cs,.int .i64 n,vA,vB] [] (fun r h'=>r = .ret (.bool true)):=by
  have hh:=held_q
  have ct:=cells_tr ht
  obtain ⟨w1,c1⟩:=wide_q hA lA n
  obtain ⟨w2,c2⟩:=wide_q hB lB n
  obtain ⟨f1,c3⟩:=few_q ht hnn hA lA llA hn
  obtain ⟨f2,c4⟩:=few_q ht hnn hB lB llB hn
  obtain ⟨u1,u2,e,a1,a2,a3⟩:∃ u1 u2:V,∃ e:Int,PC 9 [.agg t.cs,.int .i64 n,vA] (.tup [u1,.int .i64 e])∧PC 10 [.agg t.cs,.int .i64 n,vA] (.tup [u2,.int .i64 e])∧PC 11 [u1,u2] (.bool true):=by
   rcases tyErr_cases t with ⟨e,he,hte⟩ | ⟨x,hx,hx1,hx2,hte⟩
   ·obtain ⟨b,c,hb⟩:=sames_q [] [] .nils .nils (.nil rfl) (.nil rfl) (by simp) (by simp) (by simp [Tr.nodesL])
    rw [hb.2 rfl] at c
    exact ⟨_,_,_,(bads_build ht hnn he hte hA hA n).1,rbads_build ht hnn he hte hA hA n,c⟩
   ·obtain ⟨u1,t1,d1,q1,q2,q3,q4⟩:=build_p2 hA lA llA hx ht hx1 hx2 hn
    obtain ⟨u2,t2,d2,r1,r2,r3,r4⟩:=rbuild_q hx ht hx1 hx2 hA lA llA hn
    have hl:Tr.nodesL t1<2 ^ 50:=by
     by_cases h0:bldE x n A=0
     ·have:=(bld_ok h0 (q3 h0)).2.1; omega
     ·rw [q4 h0]; simp [Tr.nodesL]
    obtain ⟨b,c,hb⟩:=sames_q t1 t2 u1 u2 q1 r1 q2 r2 hl
    have hbt:b=true:=hb.2 (by
     by_cases h0:bldE x n A=0
     ·rw [q3 h0,r3 h0]
     ·rw [q4 h0,r4 h0])
    rw [hbt] at c
    exact ⟨_,_,_,d1,d2,c⟩
  obtain ⟨is,e2,a4,a5⟩:∃ is:Bool,∃ e2:Int,PC 12 [.agg t.cs,.int .i64 n,vA,vB] (.tup [.bool is,.int .i64 e2])∧PC 13 [.agg t.cs,.int .i64 n,vA,vB] (.tup [.bool is,.int .i64 e2]):=by
   rcases tyErr_cases t with ⟨e,he,hte⟩ | ⟨x,hx,hx1,hx2,hte⟩
   ·exact ⟨_,_,bads_same ht hnn he hte hA hB n,(rbads ht hnn he hte hA hB n 0).1⟩
   ·obtain ⟨b1,d1,q1⟩:=same_p hA hB llA llB lA lB hx ht hx1 hx2 hn
    obtain ⟨b2,d2,q2⟩:=rsame_q hA hB llA llB lA lB hx ht hx1 hx2 hn
    have:b1=b2:=by rw [Bool.eq_iff_iff,q1,q2]
    subst this
    exact ⟨_,_,d1,d2⟩
  obtain ⟨u3,u4,e3,a6,a7,a8⟩:∃ u1 u2:V,∃ e:Int,PC 14 [.agg t.cs,.int .i64 n,vA] (.tup [u1,.int .i64 e])∧PC 15 [.agg t.cs,.int .i64 n,vA] (.tup [u2,.int .i64 e])∧PC 16 [u1,u2] (.bool true):=by
   rcases tyErr_cases t with ⟨e,he,hte⟩ | ⟨x,hx,hx1,hx2,hte⟩
   ·have c:=equalLists_q [] [] .nils .nils ListsV.nil ListsV.nil (by simp) (by simp)
    rw [decide_eq_true rfl] at c
    exact ⟨_,_,_,(bads_build ht hnn he hte hA hA n).2,(rbads ht hnn he hte hA hA n 0).2.1,c⟩
   ·obtain ⟨u1,t1,d1,q1,q3⟩:=canon_p hA lA llA hx ht hx1 hx2 hn
    obtain ⟨u2,t2,d2,r1,r3⟩:=rcanon_q hA lA llA hx ht hx1 hx2 hn
    have hb:=x.both_size
    by_cases h0:bldE x n A=0
    ·rw [if_pos h0] at q1 r1
     have hvl:t1.map Tr.vl=t2.map Tr.vl:=by rw [q3 h0,r3 h0]
     rw [← canonS_vl x hvl] at r1
     have hl:Tr.nodesL t1≤20000:=(bld_ok h0 (q3 h0)).2.1
     have c:=equalLists_q _ _ u1 u2 q1 r1 (by rw [canonS_len]; omega) (fun y hy=>by have:=canonS_bound x t1 y hy; omega)
     rw [decide_eq_true rfl] at c
     exact ⟨_,_,_,d1,d2,c⟩
    ·rw [if_neg h0] at q1 r1
     have c:=equalLists_q [] [] u1 u2 q1 r1 (by simp) (by simp)
     rw [decide_eq_true rfl] at c
     exact ⟨_,_,_,d1,d2,c⟩
  rw [PC] at hh c1 c2 c3 c4 a1 a2 a3 a4 a5 a6 a7 a8
  refine call_ofQ (af:=Trnz.a3) rfl rfl fun Q hQ => ?_
  simp only [Trnz.a3]
  cases w1 with
  | true =>
   simp [ct,c1,hh,slotOf,-pcall,-List.all_eq_true]
   exact hQ _ _ rfl
  | false =>
  cases w2 with
  | true =>
   simp [ct,c1,c2,hh,slotOf,-pcall,-List.all_eq_true]
   exact hQ _ _ rfl
  | false =>
  cases f1 with
  | false =>
   simp [ct,c1,c2,c3,hh,slotOf,-pcall,-List.all_eq_true]
   exact hQ _ _ rfl
  | true =>
  cases f2 with
  | false =>
   simp [ct,c1,c2,c3,c4,hh,slotOf,-pcall,-List.all_eq_true]
   exact hQ _ _ rfl
  | true =>
   cases is <;>
   ·simp [ct,c1,c2,c3,c4,a1,a2,a3,a4,a5,a6,a7,a8,hh,slotOf,-pcall,-List.all_eq_true]
    exact hQ _ _ rfl
 obtain ⟨r,h',e,rfl⟩:=OptP.ex key
 exact ⟨h',e⟩
end Go.Proofs.Nst
