/- A part of the law's proof: PartD. -/
import Derived.Test.YtlgehpjbhijknaaGreatDoorPartC
import Derived.Test.YtlgehpjbhijknaaGreatDoorPartA
set_option linter.unusedVariables false
set_option linter.unusedSimpArgs false
namespace Go.Proofs.Nst
open Go Go.Am
theorem rightP_all {τ:Ty} {own data:List (List Int)} {n:Nat}:RightP τ own data (List.replicate n true)↔(rdAll τ own data n).isSome=true:=by
 rw [rdAll,allO_isSome]
 simp only [List.mem_map,List.mem_range,forall_exists_index,and_imp,forall_apply_eq_imp_iff₂]
 constructor
 ·intro h i hi
  exact h i (by simp [List.getD_eq_getElem?_getD,List.getElem?_replicate,hi])
 ·intro h i hi
  have:=want_lt hi
  exact h i (by simpa using this)
theorem rdAll_at {τ:Ty} {own data:List (List Int)} {n:Nat} {l:List Vl} (h:rdAll τ own data n=some l):l.length=n∧∀ i (hi:i<l.length),rd τ own data i=some l[i]:=by
 have e2:=allO_some.1 h
 have el:l.length=n:=by
  have:=congrArg List.length e2
  simpa using this.symm
 refine ⟨el,fun i hi => ?_⟩
 have:=congrArg (fun l=>l[i]?) e2
 simp only [List.getElem?_map,List.getElem?_range (by omega:i<n)] at this
 simpa [hi] using this
theorem szS_all {τ:Ty} {own data:List (List Int)} {n:Nat} {l:List Vl} (h:rdAll τ own data n=some l):szS τ own data (List.replicate n true)=l.map fun x=>min 20001 (x.nodes:Int):=by
 obtain ⟨h1,h2⟩:=rdAll_at h
 refine List.ext_getElem (by simp [szS_len,h1]) fun i g1 g2 => ?_
 have hi:i<l.length:=by simpa using g2
 rw [szS_at g1,if_pos (by simp [List.getD_eq_getElem?_getD,List.getElem?_replicate,← h1,hi]),h2 i hi,List.getElem_map]
 rfl
theorem sum_sat:∀ l:List Vl,(0≤sumI (l.map fun x=>min 20001 (x.nodes:Int)))∧(sumI (l.map fun x=>min 20001 (x.nodes:Int))≤20000↔Vl.nodesL l≤20000)∧(Vl.nodesL l≤20000→sumI (l.map fun x=>min 20001 (x.nodes:Int))=Vl.nodesL l)
 | []=>by simp [sumI,Vl.nodesL]
 | x :: l=>by
  obtain ⟨h0,h1,h2⟩:=sum_sat l
  simp only [List.map_cons,sumI,Vl.nodesL]
  refine ⟨by omega,⟨fun h => ?_,fun h => ?_⟩,fun h => ?_⟩
  ·have:=h1.1 (by omega)
   have:=h2 this
   omega
  ·have:=h2 (by omega)
   omega
  ·have:=h2 (by omega)
   omega
theorem holds_q {t:Tr} {τ:Ty} (hτ:IsTy t τ) (ho:t.Ok) (hs:τ.size<2 ^ 20) {R:List (List Int)} {v:V} (hR:ListsV R v) (hl:R.length<2 ^ 39) (ll:∀ r∈R,r.length<2 ^ 39) (n:Nat) (hn:n<2 ^ 39) :
  ∃ b,PC 52 [.agg t.cs,.int .i64 n,v] (.bool b)∧(b=true↔(R.length=τ.own+τ.data∧(R.take τ.own).all (fun r=>r.length == n)=true∧shp τ (R.drop τ.own)=true)∧(rdAll τ (R.take τ.own) (R.drop τ.own) n).isSome=true):=by
 have hcc:=cells_tr ho
 have hsp:=split_q hτ ho hs hR (by omega)
 have key:CallP gl Trnz.aprog 52 [.agg t.cs,.int .i64 n,v] [] (fun r h'=>∃ b,r = .ret (.bool b)∧(b=true↔(R.length=τ.own+τ.data∧(R.take τ.own).all (fun r=>r.length == n)=true∧shp τ (R.drop τ.own)=true)∧(rdAll τ (R.take τ.own) (R.drop τ.own) n).isSome=true)):=by
  refine call_ofQ (af:=Trnz.a52) rfl rfl fun Q hQ => ?_
  simp only [Trnz.a52]
  split at hsp
  ·rename_i hlen
   obtain ⟨o,d,c1,p1,q1⟩:=hsp
   have c2:=shaped_q τ hs t hτ ho n _ _ o d p1 q1 (by simp; omega) (by simp; omega) (by omega) (fun r hr=>by have:=ll r (mem_td.1 hr); omega) (fun r hr=>by have:=ll r (mem_td.2 hr); omega)
   rw [PC] at c1 c2
   cases hsh:(R.take τ.own).all (fun r=>r.length == n)&&shp τ (R.drop τ.own) with
   | false =>
    rw [hsh] at c2
    simp [hcc,c1,c2,slotOf,-pcall,-List.all_eq_true]
    refine hQ _ _ ⟨false,rfl,?_⟩
    simp only [Bool.false_eq_true,false_iff]
    rintro ⟨⟨_,h1,h2⟩,_⟩
    rw [h1,h2] at hsh; cases hsh
   | true =>
    rw [hsh] at c2
    simp only [Bool.and_eq_true] at hsh
    obtain ⟨u,c3,hu⟩:=all56_q n hn
    obtain ⟨b,c4,hb⟩:=right_q τ hs t hτ ho _ _ (List.replicate n true) o d u p1 q1 hu (by simp; omega) (by simp; omega) (by
     rw [List.length_replicate]
     intro r hr
     simpa using List.all_eq_true.1 hsh.1 r hr) hsh.2 (fun r hr=>ll r (mem_td.2 hr)) (by simpa using hn)
    rw [PC] at c3 c4
    simp [hcc,c1,c2,c3,c4,slotOf,-pcall,-List.all_eq_true]
    refine hQ _ _ ⟨b,rfl,?_⟩
    rw [hb,rightP_all]
    exact ⟨fun h=>⟨⟨hlen,hsh⟩,h⟩,fun h=>h.2⟩
  ·rename_i hlen
   rw [PC] at hsp
   simp [hcc,hsp,slotOf,-pcall,-List.all_eq_true]
   refine hQ _ _ ⟨false,rfl,?_⟩
   simp only [Bool.false_eq_true,false_iff]
   rintro ⟨⟨h,_⟩,_⟩
   exact hlen h
 obtain ⟨r,h',e,b,rfl,hb⟩:=OptP.ex key
 refine ⟨b,?_,hb⟩
 simp only [PC,pcall,callee_func,List.append_nil,List.nil_append]
 rw [if_pos (by simp [pureL,pureV,pure_tr ho,hR.pure]),e]
 rfl
theorem bldE_ok {τ:Ty} {n:Nat} {R:List (List Int)} (hn:n≤20000):bldE τ n R=if (R.length=τ.own+τ.data∧(R.take τ.own).all (fun r=>r.length == n)=true∧shp τ (R.drop τ.own)=true) then sumE (rdAll τ (R.take τ.own) (R.drop τ.own) n) else 8:=by
 have e:(R.take τ.own).all (fun r=>(r.length:Int) == ((n:Nat):Int))=(R.take τ.own).all (fun r=>r.length == n):=by
  congr 1
  funext r
  rw [Bool.eq_iff_iff]
  simp
  omega
 simp only [bldE]
 rw [if_neg (by omega),e,Int.toNat_natCast]
 by_cases h:R.length=τ.own+τ.data∧(R.take τ.own).all (fun r=>r.length == n)=true∧shp τ (R.drop τ.own)=true
 ·rw [if_pos h,if_neg (by simpa using h)]
 ·rw [if_neg h,if_pos h]
theorem rbuild_q {t:Tr} {τ:Ty} (hτ:IsTy t τ) (ho:t.Ok) (h1:τ.size≤60) (h2:τ.deep≤12) {R:List (List Int)} {v:V} (hR:ListsV R v) (hl:R.length<2 ^ 39) (ll:∀ r∈R,r.length<2 ^ 39) {n:Int} (hn:is64 n) :
  ∃ (u:V) (ts:List Tr),PC 10 [.agg t.cs,.int .i64 n,v] (.tup [u,.int .i64 (bldE τ n R)])∧SlV (ts.map Tr.cs) u∧(∀ t∈ts,t.Ok)∧(bldE τ n R=0→ts.map Tr.vl=bldL τ n R)∧(bldE τ n R≠0→ts=[]):=by
 have hcc:=cells_tr ho
 have hbs:=τ.both_size
 have ht:=isType_q t ho (by rw [hτ.nodes]; omega)
 rw [tyErr_ok hτ h1 h2,PC] at ht
 have lies:=lies_q n 0 20000
 rw [PC] at lies
 have key:CallP gl Trnz.aprog 10 [.agg t.cs,.int .i64 n,v] [] (fun r h'=>∃ (u:V) (ts:List Tr),r = .ret (.tup [u,.int .i64 (bldE τ n R)])∧SlV (ts.map Tr.cs) u∧(∀ t∈ts,t.Ok)∧(bldE τ n R=0→ts.map Tr.vl=bldL τ n R)∧(bldE τ n R≠0→ts=[])):=by
  refine call_ofQ (af:=Trnz.a10) rfl rfl fun Q hQ => ?_
  simp only [Trnz.a10]
  have bad:∀ e:Int,bldE τ n R=e→e≠0→∃ (u:V) (ts:List Tr),Am.R.ret (.tup [.nils,.int .i64 e]) = .ret (.tup [u,.int .i64 (bldE τ n R)])∧SlV (ts.map Tr.cs) u∧(∀ t∈ts,t.Ok)∧(bldE τ n R=0→ts.map Tr.vl=bldL τ n R)∧(bldE τ n R≠0→ts=[]):=fun e he h0 =>
   ⟨.nils,[],by rw [he],.nil rfl,by simp,fun h=>by rw [he] at h; exact absurd h h0,fun _=>rfl⟩
  by_cases hln:0≤n∧n≤20000
  ·have hd:decide (0≤n∧n≤20000)=true:=decide_eq_true hln
   rw [hd] at lies
   obtain ⟨m,rfl⟩:∃ m:Nat,n=m:=⟨n.toNat,by omega⟩
   have hm:m≤20000:=by omega
   have hbe:=bldE_ok (τ:=τ) (R:=R) hm
   obtain ⟨b,c1,hb⟩:=holds_q hτ ho (by omega) hR hl ll m (by omega)
   have hsp:=split_q hτ ho (by omega) hR (by omega)
   rw [PC] at c1
   cases b with
   | false =>
    have h8:bldE τ m R=8:=by
     rw [hbe]
     split
     ·rename_i h
      cases e:rdAll τ (R.take τ.own) (R.drop τ.own) m with
      | none=>rfl
      | some l =>
       have:=hb.2 ⟨h,by rw [e]; rfl⟩
       cases this
     ·rfl
    simp [hcc,ht,lies,c1,slotOf,-pcall,-List.all_eq_true]
    exact hQ _ _ (bad 8 h8 (by omega))
   | true =>
    obtain ⟨h3,h4⟩:=hb.1 rfl
    obtain ⟨l,hl4⟩:=Option.isSome_iff_exists.1 h4
    rw [if_pos h3,hl4] at hbe
    rw [if_pos h3.1] at hsp
    obtain ⟨o,d,c2,p1,q1⟩:=hsp
    have hwide:Wide m (R.take τ.own):=fun r hr=>by simpa using List.all_eq_true.1 h3.2.1 r hr
    have ll2:∀ r∈R.drop τ.own,r.length<2 ^ 39:=fun r hr=>ll r (mem_td.2 hr)
    obtain ⟨u,c3,hu⟩:=all56_q m (by omega)
    obtain ⟨us,c4,hus⟩:=sizes_q τ (by omega) t hτ ho _ _ (List.replicate m true) o d u p1 q1 hu (by simp; omega) (by simp; omega) (by rw [List.length_replicate]; exact hwide) h3.2.2 ll2 (by simp; omega) (rightP_all.2 h4)
    obtain ⟨hlen,hget⟩:=rdAll_at hl4
    rw [szS_all hl4] at hus
    have c5:=sum54_q _ us hus (fun x hx=>by
     obtain ⟨y,_,rfl⟩:=List.mem_map.1 hx
     omega) (by simp; omega)
    obtain ⟨hs0,hs1,_⟩:=sum_sat l
    rw [PC] at c2 c3 c4 c5
    by_cases hbig:Vl.nodesL l≤20000
    ·have hng:¬ (20000<sumI (l.map fun x=>min 20001 (x.nodes:Int))):=by have:=hs1.2 hbig; omega
     have h0:bldE τ m R=0:=by rw [hbe]; simp [sumE,hbig]
     have hL:bldL τ m R=l:=by simp only [bldL,Int.toNat_natCast,hl4,Option.getD_some]
     generalize sumI (l.map fun x=>min 20001 (x.nodes:Int))=sm at *
     simp [hcc,ht,lies,c1,c2,c3,c4,c5,hng,fill,slotOf,-pcall,-List.all_eq_true]
     refine loop_nQ m (fun i c=>∃ ys:List Tr,(∀ y∈ys,y.Ok)∧ys.length=i∧ys.map Tr.vl=l.take i∧c=⟨[.agg t.cs,.int .i64 m,v,.agg t.cs,.nils,.int .i64 0,.int .i64 0,o,d,.sl 0 0 i i 3 false,.int .i64 i],[],none,none,[.cells i 3 (ys.map Tr.cs).flatten]⟩) ?_ ⟨[],by simp,rfl,rfl,rfl⟩
     rintro I hI i c hi ⟨ys,y1,y2,y3,rfl⟩
     by_cases hlt:i<m
     ·have hlt':(i:Int)<m:=by omega
      have hw2:IntKind.i64.wrap ((i:Int)+1)=(i:Int)+1:=wrap64 (by omega) (by omega)
      have hroom:room=140737488355328:=by simp [room]
      obtain ⟨y,k1,k2,k3⟩:∃ y:Tr,y.Ok∧y.vl=l[i]'(by omega)∧PC 57 [.agg t.cs,o,d,.int .i64 i] (.agg y.cs):=by
       have hat:AtOK τ:=by
        have:∀ τ:Ty,τ.size<2 ^ 20→AtOK τ:=by
         intro τ
         induction τ with
         | unit=>exact fun hs=>at_step _ hs trivial
         | int=>exact fun hs=>at_step _ hs trivial
         | pair x y ihx ihy=>intro hs; exact at_step _ hs (by simp only [Ty.size] at hs; exact ⟨ihx (by omega),ihy (by omega)⟩)
         | sum x y ihx ihy=>intro hs; exact at_step _ hs (by simp only [Ty.size] at hs; exact ⟨ihx (by omega),ihy (by omega)⟩)
         | seq x ih=>intro hs; exact at_step _ hs (by simp only [Ty.size] at hs; exact ih (by omega))
        exact this τ (by omega)
       exact hat t hτ ho _ _ o d m i i _ p1 q1 (by simp; omega) (by simp; omega) hwide h3.2.2 ll2 (hget i (by omega)) (fun _=>⟨rfl,hlt⟩) (by omega)
      rw [PC] at k3
      have hap:=appV_own (h:=[.cells i 3 (ys.map Tr.cs).flatten]) (o:=0) (n:=i) (sz:=3) (bytes:=40) (cs:=(ys.map Tr.cs).flatten) (y:=.sv [y.cs] true) (k:=1) (ys:=y.cs) rfl rfl (by simp [sliceCells]) (by simp) (by omega)
      have hfin:=hI (i+1) ⟨[.agg t.cs,.int .i64 m,v,.agg t.cs,.nils,.int .i64 0,.int .i64 0,o,d,.sl 0 0 (i+1) (i+1) 3 false,.int .i64 ((i:Int)+1)],[],none,none,[.cells (i+1) 3 ((ys.map Tr.cs).flatten++y.cs)]⟩ ⟨ys++[y],fun q hq=>by
       rcases List.mem_append.1 hq with h | h
       ·exact y1 q h
       ·rw [List.mem_singleton.1 h]; exact k1,by simp [y2],by rw [← List.take_append_getElem (by omega),List.map_append,y3]; simp [k2],by simp⟩
      have e1:=y.cs_eq
      have z1:=SlV.cell k1.sl
      have z2:=SlV.pure k1.sl
      rw [e1] at k3 hap hfin
      simp only [List.set_cons_zero] at hap
      generalize (ys.map Tr.cs).flatten=F at *
      simp [hcc,hlt,hlt',k3,hap,hw2,z1,z2,fill,chunks,slotOf,-List.all_eq_true,-pcall]
      exact hfin
     ·obtain rfl:i=m:=by omega
      have hfz:frzV [.cells i 3 (ys.map Tr.cs).flatten] (.sl 0 0 i i 3 false)=some (.sv (ys.map Tr.cs) false,[.gone]):=by
       have hp:=cs_pure y1
       have hc:=chunks_mapT 3 ys fun x _=>x.cs_length
       rw [y2] at hc
       simp [frzV,viewV,objCells,hp,hc]
      have hQ:=hQ (.ret (.tup [.sv (ys.map Tr.cs) false,.int .i64 0])) [.gone] ⟨_,ys,by rw [h0],.sv false,y1,fun _=>by rw [y3,hL,List.take_of_length_le (by omega)],fun h=>absurd h0 h⟩
      generalize V.sv (ys.map Tr.cs) false=sv at *
      generalize (ys.map Tr.cs).flatten=F at *
      simp [hfz,slotOf,-List.all_eq_true]
      exact hQ
    ·have hng:20000<sumI (l.map fun x=>min 20001 (x.nodes:Int)):=by
      have:¬ sumI (l.map fun x=>min 20001 (x.nodes:Int))≤20000:=fun h=>hbig (hs1.1 h)
      omega
     have h3':bldE τ m R=3:=by rw [hbe]; simp [sumE,hbig]
     generalize sumI (l.map fun x=>min 20001 (x.nodes:Int))=sm at *
     simp [hcc,ht,lies,c1,c2,c3,c4,c5,hng,slotOf,-pcall,-List.all_eq_true]
     exact hQ _ _ (bad 3 h3' (by omega))
  ·have hd:decide (0≤n∧n≤20000)=false:=decide_eq_false hln
   rw [hd] at lies
   have h2:bldE τ n R=2:=by simp only [bldE]; rw [if_pos hln]
   simp [hcc,ht,lies,slotOf,-pcall,-List.all_eq_true]
   exact hQ _ _ (bad 2 h2 (by omega))
 obtain ⟨r,h',e,u,ts,rfl,q1,q2,q3,q4⟩:=OptP.ex key
 refine ⟨u,ts,?_,q1,q2,q3,q4⟩
 simp only [PC,pcall,callee_func,List.append_nil,List.nil_append]
 rw [if_pos (by simp [pureL,pureV,pure_tr ho,hR.pure]),e]
 simp only [(view_sl q1 q1.pure 0 _).2,Option.map_some]
structure Seen (τ:Ty) (n:Nat) (R R3:List (List Int)):Prop where
 sum:∀ a b,τ = .sum a b→∀ i,i<n→rg R3 0 i=rg R 0 i∧(rg R 0 i≠1→∀ j,1≤j→j<1+a.own→rg R3 j i=rg R j i)∧(rg R 0 i=1→∀ j,1+a.own≤j→j<1+a.own+b.own→rg R3 j i=rg R j i)
 rest:(∀ a b,τ ≠ .sum a b)→∀ i,i<n→∀ j,j<τ.own→rg R3 j i=rg R j i
theorem copy36_q {r:List Int} {w:V} (hw:IntsV r w) (H:Heap) (hl:r.length<2 ^ 40):CC 69 [w] H (.ret (.sl H.length 0 r.length r.length 1 false)) (H++[.cells r.length 1 (icells r)]):=by
 have hroom:room=140737488355328:=by simp [room]
 have hap:=appV_own (h:=H++[.cells 0 1 []]) (o:=H.length) (n:=0) (sz:=1) (bytes:=8) (cs:=[]) (y:=w) (k:=r.length) (ys:=icells r) (by simp) (by rw [CellsV.slen' hw]; simp) (CellsV.scells' hw _) (by simp) (by omega)
 have hc:=SlV.cell hw
 have hcs:=SlV.cells hw
 refine CallP.eq (call_ofQ (af:=Trnz.a69) rfl rfl fun Q hQ => ?_)
 simp only [Trnz.a69]
 simp [hap,hc,hcs,fill,slotOf]
 exact hQ _ _ ⟨rfl,rfl⟩
abbrev hdr (j:Nat) (r:List Int):V:=.sl (1+2 * j) 0 r.length r.length 1 false
def hdrs:Nat→List (List Int)→List V
 | _,[]=>[]
 | j,r :: R=>hdr j r :: hdrs (j+1) R
theorem hdrs_len:∀ (j:Nat) (R:List (List Int)),(hdrs j R).length=R.length
 | _,[]=>rfl
 | j,r :: R=>by simp [hdrs,hdrs_len (j+1) R]
theorem hdrs_app:∀ (j:Nat) (R:List (List Int)) (r:List Int),hdrs j (R++[r])=hdrs j R++[hdr (j+R.length) r]
 | _,[],r=>rfl
 | j,x :: R,r=>by simp [hdrs,hdrs_app (j+1) R r]; omega
theorem hdrs_get:∀ (j:Nat) (R:List (List Int)) (i:Nat) (h:i<R.length),(hdrs j R)[i]?=some (hdr (j+i) R[i])
 | j,x :: R,0,h=>rfl
 | j,x :: R,i+1,h=>by
  have:=hdrs_get (j+1) R i (by simpa using h)
  simp only [hdrs,List.getElem?_cons_succ,this,List.getElem_cons_succ]
  congr 2
  omega
theorem hdrs_set:∀ (j:Nat) (R:List (List Int)) (i:Nat) (r:List Int),hdrs j (R.set i r)=(hdrs j R).set i (hdr (j+i) r)
 | j,[],i,r=>rfl
 | j,x :: R,0,r=>rfl
 | j,x :: R,i+1,r=>by
  simp only [List.set_cons_succ,hdrs,hdrs_set (j+1) R i r]
  congr 3
  omega
theorem hdrs_pure (m:Nat):∀ (j:Nat) (R:List (List Int)),1+2 * (j+R.length)≤m+1→∀ v∈hdrs j R,belowV m v=true
 | j,[],_,v,h=>by cases h
 | j,x :: R,hm,v,h=>by
  simp only [List.length_cons] at hm
  rcases List.mem_cons.1 h with rfl | h
  ·simp [belowV]; omega
  ·exact hdrs_pure m (j+1) R (by omega) v h
structure Rows (H:Heap) (R:List (List Int)):Prop where
 len:H.length=1+2 * R.length
 out:H[0]?=some (.cells R.length 1 (hdrs 0 R))
 row:∀ j (hj:j<R.length),H[1+2 * j]?=some (.cells R[j].length 1 (icells R[j]))
 all:AllC H
 cl:Closed H
theorem AllC.set {H:Heap} (h:AllC H) (j n sz:Nat) (cs:List V):AllC (H.set j (.cells n sz cs)):=fun o ho=>by
 rcases List.mem_or_eq_of_mem_set ho with ho | rfl
 ·exact h o ho
 ·exact ⟨_,_,_,rfl⟩
abbrev rowsV (R:List (List Int)):V:=.sl 0 0 R.length R.length 1 false
theorem Rows.regs {H:Heap} {R:List (List Int)} (h:Rows H R):RegsH H (rowsV R) R:=by
 have hl:=hdrs_len 0 R
 refine ⟨hdrs 0 R,.sl 0 0 _ _ _ _ _ h.out (by omega) (by omega) (by rw [List.drop_zero,List.take_of_length_le (by omega)]),?_⟩
 have gen:∀ (T:List (List Int)) (j:Nat),(∀ i (hi:i<T.length),H[1+2 * (j+i)]?=some (.cells T[i].length 1 (icells T[i])))→Fr (fun r w=>Sh H w (icells r)) T (hdrs j T):=by
  intro T
  induction T with
  | nil=>intro j _; exact .nil
  | cons r T ih =>
   intro j hj
   refine .cons ?_ (ih (j+1) fun i hi => ?_)
   ·have:=hj 0 (by simp)
    simp only [Nat.add_zero,List.getElem_cons_zero] at this
    exact .sl _ 0 _ _ _ _ _ this (by omega) (by simp) (by rw [List.drop_zero,List.take_of_length_le (by simp)])
   ·have:=hj (i+1) (by simpa using hi)
    simpa [show j+1+i=j+(i+1) by omega] using this
 exact gen R 0 fun i hi=>by rw [Nat.zero_add]; exact h.row i hi
theorem Rows.below {H:Heap} {R:List (List Int)} (h:Rows H R):belowV H.length (rowsV R)=true:=by
 have:=h.len
 simp [belowV]
 omega
theorem Rows.nil:Rows [.cells 0 1 []] []:=⟨rfl,rfl,fun j hj=>by simp at hj,fun o ho=>⟨_,_,_,List.mem_singleton.1 ho⟩,fun o ho=>by rw [List.mem_singleton.1 ho]; rfl⟩
theorem Rows.add {H:Heap} {R:List (List Int)} (h:Rows H R) (r:List Int):Rows ((H++[Am.Obj.cells r.length 1 (icells r),Am.Obj.cells 1 1 [hdr R.length r]]).set 0 (.cells (R.length+1) 1 (hdrs 0 R++[hdr R.length r]))) (R++[r]):=by
 have hl:=h.len
 have ha:=hdrs_app 0 R r
 rw [Nat.zero_add] at ha
 refine ⟨by simp [hl]; omega,by simp [ha,hl],?_,?_,?_⟩
 ·intro j hj
  rw [List.getElem?_set_ne (by omega)]
  simp at hj
  by_cases e:j<R.length
  ·rw [List.getElem?_append_left (by omega),h.row j e]
   simp [e]
  ·obtain rfl:j=R.length:=by omega
   rw [List.getElem?_append_right (by omega),hl]
   simp
 ·refine AllC.set (h.all.app fun o ho => ?_) _ _ _ _
  simp only [List.mem_cons,List.not_mem_nil,or_false] at ho
  rcases ho with rfl | rfl <;> exact ⟨_,_,_,rfl⟩
 ·refine (h.cl.app fun o ho => ?_).set _ ?_
  ·simp only [List.mem_cons,List.not_mem_nil,or_false] at ho
   rcases ho with rfl | rfl
   ·exact okO_ints _ _ _ _
   ·simp [okO,belowV,hl]
  ·rw [← ha]
   simp only [okO,List.all_eq_true]
   exact hdrs_pure _ 0 _ (by simp [hl]; omega)
theorem Rows.put {H:Heap} {R:List (List Int)} (h:Rows H R) {i:Nat} (hi:i<R.length) (r:List Int):Rows ((H.set (1+2 * i) (.cells r.length 1 (icells r))).set 0 (.cells R.length 1 ((hdrs 0 R).set i (hdr i r)))) (R.set i r):=by
 have hl:=h.len
 have hs:=hdrs_set 0 R i r
 rw [Nat.zero_add] at hs
 refine ⟨by simp [hl],by rw [List.getElem?_set_self (by simp; omega),hs,List.length_set],?_,?_,?_⟩
 ·intro j hj
  simp at hj
  rw [List.getElem?_set_ne (by omega)]
  by_cases e:i=j
  ·subst e
   simp [show 1+2 * i<H.length by omega]
  ·rw [List.getElem?_set_ne (by omega),h.row j hj]
   simp [e]
 ·exact AllC.set (AllC.set h.all _ _ _ _) _ _ _ _
 ·refine (h.cl.set _ (okO_ints _ _ _ _)).set _ ?_
  rw [← hs]
  simp only [okO,List.all_eq_true]
  exact hdrs_pure _ 0 _ (by simp [hl])
theorem Rows.at {H:Heap} {R:List (List Int)} (h:Rows H R) {i:Nat} (hi:i<R.length) (r:List Int) (hr:r.length=R[i].length):Rows (H.set (1+2 * i) (.cells r.length 1 (icells r))) (R.set i r):=by
 have:=h.put hi r
 have h2:(H.set (1+2 * i) (.cells r.length 1 (icells r))).set 0 (.cells R.length 1 ((hdrs 0 R).set i (hdr i r)))=H.set (1+2 * i) (.cells r.length 1 (icells r)):=by
  have hg:=hdrs_get 0 R i hi
  simp only [hdr,Nat.zero_add,← hr] at hg
  have h3:(hdrs 0 R).set i (hdr i r)=hdrs 0 R:=by
   refine List.ext_getElem? fun j => ?_
   by_cases e:i=j
   ·subst e
    rw [List.getElem?_set_self (by rw [hdrs_len]; exact hi),hg]
   ·rw [List.getElem?_set_ne e]
  rw [h3]
  refine List.ext_getElem? fun j => ?_
  by_cases e:0=j
  ·subst e
   have:=h.len
   rw [List.getElem?_set_self (by simp; omega),List.getElem?_set_ne (by omega),h.out]
  ·rw [List.getElem?_set_ne e]
 rwa [h2] at this
theorem ints_pure (l:List Int):pureL (l.map fun n=>V.int .i64 n)=true:=pureL_all.2 fun c hc=>by
 obtain ⟨n,_,rfl⟩:=List.mem_map.1 hc
 rfl
theorem moved_q {r:List Int} {w:V} (h:IntsV r w) (by_:Nat) (hl:r.length<2 ^ 40):∃ u,PC 110 [w,.int .i64 by_] u∧IntsV (r.map fun x=>IntKind.i64.wrap (x+by_)) u:=by
 have hlv:=h.len'
 refine ⟨.sv (((r.map fun x=>IntKind.i64.wrap (x+by_)).map fun n=>V.int .i64 n).map fun x=>[x]) false,?_,.sv false⟩
 refine pc_of (by simp [pureL,pureV,SlV.pure h]) (fun hp=>(SlV.sv false).viewW 0 hp) ?_
 refine call_ofQ (af:=Trnz.a110) rfl rfl fun Q hQ => ?_
 simp only [Trnz.a110]
 simp [fill,slotOf]
 refine loop_nQ r.length (fun i c'=>c'=⟨[w,.int .i64 by_,.nils,.sl 0 0 i i 1 false,.int .i64 i],[],none,none,[.cells i 1 (((r.map fun x=>IntKind.i64.wrap (x+by_)).take i).map fun n => .int .i64 n)]⟩) ?_ (by simp)
 rintro I hI i c' hi rfl
 by_cases hlt:i<r.length
 ·have hlt':(i:Int)<r.length:=by omega
  have hw2:IntKind.i64.wrap ((i:Int)+1)=(i:Int)+1:=wrap64 (by omega) (by omega)
  have hi1:=h.idx' hlt
  have hm:i<(r.map fun x=>IntKind.i64.wrap (x+(by_:Int))).length:=by simpa using hlt
  have e:((r.map fun x=>IntKind.i64.wrap (x+(by_:Int))).take (i+1)).map (fun n=>V.int .i64 n)=((r.map fun x=>IntKind.i64.wrap (x+(by_:Int))).take i).map (fun n=>V.int .i64 n)++[.int .i64 (IntKind.i64.wrap (r[i]+by_))]:=by
   rw [← List.take_append_getElem hm,List.map_append,List.getElem_map]; rfl
  have hI:=hI (i+1)
  rw [e] at hI
  have hap:=appV_own (h:=[.cells i 1 (((r.map fun x=>IntKind.i64.wrap (x+(by_:Int))).take i).map fun n => .int .i64 n)]) (o:=0) (n:=i) (sz:=1) (bytes:=8) (cs:=((r.map fun x=>IntKind.i64.wrap (x+(by_:Int))).take i).map fun n => .int .i64 n) (y:=.sv [[.int .i64 (IntKind.i64.wrap (r[i]+by_))]] true) (k:=1) (ys:=[.int .i64 (IntKind.i64.wrap (r[i]+by_))]) rfl rfl rfl rfl (by simp [room]; omega)
  obtain ⟨q,hq⟩:∃ q,q=IntKind.i64.wrap (r[i]+(by_:Int)):=⟨_,rfl⟩
  rw [← hq] at hap hI
  have hq:=hq.symm
  generalize (((r.map fun x=>IntKind.i64.wrap (x+(by_:Int))).take i).map fun n=>V.int .i64 n)=A at *
  simp only [List.set_cons_zero] at hap
  simp [hlv,hlt',hi1,hq,hap,hw2,fill,chunks,slotOf]
  exact ⟨hlt,hI _ rfl⟩
 ·obtain rfl:i=r.length:=by omega
  have e:(r.map fun x=>IntKind.i64.wrap (x+(by_:Int))).take r.length=r.map fun x=>IntKind.i64.wrap (x+(by_:Int)):=List.take_of_length_le (by simp)
  rw [e]
  have hfz:=view_own (H:=[.cells r.length 1 ((r.map fun x=>IntKind.i64.wrap (x+(by_:Int))).map fun n => .int .i64 n)]) (b:=0) (n:=r.length) (cs:=(r.map fun x=>IntKind.i64.wrap (x+(by_:Int))).map fun n=>V.int .i64 n) rfl (by simp) (ints_pure _)
  generalize ((r.map fun x=>IntKind.i64.wrap (x+(by_:Int))).map fun n=>V.int .i64 n)=A at *
  simp [hlv,hfz,slotOf]
  exact hQ _ _ rfl
theorem cat_row {r q:List Int} {w z:V} (hw:IntsV r w) (hz:IntsV q z) (lr:r.length<2 ^ 39) (lq:q.length<2 ^ 39) (H:Heap) :
  ∃ (u:V) (c1 c2:List V),IntsV (r++q) u∧CC 69 [w] H (.ret (.sl H.length 0 r.length r.length 1 false)) (H++[.cells r.length 1 c1]) ∧
   appV (H++[.cells r.length 1 c1]) (.sl H.length 0 r.length r.length 1 false) z 1 8=some (.sl H.length 0 (r.length+q.length) (r.length+q.length) 1 false,H++[.cells (r.length+q.length) 1 c2]) ∧
   frzV (H++[.cells (r.length+q.length) 1 c2]) (.sl H.length 0 (r.length+q.length) (r.length+q.length) 1 false)=some (u,H++[.gone]):=by
 have hroom:room=140737488355328:=by simp [room]
 have hap:=appV_own (h:=H++[.cells r.length 1 (icells r)]) (o:=H.length) (n:=r.length) (sz:=1) (bytes:=8) (cs:=icells r) (y:=z) (k:=q.length) (ys:=icells q) (by simp)
  (by have:=CellsV.slen' hz; simpa using this) (CellsV.scells' hz _) (by simp) (by omega)
 have e1:(H++[Am.Obj.cells r.length 1 (icells r)]).set H.length (.cells (r.length+q.length) 1 (icells r++icells q))=H++[.cells (r.length+q.length) 1 (icells r++icells q)]:=by simp
 rw [e1] at hap
 have hfz:=view_own (H:=H++[.cells (r.length+q.length) 1 (icells r++icells q)]) (b:=H.length) (n:=r.length+q.length) (cs:=icells r++icells q) (by simp) (by simp) (by
  rw [← List.map_append]; exact ints_pure _)
 have e2:(H++[Am.Obj.cells (r.length+q.length) 1 (icells r++icells q)]).set H.length .gone=H++[.gone]:=by simp
 rw [e2] at hfz
 refine ⟨_,_,_,?_,copy36_q hw H (by omega),hap,hfz⟩
 rw [← List.map_append]
 exact .sv false
inductive OwnM (n:Nat) (H:Heap):List V→V→Prop
 | nil:OwnM n H [] .nils
 | sv (vs:List V):OwnM n H vs (.sv (vs.map fun x=>[x]) true)
 | sl (vs:List V) (b:Nat) (hb:n≤b) (h:H[b]?=some (.cells vs.length 1 vs)):OwnM n H vs (.sl b 0 vs.length vs.length 1 false)
namespace OwnM
variable {n:Nat} {H:Heap} {vs:List V} {v:V}
theorem slen (h:OwnM n H vs v):sliceLen v=some vs.length:=by cases h <;> simp [sliceLen]
theorem scells (h:OwnM n H vs v):sliceCells H v=some vs:=by
 cases h with
 | nil=>rfl
 | sv=>simp [sliceCells,flatten_single]
 | sl vs b hb h=>simp [sliceCells,objCells_of h]
theorem cell (h:OwnM n H vs v):isCell v=true:=by cases h <;> rfl
theorem cells (h:OwnM n H vs v):cellsV v=[v]:=by cases h <;> rfl
theorem blk_lt (h:OwnM n H vs v) {b:Nat} (hb:blk v=some b):n≤b∧b<H.length:=by
 cases h with
 | nil=>cases hb
 | sv=>cases hb
 | sl vs c hc h=>cases hb; exact ⟨hc,(List.getElem?_eq_some_iff.1 h).1⟩
theorem frame (h:OwnM n H vs v) {H':Heap} (he:∀ b,blk v=some b→H'[b]?=H[b]?):OwnM n H' vs v:=by
 cases h with
 | nil=>exact .nil
 | sv=>exact .sv _
 | sl vs b hb h=>exact .sl vs b hb (by rw [he b rfl]; exact h)
theorem frz (h:OwnM n H vs v) (hp:pureL vs=true):∃ u G,frzV H v=some (u,G)∧CellsV vs u:=by
 cases h with
 | nil=>exact ⟨.nils,H,rfl,.nil rfl⟩
 | sv=>exact ⟨_,H,rfl,.sv true⟩
 | sl vs b hb h=>exact ⟨_,_,view_own h rfl hp,.sv false⟩
end OwnM
theorem app_ownM {n:Nat} {H:Heap} {vs ws:List V} {v y:V} (hv:OwnM n H vs v) (h1:sliceLen y=some ws.length) (h2:sliceCells H y=some ws) (hr:(vs.length+ws.length) * 24≤room) (hn:n≤H.length) :
  ∃ v' H',appV H v y 1 24=some (v',H')∧OwnM n H' (vs++ws) v'∧H.length≤H'.length∧(∀ j,j<H.length→blk v≠some j→H'[j]?=H[j]?)∧(∀ b,blk v'=some b→blk v=some b∨H.length≤b):=by
 cases hv with
 | nil =>
  by_cases h0:ws=[]
  ·subst h0
   refine ⟨.nils,H,?_,.nil,Nat.le_refl _,fun _ _ _=>rfl,fun b hb=>by cases hb⟩
   simp only [appV,h1,h2]
   simp
  ·refine ⟨.sl H.length 0 ws.length ws.length 1 false,H++[.cells ws.length 1 ws],?_,?_,by simp,fun j hj _=>List.getElem?_append_left hj,fun b hb=>by cases hb; exact .inr (Nat.le_refl _)⟩
   ·simp only [appV,h1,h2]
    simp [h0]
    simpa using hr
   ·exact .sl ws H.length hn (by simp)
 | sv =>
  have hes:(vs.map fun x=>[x]).all (fun e=>e.length == 1)=true:=by simp
  by_cases h0:ws=[]
  ·subst h0
   refine ⟨.sv (vs.map fun x=>[x]) true,H,?_,by simpa using OwnM.sv vs,Nat.le_refl _,fun _ _ _=>rfl,fun b hb=>by cases hb⟩
   simp only [appV,h1,h2]
   simp at hr
   simp [hr]
  ·refine ⟨.sl H.length 0 (vs++ws).length (vs++ws).length 1 false,H++[.cells (vs++ws).length 1 (vs++ws)],?_,.sl _ H.length hn (by simp),by simp,fun j hj _=>List.getElem?_append_left hj,fun b hb=>by cases hb; exact .inr (Nat.le_refl _)⟩
   simp only [appV,h1,h2]
   simp [h0,flatten_single]
   exact hr
 | sl vs b hb h =>
  have hap:=appV_own (bytes:=24) (y:=y) (k:=ws.length) (ys:=ws) h h1 h2 (by simp) hr
  have hlt:=(List.getElem?_eq_some_iff.1 h).1
  refine ⟨_,_,hap,?_,by simp,fun j _ hj=>get_set_ne (fun e=>hj (by rw [e]; rfl)) _,fun c hc=>by cases hc; exact .inl rfl⟩
  have:=OwnM.sl (n:=n) (H:=H.set b (.cells (vs.length+ws.length) 1 (vs++ws))) (vs++ws) b hb (by rw [List.getElem?_set_self hlt]; simp)
  simpa using this
theorem eqV_ints {r:List Int} {w:V} (h:IntsV r w):eqV w w=true:=by
 cases h with
 | nil=>rfl
 | sv ex =>
  have:∀ l:List Int,eqLL ((l.map fun n=>V.int .i64 n).map fun x=>[x]) ((l.map fun n=>V.int .i64 n).map fun x=>[x])=true:=by
   intro l
   induction l with
   | nil=>rfl
   | cons a l ih=>simp only [List.map_cons,eqLL,ih,eqL,eqV]; simp
  simp only [eqV,this,Bool.true_and]; simp
abbrev Short (A:List (List Int)):Prop:=∀ r∈A,r.length<2 ^ 39
abbrev Short64 (A:List (List Int)):Prop:=∀ r∈A,r.length<2 ^ 39∧∀ x∈r,is64 x
abbrev JoinedOK (τ:Ty):Prop:=∀ (t:Tr),IsTy t τ→t.Ok→∀ (A AD B BD:List (List Int)) (vA vAD vB vBD:V) (H:Heap),ListsV A vA→ListsV AD vAD→ListsV B vB→ListsV BD vBD→A.length=τ.own→AD.length=τ.data→B.length=τ.own→BD.length=τ.data →
 Short A→Short AD→Short64 B→Short64 BD →
 ∃ o d vs ws X,CC 73 [.agg t.cs,vA,vAD,vB,vBD] H (.ret (.tup [o,d])) (H++X)∧Fr IntsV (jn τ A AD B BD).1 vs∧Fr IntsV (jn τ A AD B BD).2 ws∧OwnM H.length (H++X) vs o∧OwnM H.length (H++X) ws d∧(∀ b,blk o=some b→blk d≠some b)
def JoinedKids:Ty→Prop
 | .pair x y=>JoinedOK x∧JoinedOK y
 | .sum x y=>JoinedOK x∧JoinedOK y
 | .seq x=>JoinedOK x
 | _=>True
theorem map_wrap0 {r:List Int} (h:∀ x∈r,is64 x):(r.map fun x=>IntKind.i64.wrap (x+((0:Nat):Int)))=r:=by
 conv=>rhs; rw [← List.map_id r]
 refine List.map_congr_left fun x hx => ?_
 have:=h x hx
 simp only [is64] at this
 rw [wrap64 (by omega) (by omega)]
 simp
theorem joined_step (τ:Ty) (hs:τ.size<2 ^ 20) (ih:JoinedKids τ):JoinedOK τ:=by
 intro t ht ho A AD B BD vA vAD vB vBD H hA hAD hB hBD l1 l2 l3 l4 lA lAD lB lBD
 have hbs:=τ.both_size
 have hcc:=cells_tr ho
 cases ht with
 | unit w =>
  have hw:=SlV.cell ho.inv.2.2.1
  refine ⟨.nils,.nils,[],[],[],CallP.eq (call_ofQ (af:=Trnz.a73) rfl rfl fun Q hQ => ?_),.nil,.nil,.nil,.nil,fun b hb=>by cases hb⟩
  simp only [Trnz.a73]
  simp [Tr.cs,hw,slotOf]
  exact hQ _ _ ⟨rfl,by simp⟩
 | int w =>
  have hw:=SlV.cell ho.inv.2.2.1
  simp only [Ty.own,Ty.data] at l1 l2 l3 l4
  obtain ⟨w0,k1,k2⟩:=hA.idx (i:=0) (by omega)
  obtain ⟨w1,k3,k4⟩:=hB.idx (i:=0) (by omega)
  simp only [Int.natCast_zero] at k1 k3
  obtain ⟨u,cc1,cc2,iu,m1,m2,m3⟩:=cat_row k2 k4 (lA _ (List.getElem_mem _)) (lB _ (List.getElem_mem _)).1 H
  have ev1:=eqV_ints k4
  have uc:=SlV.cell iu
  have ucs:=SlV.cells iu
  have up:=SlV.pure iu
  have hA0:A[0]'(by omega)=A.getD 0 []:=by rw [List.getD_eq_getElem?_getD,List.getElem?_eq_getElem (by omega)]; rfl
  have hB0:B[0]'(by omega)=B.getD 0 []:=by rw [List.getD_eq_getElem?_getD,List.getElem?_eq_getElem (by omega)]; rfl
  rw [hA0,hB0] at iu
  refine ⟨.sv [[u]] true,.nils,[u],[],[.gone],CallP.eq (call_ofQ (af:=Trnz.a73) rfl rfl fun Q hQ => ?_),.cons iu .nil,.nil,.sv [u],.nil,fun b hb h=>by cases h⟩
  simp only [Trnz.a73]
  generalize A[0]'(by omega)=rA at *
  generalize B[0]'(by omega)=rB at *
  generalize H++[Am.Obj.cells rA.length 1 cc1]=Ga at *
  generalize H++[Am.Obj.cells (rA.length+rB.length) 1 cc2]=Gb at *
  simp [Tr.cs,hw,k1,k3,m1,m2,m3,ev1,uc,ucs,up,fill,chunks,slotOf,-List.all_eq_true]
  exact hQ _ _ ⟨rfl,rfl⟩
 | seq w a x ha =>
  obtain ⟨_,_,hv,hkids⟩:=ho.inv
  simp only [Ty.own,Ty.data,Ty.size] at l1 l2 l3 l4 hs
  have i0:=idx_tr hv (i:=0) (by simp)
  simp only [List.getElem_cons_zero,Int.natCast_zero] at i0
  have hca:=cells_tr (hkids a (by simp))
  have hwc:=hv.cell
  have hbx:=x.both_size
  obtain ⟨⟨oA,dA,c1,p1,q1⟩,c2⟩:=pool_q (by omega) ha ho hAD l2
  obtain ⟨⟨oB,dB,c3,p3,q3⟩,_⟩:=pool_q (by omega) ha ho hBD l4
  have hmx:=psz_max (psz x AD)
  have hsz:=psz_lt (x:=x) (by omega) lAD
  obtain ⟨o1,d1,vs1,ws1,X1,e1,r1,r2,z1,z2,z3⟩:=ih a ha (hkids a (by simp)) _ _ _ _ oA dA oB dB H p1 q1 p3 q3 (by simp; omega) (by simp; omega) (by simp; omega) (by simp; omega) (fun r hr=>lAD r (mem_td.1 hr)) (fun r hr=>lAD r (mem_td.2 hr)) (fun r hr=>lBD r (mem_td.1 hr)) (fun r hr=>lBD r (mem_td.2 hr))
  obtain ⟨w0,k1,k2⟩:=hA.idx (i:=0) (by omega)
  obtain ⟨w1,k3,k4⟩:=hB.idx (i:=0) (by omega)
  obtain ⟨w2,k5,k6⟩:=hA.idx (i:=1) (by omega)
  obtain ⟨w3,k7,k8⟩:=hB.idx (i:=1) (by omega)
  simp only [Int.natCast_zero,Int.natCast_one] at k1 k3 k5 k7
  have tl:=lB _ (List.getElem_mem (show 0<B.length by omega))
  obtain ⟨um,c4,k9⟩:=moved_q k4 ((psz x AD).getD 0) (by omega)
  have hmv:((B[0]'(by omega)).map fun z=>IntKind.i64.wrap (z+(((psz x AD).getD 0:Nat):Int)))=if x.own=0 then B[0]'(by omega) else (B[0]'(by omega)).map (fun z=>IntKind.i64.wrap (z+((AD.headD []).length:Int))):=by
   by_cases h0:x.own=0
   ·rw [if_pos h0,psz,if_pos h0]
    exact map_wrap0 tl.2
   ·rw [if_neg h0,psz,if_neg h0]; rfl
  rw [hmv] at k9
  obtain ⟨u,cc1,cc2,iu,m1,m2,m3⟩:=cat_row k2 k9 (lA _ (List.getElem_mem _)) (by split; exact tl.1; simpa using tl.1) (H++X1)
  obtain ⟨u2,cc3,cc4,iu2,m4,m5,m6⟩:=cat_row k6 k8 (lA _ (List.getElem_mem _)) (lB _ (List.getElem_mem _)).1 (H++X1++[.gone])
  have ev1:=eqV_ints k4
  have ev2:=eqV_ints k6
  have ev3:=eqV_ints k8
  have uc:=SlV.cell iu
  have ucs:=SlV.cells iu
  have up:=SlV.pure iu
  have uc2:=SlV.cell iu2
  have ucs2:=SlV.cells iu2
  have up2:=SlV.pure iu2
  have hA0:A[0]'(by omega)=A.getD 0 []:=by rw [List.getD_eq_getElem?_getD,List.getElem?_eq_getElem (by omega)]; rfl
  have hB0:B[0]'(by omega)=B.getD 0 []:=by rw [List.getD_eq_getElem?_getD,List.getElem?_eq_getElem (by omega)]; rfl
  have hA1:A[1]'(by omega)=A.getD 1 []:=by rw [List.getD_eq_getElem?_getD,List.getElem?_eq_getElem (by omega)]; rfl
  have hB1:B[1]'(by omega)=B.getD 1 []:=by rw [List.getD_eq_getElem?_getD,List.getElem?_eq_getElem (by omega)]; rfl
  rw [hA0,hB0] at iu
  rw [hA1,hB1] at iu2
  have n1:=r1.length
  have n2:=r2.length
  rw [(jn_len x _ _ _ _).1] at n1
  rw [(jn_len x _ _ _ _).2] at n2
  have hroom:room=140737488355328:=by simp [room]
  obtain ⟨G,hG⟩:∃ G,G=H++X1++[Am.Obj.gone]++[Am.Obj.gone]:=⟨_,rfl⟩
  have hpre:∀ j,j<(H++X1).length→G[j]?=(H++X1)[j]?:=fun j hj=>by rw [hG,List.append_assoc,List.getElem?_append_left hj]
  have hGl:(H++X1).length≤G.length:=by rw [hG]; simp
  have hlX:H.length≤(H++X1).length:=by simp
  have z1':OwnM H.length G vs1 o1:=z1.frame fun b hb=>hpre b (z1.blk_lt hb).2
  have z2':OwnM H.length G ws1 d1:=z2.frame fun b hb=>hpre b (z2.blk_lt hb).2
  obtain ⟨d3,G2,a2,z8,g4,g5,g6⟩:=app_ownM z1' z2'.slen z2'.scells (by omega) (by omega)
  obtain ⟨Y,hY⟩:=ext_of (H:=H) (G:=G2) (by omega) (fun j hj=>by
   rw [g5 j (by omega) (fun h=>by have:=(z1.blk_lt h).1; omega),hpre j (by omega),List.getElem?_append_left hj])
  refine ⟨.sv [[u],[u2]] true,d3,[u,u2],vs1++ws1,Y,?_,.cons iu (.cons iu2 .nil),r1.append r2,.sv [u,u2],by rw [← hY]; exact z8,fun b hb=>by cases hb⟩
  rw [← hY]
  have hcs:(Tr.mk 4 0 w [a]).cs=[.int .i64 4,.int .i64 0,w]:=rfl
  rw [hcs] at c1 c2 c3 hcc ⊢
  rw [PC] at c1 c2 c3 c4
  rw [← hG] at m6
  have hmx':=hmx
  obtain ⟨zi,hzi⟩:∃ zi,zi=pszI (psz x AD):=⟨_,rfl⟩
  obtain ⟨sz,hszd⟩:∃ sz,sz=(psz x AD).getD 0:=⟨_,rfl⟩
  rw [← hzi,← hszd] at hmx
  rw [← hzi] at c2
  rw [← hszd] at c4
  clear hmv hmx' hG
  generalize (if x.own=0 then B[0]'(by omega) else (B[0]'(by omega)).map (fun z=>IntKind.i64.wrap (z+((AD.headD []).length:Int))))=rM at *
  generalize A[0]'(by omega)=rA at *
  generalize B[0]'(by omega)=rB at *
  generalize A[1]'(by omega)=rA1 at *
  generalize B[1]'(by omega)=rB1 at *
  generalize H++X1=K at *
  generalize K++[Am.Obj.cells rA.length 1 cc1]=Ga at *
  generalize K++[Am.Obj.cells (rA.length+rM.length) 1 cc2]=Gb at *
  generalize K++[Am.Obj.gone]=Gc at *
  generalize Gc++[Am.Obj.cells rA1.length 1 cc3]=Gd at *
  generalize Gc++[Am.Obj.cells (rA1.length+rB1.length) 1 cc4]=Ge at *
  refine CallP.eq (call_ofQ (af:=Trnz.a73) rfl rfl fun Q hQ => ?_)
  simp only [Trnz.a73]
  simp [hwc,i0,hca,c1,c2,c3,c4,hmx,e1,k1,k3,k5,k7,m1,m2,m3,m4,m5,m6,ev1,ev2,ev3,uc,ucs,up,uc2,ucs2,up2,a2,fill,chunks,slotOf,-pcall,-List.all_eq_true]
  exact hQ _ _ ⟨rfl,rfl⟩
 | pair w a b x y ha hb =>
  obtain ⟨_,_,hv,hkids⟩:=ho.inv
  simp only [Ty.own,Ty.data,Ty.size] at l1 l2 l3 l4 hs
  have i0:=idx_tr hv (i:=0) (by simp)
  have i1:=idx_tr hv (i:=1) (by simp)
  simp only [List.getElem_cons_zero,List.getElem_cons_succ,Int.natCast_zero,Int.natCast_one] at i0 i1
  have hca:=cells_tr (hkids a (by simp))
  have hcb:=cells_tr (hkids b (by simp))
  have hwc:=hv.cell
  have hbx:=x.both_size
  have hby:=y.both_size
  obtain ⟨⟨oA1,dA1,c1,p1,q1⟩,⟨oA2,dA2,c2,p2,q2⟩⟩:=cut_q 2 (.inl rfl) (by omega) (by omega) ha hb ho hA hAD (by simp [cutO]; omega) l2 (by omega)
  obtain ⟨⟨oB1,dB1,c3,p3,q3⟩,⟨oB2,dB2,c4,p4,q4⟩⟩:=cut_q 2 (.inl rfl) (by omega) (by omega) ha hb ho hB hBD (by simp [cutO]; omega) l4 (by omega)
  have hcutA:cutO 2 A=A:=by simp [cutO]
  have hcutB:cutO 2 B=B:=by simp [cutO]
  rw [hcutA] at p1 p2
  rw [hcutB] at p3 p4
  have mA:∀ r∈A,r∈A:=fun r hr=>hr
  have mB:∀ r∈B,r∈B:=fun r hr=>hr
  obtain ⟨o1,d1,vs1,ws1,X1,e1,r1,r2,z1,z2,z3⟩:=ih.1 a ha (hkids a (by simp)) _ _ _ _ oA1 dA1 oB1 dB1 H p1 q1 p3 q3 (by simp; omega) (by simp; omega) (by simp; omega) (by simp; omega) (fun r hr=>lA r (mA r (mem_td.1 hr))) (fun r hr=>lAD r (mem_td.1 hr)) (fun r hr=>lB r (mB r (mem_td.1 hr))) (fun r hr=>lBD r (mem_td.1 hr))
  obtain ⟨o2,d2,vs2,ws2,X2,e2,r3,r4,z4,z5,z6⟩:=ih.2 b hb (hkids b (by simp)) _ _ _ _ oA2 dA2 oB2 dB2 (H++X1) p2 q2 p4 q4 (by simp; omega) (by simp; omega) (by simp; omega) (by simp; omega) (fun r hr=>lA r (mA r (mem_td.2 hr))) (fun r hr=>lAD r (mem_td.2 hr)) (fun r hr=>lB r (mB r (mem_td.2 hr))) (fun r hr=>lBD r (mem_td.2 hr))
  have n1:=r1.length
  have n2:=r2.length
  have n3:=r3.length
  have n4:=r4.length
  rw [(jn_len x _ _ _ _).1] at n1
  rw [(jn_len x _ _ _ _).2] at n2
  rw [(jn_len y _ _ _ _).1] at n3
  rw [(jn_len y _ _ _ _).2] at n4
  have hpre:∀ (j:Nat),j<(H++X1).length→(H++X1++X2)[j]?=(H++X1)[j]?:=fun j hj=>List.getElem?_append_left hj
  have z1':OwnM H.length (H++X1++X2) vs1 o1:=z1.frame fun b hb=>hpre b (z1.blk_lt hb).2
  have z2':OwnM H.length (H++X1++X2) ws1 d1:=z2.frame fun b hb=>hpre b (z2.blk_lt hb).2
  have hlX:H.length≤(H++X1).length:=by simp
  obtain ⟨G,hG⟩:∃ G,G=H++X1++X2:=⟨_,rfl⟩
  rw [← hG] at z1' z2' z4 z5 e2 hpre
  have hGl:(H++X1).length≤G.length:=by rw [hG]; simp
  have hroom:room=140737488355328:=by simp [room]
  obtain ⟨o3,G1,a1,z7,g1,g2,g3⟩:=app_ownM z1' z4.slen z4.scells (by omega) (by omega)
  have f24:∀ b,blk d2=some b→blk o1≠some b:=fun b hb h=>by have:=(z5.blk_lt hb).1; have:=(z1.blk_lt h).2; omega
  have f21:∀ b,blk d1=some b→blk o1≠some b:=fun b hb h=>z3 b h hb
  have z5':OwnM (H++X1).length G1 ws2 d2:=z5.frame fun b hb=>g2 b (z5.blk_lt hb).2 (f24 b hb)
  have z2'':OwnM H.length G1 ws1 d1:=z2'.frame fun b hb=>g2 b (z2'.blk_lt hb).2 (f21 b hb)
  have hpreG:∀ (j:Nat),j<H.length→G[j]?=H[j]?:=fun j hj=>by rw [hG,List.append_assoc,List.getElem?_append_left hj]
  have hn1:∀ j,j<H.length→blk o1≠some j:=fun j hj h=>by have:=(z1.blk_lt h).1; omega
  have hn2:∀ j,j<H.length→blk d1≠some j:=fun j hj h=>by have:=(z2.blk_lt h).1; omega
  have hd13:∀ b,blk o3=some b→blk d1≠some b:=fun b hb h=>by
   rcases g3 b hb with h2 | h2
   ·exact z3 b h2 h
   ·have:=(z2'.blk_lt h).2; omega
  have hcs:(Tr.mk 2 0 w [a,b]).cs=[.int .i64 2,.int .i64 0,w]:=rfl
  rw [hcs] at c1 c2 c3 c4 hcc ⊢
  rw [PC] at c1 c2 c3 c4
  obtain ⟨d3,G2,a2,z8,g4,g5,g6⟩:=app_ownM z2'' z5'.slen z5'.scells (by omega) (by omega)
  have z7':OwnM H.length G2 (vs1++vs2) o3:=z7.frame fun b hb=>g5 b (z7.blk_lt hb).2 (hd13 b hb)
  obtain ⟨Y,hY⟩:=ext_of (H:=H) (G:=G2) (by omega) (fun j hj=>by rw [g5 j (by omega) (hn2 j hj),g2 j (by omega) (hn1 j hj),hpreG j hj])
  refine ⟨o3,d3,vs1++vs2,ws1++ws2,Y,?_,r1.append r3,r2.append r4,by rw [← hY]; exact z7',by rw [← hY]; exact z8,?_⟩
  ·rw [← hY]
   refine CallP.eq (call_ofQ (af:=Trnz.a73) rfl rfl fun Q hQ => ?_)
   simp only [Trnz.a73]
   simp [hwc,i0,i1,hca,hcb,c1,c2,c3,c4,e1,e2,a1,a2,slotOf,-pcall,-List.all_eq_true]
   exact hQ _ _ ⟨rfl,rfl⟩
  ·intro b hb h
   rcases g6 b h with h2 | h2
   ·exact hd13 b hb h2
   ·have:=(z7.blk_lt hb).2; omega
 | sum w a b x y ha hb =>
  obtain ⟨_,_,hv,hkids⟩:=ho.inv
  simp only [Ty.own,Ty.data,Ty.size] at l1 l2 l3 l4 hs
  have i0:=idx_tr hv (i:=0) (by simp)
  have i1:=idx_tr hv (i:=1) (by simp)
  simp only [List.getElem_cons_zero,List.getElem_cons_succ,Int.natCast_zero,Int.natCast_one] at i0 i1
  have hca:=cells_tr (hkids a (by simp))
  have hcb:=cells_tr (hkids b (by simp))
  have hwc:=hv.cell
  have hbx:=x.both_size
  have hby:=y.both_size
  obtain ⟨⟨oA1,dA1,c1,p1,q1⟩,⟨oA2,dA2,c2,p2,q2⟩⟩:=cut_q 3 (.inr rfl) (by omega) (by omega) ha hb ho hA hAD (by simp [cutO]; omega) l2 (by omega)
  obtain ⟨⟨oB1,dB1,c3,p3,q3⟩,⟨oB2,dB2,c4,p4,q4⟩⟩:=cut_q 3 (.inr rfl) (by omega) (by omega) ha hb ho hB hBD (by simp [cutO]; omega) l4 (by omega)
  have hcutA:cutO 3 A=A.drop 1:=by simp [cutO]
  have hcutB:cutO 3 B=B.drop 1:=by simp [cutO]
  rw [hcutA] at p1 p2
  rw [hcutB] at p3 p4
  have mA:∀ r∈A.drop 1,r∈A:=fun r hr=>List.mem_of_mem_drop hr
  have mB:∀ r∈B.drop 1,r∈B:=fun r hr=>List.mem_of_mem_drop hr
  obtain ⟨o1,d1,vs1,ws1,X1,e1,r1,r2,z1,z2,z3⟩:=ih.1 a ha (hkids a (by simp)) _ _ _ _ oA1 dA1 oB1 dB1 H p1 q1 p3 q3 (by simp; omega) (by simp; omega) (by simp; omega) (by simp; omega) (fun r hr=>lA r (mA r (mem_td.1 hr))) (fun r hr=>lAD r (mem_td.1 hr)) (fun r hr=>lB r (mB r (mem_td.1 hr))) (fun r hr=>lBD r (mem_td.1 hr))
  obtain ⟨o2,d2,vs2,ws2,X2,e2,r3,r4,z4,z5,z6⟩:=ih.2 b hb (hkids b (by simp)) _ _ _ _ oA2 dA2 oB2 dB2 (H++X1) p2 q2 p4 q4 (by simp; omega) (by simp; omega) (by simp; omega) (by simp; omega) (fun r hr=>lA r (mA r (mem_td.2 hr))) (fun r hr=>lAD r (mem_td.2 hr)) (fun r hr=>lB r (mB r (mem_td.2 hr))) (fun r hr=>lBD r (mem_td.2 hr))
  have n1:=r1.length
  have n2:=r2.length
  have n3:=r3.length
  have n4:=r4.length
  rw [(jn_len x _ _ _ _).1] at n1
  rw [(jn_len x _ _ _ _).2] at n2
  rw [(jn_len y _ _ _ _).1] at n3
  rw [(jn_len y _ _ _ _).2] at n4
  have hpre:∀ (j:Nat),j<(H++X1).length→(H++X1++X2)[j]?=(H++X1)[j]?:=fun j hj=>List.getElem?_append_left hj
  have z1':OwnM H.length (H++X1++X2) vs1 o1:=z1.frame fun b hb=>hpre b (z1.blk_lt hb).2
  have z2':OwnM H.length (H++X1++X2) ws1 d1:=z2.frame fun b hb=>hpre b (z2.blk_lt hb).2
  have hlX:H.length≤(H++X1).length:=by simp
  obtain ⟨G,hG⟩:∃ G,G=H++X1++X2:=⟨_,rfl⟩
  rw [← hG] at z1' z2' z4 z5 e2 hpre
  have hGl:(H++X1).length≤G.length:=by rw [hG]; simp
  have hroom:room=140737488355328:=by simp [room]
  obtain ⟨o3,G1,a1,z7,g1,g2,g3⟩:=app_ownM z1' z4.slen z4.scells (by omega) (by omega)
  have f24:∀ b,blk d2=some b→blk o1≠some b:=fun b hb h=>by have:=(z5.blk_lt hb).1; have:=(z1.blk_lt h).2; omega
  have f21:∀ b,blk d1=some b→blk o1≠some b:=fun b hb h=>z3 b h hb
  have z5':OwnM (H++X1).length G1 ws2 d2:=z5.frame fun b hb=>g2 b (z5.blk_lt hb).2 (f24 b hb)
  have z2'':OwnM H.length G1 ws1 d1:=z2'.frame fun b hb=>g2 b (z2'.blk_lt hb).2 (f21 b hb)
  have hpreG:∀ (j:Nat),j<H.length→G[j]?=H[j]?:=fun j hj=>by rw [hG,List.append_assoc,List.getElem?_append_left hj]
  have hn1:∀ j,j<H.length→blk o1≠some j:=fun j hj h=>by have:=(z1.blk_lt h).1; omega
  have hn2:∀ j,j<H.length→blk d1≠some j:=fun j hj h=>by have:=(z2.blk_lt h).1; omega
  have hd13:∀ b,blk o3=some b→blk d1≠some b:=fun b hb h=>by
   rcases g3 b hb with h2 | h2
   ·exact z3 b h2 h
   ·have:=(z2'.blk_lt h).2; omega
  have hcs:(Tr.mk 3 0 w [a,b]).cs=[.int .i64 3,.int .i64 0,w]:=rfl
  rw [hcs] at c1 c2 c3 c4 hcc ⊢
  rw [PC] at c1 c2 c3 c4
  obtain ⟨w0,k1,k2⟩:=hA.idx (i:=0) (by omega)
  obtain ⟨w1,k3,k4⟩:=hB.idx (i:=0) (by omega)
  simp only [Int.natCast_zero] at k1 k3
  obtain ⟨u,cc1,cc2,iu,m1,m2,m3⟩:=cat_row k2 k4 (lA _ (List.getElem_mem _)) (lB _ (List.getElem_mem _)).1 G1
  have ev1:=eqV_ints k4
  have q7:OwnM H.length (G1++[.gone,.cells 1 1 [u]]) [u] (.sl (G1.length+1) 0 1 1 1 false):=.sl [u] (G1.length+1) (by omega) (by simp)
  have z7'':OwnM H.length (G1++[.gone,.cells 1 1 [u]]) (vs1++vs2) o3:=z7.frame fun b hb=>List.getElem?_append_left (z7.blk_lt hb).2
  obtain ⟨o4,G3,a3,z9,g7,g8,g9⟩:=app_ownM q7 z7''.slen z7''.scells (by simp; omega) (by simp; omega)
  have z5'':OwnM (H++X1).length G3 ws2 d2:=z5'.frame fun b hb=>by
   have:=(z5'.blk_lt hb).2
   rw [g8 b (by simp; omega) (fun h=>by cases h; omega),List.getElem?_append_left this]
  have z2q:OwnM H.length G3 ws1 d1:=z2''.frame fun b hb=>by
   have:=(z2''.blk_lt hb).2
   rw [g8 b (by simp; omega) (fun h=>by cases h; omega),List.getElem?_append_left this]
  simp only [List.length_append,List.length_cons,List.length_nil,Nat.zero_add,Nat.reduceAdd] at g7 g8 g9
  obtain ⟨d3,G2,a2,z8,g4,g5,g6⟩:=app_ownM z2q z5''.slen z5''.scells (by omega) (by omega)
  have hd14:∀ b,blk o4=some b→blk d1≠some b:=fun b hb h=>by
   have hlt:=(z2''.blk_lt h).2
   rcases g9 b hb with h2 | h2
   ·cases h2; omega
   ·omega
  have z9':OwnM H.length G2 ([u]++(vs1++vs2)) o4:=z9.frame fun b hb=>g5 b (z9.blk_lt hb).2 (hd14 b hb)
  obtain ⟨Y,hY⟩:=ext_of (H:=H) (G:=G2) (by omega) (fun j hj=>by
   rw [g5 j (by omega) (hn2 j hj),g8 j (by omega) (fun h=>by cases h; omega),List.getElem?_append_left (by omega),g2 j (by omega) (hn1 j hj),hpreG j hj])
  have hA0:A[0]'(by omega)=A.getD 0 []:=by rw [List.getD_eq_getElem?_getD,List.getElem?_eq_getElem (by omega)]; rfl
  have hB0:B[0]'(by omega)=B.getD 0 []:=by rw [List.getD_eq_getElem?_getD,List.getElem?_eq_getElem (by omega)]; rfl
  rw [hA0,hB0] at iu
  refine ⟨o4,d3,[u]++(vs1++vs2),ws1++ws2,Y,?_,Fr.cons iu (r1.append r3),r2.append r4,by rw [← hY]; exact z9',by rw [← hY]; exact z8,?_⟩
  ·rw [← hY]
   have uc:=SlV.cell iu
   have ucs:=SlV.cells iu
   have up:=SlV.pure iu
   have hg:G1++[Am.Obj.gone]++[Am.Obj.cells 1 1 [u]]=G1++[.gone,.cells 1 1 [u]]:=by simp
   generalize A[0]'(by omega)=rA at *
   generalize B[0]'(by omega)=rB at *
   generalize G1++[Am.Obj.cells rA.length 1 cc1]=Ga at *
   generalize G1++[Am.Obj.cells (rA.length+rB.length) 1 cc2]=Gb at *
   refine CallP.eq (call_ofQ (af:=Trnz.a73) rfl rfl fun Q hQ => ?_)
   simp only [Trnz.a73]
   simp [hwc,i0,i1,hca,hcb,c1,c2,c3,c4,e1,e2,a1,k1,k3,m1,m2,m3,ev1,a3,a2,uc,ucs,up,fill,slotOf,-pcall,-List.all_eq_true]
   exact hQ _ _ ⟨rfl,rfl⟩
  ·intro b hb h
   rcases g6 b h with h2 | h2
   ·exact hd14 b hb h2
   ·have:=(z9.blk_lt hb).2; omega
theorem joined_q:∀ τ:Ty,τ.size<2 ^ 20→JoinedOK τ:=by
 intro τ
 induction τ with
 | unit=>exact fun hs=>joined_step _ hs trivial
 | int=>exact fun hs=>joined_step _ hs trivial
 | pair x y ihx ihy=>intro hs; exact joined_step _ hs (by simp only [Ty.size] at hs; exact ⟨ihx (by omega),ihy (by omega)⟩)
 | sum x y ihx ihy=>intro hs; exact joined_step _ hs (by simp only [Ty.size] at hs; exact ⟨ihx (by omega),ihy (by omega)⟩)
 | seq x ih=>intro hs; exact joined_step _ hs (by simp only [Ty.size] at hs; exact ih (by omega))
def shk (r:List Int) (n:Nat) (P:Int):Nat→List Int
 | 0=>r
 | k+1=>(shk r n P k).set (n+k) (IntKind.i64.wrap ((shk r n P k).getD (n+k) 0+P))
theorem shk_len (r:List Int) (n:Nat) (P:Int):∀ k,(shk r n P k).length=r.length
 | 0=>rfl
 | k+1=>by simp [shk,shk_len r n P k]
section
variable (A B:List (List Int))
def shS:Ty→Nat→Nat→List (List Int)→List (List Int)
 | .unit,_,_,R=>R
 | .int,_,_,R=>R
 | .pair x y,o,d,R=>shS y (o+x.own) (d+x.data) (shS x o d R)
 | .sum x y,o,d,R=>shS y (o+1+x.own) (d+x.data) (shS x (o+1) d R)
 | .seq x,o,d,R=>shS x d (d+x.own) (if x.own=0 then R else R.set o (shk (R.getD o []) (A.getD o []).length (A.getD d []).length (B.getD o []).length))
theorem set_row_len (R:List (List Int)) (o:Nat) (r:List Int) (h:r.length=(R.getD o []).length) (j:Nat):((R.set o r).getD j []).length=(R.getD j []).length:=by
 simp only [List.getD_eq_getElem?_getD,List.getElem?_set]
 split
 ·rename_i e
  subst e
  split
  ·simpa [List.getD_eq_getElem?_getD] using h
  ·rename_i hj; simp [hj]
 ·rfl
theorem shS_len:∀ (τ:Ty) (o d:Nat) (R:List (List Int)),(shS A B τ o d R).length=R.length∧∀ j,((shS A B τ o d R).getD j []).length=(R.getD j []).length
 | .unit,_,_,_=>⟨rfl,fun _=>rfl⟩
 | .int,_,_,_=>⟨rfl,fun _=>rfl⟩
 | .pair x y,o,d,R=>by
  have h1:=shS_len x o d R
  have h2:=shS_len y (o+x.own) (d+x.data) (shS A B x o d R)
  exact ⟨h2.1.trans h1.1,fun j=>(h2.2 j).trans (h1.2 j)⟩
 | .sum x y,o,d,R=>by
  have h1:=shS_len x (o+1) d R
  have h2:=shS_len y (o+1+x.own) (d+x.data) (shS A B x (o+1) d R)
  exact ⟨h2.1.trans h1.1,fun j=>(h2.2 j).trans (h1.2 j)⟩
 | .seq x,o,d,R=>by
  have h1:=shS_len x d (d+x.own) (if x.own=0 then R else R.set o (shk (R.getD o []) (A.getD o []).length (A.getD d []).length (B.getD o []).length))
  simp only [shS]
  refine ⟨h1.1.trans ?_,fun j=>(h1.2 j).trans ?_⟩
  ·split <;> simp
  ·split
   ·rfl
   ·exact set_row_len _ _ _ (shk_len _ _ _ _) _
end
abbrev clo72 (c7 c11 c6 c13:Nat):V:=.func (.func 70) [] [.ref c7 0 1,.ref c11 0 1,.ref c6 0 1,.ref c13 0 1]
structure JoH (H:Heap) (c7 c11 c6 c13 O f0:Nat) (vA vB:V) (R:List (List Int)):Prop where
 rows:RowsF H O f0 R
 h7:H[c7]?=some (.cells 1 1 [vB])
 h11:H[c11]?=some (.cells 1 1 [outV O R.length])
 h6:H[c6]?=some (.cells 1 1 [vA])
 h13:H[c13]?=some (.cells 1 1 [clo72 c7 c11 c6 c13])
 o7:c7<f0∨f0+R.length≤c7
 o11:c11<f0∨f0+R.length≤c11
 o6:c6<f0∨f0+R.length≤c6
 o13:c13<f0∨f0+R.length≤c13
theorem JoH.off {H H':Heap} {c7 c11 c6 c13 O f0:Nat} {vA vB:V} {R R':List (List Int)} (h:JoH H c7 c11 c6 c13 O f0 vA vB R) (hO:Off H H' f0 R.length) (hr:RowsF H' O f0 R') (hl:R'.length=R.length):JoH H' c7 c11 c6 c13 O f0 vA vB R' :=
 ⟨hr,(hO.2 _ h.o7).trans h.h7,by rw [hl]; exact (hO.2 _ h.o11).trans h.h11,(hO.2 _ h.o6).trans h.h6,(hO.2 _ h.o13).trans h.h13,by rw [hl]; exact h.o7,by rw [hl]; exact h.o11,by rw [hl]; exact h.o6,by rw [hl]; exact h.o13⟩
theorem LayD.off {H H':Heap} {f0 n:Nat} {τ:Ty} {b:Nat} (h:LayD H b τ) (hO:Off H H' f0 n) (hb:b+objs τ≤f0):LayD H' b τ:=h.ext fun i h1 h2=>hO.2 i (.inl (by omega))
theorem load_pv (H:Heap) (w:V):loadV H (.pv [w]) 1 false=some w:=by simp [loadV]
abbrev JoP (A B:List (List Int)) (c7 c11 c6 c13 O f0:Nat) (vA vB:V) (τ:Ty) (b o d:Nat) (H:Heap) (R:List (List Int)):Prop :=
 ∃ (u:V) (H':Heap),CC 70 [spotV b o d,.ref c7 0 1,.ref c11 0 1,.ref c6 0 1,.ref c13 0 1] H (.ret u) H'∧JoH H' c7 c11 c6 c13 O f0 vA vB (shS A B τ o d R)∧Off H H' f0 R.length
set_option maxHeartbeats 1000000 in
theorem join72_q {A B:List (List Int)} {vA vB:V} (hA:ListsV A vA) (hB:ListsV B vB) (lA:∀ r∈A,r.length<2 ^ 39) (lB:∀ r∈B,r.length<2 ^ 39) {c7 c11 c6 c13 O f0:Nat} :
  ∀ (τ:Ty) (b o d:Nat) (H:Heap) (R:List (List Int)),JoH H c7 c11 c6 c13 O f0 vA vB R→LayD H b τ→b+objs τ≤f0→o+τ.own≤d→d+τ.data≤R.length→R.length<2 ^ 39→τ.size<2 ^ 20 →
   R.length=A.length→R.length=B.length→(∀ j,(R.getD j []).length=(A.getD j []).length+(B.getD j []).length)→JoP A B c7 c11 c6 c13 O f0 vA vB τ b o d H R:=by
 intro τ
 induction τ with
 | unit =>
  intro b o d H R hJ hL hb ho hd hlR hs eA eB hrl
  have ob:=objCells_of hL
  have key:CallP gl Trnz.aprog 70 [spotV b o d,.ref c7 0 1,.ref c11 0 1,.ref c6 0 1,.ref c13 0 1] H (fun r H'=>∃ u,r = .ret u∧H'=H):=by
   refine call_ofQ (af:=Trnz.a70) rfl rfl fun Q hQ => ?_
   simp only [Trnz.a70]
   simp [ob,slotOf]
   refine loop_nQ 0 (fun i c=>c=⟨[spotV b o d,.ref c7 0 1,.ref c11 0 1,.ref c6 0 1,.ref c13 0 1,spotV b o d,.undef,.undef,.undef,.undef,.undef,.int .i64 0,.int .i64 0],[],none,none,H⟩) ?_ rfl
   rintro I hI i c hi rfl
   simp [slotOf]
   exact hQ _ _ ⟨_,rfl,rfl⟩
  obtain ⟨r,H',e,u,rfl,rfl⟩:=OptP.ex key
  exact ⟨u,_,e,hJ,Off.refl _ _ _⟩
 | int =>
  intro b o d H R hJ hL hb ho hd hlR hs eA eB hrl
  have ob:=objCells_of hL
  have key:CallP gl Trnz.aprog 70 [spotV b o d,.ref c7 0 1,.ref c11 0 1,.ref c6 0 1,.ref c13 0 1] H (fun r H'=>∃ u,r = .ret u∧H'=H):=by
   refine call_ofQ (af:=Trnz.a70) rfl rfl fun Q hQ => ?_
   simp only [Trnz.a70]
   simp [ob,slotOf]
   refine loop_nQ 0 (fun i c=>c=⟨[spotV b o d,.ref c7 0 1,.ref c11 0 1,.ref c6 0 1,.ref c13 0 1,spotV b o d,.undef,.undef,.undef,.undef,.undef,.int .i64 0,.int .i64 0],[],none,none,H⟩) ?_ rfl
   rintro I hI i c hi rfl
   simp [slotOf]
   exact hQ _ _ ⟨_,rfl,rfl⟩
  obtain ⟨r,H',e,u,rfl,rfl⟩:=OptP.ex key
  exact ⟨u,_,e,hJ,Off.refl _ _ _⟩
 | pair x y ih1 ih2 =>
  intro b o d H R hJ hL hb ho hd hlR hs eA eB hrl
  obtain ⟨h1,h2,h3,h4⟩:=id hL
  simp only [objs] at hb
  simp only [Ty.own] at ho
  simp only [Ty.data] at hd
  simp only [Ty.size] at hs
  have hoy:=objs_pos y
  have hbx:=x.both_size
  have hby:=y.both_size
  have p0:=part_pair0 (H:=H) (b:=b) (o:=o) (d:=d) hL
  obtain ⟨u1,H1,c1,j1,f1⟩:=ih1 (b+1) o d H R hJ h3 (by omega) (by omega) (by omega) hlR (by omega) eA eB hrl
  have l1:=shS_len A B x o d R
  have hL1:=hL.off f1 (by simp only [objs]; omega)
  have p1:=part_pair1 (o:=o) (d:=d) hL1 (by omega) (by omega) (by omega)
  obtain ⟨g1,g2,g3,g4⟩:=id hL1
  obtain ⟨u2,H2,c2,j2,f2⟩:=ih2 (b+2+objs x) (o+x.own) (d+x.data) H1 _ j1 g4 (by omega) (by omega) (by omega) (by omega) (by omega) (by omega) (by omega) (fun j=>(l1.2 j).trans (hrl j))
  rw [l1.1] at f2
  have ob:=objCells_of h1
  have ob1:=objCells_of g1
  have oc:=objCells_of hJ.h13
  have oc1:=objCells_of j1.h13
  rw [RO] at p0 p1
  have w1:IntKind.i64.wrap 1=1:=rfl
  have w2:IntKind.i64.wrap (1+1)=2:=rfl
  have key:CallP gl Trnz.aprog 70 [spotV b o d,.ref c7 0 1,.ref c11 0 1,.ref c6 0 1,.ref c13 0 1] H (fun r H'=>∃ u,r = .ret u∧H'=H2):=by
   refine call_ofQ (af:=Trnz.a70) rfl rfl fun Q hQ => ?_
   simp only [Trnz.a70]
   simp [ob,slotOf]
   refine loop_nQ 2 (fun i c=>∃ s8 fl,c=⟨[spotV b o d,.ref c7 0 1,.ref c11 0 1,.ref c6 0 1,.ref c13 0 1,spotV b o d,.undef,.undef,s8,.undef,.undef,.int .i64 2,.int .i64 i],[],fl,none,if i=0 then H else if i=1 then H1 else H2⟩) ?_ ⟨_,_,rfl⟩
   rintro I hI i c hi ⟨s8,fl,rfl⟩
   have hi3:i=0∨i=1∨i=2:=by omega
   rcases hi3 with rfl | rfl | rfl
   ·simp [oc,p0,c1,w1,slotOf]
    exact hI _ _ ⟨_,_,rfl⟩
   ·simp [oc1,p1,c2,w2,slotOf]
    exact hI _ _ ⟨_,_,rfl⟩
   ·simp [slotOf]
    exact hQ _ _ ⟨_,rfl,rfl⟩
  obtain ⟨r,H',e,u,rfl,rfl⟩:=OptP.ex key
  exact ⟨u,_,e,j2,f1.trans f2⟩
 | sum x y ih1 ih2 =>
  intro b o d H R hJ hL hb ho hd hlR hs eA eB hrl
  obtain ⟨h1,h2,h3,h4⟩:=id hL
  simp only [objs] at hb
  simp only [Ty.own] at ho
  simp only [Ty.data] at hd
  simp only [Ty.size] at hs
  have hoy:=objs_pos y
  have hbx:=x.both_size
  have hby:=y.both_size
  have p0:=part_sum0 (o:=o) (d:=d) hL (by omega) (by omega)
  obtain ⟨u1,H1,c1,j1,f1⟩:=ih1 (b+1) (o+1) d H R hJ h3 (by omega) (by omega) (by omega) hlR (by omega) eA eB hrl
  have l1:=shS_len A B x (o+1) d R
  have hL1:=hL.off f1 (by simp only [objs]; omega)
  have p1:=part_sum1 (o:=o) (d:=d) hL1 (by omega) (by omega) (by omega)
  obtain ⟨g1,g2,g3,g4⟩:=id hL1
  obtain ⟨u2,H2,c2,j2,f2⟩:=ih2 (b+2+objs x) (o+1+x.own) (d+x.data) H1 _ j1 g4 (by omega) (by omega) (by omega) (by omega) (by omega) (by omega) (by omega) (fun j=>(l1.2 j).trans (hrl j))
  rw [l1.1] at f2
  have ob:=objCells_of h1
  have ob1:=objCells_of g1
  have oc:=objCells_of hJ.h13
  have oc1:=objCells_of j1.h13
  rw [RO] at p0 p1
  have w1:IntKind.i64.wrap 1=1:=rfl
  have w2:IntKind.i64.wrap (1+1)=2:=rfl
  have key:CallP gl Trnz.aprog 70 [spotV b o d,.ref c7 0 1,.ref c11 0 1,.ref c6 0 1,.ref c13 0 1] H (fun r H'=>∃ u,r = .ret u∧H'=H2):=by
   refine call_ofQ (af:=Trnz.a70) rfl rfl fun Q hQ => ?_
   simp only [Trnz.a70]
   simp [ob,slotOf]
   refine loop_nQ 2 (fun i c=>∃ s8 fl,c=⟨[spotV b o d,.ref c7 0 1,.ref c11 0 1,.ref c6 0 1,.ref c13 0 1,spotV b o d,.undef,.undef,s8,.undef,.undef,.int .i64 2,.int .i64 i],[],fl,none,if i=0 then H else if i=1 then H1 else H2⟩) ?_ ⟨_,_,rfl⟩
   rintro I hI i c hi ⟨s8,fl,rfl⟩
   have hi3:i=0∨i=1∨i=2:=by omega
   rcases hi3 with rfl | rfl | rfl
   ·simp [oc,p0,c1,w1,slotOf]
    exact hI _ _ ⟨_,_,rfl⟩
   ·simp [oc1,p1,c2,w2,slotOf]
    exact hI _ _ ⟨_,_,rfl⟩
   ·simp [slotOf]
    exact hQ _ _ ⟨_,rfl,rfl⟩
  obtain ⟨r,H',e,u,rfl,rfl⟩:=OptP.ex key
  exact ⟨u,_,e,j2,f1.trans f2⟩
 | seq x ih =>
  intro b o d H R hJ hL hb ho hd hlR hs eA eB hrl
  obtain ⟨h1,h2,h3⟩:=id hL
  simp only [objs] at hb
  simp only [Ty.own] at ho
  simp only [Ty.data] at hd
  simp only [Ty.size] at hs
  have hox:=objs_pos x
  have hbx:=x.both_size
  have p0:=part_seq hL 0 (o:=o) (d:=d) (by omega) (by omega) (by omega)
  have r74:=ro74_q h3
  have ob:=objCells_of h1
  rw [RO] at p0 r74
  have w1:IntKind.i64.wrap 1=1:=rfl
  have key:CallP gl Trnz.aprog 70 [spotV b o d,.ref c7 0 1,.ref c11 0 1,.ref c6 0 1,.ref c13 0 1] H (fun r H'=>∃ u,r = .ret u∧JoH H' c7 c11 c6 c13 O f0 vA vB (shS A B (.seq x) o d R)∧Off H H' f0 R.length):=by
   refine call_ofQ (af:=Trnz.a70) rfl rfl fun Q hQ => ?_
   simp only [Trnz.a70]
   by_cases h0:x.own=0
   ·have f0':=Off.refl H f0 R.length
    have hlen1:R.length=R.length:=rfl
    have hrl1:=hrl
    have hgt:¬ 0<x.own:=by omega
    simp [ob,p0,r74,hgt,slotOf]
    have gL:=hL.off (Off.refl H f0 R.length) (by simp only [objs]; omega)
    obtain ⟨g1,g2,g3⟩:=id gL
    have p0':=part_seq gL 0 (o:=o) (d:=d) (by omega) (by omega) (by omega)
    rw [RO] at p0'
    have ob1:=objCells_of g1
    have oc1:=objCells_of (hJ).h13
    obtain ⟨u1,H2,c1,j2,f2⟩:=ih (b+1) d (d+x.own) H R hJ g3 (by omega) (by omega) (by omega) (by omega) (by omega) (by omega) (by omega) hrl1
    rw [hlen1] at f2
    refine loop_nQ 1 (fun i c=>∃ s8 fl,c=⟨[spotV b o d,.ref c7 0 1,.ref c11 0 1,.ref c6 0 1,.ref c13 0 1,spotV b o d,.agg [.ref (b+1) 0 1,.int .i64 d,.int .i64 ((d:Int)+x.own)],.undef,s8,.undef,.undef,.int .i64 1,.int .i64 i],[],fl,none,if i=0 then H else H2⟩) ?_ ⟨_,_,rfl⟩
    rintro I hI i c hi ⟨s8,fl,rfl⟩
    have hi3:i=0∨i=1:=by omega
    rcases hi3 with rfl | rfl
    ·simp [oc1,p0',c1,w1,slotOf]
     exact hI _ _ ⟨_,_,rfl⟩
    ·simp [slotOf]
     exact hQ _ _ ⟨_,rfl,by simp only [shS]; rw [if_pos h0]; exact j2,f2⟩
   ·have hgt:(0:Int)<x.own:=by omega
    have o7:=objCells_of hJ.h7
    have lo:o<R.length:=by omega
    have ld:d<R.length:=by omega
    obtain ⟨wb,b1,b2⟩:=hB.idx (i:=o) (by omega)
    have hlb:=b2.len'
    have hgn:0<x.own:=by omega
    have hroA:=hrl o
    obtain ⟨wa,a1,a2⟩:=hA.idx (i:=o) (by omega)
    obtain ⟨wd,d1,d2⟩:=hA.idx (i:=d) (by omega)
    have hla:=a2.len'
    have hld:=d2.len'
    have gB:B.getD o []=B[o]:=by simp [show o<B.length by omega]
    have gA:A.getD o []=A[o]:=by simp [show o<A.length by omega]
    have gD:A.getD d []=A[d]:=by simp [show d<A.length by omega]
    have bA:=lA _ (List.getElem_mem (show o<A.length by omega))
    have bD:=lA _ (List.getElem_mem (show d<A.length by omega))
    have bB:=lB _ (List.getElem_mem (show o<B.length by omega))
    rw [gA,gB] at hroA
    simp [ob,p0,r74,hgn,o7,b1,hlb,slotOf]
    refine loop_nQ B[o].length (fun k c=>∃ s7 fl H1,c=⟨[spotV b o d,.ref c7 0 1,.ref c11 0 1,.ref c6 0 1,.ref c13 0 1,spotV b o d,.agg [.ref (b+1) 0 1,.int .i64 d,.int .i64 ((d:Int)+x.own)],s7,.undef,.int .i64 B[o].length,.int .i64 k,.undef,.undef],[],fl,none,H1⟩ ∧
     JoH H1 c7 c11 c6 c13 O f0 vA vB (R.set o (shk (R.getD o []) A[o].length A[d].length k))∧Off H H1 f0 R.length) ?_ ⟨.undef,none,H,rfl,by
      rw [show R.set o (shk (R.getD o []) A[o].length A[d].length 0)=R by simp [shk,lo]]; exact hJ,Off.refl _ _ _⟩
    rintro I hI k c hk ⟨s7,fl,H1,rfl,j1,f1⟩
    obtain ⟨r,hr⟩:∃ r,r=shk (R.getD o []) A[o].length A[d].length k:=⟨_,rfl⟩
    have hrn:r.length=A[o].length+B[o].length:=by rw [hr,shk_len,hroA]
    rw [← hr] at j1
    by_cases hlt:k<B[o].length
    ·have hlt':(k:Int)<B[o].length:=by omega
     have lr:o<(R.set o r).length:=by simpa using lo
     have hro:(R.set o r)[o]=r:=by simp
     have k11:=load_cell j1.h11
     have k6:=load_cell j1.h6
     have xo:=out_idx (O:=O) (n:=(R.set o r).length) lr
     have xl:=j1.rows.load lr
     have xi:=hdf_idx (f0:=f0) (j:=o) (k:=A[o].length+k) (r:=r) (by omega)
     have xc:=j1.rows.cell (j:=o) (k:=A[o].length+k) lr (by rw [hro]; omega)
     have xs:=j1.rows.store (j:=o) (k:=A[o].length+k) lr (by rw [hro]; omega) (IntKind.i64.wrap (r.getD (A[o].length+k) 0+A[d].length))
     have xt:=j1.rows.at lr (r.set (A[o].length+k) (IntKind.i64.wrap (r.getD (A[o].length+k) 0+A[d].length))) (by simp [hro])
     simp only [hro] at xl xc xs xt
     rw [List.set_set] at xt
     have hlr:(R.set o r).length=R.length:=by simp
     rw [hlr] at xt
     rw [show r[A[o].length+k]'(by omega)=r.getD (A[o].length+k) 0 by simp [show A[o].length+k<r.length by omega]] at xc
     have wk:IntKind.i64.wrap ((A[o].length:Int)+k)=((A[o].length+k:Nat):Int):=by rw [wrap64 (by omega) (by omega)]; rfl
     have wk1:IntKind.i64.wrap ((k:Int)+1)=(k:Int)+1:=wrap64 (by omega) (by omega)
     have v1:=load_pv H1 wa
     have v2:=load_pv H1 wd
     have hI:=hI (k+1) ⟨[spotV b o d,.ref c7 0 1,.ref c11 0 1,.ref c6 0 1,.ref c13 0 1,spotV b o d,.agg [.ref (b+1) 0 1,.int .i64 d,.int .i64 ((d:Int)+x.own)],.int .i64 k,.undef,.int .i64 B[o].length,.int .i64 ((k:Int)+1),.undef,.undef],[],none,none,_⟩ ⟨_,none,_,rfl,by
      rw [shk,← hr]
      exact j1.off (by rw [hlr]; exact xt.2) xt.1 (by rw [hlr,List.length_set]),f1.trans xt.2⟩
     rw [hlr] at k11 xo xl
     generalize H1.set (f0+o) (.cells (r.set (A[o].length+k) (IntKind.i64.wrap (r.getD (A[o].length+k) 0+A[d].length))).length 1 (icells (r.set (A[o].length+k) (IntKind.i64.wrap (r.getD (A[o].length+k) 0+A[d].length)))))=H3 at *
     generalize r.getD (A[o].length+k) 0=z at *
     simp [hlt',k11,k6,xo,xl,xi,xc,xs,a1,d1,v1,v2,hla,hld,wk,wk1,slotOf,-loadV,-Int.natCast_add]
     exact ⟨hlt,hI⟩
    ·have hkB:k=B[o].length:=by omega
     have hlen1:(R.set o r).length=R.length:=by simp
     have hrl1:∀ j,((R.set o r).getD j []).length=(A.getD j []).length+(B.getD j []).length:=fun j=>(set_row_len R o r (by rw [hrn,hroA]) j).trans (hrl j)
     have hsh:shS A B (.seq x) o d R=shS A B x d (d+x.own) (R.set o r):=by simp only [shS]; rw [if_neg h0,gA,gB,gD,hr,hkB]
     have gL:=hL.off f1 (by simp only [objs]; omega)
     obtain ⟨g1,g2,g3⟩:=id gL
     have p0':=part_seq gL 0 (o:=o) (d:=d) (by omega) (by omega) (by omega)
     rw [RO] at p0'
     have ob1:=objCells_of g1
     have oc1:=objCells_of (j1).h13
     obtain ⟨u1,H2,c1,j2,f2⟩:=ih (b+1) d (d+x.own) H1 (R.set o r) j1 g3 (by omega) (by omega) (by omega) (by omega) (by omega) (by omega) (by omega) hrl1
     rw [hlen1] at f2
     simp [ob1,hlt,slotOf]
     refine loop_nQ 1 (fun i c=>∃ s8 fl,c=⟨[spotV b o d,.ref c7 0 1,.ref c11 0 1,.ref c6 0 1,.ref c13 0 1,spotV b o d,.agg [.ref (b+1) 0 1,.int .i64 d,.int .i64 ((d:Int)+x.own)],s7,s8,.int .i64 B[o].length,.int .i64 k,.int .i64 1,.int .i64 i],[],fl,none,if i=0 then H1 else H2⟩) ?_ ⟨_,_,rfl⟩
     rintro I hI i c hi ⟨s8,fl,rfl⟩
     have hi3:i=0∨i=1:=by omega
     rcases hi3 with rfl | rfl
     ·simp [oc1,p0',c1,w1,slotOf]
      exact hI _ _ ⟨_,_,rfl⟩
     ·simp [slotOf]
      exact hQ _ _ ⟨_,rfl,by rw [hsh]; exact j2,f1.trans f2⟩
  obtain ⟨r,H',e,u,rfl,j,f⟩:=OptP.ex key
  exact ⟨u,_,e,j,f⟩
theorem shk_eq (a b:List Int) (P:Int):shk (a++b) a.length P b.length=a++b.map (fun x=>IntKind.i64.wrap (x+P)):=by
 have gen:∀ k,k≤b.length→shk (a++b) a.length P k=a++((b.take k).map (fun x=>IntKind.i64.wrap (x+P))++b.drop k):=by
  intro k
  induction k with
  | zero=>intro _; simp [shk]
  | succ k ih =>
   intro hk
   have hk':k<b.length:=by omega
   have hd:b.drop k=b[k] :: b.drop (k+1):=List.drop_eq_getElem_cons hk'
   have hl:((b.take k).map fun x=>IntKind.i64.wrap (x+P)).length=k:=by simp; omega
   rw [shk,ih (by omega),hd]
   have hg:(a++((b.take k).map (fun x=>IntKind.i64.wrap (x+P))++b[k] :: b.drop (k+1))).getD (a.length+k) 0=b[k]:=by
    rw [List.getD_eq_getElem?_getD,List.getElem?_append_right (by omega),Nat.add_sub_cancel_left,List.getElem?_append_right (by omega),hl,Nat.sub_self]
    rfl
   rw [hg,List.set_append_right _ _ (by omega),Nat.add_sub_cancel_left,List.set_append_right _ _ (by omega),hl,← List.take_append_getElem hk',List.map_append,Nat.sub_self,List.set_cons_zero,List.append_assoc]
   rfl
 rw [gen _ (Nat.le_refl _)]
 simp
abbrev cut (A:List (List Int)) (o n:Nat):List (List Int):=(A.drop o).take n
theorem cut_take (A:List (List Int)) (o n m:Nat) (h:m≤n):(cut A o n).take m=cut A o m:=by
 rw [List.take_take,Nat.min_eq_left h]
theorem cut_drop (A:List (List Int)) (o n m:Nat):(cut A o n).drop m=cut A (o+m) (n - m):=by
 rw [List.drop_take,List.drop_drop]
abbrev Jn (A B:List (List Int)) (τ:Ty) (o d:Nat):List (List Int)×List (List Int):=jn τ (cut A o τ.own) (cut A d τ.data) (cut B o τ.own) (cut B d τ.data)
theorem getD_app_l {X Y:List (List Int)} {j:Nat} (h:j<X.length):(X++Y).getD j []=X.getD j []:=by
 rw [List.getD_eq_getElem?_getD,List.getElem?_append_left h,List.getD_eq_getElem?_getD]
theorem getD_app_r {X Y:List (List Int)} {n j:Nat} (h:X.length=n) (hj:n≤j):(X++Y).getD j []=Y.getD (j - n) []:=by
 subst h
 rw [List.getD_eq_getElem?_getD,List.getElem?_append_right hj,List.getD_eq_getElem?_getD]
theorem Jn_pair (A B:List (List Int)) (x y:Ty) (o d:Nat):Jn A B (.pair x y) o d=((Jn A B x o d).1++(Jn A B y (o+x.own) (d+x.data)).1,(Jn A B x o d).2++(Jn A B y (o+x.own) (d+x.data)).2):=by
 simp only [Jn,jn,Ty.own,Ty.data,cut_take _ _ _ _ (Nat.le_add_right _ _),cut_drop,Nat.add_sub_cancel_left]
theorem Jn_sum (A B:List (List Int)) (x y:Ty) (o d:Nat):Jn A B (.sum x y) o d=((A.getD o []++B.getD o []) :: ((Jn A B x (o+1) d).1++(Jn A B y (o+1+x.own) (d+x.data)).1),(Jn A B x (o+1) d).2++(Jn A B y (o+1+x.own) (d+x.data)).2):=by
 have e1:1+x.own+y.own - 1=x.own+y.own:=by omega
 have e3:∀ X:List (List Int),(cut X o (1+x.own+y.own)).getD 0 []=X.getD o []:=fun X=>by
  rw [getD_cut _ _ _ _ (by omega)]
  rfl
 simp only [Jn,jn,Ty.own,Ty.data,cut_take _ _ _ _ (Nat.le_add_right _ _),e1,e3,cut_drop,Nat.add_sub_cancel_left]
theorem Jn_seq (A B:List (List Int)) (x:Ty) (o d:Nat):Jn A B (.seq x) o d=([A.getD o []++(if x.own=0 then B.getD o [] else (B.getD o []).map (fun z=>IntKind.i64.wrap (z+(A.getD d []).length))),A.getD (o+1) []++B.getD (o+1) []],(Jn A B x d (d+x.own)).1++(Jn A B x d (d+x.own)).2):=by
 have e3:∀ (X:List (List Int)) j,j<2→(cut X o 2).getD j []=X.getD (o+j) []:=fun X j hj=>getD_cut _ _ _ _ hj
 simp only [Jn,jn,Ty.own,Ty.data,cut_take _ _ _ _ (Nat.le_add_right _ _),cut_drop,Nat.add_sub_cancel_left,e3 _ 0 (by omega),e3 _ 1 (by omega),Nat.add_zero]
 by_cases h:x.own=0
 ·simp only [if_pos h]
 ·simp only [if_neg h]
  rw [headD_cut _ _ _ (by omega)]
def inR (τ:Ty) (o d j:Nat):Prop:=(o≤j∧j<o+τ.own)∨(d≤j∧j<d+τ.data)
theorem shS_jn (A B:List (List Int)):∀ (τ:Ty) (o d:Nat) (R:List (List Int)),o+τ.own≤d→d+τ.data≤R.length→(∀ j,inR τ o d j→R.getD j []=A.getD j []++B.getD j []) →
  (∀ j,¬ inR τ o d j→(shS A B τ o d R).getD j []=R.getD j [])∧(∀ j,j<τ.own→(shS A B τ o d R).getD (o+j) []=(Jn A B τ o d).1.getD j [])∧(∀ j,j<τ.data→(shS A B τ o d R).getD (d+j) []=(Jn A B τ o d).2.getD j [])
 | .unit,o,d,R,_,_,_=>⟨fun _ _=>rfl,fun j hj=>by simp [Ty.own] at hj,fun j hj=>by simp [Ty.data] at hj⟩
 | .int,o,d,R,_,_,hr=>by
  refine ⟨fun _ _=>rfl,fun j hj => ?_,fun j hj=>by simp [Ty.data] at hj⟩
  simp only [Ty.own] at hj
  obtain rfl:j=0:=by omega
  simp only [shS]
  rw [hr _ (.inl ⟨by omega,by simp [Ty.own]⟩)]
  simp only [Jn,jn,Ty.own,List.getD_cons_zero]
  rw [getD_cut _ _ _ _ (by omega),getD_cut _ _ _ _ (by omega)]
 | .pair x y,o,d,R,ho,hd,hr=>by
  simp only [Ty.own] at ho
  simp only [Ty.data] at hd
  have hin:∀ j,inR (.pair x y) o d j↔inR x o d j∨inR y (o+x.own) (d+x.data) j:=fun j=>by
   simp only [inR,Ty.own,Ty.data]
   omega
  have hdis:∀ j,inR x o d j→¬ inR y (o+x.own) (d+x.data) j:=fun j=>by simp only [inR]; omega
  obtain ⟨a1,a2,a3⟩:=shS_jn A B x o d R (by omega) (by omega) (fun j hj=>hr j ((hin j).2 (.inl hj)))
  have l1:=shS_len A B x o d R
  obtain ⟨b1,b2,b3⟩:=shS_jn A B y (o+x.own) (d+x.data) (shS A B x o d R) (by omega) (by rw [l1.1]; omega) (fun j hj=>by
   rw [a1 j (fun h=>hdis j h hj)]
   exact hr j ((hin j).2 (.inr hj)))
  have jl:=jn_len x (cut A o x.own) (cut A d x.data) (cut B o x.own) (cut B d x.data)
  rw [Jn_pair]
  refine ⟨fun j hj => ?_,fun j hj => ?_,fun j hj => ?_⟩
  ·rw [hin] at hj
   simp only [shS]
   rw [b1 j (fun h=>hj (.inr h)),a1 j (fun h=>hj (.inl h))]
  ·simp only [Ty.own] at hj
   simp only [shS]
   by_cases e:j<x.own
   ·rw [b1 _ (hdis _ (.inl ⟨by omega,by omega⟩)),a2 j e,getD_app_l (by rw [jl.1]; exact e)]
   ·rw [getD_app_r jl.1 (by omega),← b2 (j - x.own) (by omega)]
    congr 1
    omega
  ·simp only [Ty.data] at hj
   simp only [shS]
   by_cases e:j<x.data
   ·rw [b1 _ (hdis _ (.inr ⟨by omega,by omega⟩)),a3 j e,getD_app_l (by rw [jl.2]; exact e)]
   ·rw [getD_app_r jl.2 (by omega),← b3 (j - x.data) (by omega)]
    congr 1
    omega
 | .sum x y,o,d,R,ho,hd,hr=>by
  simp only [Ty.own] at ho
  simp only [Ty.data] at hd
  have hin:∀ j,inR (.sum x y) o d j↔j=o∨inR x (o+1) d j∨inR y (o+1+x.own) (d+x.data) j:=fun j=>by
   simp only [inR,Ty.own,Ty.data]
   omega
  have hdis:∀ j,inR x (o+1) d j→¬ inR y (o+1+x.own) (d+x.data) j:=fun j=>by simp only [inR]; omega
  have h0x:¬ inR x (o+1) d o:=by simp only [inR]; omega
  have h0y:¬ inR y (o+1+x.own) (d+x.data) o:=by simp only [inR]; omega
  obtain ⟨a1,a2,a3⟩:=shS_jn A B x (o+1) d R (by omega) (by omega) (fun j hj=>hr j ((hin j).2 (.inr (.inl hj))))
  have l1:=shS_len A B x (o+1) d R
  obtain ⟨b1,b2,b3⟩:=shS_jn A B y (o+1+x.own) (d+x.data) (shS A B x (o+1) d R) (by omega) (by rw [l1.1]; omega) (fun j hj=>by
   rw [a1 j (fun h=>hdis j h hj)]
   exact hr j ((hin j).2 (.inr (.inr hj))))
  have jl:=jn_len x (cut A (o+1) x.own) (cut A d x.data) (cut B (o+1) x.own) (cut B d x.data)
  rw [Jn_sum]
  refine ⟨fun j hj => ?_,fun j hj => ?_,fun j hj => ?_⟩
  ·rw [hin] at hj
   simp only [shS]
   rw [b1 j (fun h=>hj (.inr (.inr h))),a1 j (fun h=>hj (.inr (.inl h)))]
  ·simp only [Ty.own] at hj
   simp only [shS]
   cases j with
   | zero =>
    simp only [Nat.add_zero,List.getD_cons_zero]
    rw [b1 o h0y,a1 o h0x,hr o ((hin o).2 (.inl rfl))]
   | succ j =>
    simp only [List.getD_cons_succ]
    by_cases e:j<x.own
    ·rw [b1 _ (hdis _ (.inl ⟨by omega,by omega⟩)),getD_app_l (by rw [jl.1]; exact e),← a2 j e]
     congr 1
     omega
    ·rw [getD_app_r jl.1 (by omega),← b2 (j - x.own) (by omega)]
     congr 1
     omega
  ·simp only [Ty.data] at hj
   simp only [shS]
   by_cases e:j<x.data
   ·rw [b1 _ (hdis _ (.inr ⟨by omega,by omega⟩)),a3 j e,getD_app_l (by rw [jl.2]; exact e)]
   ·rw [getD_app_r jl.2 (by omega),← b3 (j - x.data) (by omega)]
    congr 1
    omega
 | .seq x,o,d,R,ho,hd,hr=>by
  simp only [Ty.own] at ho
  simp only [Ty.data] at hd
  have hin:∀ j,inR (.seq x) o d j↔j=o∨j=o+1∨inR x d (d+x.own) j:=fun j=>by
   simp only [inR,Ty.own,Ty.data]
   omega
  have h0:¬ inR x d (d+x.own) o:=by simp only [inR]; omega
  have h1:¬ inR x d (d+x.own) (o+1):=by simp only [inR]; omega
  have hro:=hr o ((hin o).2 (.inl rfl))
  obtain ⟨R1,hR1⟩:∃ R1,R1=if x.own=0 then R else R.set o (shk (R.getD o []) (A.getD o []).length (A.getD d []).length (B.getD o []).length):=⟨_,rfl⟩
  have hlen:R1.length=R.length:=by rw [hR1]; split <;> simp
  have hne:∀ j,j≠o→R1.getD j []=R.getD j []:=fun j hj=>by
   rw [hR1]
   split
   ·rfl
   ·rw [List.getD_eq_getElem?_getD,List.getElem?_set_ne (by omega),List.getD_eq_getElem?_getD]
  have heq:R1.getD o []=A.getD o []++(if x.own=0 then B.getD o [] else (B.getD o []).map (fun z=>IntKind.i64.wrap (z+(A.getD d []).length))):=by
   rw [hR1]
   split
   ·exact hro
   ·rw [List.getD_eq_getElem?_getD,List.getElem?_set_self (by omega),hro,shk_eq]
    rfl
  obtain ⟨a1,a2,a3⟩:=shS_jn A B x d (d+x.own) R1 (by omega) (by omega) (fun j hj=>by
   rw [hne j (by rintro rfl; exact h0 hj)]
   exact hr j ((hin j).2 (.inr (.inr hj))))
  have jl:=jn_len x (cut A d x.own) (cut A (d+x.own) x.data) (cut B d x.own) (cut B (d+x.own) x.data)
  have hsh:shS A B (.seq x) o d R=shS A B x d (d+x.own) R1:=by simp only [shS,hR1]
  rw [Jn_seq,hsh]
  refine ⟨fun j hj => ?_,fun j hj => ?_,fun j hj => ?_⟩
  ·rw [hin] at hj
   rw [a1 j (fun h=>hj (.inr (.inr h))),hne j (fun h=>hj (.inl h))]
  ·simp only [Ty.own] at hj
   have hj:j=0∨j=1:=by omega
   rcases hj with rfl | rfl
   ·simp only [Nat.add_zero,List.getD_cons_zero]
    rw [a1 o h0,heq]
   ·simp only [List.getD_cons_succ,List.getD_cons_zero]
    rw [a1 _ h1,hne _ (by omega)]
    exact hr _ ((hin _).2 (.inr (.inl rfl)))
  ·simp only [Ty.data] at hj
   by_cases e:j<x.own
   ·rw [a2 j e,getD_app_l (by rw [jl.1]; exact e)]
   ·rw [getD_app_r jl.1 (by omega),← a3 (j - x.own) (by omega)]
    congr 1
    omega
theorem pure_ic (r:List Int):pureL (icells r)=true:=by
 rw [pureL_all]
 intro c hc
 obtain ⟨x,_,rfl⟩:=List.mem_map.1 hc
 rfl
theorem view_hds {H:Heap}:∀ (f0:Nat) (R:List (List Int)),(∀ j (hj:j<R.length),H[f0+j]?=some (.cells R[j].length 1 (icells R[j])))→viewL 0 H (hds f0 R)=some (R.map fun r=>V.sv ((icells r).map fun x=>[x]) false)
 | _,[],_=>rfl
 | f0,r :: R,h=>by
  have h0:=h 0 (by simp)
  simp only [Nat.add_zero,List.getElem_cons_zero] at h0
  have ih:=view_hds (f0+1) R fun j hj=>by
   have:=h (j+1) (by simpa using hj)
   rw [show f0+1+j=f0+(j+1) by omega]
   simpa using this
  have hp:=pure_ic r
  have hch:chunks 1 r.length (icells r)=(icells r).map fun x=>[x]:=by
   have:=chunks_single (icells r)
   rwa [List.length_map] at this
  have hv:viewV 0 H (.sl f0 0 r.length r.length 1 false)=some (.sv ((icells r).map fun x=>[x]) false):=by
   simp only [viewV,objCells_of h0]
   rw [if_pos ⟨Nat.zero_le _,trivial,by omega,trivial,hp⟩]
   simp only [Nat.zero_mul,List.drop_zero,hch]
  simp only [hds,viewL,hv,ih,List.map_cons]
theorem view_rowsF {H:Heap} {O f0:Nat} {R:List (List Int)} (h:RowsF H O f0 R):∃ u,view1 0 H (outV O R.length)=some u∧ListsV R u:=by
 have ho:=objCells_of h.out
 have hl:=hds_len f0 R
 have hv:=view_hds f0 R h.row
 refine ⟨.sv ((R.map fun r=>V.sv ((icells r).map fun x=>[x]) false).map fun x=>[x]) false,?_,_,.sv false,?_⟩
 ·have hs:viewS 0 H (outV O R.length)=some (.sv ((R.map fun r=>V.sv ((icells r).map fun x=>[x]) false).map fun x=>[x]) false):=by
   have hch:chunks 1 R.length (R.map fun r=>V.sv ((icells r).map fun x=>[x]) false)=(R.map fun r=>V.sv ((icells r).map fun x=>[x]) false).map fun x=>[x]:=by
    have:=chunks_single (R.map fun r=>V.sv ((icells r).map fun x=>[x]) false)
    rwa [List.length_map] at this
   simp only [viewS,ho]
   rw [if_pos ⟨Nat.zero_le _,trivial,by omega,trivial⟩,hv]
   simp only [Option.map_some,Nat.zero_mul,List.drop_zero,hch]
  cases R with
  | nil =>
   simp only [view1,viewV,ho]
   rw [if_pos ⟨Nat.zero_le _,trivial,by simp,trivial,rfl⟩]
   rfl
  | cons r R =>
   have hn:viewV 0 H (outV O (r :: R).length)=none:=by
    simp only [viewV,ho]
    rw [if_neg (fun hc=>by
     have:=hc.2.2.2.2
     simp [hds,pureL,pureV] at this)]
   rw [view1,hn,hs]
   rfl
 ·clear h ho hl hv
  induction R with
  | nil=>exact .nil
  | cons r R ih=>exact .cons (.sv false) ih
theorem RowsF.mono {H H':Heap} {O f0 n:Nat} {R:List (List Int)} (h:RowsF H O f0 R) (he:∀ (i:Nat) o,H[i]?=some o→H'[i]?=some o):RowsF H' O f0 R:=⟨he _ _ h.out,fun j hj=>he _ _ (h.row j hj),h.off⟩
theorem joined_ecf {ra rb:List Int} {wa wb:V} (ha:IntsV ra wa) (hb:IntsV rb wb) (H:Heap) (la:ra.length<2 ^ 39) (lb:rb.length<2 ^ 39) :
  ecallF (lim gl Trnz.aprog) H false (.func (.func 67) [] []) [.sv [[wa],[wb]] true]=some (.val (.sl H.length 0 (ra++rb).length (ra++rb).length 1 false) (H++[.cells (ra++rb).length 1 (icells (ra++rb))])):=by
 have:=ecf_ret (joined71_c H [wa,wb] (.sv [[wa],[wb]] true) (.sv true) [icells ra,icells rb] (.cons ha (.cons hb .nil)) (by simp; omega) (by simp))
 rw [this]
 simp [icells]
theorem set_same {H:Heap} {i:Nat} {o:Am.Obj} (h:H[i]?=some o):H.set i o=H:=by
 refine List.ext_getElem? fun j => ?_
 by_cases e:i=j
 ·subst e; rw [List.getElem?_set_self (List.getElem?_eq_some_iff.1 h).1,h]
 ·rw [List.getElem?_set_ne e]
abbrev rowO (r:List Int):Am.Obj:=.cells r.length 1 (icells r)
def jH (H2:Heap) (N:Nat) (Z:List (List Int)) (i:Nat):Heap:=H2++(Am.Obj.cells N 1 (hds (H2.length+2) (Z.take i)++List.replicate (N - i) V.nils) :: Am.Obj.cells 1 1 [outV H2.length N] :: (Z.take i).map rowO)
variable {H2:Heap} {N:Nat} {Z:List (List Int)}
theorem jH_len {i:Nat} (h:i≤Z.length):(jH H2 N Z i).length=H2.length+2+i:=by simp [jH]; omega
theorem jH_old (i:Nat) {j:Nat} {o:Am.Obj} (h:H2[j]?=some o):(jH H2 N Z i)[j]?=some o:=get_app h
theorem jH_out (i:Nat):(jH H2 N Z i)[H2.length]?=some (.cells N 1 (hds (H2.length+2) (Z.take i)++List.replicate (N - i) V.nils)):=by simp [jH]
theorem jH_11 (i:Nat):(jH H2 N Z i)[H2.length+1]?=some (.cells 1 1 [outV H2.length N]):=by
 simp only [jH]
 rw [List.getElem?_append_right (by omega),Nat.add_sub_cancel_left]
 rfl
theorem jH_step {i:Nat} (h:i<Z.length) (hN:Z.length=N):storeV (jH H2 N Z i++[rowO Z[i]]) (.ref H2.length i N) (.sl (jH H2 N Z i).length 0 Z[i].length Z[i].length 1 false) 1=some (jH H2 N Z (i+1)):=by
 have hl:=hds_len (H2.length+2) (Z.take i)
 have ht:(Z.take i).length=i:=by simp; omega
 have ho:=objCells_of (get_app (X:=[rowO Z[i]]) (jH_out (H2:=H2) (N:=N) (Z:=Z) i))
 simp only [storeV,ho]
 have hrep:List.replicate (N - i) V.nils=V.nils :: List.replicate (N - (i+1)) V.nils:=by
  rw [show N - i=(N - (i+1))+1 by omega]; rfl
 have hsp:splice (hds (H2.length+2) (Z.take i)++List.replicate (N - i) V.nils) i [.sl (jH H2 N Z i).length 0 Z[i].length Z[i].length 1 false]=hds (H2.length+2) (Z.take (i+1))++List.replicate (N - (i+1)) V.nils:=by
  rw [splice_1 _ _ _ (by simp [hl]; omega),hrep,List.set_append_right _ _ (by omega),hl,ht,Nat.sub_self,List.set_cons_zero,← List.take_append_getElem h,hds_app,ht,jH_len (by omega),List.append_assoc]
  rfl
 have hc:(cellsV (V.sl (jH H2 N Z i).length 0 Z[i].length Z[i].length 1 false))=[V.sl (jH H2 N Z i).length 0 Z[i].length Z[i].length 1 false]:=rfl
 rw [hc,hsp,if_pos ⟨trivial,by simp [hl]; omega,rfl,rfl⟩]
 congr 1
 simp only [jH]
 rw [List.append_assoc,List.set_append_right _ _ (Nat.le_refl _),Nat.sub_self,List.cons_append,List.set_cons_zero,← List.take_append_getElem h,List.map_append]
 rfl
theorem jH_rows (hN:Z.length=N):RowsF (jH H2 N Z N) H2.length (H2.length+2) Z:=by
 have ht:Z.take N=Z:=by rw [← hN,List.take_length]
 refine ⟨?_,fun j hj => ?_,.inl (by omega)⟩
 ·rw [jH_out,ht,Nat.sub_self,List.replicate_zero,List.append_nil,hN]
 ·simp only [jH,ht]
  rw [show H2.length+2+j=H2.length+(j+2) by omega,List.getElem?_append_right (by omega),Nat.add_sub_cancel_left]
  simp [hj]
def joinE (τ:Ty) (n:Int) (A:List (List Int)) (m:Int) (B:List (List Int)):Int:=if bldE τ n A=0 then bldE τ m B else bldE τ n A
theorem join_q {A B:List (List Int)} {vA vB:V} (hA:ListsV A vA) (hB:ListsV B vB) (lA:∀ r∈A,r.length<2 ^ 39) (lB:∀ r∈B,r.length<2 ^ 39) (lA2:A.length<2 ^ 39) (lB2:B.length<2 ^ 39)
  {t:Tr} {τ:Ty} (hτ:IsTy t τ) (ho:t.Ok) (h1:τ.size≤60) (h2:τ.deep≤12) {n m:Int} (hn:is64 n) (hm:is64 m) :
  ∃ u,PC 19 [.agg t.cs,.int .i64 n,vA,.int .i64 m,vB] (.tup [u,.int .i64 (joinE τ n A m B)])∧ListsV (if joinE τ n A m B=0 then shS A B τ 0 τ.own (zipA A B) else []) u:=by
 have hcc:=cells_tr ho
 have hbs:=τ.both_size
 obtain ⟨H0,hH0⟩:∃ H0:Heap,H0=[.cells 1 1 [vA],.cells 1 1 [vB]]:=⟨_,rfl⟩
 have aH:AllC H0:=by rw [hH0]; intro o h; simp at h; rcases h with rfl | rfl <;> exact ⟨_,_,_,rfl⟩
 have cH:Closed H0:=by
  rw [hH0]
  intro o h
  simp only [List.mem_cons,List.not_mem_nil,or_false] at h
  rcases h with rfl | rfl
  ·exact okO_one _ (below_pure _ vA hA.pure) _ _
  ·exact okO_one _ (below_pure _ vB hB.pure) _ _
 have hb:=bldH H0 τ
 have len0:H0.length=2:=by rw [hH0]; rfl
 obtain ⟨H2,hH2⟩:∃ H2,H2=H0++[.cells 1 1 [.int .i64 0]]++layL (H0.length+1) τ:=⟨_,rfl⟩
 have hc:=asked_ecf hτ ho h1 h2 (H0++[.cells 1 1 [.int .i64 0]])
 simp only [List.length_append,List.length_singleton] at hc
 rw [← hH2] at hc hb
 rw [len0] at hc
 have hcl:=hb.cell
 have hla:=hb.lay
 have hl3:=hb.len
 rw [len0] at hcl hla hl3
 have e6:H2[0]?=some (.cells 1 1 [vA]):=by rw [hH2,hH0]; rfl
 have e7:H2[1]?=some (.cells 1 1 [vB]):=by rw [hH2,hH0]; rfl
 have hH0':H0++[.cells 1 1 [.int .i64 0]]=[.cells 1 1 [vA],.cells 1 1 [vB],.cells 1 1 [.int .i64 0]]:=by rw [hH0]; rfl
 rw [hH0'] at hc
 have vac:=hA.cell
 have vacs:=hA.cells
 have vbc:=hB.cell
 have vbcs:=hB.cells
 have o6:=objCells_of e6
 have o7:=objCells_of e7
 have pa:pureL [.agg t.cs,.int .i64 n,vA,.int .i64 m,vB]=true:=by simp [pureL,pureV,pure_tr ho,hA.pure,hB.pure]
 have hsz:objs τ+3=H2.length:=by rw [hH2]; simp [layL_length,len0]; omega
 have key:CallP gl Trnz.aprog 19 [.agg t.cs,.int .i64 n,vA,.int .i64 m,vB] [] (fun r H'=>∃ w,r = .ret (.tup [w,.int .i64 (joinE τ n A m B)]) ∧
   ((joinE τ n A m B≠0∧w = .nils)∨(joinE τ n A m B=0∧∃ O f0,w=outV O (shS A B τ 0 τ.own (zipA A B)).length∧RowsF H' O f0 (shS A B τ 0 τ.own (zipA A B))))):=by
  refine call_ofQ (af:=Trnz.a19) rfl rfl fun Q hQ => ?_
  simp only [Trnz.a19]
  rcases built_use (hb.allC aH) (hb.closed cH) (below_pure _ vA hA.pure) (hA.regs H2) hla (by omega) lA2 lA hn with ⟨eA,uA,tA,cA,_⟩ | ⟨eA,G,cA,gl1⟩
  case inr =>
   obtain ⟨X,hX,oX⟩:=set_err hb aH gl1 (bldE τ n A)
   have d1:=caught_wrong H0.length (bldE τ n A) 0 G (gl1 _ _ _ _ hb.cell)
   rw [hX] at oX
   rw [len0] at d1 oX hX
   have hE:joinE τ n A m B=bldE τ n A:=by simp only [joinE]; rw [if_neg eA]
   rw [hE] at hQ
   generalize bldE τ n A=q at *
   simp [hcc,hc,cA,d1,oX,hX,o6,storeV,vac,vacs,vbc,vbcs,slotOf,forget,AOper.writes,-ecallF,-List.all_eq_true]
   exact hQ _ _ ⟨.nils,rfl,.inl ⟨eA,rfl⟩⟩
  have hE:joinE τ n A m B=bldE τ m B:=by simp only [joinE]; rw [if_pos eA]
  rw [hE] at hQ
  rcases built_use (hb.allC aH) (hb.closed cH) (below_pure _ vB hB.pure) (hB.regs H2) hla (by omega) lB2 lB hm with ⟨eB,uB,tB,cB,_⟩ | ⟨eB,G,cB,gl1⟩
  case inr =>
   obtain ⟨X,hX,oX⟩:=set_err hb aH gl1 (bldE τ m B)
   have d1:=caught_wrong H0.length (bldE τ m B) 0 G (gl1 _ _ _ _ hb.cell)
   rw [hX] at oX
   rw [len0] at d1 oX hX
   generalize bldE τ m B=q at *
   simp [hcc,hc,cA,cB,d1,oX,hX,o6,o7,storeV,vac,vacs,vbc,vbcs,slotOf,forget,AOper.writes,-ecallF,-List.all_eq_true]
   exact hQ _ _ ⟨.nils,rfl,.inl ⟨eB,rfl⟩⟩
  obtain ⟨_,rA,wA,sA,_,_⟩:=bld_all eA
  obtain ⟨_,rB,wB,sB,_,_⟩:=bld_all eB
  have hroom:room=140737488355328:=by simp [room]
  obtain ⟨N,hN⟩:∃ N,N=τ.own+τ.data:=⟨_,rfl⟩
  have hNA:A.length=N:=by omega
  have hNB:B.length=N:=by omega
  have hlA:=hA.len
  rw [hNA] at hlA
  have hZ:(zipA A B).length=N:=by simp [zipA]; omega
  have g11:objCells (H2++[Am.Obj.cells N 1 (List.replicate N V.nils),Am.Obj.cells 1 1 [.nils]]) (H2.length+1)=some (1,1,[.nils]):=objCells_of (by
   rw [List.getElem?_append_right (by omega),Nat.add_sub_cancel_left]; rfl)
  have w24:(N:Int) * 24≤140737488355328:=by omega
  have wN:(N:Int)≤9223372036854775807:=by omega
  have hst:storeV (H2++[Am.Obj.cells N 1 (List.replicate N V.nils),Am.Obj.cells 1 1 [.nils]]) (.ref (H2.length+1) 0 1) (outV H2.length N) 1=some (jH H2 N (zipA A B) 0):=by
   simp only [storeV,g11]
   simp [jH,hds]
  have jold:∀ i j o,H2[j]?=some o→(jH H2 N (zipA A B) i)[j]?=some o:=fun i j o h=>jH_old i h
  have j0:=objCells_of (jold 0 _ _ e6)
  simp [hcc,hc,cA,cB,o6,o7,hlA,hroom,w24,wN,hst,j0,vac,vacs,vbc,vbcs,slotOf,-ecallF,-List.all_eq_true]
  refine loop_nQ N (fun i c=>∃ s12 fl,c=⟨[.agg t.cs,.int .i64 n,vA,.int .i64 m,vB,.agg t.cs,.ref 0 0 1,.ref 1 0 1,.nils,.ref 2 0 1,.ref 3 0 1,.ref (H2.length+1) 0 1,s12,.undef,.int .i64 N,.int .i64 i],[(.func (.func 48) [] [],[.ref 2 0 1])],fl,none,jH H2 N (zipA A B) i⟩) ?_ ⟨.undef,none,rfl⟩
  rintro I hI i c hi ⟨s12,fl,rfl⟩
  by_cases hlt:i<N
  ·have hlt':(i:Int)<N:=by omega
   have w1:IntKind.i64.wrap ((i:Int)+1)=(i:Int)+1:=wrap64 (by omega) (by omega)
   obtain ⟨wa,a1,a2⟩:=hA.idx (i:=i) (by omega)
   obtain ⟨wb,b1,b2⟩:=hB.idx (i:=i) (by omega)
   have hcj:=joined_ecf a2 b2 (jH H2 N (zipA A B) i) (lA _ (List.getElem_mem _)) (lB _ (List.getElem_mem _))
   have hzi:(zipA A B)[i]'(by omega)=A[i]++B[i]:=by simp [zipA]
   have hss:=jH_step (H2:=H2) (N:=N) (Z:=zipA A B) (i:=i) (by omega) hZ
   rw [hzi] at hss
   have k6:=load_cell (jold i _ _ e6)
   have k7:=load_cell (jold i _ _ e7)
   have k11:=load_cell (jH_11 (H2:=H2) (N:=N) (Z:=zipA A B) i)
   have k11':=load_cell (get_app (X:=[rowO (A[i]++B[i])]) (jH_11 (H2:=H2) (N:=N) (Z:=zipA A B) i))
   have v1:=load_pv (jH H2 N (zipA A B) i) wa
   have v2:=load_pv (jH H2 N (zipA A B) i) wb
   have xo:=out_idx (O:=H2.length) hlt
   have wac:=SlV.cell a2
   have wacs:=SlV.cells a2
   have wbc:=SlV.cell b2
   have wbcs:=SlV.cells b2
   have wap:=SlV.pure a2
   have wbp:=SlV.pure b2
   simp only [rowO] at k11' hss
   generalize A[i]++B[i]=q at *
   have hI:=hI (i+1) ⟨[.agg t.cs,.int .i64 n,vA,.int .i64 m,vB,.agg t.cs,.ref 0 0 1,.ref 1 0 1,.nils,.ref 2 0 1,.ref 3 0 1,.ref (H2.length+1) 0 1,.int .i64 i,.undef,.int .i64 N,.int .i64 ((i:Int)+1)],[(.func (.func 48) [] [],[.ref 2 0 1])],none,none,jH H2 N (zipA A B) (i+1)⟩ ⟨_,_,rfl⟩
   generalize jH H2 N (zipA A B) (i+1)=K2 at *
   generalize jH H2 N (zipA A B) i=K at *
   simp [hlt,hlt',k6,k7,k11,k11',a1,b1,v1,v2,xo,hcj,hss,w1,wac,wacs,wbc,wbcs,wap,wbp,fill,chunks,slotOf,-ecallF,-loadV]
   exact hI
  ·obtain rfl:i=N:=by omega
   have hRF:=jH_rows (H2:=H2) (N:=i) (Z:=zipA A B) hZ
   have hlen:=jH_len (H2:=H2) (N:=i) (Z:=zipA A B) (i:=i) (by omega)
   have k11:=jH_11 (H2:=H2) (N:=i) (Z:=zipA A B) i
   have q6:=jold i _ _ e6
   have q7:=jold i _ _ e7
   have q2:=jold i _ _ hcl
   have qL:LayD (jH H2 i (zipA A B) i) 3 τ:=hla.ext fun k k1 k2=>by
    have:k<H2.length:=by omega
    simp only [jH]
    rw [List.getElem?_append_left this]
   generalize jH H2 i (zipA A B) i=K at *
   obtain ⟨K2,hK2⟩:∃ K2,K2=K++[Am.Obj.cells 1 1 [clo72 1 (H2.length+1) 0 K.length]]:=⟨_,rfl⟩
   have up:∀ j o,K[j]?=some o→K2[j]?=some o:=fun j o h=>by rw [hK2]; exact get_app h
   have c13:K2[K.length]?=some (.cells 1 1 [clo72 1 (H2.length+1) 0 K.length]):=by rw [hK2]; simp
   have hJ:JoH K2 1 (H2.length+1) 0 K.length H2.length (H2.length+2) vA vB (zipA A B):=⟨hRF.mono (n:=0) up,up _ _ q7,by rw [hZ]; exact up _ _ k11,up _ _ q6,c13,.inl (by omega),.inl (by omega),.inl (by omega),.inr (by omega)⟩
   have qL2:LayD K2 3 τ:=qL.ext fun k k1 k2=>by
    have:k<K.length:=by omega
    rw [hK2,List.getElem?_append_left this]
   have hgz:∀ j,((zipA A B).getD j []).length=(A.getD j []).length+(B.getD j []).length:=fun j=>by
    by_cases hj:j<i
    ·have:(zipA A B).getD j []=A[j]++B[j]:=by simp [zipA,List.getD_eq_getElem?_getD,List.getElem?_zipWith,hNA,hNB,hj]
     rw [this]
     simp [hNA,hNB,hj]
    ·simp [List.getD_eq_getElem?_getD,hj,hNA,hNB,hZ]
   obtain ⟨w72,K3,c72,j72,f72⟩:=join72_q hA hB lA lB τ 3 0 τ.own K2 (zipA A B) hJ qL2 (by omega) (by omega) (by omega) (by omega) (by omega) (by omega) (by omega) hgz
   have hsl:=shS_len A B τ 0 τ.own (zipA A B)
   have r75:=ro75_q qL2
   have s13:storeV (K++[Am.Obj.cells 1 1 [.nilf]]) (.ref K.length 0 1) (clo72 1 (H2.length+1) 0 K.length) 1=some K2:=by
    have:objCells (K++[Am.Obj.cells 1 1 [.nilf]]) K.length=some (1,1,[.nilf]):=objCells_of (by simp)
    simp only [storeV,this]
    simp [hK2]
   have l13:=load_cell c13
   have k3:=load_cell j72.h11
   have z2:K3[2]?=some (.cells 1 1 [.int .i64 0]):=(f72.2 2 (.inl (by omega))).trans (up _ _ q2)
   have zs:storeV K3 (.ref 2 0 1) (.int .i64 0) 1=some K3:=by
    have:=set_same z2
    simp only [storeV,objCells_of z2]
    simp [this]
   have zl:=load_cell z2
   have d0:=caught_none 2 K3
   rw [RO] at r75
   simp [s13,l13,r75,c72,k3,zs,zl,d0,slotOf,-loadV]
   exact hQ _ _ ⟨_,by rw [eB],.inr ⟨eB,_,_,rfl,j72.rows⟩⟩
 obtain ⟨r,H',e,w,rfl,hw⟩:=OptP.ex key
 rcases hw with ⟨h0,rfl⟩ | ⟨h0,O,f0,rfl,hR⟩
 ·refine ⟨.nils,?_,by rw [if_neg h0]; exact ListsV.nil⟩
  simp only [PC,pcall,callee_func,List.append_nil,List.nil_append]
  rw [if_pos pa,e]
  rfl
 ·obtain ⟨u,hu,hv⟩:=view_rowsF hR
  refine ⟨u,?_,by rw [if_pos h0]; exact hv⟩
  simp only [PC,pcall,callee_func,List.append_nil,List.nil_append]
  rw [if_pos pa,e]
  have h3:view1 0 H' (V.int IntKind.i64 (joinE τ n A m B))=some (.int .i64 (joinE τ n A m B)):=rfl
  simp only [viewW,viewWL,hu,h3,Option.map_some]
def badP (n x:Int):Bool:=decide (x<0)||decide (n≤x)
abbrev clo77 (c:Nat):V:=.func (.func 65) [] [.ref c 0 1]
theorem p77_q {H:Heap} {c:Nat} {n:Int} (hc:H[c]?=some (.cells 1 1 [.int .i64 n])) (x:Int):CC 65 [.int .i64 x,.ref c 0 1] H (.ret (.bool (badP n x))) H:=by
 have oc:=objCells_of hc
 refine CallP.eq (call_ofQ (af:=Trnz.a65) rfl rfl fun Q hQ => ?_)
 simp only [Trnz.a65]
 by_cases h:x<0
 ·simp [h,oc,slotOf]
  exact hQ _ _ ⟨by simp [badP,h],rfl⟩
 ·simp [h,oc,slotOf]
  exact hQ _ _ ⟨by simp [badP,h],rfl⟩
theorem index96_q {H:Heap} {c:Nat} {n:Int} (hc:H[c]?=some (.cells 1 1 [.int .i64 n])) {p:List Int} {v:V} (hv:IntsV p v) (hl:p.length<2 ^ 40) :
  ∃ k:Int,CC 108 [v,clo77 c] H (.ret (.int .i64 k)) H∧(decide (0≤k)=p.any (badP n)):=by
 have lv:=hv.len'
 have key:CallP gl Trnz.aprog 108 [v,clo77 c] H (fun r H'=>∃ k:Int,r = .ret (.int .i64 k)∧H'=H∧(decide (0≤k)=p.any (badP n))):=by
  refine call_ofQ (af:=Trnz.a108) rfl rfl fun Q hQ => ?_
  simp only [Trnz.a108]
  simp [lv,slotOf]
  refine loop_nQ p.length (fun i x=>∃ s3 fl,x=⟨[v,clo77 c,.int .i64 0,s3,.int .i64 p.length,.int .i64 i],[],fl,none,H⟩∧(p.take i).any (badP n)=false) ?_ ⟨_,_,rfl,by simp⟩
  rintro I hI i x hi ⟨s3,fl,rfl,hz⟩
  by_cases hlt:i<p.length
  ·have hlt':(i:Int)<p.length:=by omega
   have w1:IntKind.i64.wrap ((i:Int)+1)=(i:Int)+1:=wrap64 (by omega) (by omega)
   have hx:=hv.idx' hlt
   have hp:=p77_q hc p[i]
   have ht:(p.take (i+1)).any (badP n)=((p.take i).any (badP n)||badP n p[i]):=by rw [← List.take_append_getElem hlt,List.any_append]; simp
   have hm:badP n p[i]=true→p.any (badP n)=true:=fun h=>List.any_eq_true.2 ⟨_,List.getElem_mem hlt,h⟩
   generalize p[i]=z at *
   cases e:badP n z
   ·rw [e] at hp
    simp [hlt',hx,hp,w1,slotOf]
    exact ⟨hlt,hI _ _ ⟨_,_,rfl,by rw [ht,hz,e]; rfl⟩⟩
   ·rw [e] at hp
    simp [hlt',hx,hp,slotOf]
    exact hQ _ _ ⟨i,rfl,rfl,by rw [hm e]; simp⟩
  ·obtain rfl:i=p.length:=by omega
   rw [List.take_length] at hz
   simp [slotOf]
   exact hQ _ _ ⟨-1,rfl,rfl,by rw [hz]; rfl⟩
 obtain ⟨r,H',e,k,rfl,rfl,hk⟩:=OptP.ex key
 exact ⟨k,e,hk⟩
theorem contains76_q {H:Heap} {c:Nat} {n:Int} (hc:H[c]?=some (.cells 1 1 [.int .i64 n])) {p:List Int} {v:V} (hv:IntsV p v) (hl:p.length<2 ^ 40) :
  CC 64 [v,clo77 c] H (.ret (.bool (p.any (badP n)))) H:=by
 obtain ⟨k,h1,h2⟩:=index96_q hc hv hl
 have vc:=SlV.cell hv
 refine CallP.eq (call_ofQ (af:=Trnz.a64) rfl rfl fun Q hQ => ?_)
 simp only [Trnz.a64]
 simp [h1,slotOf]
 exact hQ _ _ ⟨by rw [← h2],rfl⟩
theorem joined_p {r:List Int} {w:V} (h:IntsV r w) (hl:r.length<2 ^ 39):PC 67 [.sv [[w]] true] (.sv ((icells r).map fun x=>[x]) false):=by
 have:=joined71_c [] [w] (.sv [[w]] true) (.sv true) [icells r] (.cons h .nil) (by simp; omega) (by simp)
 have pw:=SlV.pure h
 simp only [PC,pcall,callee_func,List.append_nil,List.nil_append]
 rw [if_pos (by simp [pureL,pureV]),this]
 have hp:=pure_ic r
 have:=viewW_own (H:=[.cells (icells r).length 1 (icells r)]) (b:=0) (n:=(icells r).length) rfl rfl hp
 simp [-List.length_map] at this ⊢
 exact this
def pickS (own:Nat) (p:List Int) (R:List (List Int)):List (List Int):=(R.take own).map (fun r=>p.map fun x=>r.getD x.toNat 0)++R.drop own
def pickE (τ:Ty) (n:Int) (R:List (List Int)) (p:List Int):Int:=if bldE τ n R=0 then (if p.length≤20000∧p.any (badP n)=false then 0 else 2) else bldE τ n R
def pkRow (own:Nat) (p:List Int) (i:Nat) (r:List Int):List Int:=if i<own then p.map (fun x=>r.getD x.toNat 0) else r
def kH (H2:Heap) (ws:List V) (g:Nat):Heap:=H2++(Am.Obj.cells ws.length 1 ws :: List.replicate g Am.Obj.gone)
theorem kH_at {H2:Heap} {ws:List V} {g:Nat}:(kH H2 ws g)[H2.length]?=some (.cells ws.length 1 ws):=by simp [kH]
theorem kH_old {H2:Heap} {ws:List V} {g j:Nat} {o:Am.Obj} (h:H2[j]?=some o):(kH H2 ws g)[j]?=some o:=get_app h
theorem kH_gone {H2:Heap} {ws:List V} {g:Nat}:kH H2 ws g++[.gone]=kH H2 ws (g+1):=by
 simp only [kH,List.append_assoc,List.cons_append,List.replicate_succ']
theorem kH_app {H2:Heap} {ws:List V} {g:Nat} {w:V} (hw:ws.length<2 ^ 40):appV (kH H2 ws g) (.sl H2.length 0 ws.length ws.length 1 false) (.sv [[w]] true) 1 24=some (.sl H2.length 0 (ws.length+1) (ws.length+1) 1 false,kH H2 (ws++[w]) g):=by
 have hroom:room=140737488355328:=by simp [room]
 have:=appV_own (h:=kH H2 ws g) (bytes:=24) (k:=1) (y:=.sv [[w]] true) (ys:=[w]) kH_at rfl (by simp [sliceCells]) rfl (by omega)
 rw [this]
 simp [kH]
theorem kH_app' {H2:Heap} {ws:List V} {g:Nat} {w:V} (hw:ws.length<2 ^ 40):appV (kH H2 ws g) (.sl H2.length 0 ws.length ws.length 1 false) (.vs [w] 1 1) 1 24=some (.sl H2.length 0 (ws.length+1) (ws.length+1) 1 false,kH H2 (ws++[w]) g):=by
 have hroom:room=140737488355328:=by simp [room]
 have:=appV_own (h:=kH H2 ws g) (bytes:=24) (k:=1) (y:=.vs [w] 1 1) (ys:=[w]) kH_at rfl rfl rfl (by omega)
 rw [this]
 simp [kH]
theorem Fr.of_nth {α β:Type} {p:α→β→Prop}:∀ {l:List α} {m:List β},l.length=m.length→(∀ i (h1:i<l.length) (h2:i<m.length),p l[i] m[i])→Fr p l m
 | [],[],_,_ => .nil
 | a :: l,b :: m,h,hp => .cons (hp 0 (by simp) (by simp)) (Fr.of_nth (by simpa using h) fun i h1 h2=>hp (i+1) (by simpa using h1) (by simpa using h2))
theorem pickS_get {own:Nat} {p:List Int} {R:List (List Int)} {j:Nat} (hj:j<R.length):(pickS own p R)[j]?=some (pkRow own p j R[j]):=by
 unfold pickS pkRow
 by_cases h:j<own
 ·rw [if_pos h,List.getElem?_append_left (by simp; omega)]
  simp [h,hj]
 ·rw [if_neg h,List.getElem?_append_right (by simp; omega)]
  simp only [List.length_map,List.length_take]
  rw [List.getElem?_drop,show own+(j - min own R.length)=j by omega]
  simp [hj]
theorem pickS_len {own:Nat} {p:List Int} {R:List (List Int)}:(pickS own p R).length=R.length:=by simp [pickS]; omega
theorem pick_q {R:List (List Int)} {vR:V} (hR:ListsV R vR) (lR:∀ r∈R,r.length<2 ^ 39) (lR2:R.length<2 ^ 39) {p:List Int} {vp:V} (hp:IntsV p vp) (hpl:p.length<2 ^ 39)
  {t:Tr} {τ:Ty} (hτ:IsTy t τ) (ho:t.Ok) (h1:τ.size≤60) (h2:τ.deep≤12) {n:Int} (hn:is64 n) :
  ∃ u,PC 17 [.agg t.cs,.int .i64 n,vR,vp] (.tup [u,.int .i64 (pickE τ n R p)])∧ListsV (if pickE τ n R p=0 then pickS τ.own p R else []) u:=by
 have hcc:=cells_tr ho
 have hbs:=τ.both_size
 obtain ⟨H0,hH0⟩:∃ H0:Heap,H0=[.cells 1 1 [.int .i64 n]]:=⟨_,rfl⟩
 have aH:AllC H0:=by rw [hH0]; intro o h; exact ⟨_,_,_,List.mem_singleton.1 h⟩
 have cH:Closed H0:=by
  rw [hH0]
  intro o h
  rw [List.mem_singleton.1 h]
  exact okO_ints _ _ _ [_]
 have hb:=bldH H0 τ
 have len0:H0.length=1:=by rw [hH0]; rfl
 obtain ⟨H2,hH2⟩:∃ H2,H2=H0++[.cells 1 1 [.int .i64 0]]++layL (H0.length+1) τ:=⟨_,rfl⟩
 have hc:=asked_ecf hτ ho h1 h2 (H0++[.cells 1 1 [.int .i64 0]])
 simp only [List.length_append,List.length_singleton] at hc
 rw [← hH2] at hc hb
 rw [len0] at hc
 have hcl:=hb.cell
 have hla:=hb.lay
 have hl3:=hb.len
 rw [len0] at hcl hla hl3
 have e5:H2[0]?=some (.cells 1 1 [.int .i64 n]):=by rw [hH2,hH0]; rfl
 have hH0':H0++[.cells 1 1 [.int .i64 0]]=[.cells 1 1 [.int .i64 n],.cells 1 1 [.int .i64 0]]:=by rw [hH0]; rfl
 rw [hH0'] at hc
 have vrc:=hR.cell
 have vrcs:=hR.cells
 have vpc:=SlV.cell hp
 have vpcs:=SlV.cells hp
 have o5:=objCells_of e5
 have lvr:=hR.len
 have lvp:=hp.len'
 have hcon:=ecf_ret (contains76_q e5 hp (by omega))
 have m2:=must_t 2
 have f2:=must_f 2
 rw [PC] at m2
 have pa:pureL [.agg t.cs,.int .i64 n,vR,vp]=true:=by simp [pureL,pureV,pure_tr ho,hR.pure,SlV.pure hp]
 have key:CallP gl Trnz.aprog 17 [.agg t.cs,.int .i64 n,vR,vp] [] (fun r H'=>∃ u,r = .ret (.tup [u,.int .i64 (pickE τ n R p)])∧ListsV (if pickE τ n R p=0 then pickS τ.own p R else []) u):=by
  refine call_ofQ (af:=Trnz.a17) rfl rfl fun Q hQ => ?_
  simp only [Trnz.a17]
  rcases built_use (hb.allC aH) (hb.closed cH) (below_pure _ vR hR.pure) (hR.regs H2) hla (by omega) lR2 lR hn with ⟨eA,uA,tA,cA,_⟩ | ⟨eA,G,cA,gl1⟩
  case inr =>
   obtain ⟨X,hX,oX⟩:=set_err hb aH gl1 (bldE τ n R)
   have d1:=caught_wrong H0.length (bldE τ n R) 0 G (gl1 _ _ _ _ hb.cell)
   rw [hX] at oX
   rw [len0] at d1 oX hX
   have hE:pickE τ n R p=bldE τ n R:=by simp only [pickE]; rw [if_neg eA]
   rw [hE] at hQ
   generalize bldE τ n R=q at *
   simp [hcc,hc,cA,d1,oX,hX,o5,storeV,vrc,vrcs,vpc,vpcs,slotOf,forget,AOper.writes,-ecallF,-List.all_eq_true]
   exact hQ _ _ ⟨.nils,rfl,by rw [if_neg eA]; exact ListsV.nil⟩
  have hE:pickE τ n R p=if p.length≤20000∧p.any (badP n)=false then 0 else 2:=by simp only [pickE]; rw [if_pos eA]
  rw [hE] at hQ
  obtain ⟨hn0,rR,wR,sR,_,_⟩:=bld_all eA
  by_cases hgood:p.length≤20000∧p.any (badP n)=false
  case neg =>
   rw [if_neg hgood] at hQ
   obtain ⟨X,hX,oX⟩:=set_err hb aH (Le.refl H2) 2
   have d1:=caught_wrong H0.length 2 0 H2 hb.cell
   rw [hX] at oX
   rw [len0] at d1 oX hX
   by_cases h20:p.length≤20000
   ·have hany:p.any (badP n)=true:=by
     cases e:p.any (badP n)
     ·exact absurd ⟨h20,e⟩ hgood
     ·rfl
    have h20':(p.length:Int)≤20000:=by omega
    rw [hany] at hcon
    simp [hcc,hc,cA,d1,oX,hX,o5,lvp,h20,h20',hcon,f2,storeV,vrc,vrcs,vpc,vpcs,slotOf,forget,AOper.writes,-pcall,-ecallF,-List.all_eq_true]
    exact hQ _ _ ⟨.nils,rfl,by rw [if_neg (by omega)]; exact ListsV.nil⟩
   ·have h20':¬ (p.length:Int)≤20000:=by omega
    simp [hcc,hc,cA,d1,oX,hX,o5,lvp,h20,h20',f2,storeV,vrc,vrcs,vpc,vpcs,slotOf,forget,AOper.writes,-pcall,-ecallF,-List.all_eq_true]
    exact hQ _ _ ⟨.nils,rfl,by rw [if_neg (by omega)]; exact ListsV.nil⟩
  rw [if_pos hgood,if_pos rfl] at hQ
  obtain ⟨h20,hany⟩:=hgood
  have h20':(p.length:Int)≤20000:=by omega
  rw [hany] at hcon
  simp [hcc,hc,cA,o5,lvp,h20,h20',hcon,m2,lvr,vrc,vrcs,vpc,vpcs,slotOf,-pcall,-ecallF,-List.all_eq_true]
  have wown:∀ j (hj:j<R.length),j<τ.own→(R[j].length:Int)=n:=fun j hj ho=>by
   have:=List.all_eq_true.1 wR R[j] (by rw [List.mem_iff_getElem?]; exact ⟨j,by rw [List.getElem?_take,if_pos ho]; simp [hj]⟩)
   simpa using this
  have hpin:∀ k (hk:k<p.length),0≤p[k]∧p[k]<n:=fun k hk=>by
   have:=List.any_eq_false.1 hany p[k] (List.getElem_mem hk)
   simp [badP] at this
   omega
  have r74:∀ ws g,(lim gl Trnz.aprog).ro 66 [.ref 2 0 1] (kH H2 ws g)=some (.ret (.int .i64 τ.own)):=fun ws g=>ro74_q (hla.ext fun k k1 k2=>by
   have hsz:objs τ+2=H2.length:=by rw [hH2]; simp [layL_length,len0]; omega
   simp only [kH]
   rw [List.getElem?_append_left (by omega)])
  refine loop_nQ R.length (fun i c=>∃ s10 s11 s12 s13 s17 s18 s19 fl ws,c=⟨[.agg t.cs,.int .i64 n,vR,vp,.agg t.cs,.ref 0 0 1,.nils,.ref 1 0 1,.ref 2 0 1,.sl H2.length 0 i i 1 false,s10,s11,s12,s13,vR,.int .i64 R.length,.int .i64 i,s17,s18,s19],[(.func (.func 48) [] [],[.ref 1 0 1])],fl,none,kH H2 ws (min i τ.own)⟩ ∧
   ws.length=i∧∀ j (h:j<ws.length) (h':j<R.length),IntsV (pkRow τ.own p j R[j]) ws[j]) ?_ ⟨.undef,.undef,.undef,.undef,.undef,.undef,.undef,none,[],by simp [kH],rfl,fun j h=>by simp at h⟩
  rintro I hI i c hi ⟨s10,s11,s12,s13,s17,s18,s19,fl,ws,rfl,hws,hfr⟩
  by_cases hlt:i<R.length
  ·have hlt':(i:Int)<R.length:=by omega
   have w1:IntKind.i64.wrap ((i:Int)+1)=(i:Int)+1:=wrap64 (by omega) (by omega)
   obtain ⟨w,a1,a2⟩:=hR.idx (i:=i) hlt
   have wc:=SlV.cell a2
   have wcs:=SlV.cells a2
   have wp:=SlV.pure a2
   have lri:=lR _ (List.getElem_mem hlt)
   have hnext:∀ (w':V),IntsV (pkRow τ.own p i R[i]) w'→∀ j (h:j<(ws++[w']).length) (h':j<R.length),IntsV (pkRow τ.own p j R[j]) (ws++[w'])[j]:=fun w' hw' j h h'=>by
    by_cases e:j<ws.length
    ·rw [List.getElem_append_left e]; exact hfr j e h'
    ·simp at h
     obtain rfl:j=i:=by omega
     rw [List.getElem_append_right (by omega)]
     simpa using hw'
   by_cases hge:τ.own≤i
   ·have hge':(τ.own:Int)≤i:=by omega
    have q71:=joined_p a2 lri
    rw [PC] at q71
    have hap:=kH_app (H2:=H2) (ws:=ws) (g:=min i τ.own) (w:=.sv ((icells R[i]).map fun x=>[x]) false) (by omega)
    have hI:=hI (i+1) ⟨[.agg t.cs,.int .i64 n,vR,vp,.agg t.cs,.ref 0 0 1,.nils,.ref 1 0 1,.ref 2 0 1,.sl H2.length 0 (i+1) (i+1) 1 false,.int .i64 i,w,s12,s13,vR,.int .i64 R.length,.int .i64 ((i:Int)+1),s17,s18,s19],[(.func (.func 48) [] [],[.ref 1 0 1])],none,none,kH H2 (ws++[.sv ((icells R[i]).map fun x=>[x]) false]) (min i τ.own)⟩
     ⟨_,_,_,_,_,_,_,none,_,by rw [show min (i+1) τ.own=min i τ.own by omega]; rfl,by simp [hws],hnext _ (by unfold pkRow; rw [if_neg (by omega)]; exact .sv false)⟩
    have r74:=r74 ws (min i τ.own)
    rw [hws] at hap
    have v1:isCell (V.sv ((icells R[i]).map fun x=>[x]) false)=true:=rfl
    have v2:cellsV (V.sv ((icells R[i]).map fun x=>[x]) false)=[V.sv ((icells R[i]).map fun x=>[x]) false]:=rfl
    have v3:pureV (V.sv ((icells R[i]).map fun x=>[x]) false)=true:=rfl
    generalize V.sv ((icells R[i]).map fun x=>[x]) false=rv at *
    generalize kH H2 (ws++[rv]) (min i τ.own)=K2 at *
    generalize kH H2 ws (min i τ.own)=K at *
    simp [hlt',a1,r74,hge,hge',q71,hap,w1,wc,wcs,wp,v1,v2,v3,fill,chunks,slotOf,-pcall]
    exact ⟨hlt,hI⟩
   ·have hge':¬ (τ.own:Int)≤i:=by omega
    have hroom:room=140737488355328:=by simp [room]
    have r74:=r74 ws (min i τ.own)
    have hmin:min i τ.own=i:=by omega
    have hmin1:min (i+1) τ.own=i+1:=by omega
    rw [hmin] at r74 ⊢
    have hkg:=kH_gone (H2:=H2) (ws:=ws) (g:=i)
    have hap1:=fun w'=>kH_app (H2:=H2) (ws:=ws) (g:=i+1) (w:=w') (by omega)
    have hap2:=fun w'=>kH_app' (H2:=H2) (ws:=ws) (g:=i+1) (w:=w') (by omega)
    have hI:=fun w' (h:IntsV (pkRow τ.own p i R[i]) w') s12 s13=>hI (i+1) ⟨[.agg t.cs,.int .i64 n,vR,vp,.agg t.cs,.ref 0 0 1,.nils,.ref 1 0 1,.ref 2 0 1,.sl H2.length 0 (i+1) (i+1) 1 false,.int .i64 i,w,s12,s13,vR,.int .i64 R.length,.int .i64 ((i:Int)+1),vp,.int .i64 p.length,.int .i64 p.length],[(.func (.func 48) [] [],[.ref 1 0 1])],none,none,kH H2 (ws++[w']) (i+1)⟩
     ⟨_,_,_,_,_,_,_,none,_,by rw [hmin1]; rfl,by simp [hws],hnext _ h⟩
    rw [← hkg] at hap1 hap2
    rw [hws] at hap1 hap2
    have hlri:(R[i].length:Int)=n:=wown i hlt (by omega)
    obtain ⟨ri,hri⟩:∃ ri,ri=R[i]:=⟨_,rfl⟩
    rw [← hri] at a2 hlri hI
    have hpk:pkRow τ.own p i ri=p.map fun x=>ri.getD x.toNat 0:=by unfold pkRow; rw [if_pos (by omega)]
    rw [hpk] at hI
    clear hnext hfr
    generalize kH H2 ws i=K at *
    simp [hlt',a1,r74,hge,hge',lvp,wc,wcs,slotOf]
    refine loop_nQ p.length (fun k c=>∃ s13 fl,c=⟨[.agg t.cs,.int .i64 n,vR,vp,.agg t.cs,.ref 0 0 1,.nils,.ref 1 0 1,.ref 2 0 1,.sl H2.length 0 i i 1 false,.int .i64 i,w,.sl K.length 0 k k 1 false,s13,vR,.int .i64 R.length,.int .i64 i,vp,.int .i64 p.length,.int .i64 k],[(.func (.func 48) [] [],[.ref 1 0 1])],fl,none,K++[.cells k 1 (icells ((p.take k).map fun x=>ri.getD x.toNat 0))]⟩) ?_ ⟨s13,none,rfl⟩
    rintro J hJ k c hk ⟨s13,fl,rfl⟩
    by_cases hkt:k<p.length
    ·have hkt':(k:Int)<p.length:=by omega
     have wk1:IntKind.i64.wrap ((k:Int)+1)=(k:Int)+1:=wrap64 (by omega) (by omega)
     have x1:=hp.idx' hkt
     obtain ⟨b1,b2⟩:=hpin k hkt
     have x2:=a2.idx' (i:=p[k].toNat) (by omega)
     rw [Int.toNat_of_nonneg b1] at x2
     have hap:=appV_own (h:=K++[.cells k 1 (icells ((p.take k).map fun x=>ri.getD x.toNat 0))]) (o:=K.length) (n:=k) (sz:=1) (bytes:=8) (k:=1) (cs:=icells ((p.take k).map fun x=>ri.getD x.toNat 0)) (y:=.sv [[.int .i64 (ri[p[k].toNat]'(by omega))]] true) (ys:=[.int .i64 (ri[p[k].toNat]'(by omega))]) (by simp) rfl (by simp [sliceCells]) rfl (by omega)
     rw [set_last] at hap
     have e:icells ((p.take (k+1)).map fun x=>ri.getD x.toNat 0)=icells ((p.take k).map fun x=>ri.getD x.toNat 0)++[.int .i64 (ri[p[k].toNat]'(by omega))]:=by
      have h1:(p.take (k+1)).map (fun x=>ri.getD x.toNat 0)=(p.take k).map (fun x=>ri.getD x.toNat 0)++[ri[p[k].toNat]'(by omega)]:=by
       rw [← List.take_append_getElem hkt,List.map_append]
       simp only [List.map_cons,List.map_nil,List.getD_eq_getElem?_getD]
       rw [List.getElem?_eq_getElem (by omega)]
       rfl
      rw [h1]
      simp only [icells,List.map_append,List.map_cons,List.map_nil]
     have hJ:=hJ (k+1) ⟨[.agg t.cs,.int .i64 n,vR,vp,.agg t.cs,.ref 0 0 1,.nils,.ref 1 0 1,.ref 2 0 1,.sl H2.length 0 i i 1 false,.int .i64 i,w,.sl K.length 0 (k+1) (k+1) 1 false,.int .i64 p[k],vR,.int .i64 R.length,.int .i64 i,vp,.int .i64 p.length,.int .i64 ((k:Int)+1)],[(.func (.func 48) [] [],[.ref 1 0 1])],none,none,_⟩ ⟨_,none,by rw [e]; rfl⟩
     generalize ri[p[k].toNat]'(by omega)=z at *
     generalize p[k]=y at *
     generalize icells ((p.take k).map fun x=>ri.getD x.toNat 0)=cs at *
     simp [hkt',x1,x2,hap,wk1,fill,chunks,slotOf]
     exact ⟨hkt,hJ⟩
    ·obtain hkp:k=p.length:=by omega
     subst hkp
     rw [List.take_length]
     have hfz:=view_own (H:=K++[.cells p.length 1 (icells (p.map fun x=>ri.getD x.toNat 0))]) (b:=K.length) (n:=p.length) (cs:=icells (p.map fun x=>ri.getD x.toNat 0)) (by simp) (by simp) (pure_ic _)
     rw [set_last] at hfz
     have hI:=hI (.sv ((icells (p.map fun x=>ri.getD x.toNat 0)).map fun x=>[x]) false) (.sv false)
     have v1:isCell (V.sv ((icells (p.map fun x=>ri.getD x.toNat 0)).map fun x=>[x]) false)=true:=rfl
     have v2:cellsV (V.sv ((icells (p.map fun x=>ri.getD x.toNat 0)).map fun x=>[x]) false)=[V.sv ((icells (p.map fun x=>ri.getD x.toNat 0)).map fun x=>[x]) false]:=rfl
     have v3:pureV (V.sv ((icells (p.map fun x=>ri.getD x.toNat 0)).map fun x=>[x]) false)=true:=rfl
     generalize V.sv ((icells (p.map fun x=>ri.getD x.toNat 0)).map fun x=>[x]) false=rv at *
     generalize icells (p.map fun x=>ri.getD x.toNat 0)=cs at *
     have hap1:=hap1 rv
     have hap2:=hap2 rv
     generalize kH H2 (ws++[rv]) (i+1)=K2 at *
     simp [hfz,hap1,hap2,w1,v1,v2,v3,WX_frz,nthV_eq,fill,chunks,slotOf]
     exact ⟨hlt,hI _ _⟩
  ·obtain rfl:i=R.length:=by omega
   have hfz:frzV (kH H2 ws (min R.length τ.own)) (.sl H2.length 0 R.length R.length 1 false)=some (.sv (ws.map fun x=>[x]) false,(kH H2 ws (min R.length τ.own)).set H2.length .gone):=view_own (by rw [kH_at,hws]) hws.symm (by
    rw [pureL_all]
    intro x hx
    obtain ⟨j,hj,rfl⟩:=List.mem_iff_getElem.1 hx
    exact SlV.pure (hfr j hj (by omega)))
   have hLV:ListsV (pickS τ.own p R) (.sv (ws.map fun x=>[x]) false):=⟨ws,.sv false,Fr.of_nth (by rw [pickS_len,hws]) fun j h1 h2=>by
    have:=hfr j h2 (by omega)
    have hg:=pickS_get (own:=τ.own) (p:=p) (R:=R) (j:=j) (by omega)
    rw [List.getElem?_eq_getElem h1] at hg
    rw [Option.some.inj hg]
    exact this⟩
   have z1:((kH H2 ws (min R.length τ.own)).set H2.length Am.Obj.gone)[1]?=some (.cells 1 1 [.int .i64 0]):=by
    rw [List.getElem?_set_ne (by omega)]
    exact kH_old hcl
   generalize (kH H2 ws (min R.length τ.own)).set H2.length Am.Obj.gone=K3 at *
   have zs:storeV K3 (.ref 1 0 1) (.int .i64 0) 1=some K3:=by
    have:=set_same z1
    simp only [storeV,objCells_of z1]
    simp [this]
   have zl:=load_cell z1
   have d0:=caught_none 1 K3
   simp [hfz,zs,zl,d0,slotOf,-loadV]
   exact hQ _ _ ⟨_,rfl,hLV⟩
 obtain ⟨r,H',e,u,rfl,hw⟩:=OptP.ex key
 refine ⟨u,?_,hw⟩
 simp only [PC,pcall,callee_func,List.append_nil,List.nil_append]
 rw [if_pos pa,e]
 simp only [view_lists hw,Option.map_some]
theorem rjoin_q {A B:List (List Int)} {vA vB:V} (hA:ListsV A vA) (hB:ListsV B vB) (lA:∀ r∈A,r.length<2 ^ 39) (lB:Short64 B) (lA2:A.length<2 ^ 39) (lB2:B.length<2 ^ 39)
  {t:Tr} {τ:Ty} (hτ:IsTy t τ) (ho:t.Ok) (h1:τ.size≤60) (h2:τ.deep≤12) {n m:Int} (hn:is64 n) (hm:is64 m) :
  ∃ u,PC 20 [.agg t.cs,.int .i64 n,vA,.int .i64 m,vB] (.tup [u,.int .i64 (joinE τ n A m B)]) ∧
   ListsV (if joinE τ n A m B=0 then (jn τ (A.take τ.own) (A.drop τ.own) (B.take τ.own) (B.drop τ.own)).1++(jn τ (A.take τ.own) (A.drop τ.own) (B.take τ.own) (B.drop τ.own)).2 else []) u:=by
 have hcc:=cells_tr ho
 have hbs:=τ.both_size
 obtain ⟨uA,tA,cA,a1,a2,a3,_⟩:=rbuild_q hτ ho h1 h2 hA lA2 lA hn
 obtain ⟨uB,tB,cB,b1,b2,b3,_⟩:=rbuild_q hτ ho h1 h2 hB lB2 (fun r hr=>(lB r hr).1) hm
 rw [PC] at cA cB
 have pa:pureL [.agg t.cs,.int .i64 n,vA,.int .i64 m,vB]=true:=by simp [pureL,pureV,pure_tr ho,hA.pure,hB.pure]
 by_cases eA:bldE τ n A=0
 ·have hE:joinE τ n A m B=bldE τ m B:=by simp only [joinE]; rw [if_pos eA]
  rw [hE]
  by_cases eB:bldE τ m B=0
  ·rw [if_pos eB]
   obtain ⟨_,rA,_,_,_,_⟩:=bld_all eA
   obtain ⟨_,rB,_,_,_,_⟩:=bld_all eB
   have spA:=split_q hτ ho (by omega) hA (by omega)
   have spB:=split_q hτ ho (by omega) hB (by omega)
   rw [if_pos rA] at spA
   rw [if_pos rB] at spB
   obtain ⟨oA,dA,cs1,p1,q1⟩:=spA
   obtain ⟨oB,dB,cs2,p2,q2⟩:=spB
   obtain ⟨o,d,vs,ws,X,cj,r1,r2,z1,z2,z3⟩:=joined_q τ (by omega) t hτ ho _ _ _ _ oA dA oB dB [] p1 q1 p2 q2 (by simp; omega) (by simp; omega) (by simp; omega) (by simp; omega)
    (fun r hr=>lA r (mem_td.1 hr)) (fun r hr=>lA r (mem_td.2 hr)) (fun r hr=>lB r (mem_td.1 hr)) (fun r hr=>lB r (mem_td.2 hr))
   have n1:=r1.length
   have n2:=r2.length
   rw [(jn_len τ _ _ _ _).1] at n1
   rw [(jn_len τ _ _ _ _).2] at n2
   have hroom:room=140737488355328:=by simp [room]
   obtain ⟨o3,G,ap,z7,_,_,_⟩:=app_ownM z1 z2.slen z2.scells (by omega) (by simp)
   obtain ⟨u,G',hf,hu⟩:=z7.frz (by
    rw [pureL_all]
    intro c hc
    rcases List.mem_append.1 hc with hc | hc
    ·exact pureL_all.1 (frIntsPure r1) c hc
    ·exact pureL_all.1 (frIntsPure r2) c hc)
   have hres:ListsV ((jn τ (A.take τ.own) (A.drop τ.own) (B.take τ.own) (B.drop τ.own)).1++(jn τ (A.take τ.own) (A.drop τ.own) (B.take τ.own) (B.drop τ.own)).2) u:=⟨vs++ws,hu,r1.append r2⟩
   refine ⟨u,pc_of pa (view_lists hres _ 0) ?_,hres⟩
   rw [PC] at cs1 cs2
   rw [List.nil_append] at cj ap
   rw [eA] at cA
   rw [eB] at cB
   refine call_ofQ (af:=Trnz.a20) rfl rfl fun Q hQ => ?_
   simp only [Trnz.a20]
   simp [hcc,cA,cB,cs1,cs2,cj,ap,hf,slotOf,-pcall,-List.all_eq_true]
   exact hQ _ _ (by rw [eB])
  ·rw [if_neg eB]
   have ecB:((bldE τ m B) != 0)=true:=by simpa using eB
   refine ⟨.nils,pc_of pa (view_lists ListsV.nil _ 0) ?_,ListsV.nil⟩
   refine call_ofQ (af:=Trnz.a20) rfl rfl fun Q hQ => ?_
   simp only [Trnz.a20]
   rw [eA] at cA
   generalize bldE τ m B=q at *
   simp [hcc,cA,cB,ecB,slotOf,-pcall,-List.all_eq_true]
   exact hQ _ _ rfl
 ·have hE:joinE τ n A m B=bldE τ n A:=by simp only [joinE]; rw [if_neg eA]
  rw [hE,if_neg eA]
  have ecA:((bldE τ n A) != 0)=true:=by simpa using eA
  refine ⟨.nils,pc_of pa (view_lists ListsV.nil _ 0) ?_,ListsV.nil⟩
  refine call_ofQ (af:=Trnz.a20) rfl rfl fun Q hQ => ?_
  simp only [Trnz.a20]
  generalize bldE τ n A=q at *
  simp [hcc,cA,ecA,slotOf,-pcall,-List.all_eq_true]
  exact hQ _ _ rfl
theorem copy_p {r:List Int} {w:V} (hw:IntsV r w) (hl:r.length<2 ^ 40):∃ u,PC 69 [w] u∧IntsV r u:=by
 have h:=copy36_q hw [] hl
 have hv:=viewW_own (H:=[.cells r.length 1 (icells r)]) (b:=0) (n:=r.length) (cs:=icells r) rfl (by simp) (ints_pure r)
 refine ⟨.sv ((icells r).map fun x=>[x]) false,?_,.sv false⟩
 simp only [PC,pcall,callee_func,List.append_nil,List.nil_append]
 rw [if_pos (by simp [pureL,SlV.pure hw]),h]
 simp only [List.length_nil,List.nil_append,hv,Option.map_some]
theorem rpick_q {R:List (List Int)} {vR:V} (hR:ListsV R vR) (lR:∀ r∈R,r.length<2 ^ 39) (lR2:R.length<2 ^ 39) {p:List Int} {vp:V} (hp:IntsV p vp) (hpl:p.length<2 ^ 39)
  {t:Tr} {τ:Ty} (hτ:IsTy t τ) (ho:t.Ok) (h1:τ.size≤60) (h2:τ.deep≤12) {n:Int} (hn:is64 n) :
  ∃ u,PC 18 [.agg t.cs,.int .i64 n,vR,vp] (.tup [u,.int .i64 (pickE τ n R p)])∧ListsV (if pickE τ n R p=0 then pickS τ.own p R else []) u:=by
 have hcc:=cells_tr ho
 have hbs:=τ.both_size
 obtain ⟨uA,tA,cA,a1,a2,a3,_⟩:=rbuild_q hτ ho h1 h2 hR lR2 lR hn
 rw [PC] at cA
 have lvp:=hp.len'
 have lvr:=hR.len
 have hroom:room=140737488355328:=by simp [room]
 have co:=own_q hτ ho (by omega)
 rw [PC] at co
 have pa:pureL [.agg t.cs,.int .i64 n,vR,vp]=true:=by simp [pureL,pureV,pure_tr ho,hR.pure,SlV.pure hp]
 suffices key:CallP gl Trnz.aprog 18 [.agg t.cs,.int .i64 n,vR,vp] [] (fun r H'=>∃ u,r = .ret (.tup [u,.int .i64 (pickE τ n R p)])∧ListsV (if pickE τ n R p=0 then pickS τ.own p R else []) u) by
  obtain ⟨r,h',e,u,rfl,hu⟩:=OptP.ex key
  refine ⟨u,?_,hu⟩
  simp only [PC,pcall,callee_func,List.append_nil,List.nil_append]
  rw [if_pos pa,e]
  simp only [view_lists hu,Option.map_some]
 refine call_ofQ (af:=Trnz.a18) rfl rfl fun Q hQ => ?_
 simp only [Trnz.a18]
 by_cases eA:bldE τ n R=0
 case neg =>
  have hE:pickE τ n R p=bldE τ n R:=by simp only [pickE]; rw [if_neg eA]
  rw [hE,if_neg eA] at hQ
  have ecA:((bldE τ n R) != 0)=true:=by simpa using eA
  generalize bldE τ n R=q at *
  simp [hcc,cA,ecA,slotOf,-pcall,-List.all_eq_true]
  exact hQ _ _ ⟨.nils,rfl,ListsV.nil⟩
 have hE:pickE τ n R p=if p.length≤20000∧p.any (badP n)=false then 0 else 2:=by simp only [pickE]; rw [if_pos eA]
 rw [hE] at hQ
 rw [eA] at cA
 obtain ⟨hn0,rR,wR,sR,_,_⟩:=bld_all eA
 by_cases h20:p.length≤20000
 case neg =>
  rw [if_neg (by rintro ⟨h,_⟩; exact h20 h),if_neg (by omega)] at hQ
  have hg:20000<p.length:=by omega
  have hg':(20000:Int)<p.length:=by omega
  simp [hcc,cA,lvp,hg,hg',slotOf,-pcall,-List.all_eq_true]
  exact hQ _ _ ⟨.nils,rfl,ListsV.nil⟩
 have hng:¬ 20000<p.length:=by omega
 have hng':¬ (20000:Int)<p.length:=by omega
 simp [hcc,cA,lvp,hng,hng',slotOf,-pcall,-List.all_eq_true]
 refine loop_nQ p.length (fun i c=>(∀ k (hk:k<p.length),k<i→badP n p[k]=false)∧c=⟨[.agg t.cs,.int .i64 n,vR,vp,.agg t.cs,.nils,.int .i64 0,.int .i64 0,.int .i64 i,.undef,.undef,.undef,.undef],[],none,none,[]⟩) ?_ ⟨fun k hk h=>by omega,rfl⟩
 rintro I hI i c hi ⟨hz,rfl⟩
 by_cases hlt:i<p.length
 ·have hlt':(i:Int)<p.length:=by omega
  have hw2:IntKind.i64.wrap ((i:Int)+1)=(i:Int)+1:=wrap64 (by omega) (by omega)
  have e1:=hp.idx' hlt
  have hw3:IntKind.i64.wrap (n - 1)=n - 1:=wrap64 (by omega) (by omega)
  have lies:=lies_q p[i] 0 (n - 1)
  rw [PC] at lies
  cases hb:badP n p[i] with
  | false =>
   have hd:decide (0≤p[i]∧p[i]≤n - 1)=true:=by
    simp [badP] at hb
    exact decide_eq_true (by omega)
   rw [hd] at lies
   have hI:=hI (i+1)
   have good:∀ k (hk:k<p.length),k<i+1→badP n p[k]=false:=fun k hk h=>by
    by_cases e:k=i
    ·subst e; exact hb
    ·exact hz k hk (by omega)
   generalize p[i]=q at lies e1
   simp [lvp,hlt',e1,hw3,lies,hw2,slotOf,-pcall,-List.all_eq_true]
   exact ⟨hlt,hI _ ⟨good,rfl⟩⟩
  | true =>
   have hd:decide (0≤p[i]∧p[i]≤n - 1)=false:=by
    simp [badP] at hb
    exact decide_eq_false (by omega)
   rw [hd] at lies
   have hany:p.any (badP n)=true:=List.any_eq_true.2 ⟨_,List.getElem_mem hlt,hb⟩
   rw [if_neg (by rw [hany]; rintro ⟨_,h⟩; cases h),if_neg (by omega)] at hQ
   generalize p[i]=q at lies e1
   simp [lvp,hlt',e1,hw3,lies,slotOf,-pcall,-List.all_eq_true]
   exact hQ _ _ ⟨.nils,rfl,ListsV.nil⟩
 obtain rfl:i=p.length:=by omega
 have hany:p.any (badP n)=false:=by
  rw [List.any_eq_false]
  intro x hx
  obtain ⟨k,hk,rfl⟩:=List.mem_iff_getElem.1 hx
  simp [hz k hk hk]
 rw [if_pos ⟨h20,hany⟩,if_pos rfl] at hQ
 have wown:∀ j (hj:j<R.length),j<τ.own→(R[j].length:Int)=n:=fun j hj ho=>by
  have:=List.all_eq_true.1 wR R[j] (by rw [List.mem_iff_getElem?]; exact ⟨j,by rw [List.getElem?_take,if_pos ho]; simp [hj]⟩)
  simpa using this
 have hpin:∀ k (hk:k<p.length),0≤p[k]∧p[k]<n:=fun k hk=>by
  have:=List.any_eq_false.1 hany p[k] (List.getElem_mem hk)
  simp [badP] at this
  omega
 simp [lvp,fill,slotOf,-pcall,-List.all_eq_true]
 refine loop_nQ R.length (fun k c=>∃ (s11 s12:V) (H:Heap) (ws:List V),ws.length=k∧H[0]?=some (.cells k 1 ws)∧(∀ j (h:j<ws.length) (h':j<R.length),IntsV (pkRow τ.own p j R[j]) ws[j]) ∧
  c=⟨[.agg t.cs,.int .i64 n,vR,vp,.agg t.cs,.nils,.int .i64 0,.int .i64 0,.int .i64 p.length,.sl 0 0 k k 1 false,.int .i64 k,s11,s12],[],none,none,H⟩) ?_ ⟨.undef,.undef,[.cells 0 1 []],[],rfl,rfl,fun j h=>by simp at h,rfl⟩
 rintro I2 hI2 k c hk ⟨s11,s12,H,ws,hwl,hH,hfr,rfl⟩
 by_cases hlt2:k<R.length
 ·have hlt2':(k:Int)<R.length:=by omega
  have hw2:IntKind.i64.wrap ((k:Int)+1)=(k:Int)+1:=wrap64 (by omega) (by omega)
  obtain ⟨w,k1,k2⟩:=hR.idx (i:=k) hlt2
  have lri:=lR _ (List.getElem_mem hlt2)
  have h0:0<H.length:=(List.getElem?_eq_some_iff.1 hH).1
  have hnext:∀ (w':V),IntsV (pkRow τ.own p k R[k]) w'→∀ j (h:j<(ws++[w']).length) (h':j<R.length),IntsV (pkRow τ.own p j R[j]) (ws++[w'])[j]:=fun w' hw' j h h'=>by
   by_cases e:j<ws.length
   ·rw [List.getElem_append_left e]
    exact hfr j e h'
   ·obtain rfl:j=ws.length:=by simp at h; omega
    subst hwl
    rw [List.getElem_append_right (by omega)]
    simpa using hw'
  by_cases hown:(τ.own:Int)≤k
  ·obtain ⟨u,cc,hu⟩:=copy_p k2 (by omega)
   rw [PC] at cc
   have uc:=SlV.cell hu
   have ucs:=SlV.cells hu
   have up:=SlV.pure hu
   have hown':τ.own≤k:=by omega
   have hap:=appV_own (h:=H) (o:=0) (n:=k) (sz:=1) (bytes:=24) (cs:=ws) (y:=.sv [[u]] true) (k:=1) (ys:=[u]) hH rfl rfl rfl (by omega)
   have hpk:pkRow τ.own p k R[k]=R[k]:=by simp only [pkRow]; rw [if_neg (by omega)]
   have hfin:=hI2 (k+1) ⟨[.agg t.cs,.int .i64 n,vR,vp,.agg t.cs,.nils,.int .i64 0,.int .i64 0,.int .i64 p.length,.sl 0 0 (k+1) (k+1) 1 false,.int .i64 ((k:Int)+1),s11,s12],[],none,none,H.set 0 (.cells (k+1) 1 (ws++[u]))⟩
    ⟨s11,s12,_,ws++[u],by simp [hwl],List.getElem?_set_self h0,hnext u (by rw [hpk]; exact hu),rfl⟩
   simp [lvr,hlt2,hlt2',hcc,co,hown,hown',k1,cc,hap,hw2,uc,ucs,up,fill,chunks,slotOf,-pcall,-List.all_eq_true]
   exact hfin
  ·have hown':¬ τ.own≤k:=by omega
   have hrl:=wown k hlt2 (by omega)
   simp [lvr,hlt2,hlt2',hcc,co,hown,hown',fill,slotOf,-pcall,-List.all_eq_true]
   obtain ⟨Z,hZ⟩:∃ Z:List Int,Z=p.map fun x=>(R[k]).getD x.toNat 0:=⟨_,rfl⟩
   have hZl:Z.length=p.length:=by rw [hZ]; simp
   have hpk:pkRow τ.own p k R[k]=Z:=by simp only [pkRow]; rw [if_pos (by omega),hZ]
   rw [hpk] at hnext
   have hZi:∀ i (hi:i<p.length),Z[i]'(by omega)=(R[k]).getD (p[i]).toNat 0:=fun i hi=>by simp [hZ]
   refine loop_nQ p.length (fun i c=>c=⟨[.agg t.cs,.int .i64 n,vR,vp,.agg t.cs,.nils,.int .i64 0,.int .i64 0,.int .i64 p.length,.sl 0 0 k k 1 false,.int .i64 k,.sl H.length 0 i i 1 false,.int .i64 i],[],none,none,H++[.cells i 1 ((Z.take i).map fun n => .int .i64 n)]⟩) ?_ (by simp)
   rintro J hJ i c hi ⟨rfl⟩
   by_cases hlt:i<p.length
   ·have hlt':(i:Int)<p.length:=by omega
    have hwi:IntKind.i64.wrap ((i:Int)+1)=(i:Int)+1:=wrap64 (by omega) (by omega)
    have e1:=hp.idx' hlt
    obtain ⟨g1,g2⟩:=hpin i hlt
    have e2:idxV w p[i] 1=some (.pv [.int .i64 (Z[i]'(by omega))]):=by
     have hlt3:(p[i]).toNat<(R[k]).length:=by omega
     have:=k2.idx' hlt3
     rw [Int.toNat_of_nonneg g1] at this
     rw [this,hZi i hlt,List.getD_eq_getElem?_getD,List.getElem?_eq_getElem hlt3]
     rfl
    have hap:=appV_own (h:=H++[.cells i 1 ((Z.take i).map fun n=>V.int .i64 n)]) (o:=H.length) (n:=i) (sz:=1) (bytes:=8) (cs:=(Z.take i).map fun n=>V.int .i64 n) (y:=.sv [[.int .i64 (Z[i]'(by omega))]] true) (k:=1) (ys:=[.int .i64 (Z[i]'(by omega))]) (by simp) rfl rfl rfl (by omega)
    have e3:(H++[Am.Obj.cells i 1 ((Z.take i).map fun n=>V.int .i64 n)]).set H.length (.cells (i+1) 1 ((Z.take i).map (fun n=>V.int .i64 n)++[.int .i64 (Z[i]'(by omega))]))=H++[.cells (i+1) 1 ((Z.take (i+1)).map fun n => .int .i64 n)]:=by
     have e5:(Z.take (i+1)).map (fun n=>V.int .i64 n)=(Z.take i).map (fun n=>V.int .i64 n)++[.int .i64 (Z[i]'(by omega))]:=by
      rw [← List.take_append_getElem (show i<Z.length by omega),List.map_append]; rfl
     rw [e5,List.set_append_right _ _ (by omega),Nat.sub_self]
     rfl
    rw [e3] at hap
    have hJ:=hJ (i+1)
    generalize H++[Am.Obj.cells i 1 ((Z.take i).map fun n=>V.int .i64 n)]=K1 at *
    generalize H++[Am.Obj.cells (i+1) 1 ((Z.take (i+1)).map fun n=>V.int .i64 n)]=K2 at *
    generalize Z[i]'(by omega)=zz at *
    generalize p[i]=pz at *
    simp [lvp,hlt',e1,k1,e2,hap,hwi,fill,chunks,slotOf,-pcall,-List.all_eq_true]
    exact ⟨hlt,hJ _ rfl⟩
   ·obtain rfl:i=p.length:=by omega
    have e3:Z.take p.length=Z:=List.take_of_length_le (by omega)
    rw [e3]
    have hfz:=view_own (H:=H++[.cells p.length 1 (Z.map fun n=>V.int .i64 n)]) (b:=H.length) (n:=p.length) (cs:=Z.map fun n=>V.int .i64 n) (by simp) (by simp [hZl]) (ints_pure Z)
    have e4:(H++[Am.Obj.cells p.length 1 (Z.map fun n=>V.int .i64 n)]).set H.length .gone=H++[.gone]:=by simp
    rw [e4] at hfz
    obtain ⟨u,hu⟩:∃ u,u=V.sv ((Z.map fun n=>V.int .i64 n).map fun x=>[x]) false:=⟨_,rfl⟩
    have iu:IntsV Z u:=by rw [hu]; exact .sv false
    rw [← hu] at hfz
    have uc:=SlV.cell iu
    have ucs:=SlV.cells iu
    have hH2:(H++[Am.Obj.gone])[0]?=some (.cells k 1 ws):=by rw [List.getElem?_append_left h0]; exact hH
    have hap:=appV_own (h:=H++[.gone]) (o:=0) (n:=k) (sz:=1) (bytes:=24) (cs:=ws) (y:=.vs [u] 1 1) (k:=1) (ys:=[u]) hH2 rfl rfl rfl (by omega)
    have hfin:=hI2 (k+1) ⟨[.agg t.cs,.int .i64 n,vR,vp,.agg t.cs,.nils,.int .i64 0,.int .i64 0,.int .i64 p.length,.sl 0 0 (k+1) (k+1) 1 false,.int .i64 ((k:Int)+1),u,.int .i64 p.length],[],none,none,(H++[Am.Obj.gone]).set 0 (.cells (k+1) 1 (ws++[u]))⟩
     ⟨_,_,_,ws++[u],by simp [hwl],List.getElem?_set_self (by simp),hnext u iu,rfl⟩
    generalize H++[Am.Obj.cells p.length 1 (Z.map fun n=>V.int .i64 n)]=K1 at *
    generalize H++[Am.Obj.gone]=K2 at *
    simp [lvp,WX_frz,nthV_eq,hfz,hap,hw2,uc,ucs,fill,slotOf,-pcall,-List.all_eq_true]
    exact hfin
 ·obtain rfl:k=R.length:=by omega
  have hls:Fr IntsV (pickS τ.own p R) ws:=Fr.of_nth (by rw [pickS_len,hwl]) fun i h1 h2=>by
   have h3:i<R.length:=by rw [pickS_len] at h1; exact h1
   have h4:=pickS_get (own:=τ.own) (p:=p) h3
   have h5:(pickS τ.own p R)[i]=pkRow τ.own p i R[i]:=by
    have:=(List.getElem?_eq_some_iff.1 h4).2
    exact this
   rw [h5]
   exact hfr i h2 h3
  have hfz:=view_own (H:=H) (b:=0) (n:=R.length) (cs:=ws) hH hwl.symm (frIntsPure hls)
  have hres:ListsV (pickS τ.own p R) (.sv (ws.map fun x=>[x]) false):=⟨ws,.sv false,hls⟩
  have hQ:=hQ _ (H.set 0 .gone) ⟨_,rfl,hres⟩
  generalize V.sv (ws.map fun x=>[x]) false=sv at *
  simp [lvr,hfz,slotOf,-pcall,-List.all_eq_true]
  exact hQ
theorem rbads_build {t:Tr} (ho:t.Ok) (hn:t.nodes<2 ^ 50) {e:Int} (he:e=3∨e=15) (ht:tyErr t=e) {A B:List (List Int)} {vA vB:V} (hA:ListsV A vA) (hB:ListsV B vB) (n:Int):PC 10 [.agg t.cs,.int .i64 n,vA] (.tup [.nils,.int .i64 e]):=by
 have hcc:=cells_tr ho
 have h1:=isType_q t ho (by omega)
 rw [ht,PC] at h1
 have hne:(e != 0)=true:=by rcases he with rfl | rfl <;> rfl
 refine pc_of (by simp [pureL,pureV,pure_tr ho,hA.pure]) (view_lists ListsV.nil _ 0) ?_
 refine call_ofQ (af:=Trnz.a10) rfl rfl fun Q hQ => ?_
 simp only [Trnz.a10]
 simp [hcc,h1,hne,slotOf,-pcall,-List.all_eq_true]
 exact hQ _ _ rfl
theorem bads_pick {t:Tr} (ho:t.Ok) (hn:t.nodes<2 ^ 50) {e:Int} (he:e=3∨e=15) (ht:tyErr t=e) {A B:List (List Int)} {vA vB:V} (hA:ListsV A vA) (hB:ListsV B vB) (n:Int) {p:List Int} {vp:V} (hp:IntsV p vp):PC 17 [.agg t.cs,.int .i64 n,vA,vp] (.tup [.nils,.int .i64 e]):=by
 have hcc:=cells_tr ho
 obtain ⟨X,h1,h2,h3⟩:=bad53 ho hn he ht [.cells 1 1 [.int .i64 n]]
 have vac:=hA.cell
 have vacs:=hA.cells
 have vpc:=SlV.cell hp
 have vpcs:=SlV.cells hp
 simp only [List.nil_append,List.cons_append,List.length_nil,List.length_cons,Nat.zero_add,Nat.reduceAdd] at h1 h2 h3
 refine pc_of (by simp [pureL,pureV,pure_tr ho,hA.pure,SlV.pure hp]) (view_lists ListsV.nil _ 0) ?_
 refine call_ofQ (af:=Trnz.a17) rfl rfl fun Q hQ => ?_
 simp only [Trnz.a17]
 simp [hcc,h1,h2,h3,vac,vacs,vpc,vpcs,slotOf,forget,AOper.writes,-ecallF,-List.all_eq_true]
 exact hQ _ _ rfl
section
variable {t:Tr} (ho:t.Ok) (hn:t.nodes<2 ^ 50) {e:Int} (he:e=3∨e=15) (ht:tyErr t=e) {A B:List (List Int)} {vA vB:V} (hA:ListsV A vA) (hB:ListsV B vB) (n m:Int)
include ho hn he ht hA hB
theorem bads_join:PC 19 [.agg t.cs,.int .i64 n,vA,.int .i64 m,vB] (.tup [.nils,.int .i64 e]):=by
 have hcc:=cells_tr ho
 obtain ⟨X,h1,h2,h3⟩:=bad53 ho hn he ht [.cells 1 1 [vA],.cells 1 1 [vB]]
 have vac:=hA.cell
 have vacs:=hA.cells
 have vbc:=hB.cell
 have vbcs:=hB.cells
 simp only [List.nil_append,List.cons_append,List.length_nil,List.length_cons,Nat.zero_add,Nat.reduceAdd] at h1 h2 h3
 refine pc_of (by simp [pureL,pureV,pure_tr ho,hA.pure,hB.pure]) (view_lists ListsV.nil _ 0) ?_
 refine call_ofQ (af:=Trnz.a19) rfl rfl fun Q hQ => ?_
 simp only [Trnz.a19]
 simp [hcc,h1,h2,h3,vac,vacs,vbc,vbcs,slotOf,forget,AOper.writes,-ecallF,-List.all_eq_true]
 exact hQ _ _ rfl
theorem rbads:PC 13 [.agg t.cs,.int .i64 n,vA,vB] (.tup [.bool false,.int .i64 e])∧PC 15 [.agg t.cs,.int .i64 n,vA] (.tup [.nils,.int .i64 e]) ∧
  PC 20 [.agg t.cs,.int .i64 n,vA,.int .i64 m,vB] (.tup [.nils,.int .i64 e])∧∀ {p:List Int} {vp:V},IntsV p vp→PC 18 [.agg t.cs,.int .i64 n,vA,vp] (.tup [.nils,.int .i64 e]):=by
 have hcc:=cells_tr ho
 have h1:=rbads_build ho hn he ht hA hB n
 rw [PC] at h1
 have hne:(e != 0)=true:=by rcases he with rfl | rfl <;> rfl
 refine ⟨pc_of (by simp [pureL,pureV,pure_tr ho,hA.pure,hB.pure]) (view_boolint _ _ _) ?_,pc_of (by simp [pureL,pureV,pure_tr ho,hA.pure]) (view_lists ListsV.nil _ 0) ?_,pc_of (by simp [pureL,pureV,pure_tr ho,hA.pure,hB.pure]) (view_lists ListsV.nil _ 0) ?_,
  fun {p vp} hp=>pc_of (by simp [pureL,pureV,pure_tr ho,hA.pure,SlV.pure hp]) (view_lists ListsV.nil _ 0) ?_⟩
 ·refine call_ofQ (af:=Trnz.a13) rfl rfl fun Q hQ => ?_
  simp only [Trnz.a13]
  simp [hcc,h1,hne,slotOf,-pcall,-List.all_eq_true]
  exact hQ _ _ rfl
 ·refine call_ofQ (af:=Trnz.a15) rfl rfl fun Q hQ => ?_
  simp only [Trnz.a15]
  simp [hcc,h1,hne,slotOf,-pcall,-List.all_eq_true]
  exact hQ _ _ rfl
 ·refine call_ofQ (af:=Trnz.a20) rfl rfl fun Q hQ => ?_
  simp only [Trnz.a20]
  simp [hcc,h1,hne,slotOf,-pcall,-List.all_eq_true]
  exact hQ _ _ rfl
 ·refine call_ofQ (af:=Trnz.a18) rfl rfl fun Q hQ => ?_
  simp only [Trnz.a18]
  simp [hcc,h1,hne,slotOf,-pcall,-List.all_eq_true]
  exact hQ _ _ rfl
end
theorem wide_q {R:List (List Int)} {v:V} (hR:ListsV R v) (lR:R.length<2 ^ 39) (n:Int):∃ b,PC 6 [.int .i64 n,v] (.bool b):=by
 have hlv:=hR.len
 have lies:=lies_q n 401 20000
 rw [PC] at lies
 have key:CallP gl Trnz.aprog 6 [.int .i64 n,v] [] (fun r h'=>∃ b,r = .ret (.bool b)):=by
  refine call_ofQ (af:=Trnz.a6) rfl rfl fun Q hQ => ?_
  simp only [Trnz.a6]
  simp [slotOf]
  refine loop_nQ R.length (fun i c=>∃ z:Int,c=⟨[.int .i64 n,v,.bool false,.int .i64 z,.int .i64 i],[],none,none,[]⟩) ?_ ⟨0,rfl⟩
  rintro I hI i c hi ⟨z,rfl⟩
  by_cases hlt:i<R.length
  ·have hlt':(i:Int)<R.length:=by omega
   have hw2:IntKind.i64.wrap ((i:Int)+1)=(i:Int)+1:=wrap64 (by omega) (by omega)
   obtain ⟨u,e1,e2⟩:=hR.idx hlt
   have e3:=e2.len'
   generalize R[i]=r0 at *
   simp [hlv,hlt',e1,e3,hw2,slotOf]
   exact ⟨hlt,hI _ _ ⟨_,rfl⟩⟩
  ·obtain rfl:i=R.length:=by omega
   generalize decide (401≤n∧n≤20000)=b at lies
   cases b
   ·simp [hlv,lies,slotOf,-pcall]
    exact hQ _ _ ⟨_,rfl⟩
   ·simp [hlv,lies,slotOf,-pcall]
    exact hQ _ _ ⟨_,rfl⟩
 obtain ⟨r,h',e,b,rfl⟩:=OptP.ex key
 refine ⟨b,?_⟩
 simp only [PC,pcall,callee_func,List.append_nil,List.nil_append]
 rw [if_pos (by simp [pureL,pureV,hR.pure]),e]
 rfl
theorem few_q {t:Tr} (ho:t.Ok) (hnn:t.nodes<2 ^ 50) {R:List (List Int)} {v:V} (hR:ListsV R v) (lR:R.length<2 ^ 39) (ll:∀ r∈R,r.length<2 ^ 39) {n:Int} (hn:is64 n):∃ b,PC 7 [.agg t.cs,.int .i64 n,v] (.bool b):=by
 have hcc:=cells_tr ho
 obtain ⟨u,e,ts,c1,q1,q2,q3,q4⟩:∃ (u:V) (e:Int) (ts:List Tr),PC 10 [.agg t.cs,.int .i64 n,v] (.tup [u,.int .i64 e])∧SlV (ts.map Tr.cs) u∧(∀ x∈ts,x.Ok)∧Tr.nodesL ts≤20000∧True:=by
  rcases tyErr_cases t with ⟨e,he,hte⟩ | ⟨x,hx,hx1,hx2,hte⟩
  ·exact ⟨.nils,e,[],rbads_build ho hnn he hte hR hR n,.nil rfl,by simp,by simp [Tr.nodesL],trivial⟩
  ·obtain ⟨u,ts,c1,a1,a2,a3,a4⟩:=rbuild_q hx ho hx1 hx2 hR lR ll hn
   refine ⟨u,_,ts,c1,a1,a2,?_,trivial⟩
   by_cases h0:bldE x n R=0
   ·exact (bld_ok h0 (a3 h0)).2.1
   ·rw [a4 h0]; simp [Tr.nodesL]
 have hlv:=len_tr q1
 have hlen:=Tr.nodesL_length ts
 rw [PC] at c1
 have key:CallP gl Trnz.aprog 7 [.agg t.cs,.int .i64 n,v] [] (fun r h'=>∃ b,r = .ret (.bool b)):=by
  refine call_ofQ (af:=Trnz.a7) rfl rfl fun Q hQ => ?_
  simp only [Trnz.a7]
  simp [hcc,c1,slotOf,-pcall,-List.all_eq_true]
  refine loop_nQ ts.length (fun i c=>∃ z:Int,c=⟨[.agg t.cs,.int .i64 n,v,.agg t.cs,.bool false,u,.int .i64 e,.int .i64 z,.int .i64 i],[],none,none,[]⟩) ?_ ⟨0,rfl⟩
  rintro I hI i c hi ⟨z,rfl⟩
  by_cases h0:e=0
  ·subst h0
   by_cases hlt:i<ts.length
   ·have hlt':(i:Int)<ts.length:=by omega
    have hw2:IntKind.i64.wrap ((i:Int)+1)=(i:Int)+1:=wrap64 (by omega) (by omega)
    have e1:=idx_tr q1 hlt
    have c2:=sizeOf_q ts[i] (q2 _ (List.getElem_mem hlt)) (by have:=Tr.nodesL_mem (List.getElem_mem hlt); omega)
    have hci:=cells_tr (q2 _ (List.getElem_mem hlt))
    rw [PC] at c2
    generalize ts[i]=y at *
    simp [hlv,hlt',e1,c2,hci,hw2,slotOf,-pcall,-List.all_eq_true]
    exact ⟨hlt,hI _ _ ⟨_,rfl⟩⟩
   ·obtain rfl:i=ts.length:=by omega
    simp [hlv,slotOf,-pcall,-List.all_eq_true]
    exact hQ _ _ ⟨_,rfl⟩
  ·have hne:(e == 0)=false:=by simpa using h0
   simp [hne,slotOf,-pcall,-List.all_eq_true]
   exact hQ _ _ ⟨_,rfl⟩
 obtain ⟨r,h',e,b,rfl⟩:=OptP.ex key
 refine ⟨b,?_⟩
 simp only [PC,pcall,callee_func,List.append_nil,List.nil_append]
 rw [if_pos (by simp [pureL,pureV,pure_tr ho,hR.pure]),e]
 rfl
theorem zipA_get {A B:List (List Int)} {j:Nat} (h1:j<A.length) (h2:j<B.length):(zipA A B).getD j []=A.getD j []++B.getD j []:=by
 simp [zipA,List.getD_eq_getElem?_getD,List.getElem?_zipWith,h1,h2]
abbrev joinR (τ:Ty) (A B:List (List Int)):List (List Int):=shS A B τ 0 τ.own (zipA A B)
theorem joinR_cut {τ:Ty} {A B:List (List Int)} (hA:A.length=τ.own+τ.data) (hB:B.length=τ.own+τ.data) :
  (joinR τ A B).length=τ.own+τ.data∧(joinR τ A B).take τ.own=(jn τ (A.take τ.own) (A.drop τ.own) (B.take τ.own) (B.drop τ.own)).1∧(joinR τ A B).drop τ.own=(jn τ (A.take τ.own) (A.drop τ.own) (B.take τ.own) (B.drop τ.own)).2:=by
 have hZ:(zipA A B).length=τ.own+τ.data:=by simp [zipA]; omega
 obtain ⟨_,k1,k2⟩:=shS_jn A B τ 0 τ.own (zipA A B) (by omega) (by omega) (fun j hj=>zipA_get (by simp only [inR] at hj; omega) (by simp only [inR] at hj; omega))
 have hl:=(shS_len A B τ 0 τ.own (zipA A B)).1
 have jl:=jn_len τ (A.take τ.own) (A.drop τ.own) (B.take τ.own) (B.drop τ.own)
 have cA:cut A τ.own τ.data=A.drop τ.own:=List.take_of_length_le (by simp; omega)
 have cB:cut B τ.own τ.data=B.drop τ.own:=List.take_of_length_le (by simp; omega)
 have cA0:cut A 0 τ.own=A.take τ.own:=by rw [cut,List.drop_zero]
 have cB0:cut B 0 τ.own=B.take τ.own:=by rw [cut,List.drop_zero]
 have hJn:Jn A B τ 0 τ.own=jn τ (A.take τ.own) (A.drop τ.own) (B.take τ.own) (B.drop τ.own):=by simp only [Jn,cA,cB,cA0,cB0]
 have hlj:(joinR τ A B).length=τ.own+τ.data:=by rw [joinR,hl,hZ]
 rw [hJn] at k1 k2
 have hext:∀ {X Y:List (List Int)},X.length=Y.length→(∀ j,j<X.length→X.getD j []=Y.getD j [])→X=Y:=fun {X Y} h1 h2=>by
  refine List.ext_getElem h1 fun j a b => ?_
  have:=h2 j a
  simpa [List.getD_eq_getElem?_getD,a,b] using this
 refine ⟨by omega,hext (by rw [jl.1,List.length_take]; omega) fun j hj => ?_,hext (by rw [jl.2,List.length_drop]; omega) fun j hj => ?_⟩
 ·have hj1:j<τ.own:=by rw [List.length_take] at hj; omega
  rw [← k1 j hj1,List.getD_eq_getElem?_getD,List.getElem?_take,if_pos hj1,← List.getD_eq_getElem?_getD,Nat.zero_add]
 ·rw [List.length_drop] at hj
  rw [← k2 j (by omega),List.getD_eq_getElem?_getD,List.getElem?_drop,← List.getD_eq_getElem?_getD]
theorem law_moves (t:Tr) (ht:t.Ok) (hnn:t.nodes<2 ^ 50) (n m:Int) (hn:is64 n) (hm:is64 m) {A B:List (List Int)} {vA vB:V} (hA:ListsV A vA) (hB:ListsV B vB) (lA:A.length<2 ^ 39) (lB:B.length<2 ^ 39) (llA:∀ r∈A,r.length<2 ^ 39) (llB:Short64 B)
  {p:List Int} {vp:V} (hp:IntsV p vp) (lp:p.length<2 ^ 39) :
  ∃ h',(lim gl Trnz.aprog).call 4 [.agg t.cs,.agg [.int .i64 n,.int .i64 m,vA,vB],vp] []=some (.ret (.bool true),h'):=by
 have key:CallP gl Trnz.aprog 4 [.agg t.cs,.agg [.int .i64 n,.int .i64 m,vA,vB],vp] [] (fun r h'=>r = .ret (.bool true)):=by
  have hh:=held_q
  have ct:=cells_tr ht
  obtain ⟨w1,c1⟩:=wide_q hA lA n
  obtain ⟨w2,c2⟩:=wide_q hB lB m
  have llB':∀ r∈B,r.length<2 ^ 39:=fun r hr=>(llB r hr).1
  obtain ⟨f1,c3⟩:=few_q ht hnn hA lA llA hn
  obtain ⟨f2,c4⟩:=few_q ht hnn hB lB llB' hm
  have vac:=hA.cell
  have vbc:=hB.cell
  have lvp:=hp.len'
  obtain ⟨u1,u2,e,a1,a2,a3⟩:∃ u1 u2:V,∃ e:Int,PC 17 [.agg t.cs,.int .i64 n,vA,vp] (.tup [u1,.int .i64 e])∧PC 18 [.agg t.cs,.int .i64 n,vA,vp] (.tup [u2,.int .i64 e])∧PC 16 [u1,u2] (.bool true):=by
   rcases tyErr_cases t with ⟨e,he,hte⟩ | ⟨x,hx,hx1,hx2,hte⟩
   ·have c:=equalLists_q [] [] .nils .nils ListsV.nil ListsV.nil (by simp) (by simp)
    rw [decide_eq_true rfl] at c
    exact ⟨_,_,_,bads_pick ht hnn he hte hA hA n hp,(rbads ht hnn he hte hA hA n 0).2.2.2 hp,c⟩
   ·obtain ⟨u1,d1,q1⟩:=pick_q hA llA lA hp lp hx ht hx1 hx2 hn
    obtain ⟨u2,d2,r1⟩:=rpick_q hA llA lA hp lp hx ht hx1 hx2 hn
    have c:=equalLists_q _ _ u1 u2 q1 r1 (by split <;> simp [pickS_len] <;> omega) (fun y hy=>by
     split at hy
     ·simp only [pickS,List.mem_append,List.mem_map] at hy
      rcases hy with ⟨r,_,rfl⟩ | hy
      ·simp; omega
      ·have:=llA y (List.mem_of_mem_drop hy); omega
     ·simp at hy)
    rw [decide_eq_true rfl] at c
    exact ⟨_,_,_,d1,d2,c⟩
  obtain ⟨u3,u4,e3,a6,a7,a8⟩:∃ u1 u2:V,∃ e:Int,PC 19 [.agg t.cs,.int .i64 n,vA,.int .i64 m,vB] (.tup [u1,.int .i64 e])∧PC 20 [.agg t.cs,.int .i64 n,vA,.int .i64 m,vB] (.tup [u2,.int .i64 e])∧PC 16 [u1,u2] (.bool true):=by
   rcases tyErr_cases t with ⟨e,he,hte⟩ | ⟨x,hx,hx1,hx2,hte⟩
   ·have c:=equalLists_q [] [] .nils .nils ListsV.nil ListsV.nil (by simp) (by simp)
    rw [decide_eq_true rfl] at c
    exact ⟨_,_,_,bads_join ht hnn he hte hA hB n m,(rbads ht hnn he hte hA hB n m).2.2.1,c⟩
   ·obtain ⟨u1,d1,q1⟩:=join_q hA hB llA llB' lA lB hx ht hx1 hx2 hn hm
    obtain ⟨u2,d2,r1⟩:=rjoin_q hA hB llA llB lA lB hx ht hx1 hx2 hn hm
    have hb:=x.both_size
    by_cases h0:joinE x n A m B=0
    ·rw [if_pos h0] at q1 r1
     have eA:bldE x n A=0:=by
      by_cases h:bldE x n A=0
      ·exact h
      ·simp only [joinE] at h0; rw [if_neg h] at h0; exact absurd h0 h
     have eB:bldE x m B=0:=by simp only [joinE] at h0; rw [if_pos eA] at h0; exact h0
     obtain ⟨_,rA,_,_,_,_⟩:=bld_all eA
     obtain ⟨_,rB,_,_,_,_⟩:=bld_all eB
     have hjr:shS A B x 0 x.own (zipA A B)=(jn x (A.take x.own) (A.drop x.own) (B.take x.own) (B.drop x.own)).1++(jn x (A.take x.own) (A.drop x.own) (B.take x.own) (B.drop x.own)).2:=by
      obtain ⟨_,j1,j2⟩:=joinR_cut rA rB
      rw [← j1,← j2,List.take_append_drop]
     rw [hjr] at q1
     have hsl:=shS_len A B x 0 x.own (zipA A B)
     have c:=equalLists_q _ _ u1 u2 q1 r1 (by simp [(jn_len x _ _ _ _).1,(jn_len x _ _ _ _).2]; omega) (fun y hy=>by
      rw [← hjr] at hy
      obtain ⟨k,hk,rfl⟩:=List.mem_iff_getElem.1 hy
      have h2:=hsl.2 k
      rw [List.getD_eq_getElem?_getD,List.getElem?_eq_getElem hk] at h2
      have h3:((zipA A B).getD k []).length<2 ^ 40:=by
       rw [List.getD_eq_getElem?_getD]
       by_cases hkk:k<(zipA A B).length
       ·rw [List.getElem?_eq_getElem hkk]
        have hka:k<A.length:=by simp [zipA] at hkk; omega
        have hkb:k<B.length:=by simp [zipA] at hkk; omega
        have:=llA _ (List.getElem_mem hka)
        have:=llB' _ (List.getElem_mem hkb)
        simp [zipA]
        omega
       ·rw [List.getElem?_eq_none (by omega)]; simp
      simp only [Option.getD_some] at h2
      omega)
     rw [decide_eq_true rfl] at c
     exact ⟨_,_,_,d1,d2,c⟩
    ·rw [if_neg h0] at q1 r1
     have c:=equalLists_q [] [] u1 u2 q1 r1 (by simp) (by simp)
     rw [decide_eq_true rfl] at c
     exact ⟨_,_,_,d1,d2,c⟩
  rw [PC] at hh c1 c2 c3 c4 a1 a2 a3 a6 a7 a8
  refine call_ofQ (af:=Trnz.a4) rfl rfl fun Q hQ => ?_
  simp only [Trnz.a4]
  cases w1 with
  | true =>
   simp [ct,vac,vbc,c1,hh,slotOf,-pcall,-List.all_eq_true]
   exact hQ _ _ rfl
  | false =>
  cases w2 with
  | true =>
   simp [ct,vac,vbc,c1,c2,hh,slotOf,-pcall,-List.all_eq_true]
   exact hQ _ _ rfl
  | false =>
  cases f1 with
  | false =>
   simp [ct,vac,vbc,c1,c2,c3,hh,slotOf,-pcall,-List.all_eq_true]
   exact hQ _ _ rfl
  | true =>
  cases f2 with
  | false =>
   simp [ct,vac,vbc,c1,c2,c3,c4,hh,slotOf,-pcall,-List.all_eq_true]
   exact hQ _ _ rfl
  | true =>
   by_cases hg:1000<p.length
   ·have hg':(1000:Int)<p.length:=by omega
    simp [ct,vac,vbc,c1,c2,c3,c4,lvp,hg,hg',hh,slotOf,-pcall,-List.all_eq_true]
    exact hQ _ _ rfl
   ·have hg':¬ (1000:Int)<p.length:=by omega
    simp [ct,vac,vbc,c1,c2,c3,c4,lvp,hg,hg',a1,a2,a3,a6,a7,a8,hh,slotOf,-pcall,-List.all_eq_true]
    exact hQ _ _ rfl
 obtain ⟨r,h',e,rfl⟩:=OptP.ex key
 exact ⟨h',e⟩
end Go.Proofs.Nst
