/- A part of the law's proof: PartD. -/
import Derived.Test.YtloeagdggmolcabGreatDoorPartC
import Derived.Test.YtloeagdggmolcabGreatDoorFactsB
set_option linter.unusedVariables false
set_option linter.unusedSimpArgs false
set_option maxHeartbeats 1000000
namespace Go.Proofs.Mm
open Go Go.Am
def argV:Nat→V
 | 0 => .nils
 | k+1 => .sl 0 0 (k+1) (k+1) 3 false
def argH (ws:List Int):Nat→Heap
 | 0=>[]
 | k+1=>[.cells (k+1) 3 (((ws.take (k+1)).map wordT).map Tr.cs).flatten]
def argF (ws:List Int):V:=match ws with
 | [] => .nils
 | ws => .sv ((ws.map wordT).map Tr.cs) false
theorem argF_sl (ws:List Int):SlV ((ws.map wordT).map Tr.cs) (argF ws):=by
 cases ws with
 | nil=>exact .nil rfl
 | cons w ws=>exact SlV.sv false
theorem arg_app (ws:List Int) (k:Nat) (hk:k<ws.length) (hl:ws.length≤200):appV (argH ws k) (argV k) (.sv [[.int .i64 1,.int .i64 ws[k],.nils]] true) 3 40=some (argV (k+1),argH ws (k+1)):=by
 have ht:((ws.take (k+1)).map wordT).map Tr.cs=((ws.take k).map wordT).map Tr.cs++[[.int .i64 1,.int .i64 ws[k],.nils]]:=by
  rw [← List.take_append_getElem hk,List.map_append,List.map_append]; rfl
 cases k with
 | zero =>
  simp only [argH,argV,ht]
  simp [appV,sliceLen,sliceCells,room]
 | succ k =>
  have h:=appV_own (h:=argH ws (k+1)) (o:=0) (n:=k+1) (sz:=3) (bytes:=40) (k:=1) (y:=.sv [[.int .i64 1,.int .i64 ws[k+1],.nils]] true) (ys:=[.int .i64 1,.int .i64 ws[k+1],.nils]) rfl rfl rfl rfl (by simp only [room]; omega)
  rw [argV,h,argH,argH,ht]
  simp [argV]
theorem view_arg (ws:List Int):viewW 0 (argH ws ws.length) (.agg [.int .i64 4,.int .i64 0,argV ws.length])=some (.agg [.int .i64 4,.int .i64 0,argF ws]):=by
 cases ws with
 | nil=>rfl
 | cons w ws =>
  have hp:pureL (((w :: ws).map wordT).map Tr.cs).flatten=true:=by
   have:∀ l:List Int,pureL ((l.map wordT).map Tr.cs).flatten=true:=by
    intro l
    induction l with
    | nil=>rfl
    | cons x l ih=>simpa [pureL,pureV,wordT,Tr.cs] using ih
   exact this _
  have hch:=chunks3 ((w :: ws).map wordT)
  have ht:(w :: ws).take (ws.length+1)=w :: ws:=List.take_of_length_le (by simp)
  have hf:viewV 0 (argH (w :: ws) (ws.length+1)) (.sl 0 0 (ws.length+1) (ws.length+1) 3 false)=some (.sv (((w :: ws).map wordT).map Tr.cs) false):=by
   rw [argH,ht]
   rw [List.length_map,List.length_cons] at hch
   simp only [viewV,objCells,List.getElem?_cons_zero,hp,Nat.zero_le,true_and,and_true,Nat.zero_mul,Nat.zero_add,Nat.le_refl,if_true,List.drop_zero,hch]
  have hi:∀ (h:Heap) (n:Int),viewV 0 h (.int .i64 n)=some (.int .i64 n):=fun _ _=>by simp [viewV]
  have hw:∀ (h:Heap) (l:List V),viewW 0 h (.agg l)=((viewL 0 h l).map .agg).or (viewS 0 h (.agg l)):=fun _ _=>by simp [viewW,view1,viewV]
  rw [hw]
  simp only [List.length_cons,argV,argF,viewL,hi,hf,Option.map_some,Option.some_or]
theorem nwords_q (ws:List Int) (v:V) (hv:SlV (ws.map fun w=>[.int .i8 w]) v) (hw:∀ w∈ws,isWord w=true) (hl:ws.length≤60):PC 7 [v] (.agg [.int .i64 4,.int .i64 0,argF ws]):=by
 have hvc:=hv.cell
 have hlv:lenV v=some (.int .i64 ws.length):=by rw [hv.len]; simp
 refine pc_ofW (by simp [pureL,hv.pure]) (CallP.mono (Q:=fun r h'=>r = .ret (.agg [.int .i64 4,.int .i64 0,argV ws.length])∧h'=argH ws ws.length) ?_ fun r h' e=>⟨_,e.1,by rw [e.2]; exact view_arg ws⟩)
 refine call_ofQ (af:=Trmm.a7) rfl rfl fun Q hQ => ?_
 simp only [Trmm.a7]
 simp [slotOf,hvc,hlv,fill,mkV,-pcall]
 refine loop_nQ ws.length (fun k c=>∃ s3 fl,c=⟨[v,.agg [.int .i64 0,.int .i64 0,.nils],.agg [.int .i64 4,.int .i64 0,argV k],s3,v,.int .i64 ws.length,.int .i64 k],[],fl,none,argH ws k⟩) ?_ ⟨.undef,none,by simp [argV,argH]⟩
 rintro I hI k c hkl ⟨s3,fl,rfl⟩
 by_cases hlt:k<ws.length
 ·have hlt':(k:Int)<ws.length:=by omega
  have hi1:idxV v k 1=some (.pv [.int .i8 ws[k]]):=by rw [hv.idx]; simp [hlt]
  have hwk:=isWord_iff.1 (hw _ (List.getElem_mem hlt))
  have wc:IntKind.i64.wrap ws[k]=ws[k]:=wrap64 (by omega) (by omega)
  have hnum:=num_q ws[k]
  rw [PC] at hnum
  have happ:=arg_app ws k hlt (by omega)
  have avc:isCell (argV k)=true:=by cases k <;> rfl
  have avc2:isCell (argV (k+1))=true:=rfl
  have avs:=cellsV_cell avc2
  have w5:IntKind.i64.wrap ((k:Int)+1)=(k:Int)+1:=wrap64 (by omega) (by omega)
  have hch1:chunks 3 1 [.int .i64 1,.int .i64 ws[k],.nils]=[[.int .i64 1,.int .i64 ws[k],.nils]]:=rfl
  simp [slotOf,hlt',hi1,wc,hch1,hnum,happ,avc,avc2,avs,w5,fill,mkV,-pcall]
  exact ⟨hlt,hI _ _ ⟨.int .i8 ws[k],none,by simp⟩⟩
 ·obtain rfl:k=ws.length:=by omega
  have avc:isCell (argV ws.length)=true:=by cases ws <;> rfl
  have avs:=cellsV_cell avc
  simp [slotOf,avc,avs,mkV,-pcall]
  exact hQ _ _ ⟨rfl,rfl⟩
end Go.Proofs.Mm
set_option linter.unusedVariables false
set_option linter.unusedSimpArgs false
set_option maxHeartbeats 1000000
namespace Go.Proofs.Mm
open Go Go.Am
abbrev vC (n:Int):List V:=[.int .i64 0,.int .i64 n,.int .i64 0,.nils]
abbrev fstC:List V:=[.int .i64 9,.int .i64 0,.int .i64 0,.sv [vC 0] true]
abbrev sndC:List V:=[.int .i64 10,.int .i64 0,.int .i64 0,.sv [vC 0] true]
abbrev bothV:V:=.sv [fstC,sndC] true
abbrev nestCs:List V:=[.int .i64 25,.int .i64 0,.int .i64 0,bothV]
abbrev putCs:List V:=[.int .i64 26,.int .i64 0,.int .i64 0,bothV]
abbrev lenCs:List V:=[.int .i64 20,.int .i64 0,.int .i64 0,.sv [vC 1] true]
abbrev atCs:List V:=[.int .i64 21,.int .i64 0,.int .i64 0,.sv [putCs,vC 1] true]
abbrev progV (o n:Int) (l:V):V:=.sv [[.str nameF,.int .i64 0,.int .i64 o,.int .i64 n,.int .i64 0,l]] true
theorem check_of {a:V} {h:Heap} (ht:TE.ok gl Trmm.aprog ⟨19,[a],[],.ret (.int .i64 0),h⟩) (hp:pureL [a]=true):PC 19 [a] (.int .i64 0):=by
 simp only [TE.ok] at ht
 rw [PC,pcall]
 simp only [callee,List.nil_append,List.append_nil,hp,if_true,ht]
 rfl
theorem exok (l:List Ex) (o n:Int) (ho:0≤o∧o≤30) (hn:0≤n∧n≤30) (h:∀ x∈l,x.Ok):(mkE o n 0 l).Ok:=mkE_ok (by constructor <;> omega) (by constructor <;> omega) (by constructor <;> omega) h
theorem var_ok (n:Int) (hn:0≤n∧n≤30):(varE n).Ok:=exok [] 0 n (by omega) hn (by simp)
theorem both_ok:∀ x∈[fstE,sndE],x.Ok:=fun x hx=>by
 have hv:=var_ok 0 (by omega)
 simp only [List.mem_cons,List.not_mem_nil,or_false] at hx
 rcases hx with rfl | rfl <;> exact exok _ _ _ (by omega) (by omega) (by simpa using hv)
theorem nestA_ok:nestA.Ok:=exok _ _ _ (by omega) (by omega) fun x hx=>by
 rw [List.mem_singleton.1 hx]
 exact exok _ _ _ (by omega) (by omega) both_ok
theorem nestB_ok:nestB.Ok:=exok _ _ _ (by omega) (by omega) fun x hx=>by
 simp only [List.mem_cons,List.not_mem_nil,or_false] at hx
 rcases hx with rfl | rfl
 ·exact exok _ _ _ (by omega) (by omega) both_ok
 ·exact exok _ _ _ (by omega) (by omega) fun x hx=>by
   rw [List.mem_singleton.1 hx]
   exact var_ok 1 (by omega)
theorem nestC_ok:nestC.Ok:=exok _ _ _ (by omega) (by omega) fun x hx=>by
 simp only [List.mem_cons,List.not_mem_nil,or_false] at hx
 rcases hx with rfl | rfl
 ·exact both_ok _ (by simp)
 ·refine exok _ _ _ (by omega) (by omega) fun x hx => ?_
  simp only [List.mem_cons,List.not_mem_nil,or_false] at hx
  rcases hx with rfl | rfl
  ·exact exok _ _ _ (by omega) (by omega) both_ok
  ·exact var_ok 1 (by omega)
theorem prgA:Prg (oneFn nestA) (.sv ((oneFn nestA).map Fn.cs) true) 0:=one_prg (SlV.sv true) nestA_ok (by decide) pgA_ok (check_of MmF2.k1 rfl)
theorem prgB:Prg (oneFn nestB) (.sv ((oneFn nestB).map Fn.cs) true) 0:=one_prg (SlV.sv true) nestB_ok (by decide) pgB2_ok (check_of MmF2.k2 rfl)
theorem prgC:Prg (oneFn nestC) (.sv ((oneFn nestC).map Fn.cs) true) 0:=one_prg (SlV.sv true) nestC_ok (by decide) pgC_ok (check_of MmF2.k3 rfl)
def Out (args:List V) (e:Int) (good:Prop) (ys:List Int):Prop:=∃ k m s:Int,∃ u:V,PC 11 args (.tup [.agg [.int .i64 k,.int .i64 m,u],.int .i64 s,.int .i64 e])∧isCell u=true ∧
 (good→PC 13 [.agg [.int .i64 k,.int .i64 m,u],.agg [.int .i64 4,.int .i64 0,argF ys]] (.bool true))
theorem out_ok {args:List V} {r:Res Val} {ys zs:List Int} {s':St} (h:RunP 11 args r) (e:r = .ok (seqV (nums zs)) s') (good:Prop) (hg:good→zs=ys) (hy:∀ w∈ys,isWord w=true) (hl:ys.length≤60):Out args 0 good ys:=by
 rw [e] at h
 obtain ⟨tr,p,o,k⟩:=h
 cases tr with
 | mk a b v l =>
  have hc:=cells_tr o
  refine ⟨a,b,_,v,p,by simpa [Tr.cs,isCell] using hc,fun g => ?_⟩
  have hy2:=words_ok (argF_sl ys) hy
  have hs:(Tr.mk a b v l).sk=(wordsT (argF ys) ys).sk:=by
   rw [k,hg g,wordsT,Tr.sk_mk,seqV,Val.sk_many,List.map_map,nums,List.map_map]
   congr 1
   exact List.map_congr_left fun w _=>by simp [Val.sk,wordT,Tr.sk_mk]
  have hn:(wordsT (argF ys) ys).nodes<2 ^ 60:=by
   rw [wordsT,Tr.nodes,nodes_words]
   omega
  have hnn:(Tr.mk a b v l).nodes=(wordsT (argF ys) ys).nodes:=nodes_sk _ _ hs
  exact same_q _ _ o hy2 (by rw [hnn]; exact hn) hs
theorem out_err {args:List V} {r:Res Val} {ys:List Int} {e:Int} {i:Nat} (h:RunP 11 args r) (he:r = .err e i) (h0:e≠0):Out args e False ys:=by
 rw [he] at h
 exact ⟨0,0,0,.nils,h h0,rfl,fun h=>h.elim⟩
abbrev argC (xs ks:List Int):List V:=[.int .i64 2,.int .i64 0,.sv [[.int .i64 4,.int .i64 0,argF xs],[.int .i64 4,.int .i64 0,argF ks]] true]
def argT (xs ks:List Int):Tr:=pairT (.sv [[.int .i64 4,.int .i64 0,argF xs],[.int .i64 4,.int .i64 0,argF ks]] true) (argF xs) (argF ks) xs ks
section
variable {xs ks:List Int} (hx:∀ w∈xs,isWord w=true) (hk:∀ w∈ks,isWord w=true) (lx:xs.length≤60) (lk:ks.length≤60)
include hx hk lx lk
theorem arg_ok {nf:Nat}:Arg nf (argT xs ks):=pair_arg (argF_sl xs) (argF_sl ks) (SlV.sv true) hx hk lx lk
theorem outA:∃ e,Out [.agg [progV 24 0 (.sv [nestCs] true),.int .i64 0],.agg (argC xs ks),.int .i64 1000] e (Fits ks xs.length) xs∧(Fits ks xs.length→e=0)∧(¬ Fits ks xs.length→e=14):=by
 have h:=Run_p (fuel:=1000) (f:=0) prgA (arg_ok (nf:=1) hx hk lx lk) (by decide) (by omega)
 rw [argT,ofTr_pair] at h
 by_cases hf:Fits ks xs.length
 ·obtain ⟨s',e,_⟩:=runA (xs:=xs) (ks:=ks) lx hf
  exact ⟨0,out_ok h e _ (fun _=>rfl) hx lx,fun _=>rfl,fun h=>absurd hf h⟩
 ·obtain ⟨i,e⟩:=runA_err (xs:=xs) (ks:=ks) hf
  obtain ⟨k,m,s,u,a,b,c⟩:=out_err (ys:=xs) h e (by decide)
  exact ⟨14,⟨k,m,s,u,a,b,fun h=>absurd h hf⟩,fun h=>absurd h hf,fun _=>rfl⟩
theorem outB:∃ e,Out [.agg [progV 17 1 (.sv [nestCs,lenCs] true),.int .i64 0],.agg (argC xs ks),.int .i64 1000] e (Fits ks xs.length) ks∧(Fits ks xs.length→e=0)∧(¬ Fits ks xs.length→e=14):=by
 have h:=Run_p (fuel:=1000) (f:=0) prgB (arg_ok (nf:=1) hx hk lx lk) (by decide) (by omega)
 rw [argT,ofTr_pair] at h
 by_cases hf:Fits ks xs.length
 ·obtain ⟨s',e⟩:=runB (xs:=xs) (ks:=ks) lx lk hf
  exact ⟨0,out_ok h e _ (fun _=>rfl) hk lk,fun _=>rfl,fun h=>absurd hf h⟩
 ·obtain ⟨i,e⟩:=runB_err (xs:=xs) (ks:=ks) hf
  obtain ⟨k,m,s,u,a,b,c⟩:=out_err (ys:=ks) h e (by decide)
  exact ⟨14,⟨k,m,s,u,a,b,fun h=>absurd h hf⟩,fun h=>absurd h hf,fun _=>rfl⟩
theorem outC:∃ e,Out [.agg [progV 17 1 (.sv [sndC,atCs] true),.int .i64 0],.agg (argC xs ks),.int .i64 100000] e (ks.length=xs.length∧Perm1 ks xs.length) xs∧((ks.length=xs.length∧Perm1 ks xs.length)→e=0)∧(¬ (ks.length=xs.length∧Perm1 ks xs.length)→ks≠[]→e=14)∧(¬ (ks.length=xs.length∧Perm1 ks xs.length)→ks=[]→e=0):=by
 have h:=Run_p (fuel:=100000) (f:=0) prgC (arg_ok (nf:=1) hx hk lx lk) (by decide) (by omega)
 rw [argT,ofTr_pair] at h
 by_cases hf:ks.length=xs.length∧Perm1 ks xs.length
 ·obtain ⟨s',e⟩:=runC (xs:=xs) (ks:=ks) lx hf.1 hf.2
  exact ⟨0,out_ok h e _ (fun _=>rfl) hx lx,fun _=>rfl,fun h=>absurd hf h,fun h=>absurd hf h⟩
 ·by_cases h0:ks=[]
  ·subst h0
   obtain ⟨s',e⟩:=runC_nil (xs:=xs)
   exact ⟨0,out_ok (zs:=[]) h e _ (fun h=>absurd h hf) hx lx,fun h=>absurd h hf,fun _ h=>absurd rfl h,fun _ _=>rfl⟩
  ·obtain ⟨i,e⟩:=runC_err (xs:=xs) (ks:=ks) h0 hf
   obtain ⟨k,m,s,u,a,b,c⟩:=out_err (ys:=xs) h e (by decide)
   exact ⟨14,⟨k,m,s,u,a,b,fun h=>absurd h hf⟩,fun h=>absurd h hf,fun _ _=>rfl,fun _ h=>absurd h h0⟩
end
def belowB (ks:List Int) (i:Nat):Bool:=(ks.take i).any fun k=>decide (k<0)
theorem below_succ {ks:List Int} {i:Nat} (h:i<ks.length):belowB ks (i+1)=(belowB ks i||decide (ks[i]<0)):=by
 rw [belowB,← List.take_append_getElem h,List.any_append]
 simp [belowB]
def allF (ks:List Int) (n:Nat):Nat→Bool
 | 0=>(ks.length:Int) == (n:Int)
 | i+1=>allF ks n i&&decide (0≤ks.getD i 0)&&decide (ks.getD i 0<n) && !decide (ks.getD i 0∈seenL ks i)
theorem allF_iff {ks:List Int} {n:Nat}:∀ i,i≤ks.length→(allF ks n i=true↔allB ks n i)
 | 0,_=>by
  rw [allB_zero]
  simp only [allF,beq_iff_eq]
  omega
 | i+1,h=>by
  have hlt:i<ks.length:=by omega
  rw [allB_succ hlt,← allF_iff i (by omega)]
  have e:ks.getD i 0=ks[i]:=by rw [List.getD_eq_getElem?_getD,List.getElem?_eq_getElem hlt]; rfl
  simp only [allF,e,Bool.and_eq_true,decide_eq_true_eq,Bool.not_eq_true',decide_eq_false_iff_not,and_assoc]
theorem fits_iff {ks:List Int} {n:Nat}:(ks.sum=n∧belowB ks ks.length=false)↔Fits ks n:=by
 simp only [Fits,belowB,List.take_length,List.any_eq_false,decide_eq_true_eq,Int.not_lt]
 exact ⟨fun h=>⟨h.2,h.1⟩,fun h=>⟨h.2,h.1⟩⟩
end Go.Proofs.Mm
set_option linter.unusedVariables false
set_option linter.unusedSimpArgs false
set_option maxHeartbeats 4000000
namespace Go.Proofs.Mm
open Go Go.Am
theorem nsum_bound:∀ {l:List Int},(∀ w∈l,-128≤w∧w≤127) → -128 * (l.length:Int)≤l.sum∧l.sum≤127 * (l.length:Int)
 | [],_=>by simp
 | w :: l,h=>by
  have h1:=h w (by simp)
  have h2:=nsum_bound (l:=l) fun x hx=>h x (by simp [hx])
  simp only [List.sum_cons,List.length_cons]
  omega
def nestLoop:ACode:=match Trmm.a3.body with
 | .seq _ (.seq _ (.seq _ (.seq _ (.seq _ (.seq _ (.seq _ (.seq _ (.seq _ (.seq _ (.seq _ (.seq _ (.seq _ (.seq _ (.seq _ (.seq _ (.seq (.seq _ (.block _ (.loop b))) _))))))))))))))))=>b
 | _ => .skip
theorem law_nests (xs ks:List Int) (v1 v2:V) (h1:SlV (xs.map fun w=>[.int .i8 w]) v1) (h2:SlV (ks.map fun w=>[.int .i8 w]) v2) (hx8:∀ w∈xs,-128≤w∧w≤127) (hk8:∀ w∈ks,-128≤w∧w≤127) (hl1:xs.length<2 ^ 60) (hl2:ks.length<2 ^ 60) :
  ∃ h',(lim gl Trmm.aprog).call 3 [v1,v2] []=some (.ret (.bool true),h'):=by
 have key:CallP gl Trmm.aprog 3 [v1,v2] [] (fun r h'=>r = .ret (.bool true)):=by
  have haw:=awake_q
  rw [PC] at haw
  have hvc1:=h1.cell
  have hvc2:=h2.cell
  have hlv1:lenV v1=some (.int .i64 xs.length):=by rw [h1.len]; simp
  have hlv2:lenV v2=some (.int .i64 ks.length):=by rw [h2.len]; simp
  by_cases g1:60<xs.length
  ·have k1:(60:Int)<xs.length:=by omega
   refine call_ofQ (af:=Trmm.a3) rfl rfl fun Q hQ => ?_
   simp only [Trmm.a3]
   simp [slotOf,hvc1,hvc2,hlv1,hlv2,k1,haw,mkV,-pcall]
   exact hQ _ _ rfl
  by_cases g2:60<ks.length
  ·have k1:¬ (60:Int)<xs.length:=by omega
   have k2:(60:Int)<ks.length:=by omega
   refine call_ofQ (af:=Trmm.a3) rfl rfl fun Q hQ => ?_
   simp only [Trmm.a3]
   simp [slotOf,hvc1,hvc2,hlv1,hlv2,k1,k2,haw,mkV,-pcall]
   exact hQ _ _ rfl
  have k1:¬ (60:Int)<xs.length:=by omega
  have k2:¬ (60:Int)<ks.length:=by omega
  have lx:xs.length≤60:=by omega
  have lk:ks.length≤60:=by omega
  have w8:∀ l:List Int,(∀ w∈l,-128≤w∧w≤127)→∀ w∈l,isWord w=true:=fun l h w hw=>isWord_iff.2 (by have:=h w hw; omega)
  have hx:=w8 xs hx8
  have hk:=w8 ks hk8
  obtain ⟨eA,⟨kA,mA,sA,uA,pA,cA,gA⟩,eA0,eA1⟩:=outA hx hk lx lk
  obtain ⟨eB,⟨kB,mB,sB,uB,pB,cB,gB⟩,eB0,eB1⟩:=outB hx hk lx lk
  obtain ⟨eC,⟨kC,mC,sC,uC,pC,cC,gC⟩,eC0,eC1,eC2⟩:=outC hx hk lx lk
  have q1:=nwords_q xs v1 h1 hx lx
  have q2:=nwords_q ks v2 h2 hk lk
  have x0:=var_q 0
  have x1:=var_q 1
  have x2:=exp_q 9 0 (.sv [vC 0] true) rfl rfl
  have x3:=exp_q 10 0 (.sv [vC 0] true) rfl rfl
  have x4:=exp_q 25 0 bothV rfl rfl
  have x5:=exp_q 24 0 (.sv [nestCs] true) rfl rfl
  have x6:=prog_q 24 0 0 (.sv [nestCs] true) rfl rfl
  have x7:=exp_q 20 0 (.sv [vC 1] true) rfl rfl
  have x8:=exp_q 17 1 (.sv [nestCs,lenCs] true) rfl rfl
  have x9:=prog_q 17 1 0 (.sv [nestCs,lenCs] true) rfl rfl
  have y1:=exp_q 26 0 bothV rfl rfl
  have y2:=exp_q 21 0 (.sv [putCs,vC 1] true) rfl rfl
  have y3:=exp_q 17 1 (.sv [sndC,atCs] true) rfl rfl
  have y4:=prog_q 17 1 0 (.sv [sndC,atCs] true) rfl rfl
  rw [PC] at q1 q2 x0 x1 x2 x3 x4 x5 x6 x7 x8 x9 y1 y2 y3 y4 pA pB pC
  have ax:=(argF_sl xs).cell
  have ak:=(argF_sl ks).cell
  have bx:=(argF_sl xs).pure
  have bk:=(argF_sl ks).pure
  have hi0:idxV (.sv [[.int .i64 4,.int .i64 0,argF xs],[.int .i64 4,.int .i64 0,argF ks]] true) 0 3=some (.pv [.int .i64 4,.int .i64 0,argF xs]):=rfl
  have hi1:idxV (.sv [[.int .i64 4,.int .i64 0,argF xs],[.int .i64 4,.int .i64 0,argF ks]] true) 1 3=some (.pv [.int .i64 4,.int .i64 0,argF ks]):=rfl
  have hi2:idxV bothV 1 4=some (.pv sndC):=rfl
  have c3:chunks 3 2 [.int .i64 4,.int .i64 0,argF xs,.int .i64 4,.int .i64 0,argF ks]=[[.int .i64 4,.int .i64 0,argF xs],[.int .i64 4,.int .i64 0,argF ks]]:=rfl
  unfold argC at pA pB pC
  generalize argF xs=fx at *
  generalize argF ks=fk at *
  refine call_ofQ (af:=Trmm.a3) rfl rfl fun Q hQ => ?_
  simp only [Trmm.a3]
  simp [slotOf,hvc1,hvc2,hlv1,hlv2,k1,k2,q1,q2,x0,x1,x2,x3,x4,x5,x6,x7,x8,x9,pA,pB,cA,cB,ax,ak,bx,bk,c3,chunks,fill,mkV,-pcall]
  refine loop_nQ ks.length (fun i c=>∃ s13 fl,c=⟨[v1,v2,.bool false,.func (.func 7) [] [],.agg [.int .i64 2,.int .i64 0,.sv [[.int .i64 4,.int .i64 0,fx],[.int .i64 4,.int .i64 0,fk]] true],bothV,.agg nestCs,.agg [.int .i64 kA,.int .i64 mA,uA],.int .i64 eA,.agg [.int .i64 kB,.int .i64 mB,uB],.int .i64 eB,.int .i64 (ks.take i).sum,.bool (belowB ks i),s13,.undef,.undef,.undef,.undef,.undef,.undef,.undef,v2,.int .i64 ks.length,.int .i64 i,.undef,.undef,.undef],[],fl,none,[]⟩) ?_ ⟨.undef,none,by simp [belowB]⟩
  rintro I hI i c hi ⟨s13,fl,rfl⟩
  by_cases hlt:i<ks.length
  ·have hlt':(i:Int)<ks.length:=by omega
   have hix:idxV v2 i 1=some (.pv [.int .i8 ks[i]]):=by rw [h2.idx]; simp [hlt]
   have hwk:=hk8 _ (List.getElem_mem hlt)
   have wc:IntKind.i64.wrap ks[i]=ks[i]:=wrap64 (by omega) (by omega)
   have hst:=sum_take_succ hlt
   have hsb:=nsum_bound (l:=ks.take (i+1)) fun w hw=>hk8 w (List.mem_of_mem_take hw)
   rw [List.length_take] at hsb
   have ws:IntKind.i64.wrap ((ks.take i).sum+ks[i])=(ks.take (i+1)).sum:=by rw [← hst]; exact wrap64 (by omega) (by omega)
   have w5:IntKind.i64.wrap ((i:Int)+1)=(i:Int)+1:=wrap64 (by omega) (by omega)
   have hbs:=below_succ hlt
   generalize ks[i]=z at *
   generalize (ks.take i).sum=S0 at *
   generalize hS1:(ks.take (i+1)).sum=S1 at *
   cases hb:belowB ks i
   ·by_cases hz:z<0
    ·have e1:belowB ks (i+1)=true:=by rw [hbs]; simp [hz]
     simp [slotOf,hlt',hix,wc,ws,w5,hb,hz,mkV,-pcall]
     exact ⟨hlt,hI _ _ ⟨.int .i8 z,none,by simp [e1,hS1]⟩⟩
    ·have e1:belowB ks (i+1)=false:=by rw [hbs]; simp [hz,hb]
     simp [slotOf,hlt',hix,wc,ws,w5,hb,hz,mkV,-pcall]
     exact ⟨hlt,hI _ _ ⟨.int .i8 z,none,by simp [e1,hS1]⟩⟩
   ·have e1:belowB ks (i+1)=true:=by rw [hbs]; simp [hb]
    simp [slotOf,hlt',hix,wc,ws,w5,hb,mkV,-pcall]
    exact ⟨hlt,hI _ _ ⟨.int .i8 z,none,by simp [e1,hS1]⟩⟩
  obtain rfl:i=ks.length:=by omega
  clear hI
  rw [List.take_length]
  have loop2:∀ (s7 s8 s9 s10 s11 s12 s13 s14:V) fl,OptP ((lim gl Trmm.aprog).loop nestLoop ⟨[v1,v2,.bool false,.func (.func 7) [] [],.agg [.int .i64 2,.int .i64 0,.sv [[.int .i64 4,.int .i64 0,fx],[.int .i64 4,.int .i64 0,fk]] true],bothV,.agg nestCs,s7,s8,s9,s10,s11,s12,s13,s14,.agg putCs,.agg [.int .i64 kC,.int .i64 mC,uC],.int .i64 eC,.map 0,.bool ((ks.length:Int) == (xs.length:Int)),.undef,v2,.int .i64 ks.length,.int .i64 ks.length,v2,.int .i64 ks.length,.int .i64 0],[],fl,none,[.map []]⟩)
    (fun o c=>∃ s20 fl,o = .exit 2∧c=⟨[v1,v2,.bool false,.func (.func 7) [] [],.agg [.int .i64 2,.int .i64 0,.sv [[.int .i64 4,.int .i64 0,fx],[.int .i64 4,.int .i64 0,fk]] true],bothV,.agg nestCs,s7,s8,s9,s10,s11,s12,s13,s14,.agg putCs,.agg [.int .i64 kC,.int .i64 mC,uC],.int .i64 eC,.map 0,.bool (allF ks xs.length ks.length),s20,v2,.int .i64 ks.length,.int .i64 ks.length,v2,.int .i64 ks.length,.int .i64 ks.length],[],fl,none,[.map (seenE (seenL ks ks.length))]⟩):=by
   intro s7 s8 s9 s10 s11 s12 s13 s14 fl
   refine loop_nQ ks.length (fun i c=>∃ s20 fl,c=⟨[v1,v2,.bool false,.func (.func 7) [] [],.agg [.int .i64 2,.int .i64 0,.sv [[.int .i64 4,.int .i64 0,fx],[.int .i64 4,.int .i64 0,fk]] true],bothV,.agg nestCs,s7,s8,s9,s10,s11,s12,s13,s14,.agg putCs,.agg [.int .i64 kC,.int .i64 mC,uC],.int .i64 eC,.map 0,.bool (allF ks xs.length i),s20,v2,.int .i64 ks.length,.int .i64 ks.length,v2,.int .i64 ks.length,.int .i64 i],[],fl,none,[.map (seenE (seenL ks i))]⟩) ?_ ⟨.undef,fl,by simp [allF,seenL,seenE]⟩
   simp only [nestLoop,Trmm.a3]
   rintro I hI i c hi ⟨s20,fl,rfl⟩
   by_cases hlt:i<ks.length
   ·have hlt':(i:Int)<ks.length:=by omega
    have hix:idxV v2 i 1=some (.pv [.int .i8 ks[i]]):=by rw [h2.idx]; simp [hlt]
    have hwk:=hk8 _ (List.getElem_mem hlt)
    have wc:IntKind.i64.wrap ks[i]=ks[i]:=wrap64 (by omega) (by omega)
    have w5:IntKind.i64.wrap ((i:Int)+1)=(i:Int)+1:=wrap64 (by omega) (by omega)
    have hm0:([.map (seenE (seenL ks i))]:Heap)[0]?=some (.map (seenE (seenL ks i))):=rfl
    have hlk:=look_seen hm0 ks[i]
    have hse:=set_seen hm0 ks[i]
    rw [seen_succ hlt] at hse
    simp only [List.set_cons_zero] at hse
    have hg:ks.getD i 0=ks[i]:=by rw [List.getD_eq_getElem?_getD,List.getElem?_eq_getElem hlt]; rfl
    have hal:allF ks xs.length (i+1)=(allF ks xs.length i&&decide (0≤ks[i])&&decide (ks[i]<xs.length) && !decide (ks[i]∈seenL ks i)):=by simp only [allF,hg]
    generalize ks[i]=z at *
    generalize seenE (seenL ks i)=E0 at *
    have hI2:=fun s20 fl=>hI (i+1) _ ⟨s20,fl,rfl⟩
    generalize seenE (seenL ks (i+1))=E1 at *
    rw [hal] at hI2
    cases hA:allF ks xs.length i
    ·rw [hA] at hI2
     simp only [Bool.false_and] at hI2
     simp [slotOf,hlt',hix,hse,w5,mkV,-pcall]
     exact ⟨hlt,hI2 _ _⟩
    ·rw [hA] at hI2
     by_cases z0:0≤z
     ·by_cases z1:z<xs.length
      ·by_cases z2:z∈seenL ks i
       ·simp only [z0,z1,z2,decide_true,Bool.not_true,Bool.and_false] at hI2
        simp only [z2,decide_true] at hlk
        simp [slotOf,hlt',hix,hlk,hse,wc,hlv1,z0,z1,w5,mkV,-pcall]
        exact ⟨hlt,hI2 _ _⟩
       ·simp only [z0,z1,z2,decide_true,decide_false,Bool.not_false,Bool.and_true] at hI2
        simp only [z2,decide_false] at hlk
        simp [slotOf,hlt',hix,hlk,hse,wc,hlv1,z0,z1,w5,mkV,-pcall]
        exact ⟨hlt,hI2 _ _⟩
      ·simp only [z0,z1,decide_true,decide_false,Bool.and_false,Bool.false_and] at hI2
       simp [slotOf,hlt',hix,hse,wc,hlv1,z0,z1,w5,mkV,-pcall]
       exact ⟨hlt,hI2 _ _⟩
     ·simp only [z0,decide_false,Bool.and_false,Bool.false_and] at hI2
      simp [slotOf,hlt',hix,hse,z0,w5,mkV,-pcall]
      exact ⟨hlt,hI2 _ _⟩
   ·obtain rfl:i=ks.length:=by omega
    simp [slotOf]
  have hal:=allF_iff (ks:=ks) (n:=xs.length) ks.length (Nat.le_refl _)
  rw [allB_len] at hal
  have hfx:=fits_iff (ks:=ks) (n:=xs.length)
  have hend:(allF ks xs.length ks.length=true∧eC=0∧pcall (lim gl Trmm.aprog) (.func (.func 13) [] []) [.agg [.int .i64 kC,.int .i64 mC,uC],.agg [.int .i64 4,.int .i64 0,fx]]=some (.val (.bool true))) ∨
    (allF ks xs.length ks.length=false∧eC=14)∨(allF ks xs.length ks.length=false∧eC=0∧ks.length=0):=by
   cases hA:allF ks xs.length ks.length
   ·right
    have hn:¬ (ks.length=xs.length∧Perm1 ks xs.length):=fun h=>by rw [hal.2 h] at hA; cases hA
    by_cases h0:ks=[]
    ·exact .inr ⟨rfl,eC2 hn h0,by rw [h0]; rfl⟩
    ·exact .inl ⟨rfl,eC1 hn h0⟩
   ·have hy:=hal.1 hA
    have:=gC hy
    rw [PC] at this
    exact .inl ⟨rfl,eC0 hy,this⟩
  cases hb:belowB ks ks.length
  ·by_cases hsum:ks.sum=xs.length
   ·have hf:=hfx.1 ⟨hsum,hb⟩
    obtain rfl:=eA0 hf
    obtain rfl:=eB0 hf
    have gA':=gA hf
    have gB':=gB hf
    rw [PC] at gA' gB'
    simp [slotOf,hsum,hb,hlv1,hlv2,hvc1,hvc2,gA',gB',hi0,hi1,hi2,x0,x1,x2,x3,x4,y1,y2,y3,y4,pC,cA,cB,cC,ax,ak,bx,bk,chunks,fill,mkV,-pcall]
    refine OptP.mono (loop2 _ _ _ _ _ _ _ _ _) ?_
    rintro o c ⟨s20,fl,rfl,rfl⟩
    rcases hend with ⟨hA,hC,gC'⟩ | ⟨hA,hC⟩ | ⟨hA,hC,h0⟩
    ·subst hC
     simp [slotOf,hA,gC',hi0,haw,cC,ax,ak,mkV,-pcall]
     exact hQ _ _ rfl
    ·subst hC
     simp [slotOf,hA,haw,mkV,-pcall]
     exact hQ _ _ rfl
    ·subst hC
     rw [h0] at hA
     simp [slotOf,hA,h0,hlv2,haw,mkV,-pcall]
     exact hQ _ _ rfl
   ·have hf:¬ Fits ks xs.length:=fun h=>hsum (hfx.2 h).1
    have hs0:(ks.sum == (xs.length:Int))=false:=by simpa using hsum
    obtain rfl:=eA1 hf
    obtain rfl:=eB1 hf
    simp [slotOf,hs0,hb,hlv1,hlv2,hvc1,hvc2,hi0,hi1,hi2,x0,x1,x2,x3,x4,y1,y2,y3,y4,pC,cA,cB,cC,ax,ak,bx,bk,chunks,fill,mkV,-pcall]
    refine OptP.mono (loop2 _ _ _ _ _ _ _ _ _) ?_
    rintro o c ⟨s20,fl,rfl,rfl⟩
    rcases hend with ⟨hA,hC,gC'⟩ | ⟨hA,hC⟩ | ⟨hA,hC,h0⟩
    ·subst hC
     simp [slotOf,hA,gC',hi0,haw,cC,ax,ak,mkV,-pcall]
     exact hQ _ _ rfl
    ·subst hC
     simp [slotOf,hA,haw,mkV,-pcall]
     exact hQ _ _ rfl
    ·subst hC
     rw [h0] at hA
     simp [slotOf,hA,h0,hlv2,haw,mkV,-pcall]
     exact hQ _ _ rfl
  ·have hf:¬ Fits ks xs.length:=fun h=>by rw [hb] at hfx; exact absurd (hfx.2 h).2 (by simp)
   obtain rfl:=eA1 hf
   obtain rfl:=eB1 hf
   by_cases hsum:ks.sum=xs.length
   ·skip
    simp [slotOf,hsum,hb,hlv1,hlv2,hvc1,hvc2,hi0,hi1,hi2,x0,x1,x2,x3,x4,y1,y2,y3,y4,pC,cA,cB,cC,ax,ak,bx,bk,chunks,fill,mkV,-pcall]
    refine OptP.mono (loop2 _ _ _ _ _ _ _ _ _) ?_
    rintro o c ⟨s20,fl,rfl,rfl⟩
    rcases hend with ⟨hA,hC,gC'⟩ | ⟨hA,hC⟩ | ⟨hA,hC,h0⟩
    ·subst hC
     simp [slotOf,hA,gC',hi0,haw,cC,ax,ak,mkV,-pcall]
     exact hQ _ _ rfl
    ·subst hC
     simp [slotOf,hA,haw,mkV,-pcall]
     exact hQ _ _ rfl
    ·subst hC
     rw [h0] at hA
     simp [slotOf,hA,h0,hlv2,haw,mkV,-pcall]
     exact hQ _ _ rfl
   ·have hs0:(ks.sum == (xs.length:Int))=false:=by simpa using hsum
    simp [slotOf,hs0,hb,hlv1,hlv2,hvc1,hvc2,hi0,hi1,hi2,x0,x1,x2,x3,x4,y1,y2,y3,y4,pC,cA,cB,cC,ax,ak,bx,bk,chunks,fill,mkV,-pcall]
    refine OptP.mono (loop2 _ _ _ _ _ _ _ _ _) ?_
    rintro o c ⟨s20,fl,rfl,rfl⟩
    rcases hend with ⟨hA,hC,gC'⟩ | ⟨hA,hC⟩ | ⟨hA,hC,h0⟩
    ·subst hC
     simp [slotOf,hA,gC',hi0,haw,cC,ax,ak,mkV,-pcall]
     exact hQ _ _ rfl
    ·subst hC
     simp [slotOf,hA,haw,mkV,-pcall]
     exact hQ _ _ rfl
    ·subst hC
     rw [h0] at hA
     simp [slotOf,hA,h0,hlv2,haw,mkV,-pcall]
     exact hQ _ _ rfl
 obtain ⟨r,h',e,rfl⟩:=OptP.ex key
 exact ⟨h',e⟩
end Go.Proofs.Mm
