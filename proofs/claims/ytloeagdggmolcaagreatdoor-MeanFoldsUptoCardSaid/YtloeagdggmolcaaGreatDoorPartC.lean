/- A part of the law's proof: PartC. -/
import Derived.Test.YtloeagdggmolcaaGreatDoorPartB
import Derived.Test.YtloeagdggmolcaaGreatDoorFacts
set_option linter.unusedVariables false
set_option linter.unusedSimpArgs false
namespace Go.Proofs.Mn
open Go Go.Am
abbrev clo61 (a:Nat):V:=.func (.func 115) [] [.ref a 0 1]
def Tr.fits (d:Nat) (t:Tr):Bool:=decide (t.levels≤d)&&t.allNum
theorem Tr.levelsL_le {l:List Tr} {d:Nat}:levelsL l≤d↔∀ u∈l,u.levels≤d:=by
 induction l with
 | nil=>simp [levelsL]
 | cons u us ih =>
  simp only [levelsL,List.mem_cons,forall_eq_or_imp,← ih]
  omega
theorem Tr.fits_iff {k n:Int} {v:V} {l:List Tr} {d:Nat}:(Tr.mk k n v l).fits d=true↔0<d∧numOk k n l.length=true∧∀ u∈l,u.fits (d - 1)=true:=by
 simp only [fits,Bool.and_eq_true,decide_eq_true_eq]
 simp only [levels,allNum,Bool.and_eq_true,allNumL_iff]
 constructor
 ·rintro ⟨h1,h2,h3⟩
  refine ⟨by omega,h2,fun u hu=>⟨?_,h3 u hu⟩⟩
  have:=levelsL_mem hu
  omega
 ·rintro ⟨h1,h2,h3⟩
  have:=levelsL_le.2 fun u hu=>(h3 u hu).1
  exact ⟨by omega,h2,fun u hu=>(h3 u hu).2⟩
theorem v64_q (u:Tr) (ho:u.Ok) (d:Nat) (hd:d<2 ^ 60) (hd0:0<d) (H:Heap) (a e:Nat) (ha:H[a]?=some (.cells 1 1 [clo61 a])) (he:H[e]?=some (.cells 1 1 [.int .i64 d]))
  (ih:∀ (h:Heap),h[a]?=some (.cells 1 1 [clo61 a])→∃ X,CC 115 [.agg u.cs,.int .i64 (d - 1:Nat),.ref a 0 1] h (.ret (.bool (u.fits (d - 1)))) (h++X)) :
  ∃ X,CC 118 [.agg u.cs,.ref a 0 1,.ref e 0 1] H (.ret (.bool (!u.fits (d - 1)))) (H++X):=by
 obtain ⟨X,hc⟩:=ih H ha
 have hdi:((d - 1:Nat):Int)=(d:Int) - 1:=by omega
 rw [hdi] at hc
 have oa:=vo_of ha
 have oe:=vo_of he
 have hcc:=cells_tr ho
 have hw:IntKind.i64.wrap ((d:Int) - 1)=(d:Int) - 1:=wrap64 (by omega) (by omega)
 refine ⟨X,CallP.eq (call_ofQ (af:=Trmn.a118) rfl rfl fun Q hQ => ?_)⟩
 simp only [Trmn.a118]
 simp [hcc,oa,oe,hw,hc,slotOf,-List.all_eq_true]
 exact hQ _ _ ⟨rfl,rfl⟩
theorem v86_q (l:List Tr) (v:V) (hv:SlV (l.map Tr.cs) v) (hl:∀ x∈l,x.Ok) (hlen:l.length<2 ^ 60) (d:Nat) (hd:d<2 ^ 60) (hd0:0<d) (H:Heap) (a e:Nat) (ha:H[a]?=some (.cells 1 1 [clo61 a])) (he:H[e]?=some (.cells 1 1 [.int .i64 d]))
  (ih:∀ u∈l,∀ (h:Heap),h[a]?=some (.cells 1 1 [clo61 a])→∃ X,CC 115 [.agg u.cs,.int .i64 (d - 1:Nat),.ref a 0 1] h (.ret (.bool (u.fits (d - 1)))) (h++X)) :
  ∃ X,∃ r:Int,CC 172 [v,.func (.func 118) [] [.ref a 0 1,.ref e 0 1]] H (.ret (.int .i64 r)) (H++X)∧(0≤r↔∃ u∈l,u.fits (d - 1)=false):=by
 have hlv:=len_tr hv
 have key:CallP gl Trmn.aprog 172 [v,.func (.func 118) [] [.ref a 0 1,.ref e 0 1]] H (fun r h'=>∃ X,∃ i:Int,r = .ret (.int .i64 i)∧h'=H++X∧(0≤i↔∃ u∈l,u.fits (d - 1)=false)):=by
  refine call_ofQ (af:=Trmn.a172) rfl rfl fun Q hQ => ?_
  simp only [Trmn.a172]
  simp [hlv,slotOf]
  refine loop_nQ l.length (fun i c=>(∀ u∈l.take i,u.fits (d - 1)=true)∧∃ X x y,c=⟨[v,.func (.func 118) [] [.ref a 0 1,.ref e 0 1],.int .i64 0,x,.int .i64 l.length,.int .i64 i],[],y,none,H++X⟩) ?_ ⟨by simp,[],.undef,none,by simp⟩
  rintro I hI i c hi ⟨hu,X,x,y,rfl⟩
  by_cases hlt:i<l.length
  ·have hlt':(i:Int)<l.length:=by omega
   have hi1:=idx_tr hv hlt
   have hm:=List.getElem_mem hlt
   have hw2:IntKind.i64.wrap ((i:Int)+1)=(i:Int)+1:=wrap64 (by omega) (by omega)
   have halt:a<H.length:=(List.getElem?_eq_some_iff.1 ha).1
   have helt:e<H.length:=(List.getElem?_eq_some_iff.1 he).1
   obtain ⟨Y,hc⟩:=v64_q l[i] (hl _ hm) d hd hd0 (H++X) a e (by rw [List.getElem?_append_left halt]; exact ha) (by rw [List.getElem?_append_left helt]; exact he) (ih _ hm)
   have htk:∀ u∈l.take (i+1),u∈l.take i∨u=l[i]:=fun u hu=>mem_take_succ hlt hu
   generalize l[i]=u at *
   cases hf:u.fits (d - 1)
   ·rw [hf] at hc
    simp [hlv,hlt',hi1,hc,slotOf]
    exact hQ _ _ ⟨X++Y,i,rfl,by simp,by simp only [Int.natCast_nonneg,true_iff]; exact ⟨u,hm,hf⟩⟩
   ·rw [hf] at hc
    simp [hlv,hlt',hi1,hc,hw2,slotOf]
    refine ⟨hlt,hI _ _ ⟨?_,X++Y,.int .i64 i,none,by simp⟩⟩
    intro w hw
    rcases htk w hw with hw | rfl
    ·exact hu w hw
    ·exact hf
  ·obtain rfl:i=l.length:=by omega
   simp [hlv,slotOf]
   refine hQ _ _ ⟨X,-1,rfl,rfl,?_⟩
   rw [List.take_length] at hu
   constructor
   ·intro h; omega
   ·rintro ⟨u,hm,hf⟩
    rw [hu u hm] at hf
    cases hf
 obtain ⟨r,h',e,X,i,rfl,rfl,h1⟩:=OptP.ex key
 exact ⟨X,i,e,h1⟩
theorem v61_q:∀ t:Tr,t.Ok→t.nodes<2 ^ 60→∀ (d:Nat) (h:Heap) (a:Nat),d<2 ^ 60→h[a]?=some (.cells 1 1 [clo61 a]) →
  ∃ X,CC 115 [.agg t.cs,.int .i64 d,.ref a 0 1] h (.ret (.bool (t.fits d))) (h++X):=by
 intro t
 induction t using Tr.ind with
 | h k n v l ih =>
 intro ho hnn d h a hd ha
 obtain ⟨_,_,hv,hl⟩:=ho.inv
 have hlv:=len_tr hv
 simp only [Tr.nodes] at hnn
 have hlen:=Tr.nodesL_length l
 have hnum:=number_q _ ho
 rw [PC] at hnum
 simp only [Tr.k,Tr.n,Tr.l] at hnum
 have he:∀ x:V,objCells (h++[.cells 1 1 [x]]) h.length=some (1,1,[x]):=fun x=>by simp [objCells]
 have hcs:(Tr.mk k n v l).cs=[.int .i64 k,.int .i64 n,v]:=rfl
 rw [hcs] at hnum ⊢
 by_cases hd0:d=0
 ·subst hd0
  refine ⟨[.cells 1 1 [.int .i64 0]],CallP.eq (call_ofQ (af:=Trmn.a115) rfl rfl fun Q hQ => ?_)⟩
  simp only [Trmn.a115]
  simp [hv.cell,he,slotOf]
  refine hQ _ _ ⟨?_,rfl⟩
  simp [Tr.fits,Tr.levels]
 have hdp:0<d:=by omega
 cases hnb:Tr.numOk k n l.length
 ·rw [hnb] at hnum
  refine ⟨[.cells 1 1 [.int .i64 d]],CallP.eq (call_ofQ (af:=Trmn.a115) rfl rfl fun Q hQ => ?_)⟩
  simp only [Trmn.a115]
  simp [hv.cell,he,hdp,hnum,slotOf,-pcall]
  refine hQ _ _ ⟨?_,rfl⟩
  simp [Tr.fits,Tr.allNum,hnb]
 rw [hnb] at hnum
 have halt:a<h.length:=(List.getElem?_eq_some_iff.1 ha).1
 obtain ⟨X,r,hc,hr⟩:=v86_q l v hv hl (by omega) d hd (by omega) (h++[.cells 1 1 [.int .i64 d]]) a h.length (by rw [List.getElem?_append_left halt]; exact ha) (by simp)
  (fun u hu h' ha'=>ih u hu (hl u hu) (by have:=Tr.nodesL_mem hu; omega) (d - 1) h' a (by omega) ha')
 have hc63:CC 117 [v,.func (.func 118) [] [.ref a 0 1,.ref h.length 0 1]] (h++[.cells 1 1 [.int .i64 d]]) (.ret (.bool (decide (0≤r)))) (h++[.cells 1 1 [.int .i64 d]]++X):=by
  refine CallP.eq (call_ofQ (af:=Trmn.a117) rfl rfl fun Q hQ => ?_)
  simp only [Trmn.a117]
  simp only [List.append_assoc] at hc
  simp [hc,slotOf]
  exact hQ _ _ ⟨rfl,by simp⟩
 refine ⟨[.cells 1 1 [.int .i64 d]]++X,CallP.eq (call_ofQ (af:=Trmn.a115) rfl rfl fun Q hQ => ?_)⟩
 have hfit:(Tr.mk k n v l).fits d = !decide (0≤r):=by
  rw [Bool.eq_iff_iff,Tr.fits_iff]
  simp only [Bool.not_eq_true',decide_eq_false_iff_not,hr]
  constructor
  ·rintro ⟨_,_,h1⟩ ⟨u,hu,h2⟩
   rw [h1 u hu] at h2
   cases h2
  ·intro h1
   refine ⟨by omega,hnb,fun u hu => ?_⟩
   cases h2:u.fits (d - 1)
   ·exact absurd ⟨u,hu,h2⟩ h1
   ·rfl
 simp only [Trmn.a115]
 simp only [List.append_assoc] at hc63
 simp [hv.cell,he,hdp,hnum,hc63,slotOf,-pcall]
 refine hQ _ _ ⟨?_,rfl⟩
 first
  | (rw [hfit]; done)
  | (rw [hfit]; simp)
theorem valid_q (t:Tr) (ho:t.Ok) (hn:t.nodes<2 ^ 60):PC 70 [.agg t.cs] (.bool (t.sized&&t.fits 12)):=by
 obtain ⟨m,hs,hm⟩:=vsize_q t ho hn
 rw [PC] at hs
 have hcc:=cells_tr ho
 refine pc_of (by simp [pureL,pureV,pure_tr ho]) (fun h=>rfl) ?_
 refine call_ofQ (af:=Trmn.a70) rfl rfl fun Q hQ => ?_
 simp only [Trmn.a70]
 cases e:t.sized
 ·rw [e] at hs hQ
  simp [hcc,hs,slotOf,-pcall,-List.all_eq_true]
  exact hQ _ _ rfl
 ·rw [e] at hs hQ
  obtain ⟨X,hc⟩:=v61_q t ho hn 12 [.cells 1 1 [clo61 0]] 0 (by omega) rfl
  have hc':(lim gl Trmn.aprog).call 115 [.agg t.cs,.int .i64 12,.ref 0 0 1] [.cells 1 1 [clo61 0]]=some (.ret (.bool (t.fits 12)),_):=hc
  simp [hcc,hs,hc',storeV,objCells,slotOf,-pcall,-List.all_eq_true]
  refine hQ _ _ ?_
  simp
end Go.Proofs.Mn
set_option linter.unusedVariables false
set_option linter.unusedSimpArgs false
set_option maxHeartbeats 1000000
namespace Go.Proofs.Mn
open Go Go.Am
theorem awake_q:PC 9 [] (.bool true):=by
 have h:=MnF.k24
 simp only [TE.ok,MnF.e24] at h
 simp [PC,pcall,callee,h,viewW,view1,viewV]
theorem exp_q (o n:Int) (l:V) (hc:isCell l=true) (hp:pureV l=true):PC 25 [.int .i64 o,.int .i64 n,l] (.agg [.int .i64 o,.int .i64 n,.int .i64 0,l]):=by
 have hcs:=cellsV_cell hc
 refine pc_ro (by simp [pureL,pureV,hp]) (fun h=>by simp [viewW,view1_pure 0 h (v:=.agg [.int .i64 o,.int .i64 n,.int .i64 0,l]) (by simp [pureL,pureV,hp])]) (cc_of (af:=Trmn.a25) rfl rfl fun Q hQ => ?_)
 simp only [Trmn.a25]
 simp [slotOf,fill,hc,hcs,mkV]
 exact hQ
theorem var_q (n:Int):PC 26 [.int .i64 n] (.agg [.int .i64 0,.int .i64 n,.int .i64 0,.nils]):=by
 have h:=exp_q 0 n .nils rfl rfl
 rw [PC] at h
 refine pc_ro rfl (fun h=>rfl) (cc_of (af:=Trmn.a26) rfl rfl fun Q hQ => ?_)
 simp only [Trmn.a26]
 simp [slotOf,h,mkV,-pcall]
 exact hQ
theorem num_q (n:Int):PC 32 [.int .i64 n] (.agg [.int .i64 1,.int .i64 n,.nils]):=by
 refine pc_ro rfl (fun h=>rfl) (cc_of (af:=Trmn.a32) rfl rfl fun Q hQ => ?_)
 simp only [Trmn.a32]
 simp [slotOf,fill,mkV]
 exact hQ
abbrev nameF:ByteArray:=⟨#[102]⟩
theorem prog_q (o n m:Int) (l:V) (hc:isCell l=true) (hp:pureV l=true):PC 33 [.agg [.int .i64 o,.int .i64 n,.int .i64 m,l]] (.agg [.sv [[.str nameF,.int .i64 0,.int .i64 o,.int .i64 n,.int .i64 m,l]] true,.int .i64 0]):=by
 have hcs:=cellsV_cell hc
 refine pc_ro (by simp [pureL,pureV,hp]) (fun h=>rfl) (cc_of (af:=Trmn.a33) rfl rfl fun Q hQ => ?_)
 simp only [Trmn.a33]
 simp [slotOf,fill,hc,hcs,mkV,chunks,hp,pureL,pureV]
 exact hQ
def joinsL (n:Nat):Int:=[0,2,7,8,9,10,11].getD n 0
theorem joins_q (n:Nat) (hn:n<256):PC 31 [.int .u8 n] (.int .i64 (joinsL (n % 7))):=by
 have h7:n % 7<7:=Nat.mod_lt _ (by omega)
 have e:(n:Int).tmod 7=((n % 7:Nat):Int):=by rw [Int.tmod_eq_emod_of_nonneg (by omega)]; omega
 refine pc_ro rfl (fun h=>rfl) (cc_of (af:=Trmn.a31) rfl rfl fun Q hQ => ?_)
 simp only [Trmn.a31]
 generalize n % 7=k at *
 let L:List V:=[.int .i64 0,.int .i64 2,.int .i64 7,.int .i64 8,.int .i64 9,.int .i64 10,.int .i64 11]
 have hf:fill [.int .i64 0,.int .i64 0,.int .i64 0,.int .i64 0,.int .i64 0,.int .i64 0,.int .i64 0] [(0,1,.int .i64 0),(1,1,.int .i64 2),(2,1,.int .i64 7),(3,1,.int .i64 8),(4,1,.int .i64 9),(5,1,.int .i64 10),(6,1,.int .i64 11)]=some L:=rfl
 have hL:pureL L=true:=rfl
 have hL2:∀ x∈L,isCell x=true:=by simp [L,isCell]
 have hch:chunks 1 7 L=L.map fun x=>[x]:=rfl
 have hi:∀ j:Nat,j<7→idxV (.sv (L.map fun x=>[x]) true) j 1=some (.pv [L.getD j .undef]):=by
  intro j hj
  have:j=0∨j=1∨j=2∨j=3∨j=4∨j=5∨j=6:=by omega
  rcases this with rfl | rfl | rfl | rfl | rfl | rfl | rfl <;> rfl
 have hi:=hi k h7
 have hg:L.getD k .undef = .int .i64 (joinsL k):=by
  have:k=0∨k=1∨k=2∨k=3∨k=4∨k=5∨k=6:=by omega
  rcases this with rfl | rfl | rfl | rfl | rfl | rfl | rfl <;> rfl
 rw [hg] at hi
 have w:IntKind.u8.wrap (k:Int)=k:=by
  have:k=0∨k=1∨k=2∨k=3∨k=4∨k=5∨k=6:=by omega
  rcases this with rfl | rfl | rfl | rfl | rfl | rfl | rfl <;> rfl
 clear_value L
 simp [slotOf,hf,hL,eq_true hL2,hch,hi,e,w,mkV]
 exact hQ
end Go.Proofs.Mn
set_option linter.unusedVariables false
set_option linter.unusedSimpArgs false
set_option maxHeartbeats 1000000
namespace Go.Proofs.Mn
open Go Go.Am
def wordT (w:Int):Tr:=.mk 1 w .nils []
def wordsT (v:V) (ws:List Int):Tr:=.mk 4 0 v (ws.map wordT)
theorem ofTr_word (w:Int):ofTr (wordT w) = .num w:=by rw [wordT,ofTr_mk,if_pos rfl]
theorem ofTr_words (v:V) (ws:List Int):ofTr (wordsT v ws)=seqV (nums ws):=by
 rw [wordsT,ofTr_mk,if_neg (by decide),if_neg (by decide),List.map_map,seqV,nums]
 congr 1
 exact List.map_congr_left fun w _=>ofTr_word w
theorem nodes_words (ws:List Int):Tr.nodesL (ws.map wordT)=ws.length:=by
 induction ws with
 | nil=>rfl
 | cons w ws ih=>simp only [List.map_cons,Tr.nodesL,ih,wordT,Tr.nodes,List.length_cons]; omega
theorem levels_words (ws:List Int):Tr.levelsL (ws.map wordT)≤1:=by
 induction ws with
 | nil=>simp [Tr.levelsL]
 | cons w ws ih=>simp only [List.map_cons,Tr.levelsL,wordT,Tr.levels]; omega
theorem is64_word {w:Int} (h:isWord w=true):is64 w:=by
 have:=isWord_iff.1 h
 constructor <;> omega
theorem word_ok {w:Int} (h:isWord w=true):(wordT w).Ok:=.mk _ _ _ _ (by constructor <;> omega) (is64_word h) (.nil rfl) (by simp)
theorem words_ok {v:V} {ws:List Int} (hv:SlV ((ws.map wordT).map Tr.cs) v) (hw:∀ w∈ws,isWord w=true):(wordsT v ws).Ok :=
 .mk _ _ _ _ (by constructor <;> omega) (by constructor <;> omega) hv fun x hx=>by
  obtain ⟨w,hm,rfl⟩:=List.mem_map.1 hx
  exact word_ok (hw w hm)
theorem words_arg {nf:Nat} {v:V} {ws:List Int} (hv:SlV ((ws.map wordT).map Tr.cs) v) (hw:∀ w∈ws,isWord w=true) (hl:ws.length≤4096):Arg nf (wordsT v ws):=by
 have hok:=words_ok hv hw
 have hn:(wordsT v ws).nodes=1+ws.length:=by rw [wordsT,Tr.nodes,nodes_words]
 refine ⟨hok,by omega,?_,?_⟩
 ·rw [ofTr_words]
  refine .many _ _ _ (.inr (.inr ⟨rfl,rfl,by simpa [nums] using hl⟩)) fun x hx => ?_
  obtain ⟨w,hm,rfl⟩:=List.mem_map.1 hx
  exact .num _ (hw w hm)
 ·have h:=valid_q (wordsT v ws) hok (by omega)
  have h1:(wordsT v ws).sized=true:=by
   have hlong:Tr.longL (ws.map wordT)=false:=by
    rw [Bool.eq_false_iff]
    intro h
    obtain ⟨t,ht,h2⟩:=Tr.longL_iff.1 h
    obtain ⟨w,_,rfl⟩:=List.mem_map.1 ht
    simp [wordT,Tr.long,Tr.longL] at h2
   simp only [Tr.sized,hn,Bool.and_eq_true,decide_eq_true_eq,Bool.not_eq_true']
   refine ⟨by omega,?_⟩
   simp only [wordsT,Tr.long,hlong,List.length_map,Bool.or_false,Bool.and_eq_false_iff,decide_eq_false_iff_not]
   exact .inr (by omega)
  have h2:(wordsT v ws).fits 12=true:=by
   have:=levels_words ws
   simp only [Tr.fits,Bool.and_eq_true,decide_eq_true_eq]
   refine ⟨by simp only [wordsT,Tr.levels]; omega,?_⟩
   simp only [wordsT,Tr.allNum,Bool.and_eq_true]
   refine ⟨by simp [Tr.numOk],Tr.allNumL_iff.2 fun t ht => ?_⟩
   obtain ⟨w,hm,rfl⟩:=List.mem_map.1 ht
   have:=isWord_iff.1 (hw w hm)
   simp [wordT,Tr.allNum,Tr.allNumL,Tr.numOk]
   omega
  rw [h1,h2] at h
  exact h
theorem szF_nums (l:List Int):szFL false (nums l)=false:=by
 induction l with
 | nil=>rfl
 | cons w l ih=>simpa [nums,szFL,szF] using ih
theorem szN_nums:∀ (l:List Int) (a:Nat),szNL a (nums l)≤a+l.length
 | [],a=>by simp [nums,szNL]
 | w :: l,a=>by
  have:=szN_nums l (min 20001 (a+1))
  simp only [nums,List.map_cons,szNL,szN,List.length_cons] at this ⊢
  omega
theorem szD_nums:∀ (l:List Int) (a:Nat),a≤2→szDL a (nums l)≤2
 | [],a,h=>by simpa [nums,szDL] using h
 | w :: l,a,h=>by
  have:=szD_nums l (max a (min 12 1+1)) (by omega)
  simpa only [nums,List.map_cons,szDL,szD] using this
theorem asWords_nums (l:List Int):asWords (seqV (nums l))=some l:=by
 have:∀ l,asNums (nums l)=some l:=by
  intro l
  induction l with
  | nil=>rfl
  | cons w l ih=>simp only [nums,List.map_cons,asNums,asNum] at ih ⊢; rw [ih]; rfl
 simp [asWords,seqV,asMany,this]
def foldFn (o n:Int):Fn:=⟨nameF,0,.mk o n 0 (.sv [[.int .i64 0,.int .i64 0,.int .i64 0,.nils]] true) [.mk 0 0 0 .nils []]⟩
def foldV (o n:Int):V:=.sv [[.str nameF,.int .i64 0,.int .i64 o,.int .i64 n,.int .i64 0,.sv [[.int .i64 0,.int .i64 0,.int .i64 0,.nils]] true]] true
theorem fold_pg (o n:Int):pgN 0 [foldFn o n]=[(0,.mk 0 o n 0 [.mk 1 0 0 0 []])]:=rfl
theorem evalD_succ {P:Pg} {left:Nat} (d:Nat) (t:NT) (env:Env) (s:St) (h:s.steps<left):evalD P left (d+1) t env s=stepD P (evalD P left d) t env (s.begin t.id):=by
 rw [evalD,if_neg (by omega)]
theorem stepD_var {P:Pg} {ev:NT→Env→St→Res Val} (i:Nat) (n m:Int) (l:List NT) (env:Env) (s:St):stepD P ev (.mk i 0 n m l) env s = .ok (find env n) s:=by
 rw [stepD,if_pos (show (NT.mk i 0 n m l).op=0 from rfl)]; rfl
theorem stepD_op {P:Pg} {ev:NT→Env→St→Res Val} (i:Nat) (o n m:Int) (l:List NT) (env:Env) (s:St) (h:o≠0∧o≠3∧o≠4∧o≠6∧o≠7∧o≠5∧o≠13∧o≠14∧o≠17∧o≠18) :
  stepD P ev (.mk i o n m l) env s=(evalL ev env l s).bind fun l' s=>match opV o n l' with
   | .error e => .err e i
   | .ok v => .ok v (note (.mk i o n m l) v s):=by
 obtain ⟨h0,h3,h4,h6,h7,h5,h13,h14,h17,h18⟩:=h
 simp only [stepD,NT.op,NT.n,NT.m,NT.l,NT.id,h0,h3,h4,h6,h7,h5,h13,h14,h17,h18,if_false,or_self]
 rfl
theorem evalL_var {P:Pg} {left:Nat} (d i:Nat) (n m:Int) (l:List NT) (env:Env) (s:St) (h:s.steps<left):evalL (evalD P left (d+1)) env [.mk i 0 n m l] s = .ok [find env n] (s.begin i):=by
 simp only [evalL]
 rw [evalD_succ d _ _ _ h,stepD_var]
 rfl
theorem one_run (o n:Int) (v:Val) (h:o≠0∧o≠3∧o≠4∧o≠6∧o≠7∧o≠5∧o≠13∧o≠14∧o≠17∧o≠18) :
  wholeD (pgN 0 [foldFn o n]) 10 0 v .zero=(match opV o n [v] with
   | .error e=>Res.err e 0
   | .ok y => .ok y (note (.mk 0 o n 0 [.mk 1 0 0 0 []]) y ((St.zero.begin 0).begin 1))).bind fun y s' =>
  if szF y=true then .err 15 0 else if szN y≤20000∧szD y≤12 then .ok y s' else .err 9 0:=by
 rw [fold_pg,wholeD]
 show (evalD _ 10 (10+1) (.mk 0 o n 0 [.mk 1 0 0 0 []]) [(0,v)] .zero).bind _=_
 rw [evalD_succ 10 _ _ _ (by simp [St.zero]),stepD_op _ _ _ _ _ _ _ h,evalL_var 9 _ _ _ _ _ _ (by simp [St.zero,St.begin,NT.id])]
 rfl
theorem fold_run (n:Int) (ws:List Int):∃ s',wholeD (pgN 0 [foldFn 22 n]) 10 0 (seqV (nums ws)) .zero = .ok (.num (foldW n (neutral n) ws)) s'∧s'.steps=2:=by
 refine ⟨(St.zero.begin 0).begin 1,?_,rfl⟩
 have hw:=asWords_nums ws
 rw [one_run _ _ _ (by decide)]
 have:opV 22 n [seqV (nums ws)] = .ok (.num (foldW n (neutral n) ws)):=by
  simp only [opV,List.getD_cons_zero]
  simp [opA,hw]
 rw [this]
 rfl
theorem scan_run (n:Int) (ws:List Int) (hl:ws.length≤200):∃ s',wholeD (pgN 0 [foldFn 23 n]) 10 0 (seqV (nums ws)) .zero = .ok (seqV (nums (scanW n (neutral n) ws))) s':=by
 have hw:=asWords_nums ws
 have h1:=szF_nums (scanW n (neutral n) ws)
 have h2:=szN_nums (scanW n (neutral n) ws) 1
 have h3:=szD_nums (scanW n (neutral n) ws) 1 (by omega)
 rw [scanW_length] at h2
 have h2':szN (seqV (nums (scanW n (neutral n) ws)))≤20000:=by simp only [seqV,szN]; omega
 have h3':szD (seqV (nums (scanW n (neutral n) ws)))≤12:=by simp only [seqV,szD]; omega
 have h1':szF (seqV (nums (scanW n (neutral n) ws)))=false:=by simpa only [seqV,szF] using h1
 refine ⟨note (.mk 0 23 n 0 [.mk 1 0 0 0 []]) (seqV (nums (scanW n (neutral n) ws))) ((St.zero.begin 0).begin 1),?_⟩
 rw [one_run _ _ _ (by decide)]
 have:opV 23 n [seqV (nums ws)] = .ok (seqV (nums (scanW n (neutral n) ws))):=by
  simp only [opV,List.getD_cons_zero]
  simp [opA,hw]
 rw [this]
 simp only [Res.bind_ok]
 rw [h1',if_neg (by simp),if_pos ⟨h2',h3'⟩]
end Go.Proofs.Mn
set_option linter.unusedVariables false
set_option linter.unusedSimpArgs false
set_option maxHeartbeats 1000000
namespace Go.Proofs.Mn
open Go Go.Am
def shapeB (op:Int) (k:Nat):Bool:=if op=16 then decide (k≤8) else decide (0≤op∧op≤26∧(k:Int)=arity op)
def numsB (nf:Nat) (vars:List Int) (op n:Int):Bool :=
 decide (op=0→n∈vars)&&decide (op=1→isWord n=true)&&decide ((op=6∨op=7)→0≤n∧n<nf)&&decide (op=15→0≤n∧n≤11)&&decide ((op=22∨op=23)→isJoin n=true)
def wfB (nf:Nat):Nat→List Int→NT→Bool
 | 0,_,_=>false
 | d+1,vars,t=>shapeB t.op t.l.length&&numsB nf vars t.op t.n&&(List.range t.l.length).all fun k=>wfB nf d (bnd t.op t.n t.m k vars) (t.l.getD k default)
def exL:List Ex→V
 | [] => .nils
 | l => .sv (l.map Ex.cs) true
def mkE (o n m:Int) (l:List Ex):Ex:=.mk o n m (exL l) l
theorem exL_sl (l:List Ex):SlV (l.map Ex.cs) (exL l):=by
 cases l with
 | nil=>exact .nil rfl
 | cons x l=>exact SlV.sv true
theorem mkE_ok {o n m:Int} {l:List Ex} (ho:is64 o) (hn:is64 n) (hm:is64 m) (hl:∀ x∈l,x.Ok):(mkE o n m l).Ok:=.mk _ _ _ _ _ ho hn hm (exL_sl l) hl
def Ev (P:Pg) (left d:Nat) (t:NT) (env:Env) (v:Val) (k:Nat):Prop:=∀ s:St,s.steps+k≤left→∃ s',evalD P left d t env s = .ok v s'∧s'.steps=s.steps+k
def Er (P:Pg) (left d:Nat) (t:NT) (env:Env) (e:Int) (k:Nat):Prop:=∀ s:St,s.steps+k≤left→∃ i,evalD P left d t env s = .err e i
section
variable {P:Pg} {left d:Nat} {env:Env}
theorem Ev.var (i:Nat) (n m:Int) (l:List NT):Ev P left (d+1) (.mk i 0 n m l) env (find env n) 1:=fun s hs =>
 ⟨s.begin i,by rw [evalD_succ d _ _ _ (by omega),stepD_var]; rfl,rfl⟩
abbrev plainOp (o:Int):Prop:=o≠0∧o≠3∧o≠4∧o≠6∧o≠7∧o≠5∧o≠13∧o≠14∧o≠17∧o≠18
inductive EvL (P:Pg) (left d:Nat) (env:Env):List NT→List Val→Nat→Prop
 | nil:EvL P left d env [] [] 0
 | cons {t:NT} {ts:List NT} {v:Val} {vs:List Val} {k k2:Nat}:Ev P left d t env v k→EvL P left d env ts vs k2→EvL P left d env (t :: ts) (v :: vs) (k+k2)
theorem EvL.run:∀ {ts:List NT} {vs:List Val} {k:Nat},EvL P left d env ts vs k→∀ s:St,s.steps+k≤left→∃ s',evalL (evalD P left d) env ts s = .ok vs s'∧s'.steps=s.steps+k
 | [],_,_,h,s,hs=>by cases h; exact ⟨s,rfl,rfl⟩
 | t :: ts,_,_,h,s,hs=>by
  cases h with
  | @cons _ _ v vs k k2 h1 h2 =>
  obtain ⟨s1,e1,t1⟩:=h1 s (by omega)
  obtain ⟨s2,e2,t2⟩:=h2.run s1 (by omega)
  refine ⟨s2,?_,by omega⟩
  simp only [evalL,e1,e2,Res.bind_ok]
theorem Ev.opL {i:Nat} {o n m:Int} {l:List NT} {vs:List Val} {k:Nat} {y:Val} (ho:plainOp o) (h:EvL P left d env l vs k) (hop:opV o n vs = .ok y):Ev P left (d+1) (.mk i o n m l) env y (1+k):=fun s hs=>by
 obtain ⟨s1,e1,t1⟩:=h.run (s.begin i) (by show s.steps+1+k≤left; omega)
 refine ⟨note (.mk i o n m l) y s1,?_,?_⟩
 ·rw [evalD_succ d _ _ _ (by omega),stepD_op _ _ _ _ _ _ _ ho]
  show (evalL (evalD P left d) env l (s.begin i)).bind _=_
  rw [e1,Res.bind_ok,hop]
 ·rw [note_steps,t1]
  show s.steps+1+k=_
  omega
theorem Er.opL {i:Nat} {o n m:Int} {l:List NT} {vs:List Val} {k:Nat} {e:Int} (ho:plainOp o) (h:EvL P left d env l vs k) (hop:opV o n vs = .error e):Er P left (d+1) (.mk i o n m l) env e (1+k):=fun s hs=>by
 obtain ⟨s1,e1,t1⟩:=h.run (s.begin i) (by show s.steps+1+k≤left; omega)
 refine ⟨i,?_⟩
 rw [evalD_succ d _ _ _ (by omega),stepD_op _ _ _ _ _ _ _ ho]
 show (evalL (evalD P left d) env l (s.begin i)).bind _=_
 rw [e1,Res.bind_ok,hop]
theorem Ev.op1 {i:Nat} {o n m:Int} {a:NT} {v:Val} {k:Nat} {y:Val} (ho:plainOp o) (h:Ev P left d a env v k) (hop:opV o n [v] = .ok y):Ev P left (d+1) (.mk i o n m [a]) env y (1+(k+0)):=Ev.opL ho (.cons h .nil) hop
theorem Ev.op2 {i:Nat} {o n m:Int} {a b:NT} {v w:Val} {k k2:Nat} {y:Val} (ho:plainOp o) (h:Ev P left d a env v k) (h2:Ev P left d b env w k2) (hop:opV o n [v,w] = .ok y):Ev P left (d+1) (.mk i o n m [a,b]) env y (1+(k+(k2+0))):=Ev.opL ho (.cons h (.cons h2 .nil)) hop
theorem Er.op2 {i:Nat} {o n m:Int} {a b:NT} {v w:Val} {k k2:Nat} {e:Int} (ho:plainOp o) (h:Ev P left d a env v k) (h2:Ev P left d b env w k2) (hop:opV o n [v,w] = .error e):Er P left (d+1) (.mk i o n m [a,b]) env e (1+(k+(k2+0))):=Er.opL ho (.cons h (.cons h2 .nil)) hop
theorem Er.fst {i:Nat} {o n m:Int} {a:NT} {l:List NT} {k:Nat} {e:Int} (ho:plainOp o) (h:Er P left d a env e k):Er P left (d+1) (.mk i o n m (a :: l)) env e (1+k):=fun s hs=>by
 obtain ⟨j,e1⟩:=h (s.begin i) (by show s.steps+1+k≤left; omega)
 refine ⟨j,?_⟩
 rw [evalD_succ d _ _ _ (by omega),stepD_op _ _ _ _ _ _ _ ho]
 show (evalL (evalD P left d) env (a :: l) (s.begin i)).bind _=_
 simp only [evalL,e1,Res.bind_err]
theorem each_go {i:Nat} {n m:Int} {a b:NT} {f:Val→Val} {k:Nat}:∀ (l:List Val),(∀ x∈l,Ev P left d b ((n,x) :: env) (f x) k)→∀ s:St,s.steps+l.length * k≤left→∃ s',eachD (evalD P left d b) (.mk i 17 n m [a,b]) env l s = .ok (l.map f) s'∧s'.steps=s.steps+l.length * k
 | [],h,s,hs=>⟨s,rfl,by simp⟩
 | x :: xs,h,s,hs=>by
  have e:(x :: xs).length * k=k+xs.length * k:=by rw [List.length_cons,Nat.add_mul]; omega
  rw [e] at hs ⊢
  obtain ⟨s1,e1,t1⟩:=h x (by simp) s (by omega)
  obtain ⟨s2,e2,t2⟩:=each_go (i:=i) (m:=m) (a:=a) xs (fun y hy=>h y (by simp [hy])) s1 (by omega)
  refine ⟨s2,?_,by omega⟩
  simp only [eachD,NT.n,NT.op,e1,Res.bind_ok,if_true,e2,List.map_cons]
theorem Ev.each {i:Nat} {n m:Int} {a b:NT} {l:List Val} {f:Val→Val} {k k2:Nat} (h:Ev P left d a env (seqV l) k) (h2:∀ x∈l,Ev P left d b ((n,x) :: env) (f x) k2):Ev P left (d+1) (.mk i 17 n m [a,b]) env (seqV (l.map f)) (1+k+l.length * k2):=fun s hs=>by
 obtain ⟨s1,e1,t1⟩:=h (s.begin i) (by show s.steps+1+k≤left; omega)
 have t1':s1.steps=s.steps+1+k:=t1
 obtain ⟨s2,e2,t2⟩:=each_go (i:=i) (m:=m) (a:=a) l h2 s1 (by omega)
 refine ⟨note (.mk i 17 n m [a,b]) (seqV (l.map f)) s2,?_,by rw [note_steps]; omega⟩
 rw [evalD_succ d _ _ _ (by omega),stepD]
 simp only [NT.op,NT.kid,NT.l,NT.id,List.getD_cons_zero,List.getD_cons_succ]
 rw [if_neg (by decide),if_neg (by decide),if_neg (by decide),if_neg (by decide),if_neg (by decide),if_neg (by decide),if_neg (by decide),if_neg (by decide),if_pos (by decide),e1]
 simp only [Res.bind_ok,seqV,asMany,if_true,e2]
theorem Er.each {i:Nat} {n m:Int} {a b:NT} {x:Val} {l:List Val} {k k2:Nat} {e:Int} (h:Ev P left d a env (seqV (x :: l)) k) (h2:Er P left d b ((n,x) :: env) e k2):Er P left (d+1) (.mk i 17 n m [a,b]) env e (1+k+k2):=fun s hs=>by
 obtain ⟨s1,e1,t1⟩:=h (s.begin i) (by show s.steps+1+k≤left; omega)
 have t1':s1.steps=s.steps+1+k:=t1
 obtain ⟨j,e2⟩:=h2 s1 (by omega)
 refine ⟨j,?_⟩
 rw [evalD_succ d _ _ _ (by omega),stepD]
 simp only [NT.op,NT.kid,NT.l,NT.id,List.getD_cons_zero,List.getD_cons_succ]
 rw [if_neg (by decide),if_neg (by decide),if_neg (by decide),if_neg (by decide),if_neg (by decide),if_neg (by decide),if_neg (by decide),if_neg (by decide),if_pos (by decide),e1]
 simp only [Res.bind_ok,seqV,asMany,if_true,eachD,NT.n,e2,Res.bind_err]
theorem Ev.le {t:NT} {v:Val} {k k2:Nat} (h:Ev P left d t env v k) (e:k=k2):Ev P left d t env v k2:=e ▸ h
theorem Er.le {t:NT} {e:Int} {k k2:Nat} (h:Er P left d t env e k) (hk:k≤k2):Er P left d t env e k2:=fun s hs=>h s (by omega)
end
theorem whole_ev {P:Pg} {left f:Nat} {x y:Val} {p:Int} {b:NT} {k:Nat} (hP:P.getD f default=(p,b)) (h:Ev P left (left+1) b [(p,x)] y k) (hk:k≤left) (h1:szF y=false) (h2:szN y≤20000) (h3:szD y≤12):∃ s',wholeD P left f x .zero = .ok y s'∧s'.steps=k:=by
 obtain ⟨s',e,t⟩:=h .zero (by show 0+k≤left; omega)
 refine ⟨s',?_,by rw [t]; show 0+k=k; omega⟩
 rw [wholeD,hP]
 simp only [e,Res.bind_ok,h1]
 rw [if_neg (by simp),if_pos ⟨h2,h3⟩]
theorem whole_er {P:Pg} {left f:Nat} {x:Val} {p:Int} {b:NT} {k:Nat} {e:Int} (hP:P.getD f default=(p,b)) (h:Er P left (left+1) b [(p,x)] e k) (hk:k≤left):∃ i,wholeD P left f x .zero = .err e i:=by
 obtain ⟨i,e⟩:=h .zero (by show 0+k≤left; omega)
 refine ⟨i,?_⟩
 rw [wholeD,hP]
 simp only [e,Res.bind_err]
theorem words_sz (l:List Int) (h:l.length≤4096):szF (seqV (nums l))=false∧szN (seqV (nums l))≤20000∧szD (seqV (nums l))≤12:=by
 have h1:=szF_nums l
 have h2:=szN_nums l 1
 have h3:=szD_nums l 1 (by omega)
 refine ⟨by simpa only [seqV,szF] using h1,?_,?_⟩
 ·simp only [seqV,szN]; omega
 ·simp only [seqV,szD]; omega
end Go.Proofs.Mn
set_option linter.unusedVariables false
set_option linter.unusedSimpArgs false
set_option maxHeartbeats 1000000
namespace Go.Proofs.Mn
open Go Go.Am
def isVarN (n:Int):Bool:=decide (0≤n∧n≤399)
def nOk (nf:Nat) (op n:Int):Bool :=
 if op=0∨op=3∨op=4∨op=13∨op=17∨op=18 then isVarN n
 else if op=1 then isWord n
 else if op=6∨op=7 then decide (0≤n∧n≤(nf:Int) - 1)
 else if op=15 then decide (0≤n∧n≤11)
 else if op=22∨op=23 then isJoin n
 else true
def partsOk (op:Int) (k:Nat):Bool:=decide ((k:Int)=arity op)||(op == 16&&decide (k≤8))
def bndP (op n m:Int) (i:Nat) (vars:List Int):List Int :=
 if op=4∧i=0∨(op=3∨op=17∨op=18∨op=13)∧i=1 then vars++[n]
 else if op=13∧i=2 then vars++[m] else vars
def nodeOk (nf:Nat) (op n m:Int) (k:Nat) (deep:Int) (vars:List Int):Bool :=
 decide (deep≤40)&&decide (0≤op∧op≤26)&&nOk nf op n&&partsOk op k&&decide (op=0→n∈vars)&&(op != 13||isVarN m)
mutual
def chkW (nf:Nat):Ex→Int→Int→List Int→Option Int
 | .mk op n m _ l,left,deep,vars=>if 1≤left∧nodeOk nf op n m l.length deep vars=true then chkL nf op n m l 0 (left - 1) (deep+1) vars else none
def chkL (nf:Nat) (op n m:Int):List Ex→Nat→Int→Int→List Int→Option Int
 | [],_,left,_,_=>some left
 | x :: xs,i,left,deep,vars=>match chkW nf x left deep (bndP op n m i vars) with
  | some left'=>chkL nf op n m xs (i+1) left' deep vars
  | none=>none
end
mutual
def okE (nf:Nat):Ex→Int→List Int→Bool
 | .mk op n m _ l,deep,vars=>nodeOk nf op n m l.length deep vars&&okL nf op n m l 0 (deep+1) vars
def okL (nf:Nat) (op n m:Int):List Ex→Nat→Int→List Int→Bool
 | [],_,_,_=>true
 | x :: xs,i,deep,vars=>okE nf x deep (bndP op n m i vars)&&okL nf op n m xs (i+1) deep vars
end
mutual
theorem chkW_ok {nf:Nat}:∀ (e:Ex) (left deep:Int) (vars:List Int),okE nf e deep vars=true→(e.size:Int)≤left→chkW nf e left deep vars=some (left - e.size)
 | .mk op n m v l,left,deep,vars,h,hl=>by
  simp only [okE,Bool.and_eq_true] at h
  simp only [Ex.size] at hl ⊢
  rw [chkW,if_pos ⟨by omega,h.1⟩,chkL_ok op n m l 0 (left - 1) (deep+1) vars h.2 (by omega)]
  congr 1
  omega
theorem chkL_ok {nf:Nat} (op n m:Int):∀ (l:List Ex) (i:Nat) (left deep:Int) (vars:List Int),okL nf op n m l i deep vars=true→(Ex.sizeL l:Int)≤left→chkL nf op n m l i left deep vars=some (left - Ex.sizeL l)
 | [],i,left,deep,vars,h,hl=>by simp [chkL,Ex.sizeL]
 | x :: xs,i,left,deep,vars,h,hl=>by
  simp only [okL,Bool.and_eq_true] at h
  simp only [Ex.sizeL] at hl ⊢
  rw [chkL,chkW_ok x left deep _ h.1 (by omega)]
  simp only
  rw [chkL_ok op n m xs (i+1) _ deep vars h.2 (by omega)]
  congr 1
  omega
end
end Go.Proofs.Mn
set_option linter.unusedVariables false
set_option linter.unusedSimpArgs false
set_option maxHeartbeats 1000000
namespace Go.Proofs.Mn
open Go Go.Am
section
variable {P:Pg} {left d:Nat} {env:Env}
theorem Ev.call {i:Nat} {n m:Int} {a b:NT} {p:Int} {v y:Val} {k k2:Nat} (hP:P.getD n.toNat default=(p,b)) (h:Ev P left d a env v k) (h2:Ev P left d b [(p,v)] y k2):Ev P left (d+1) (.mk i 7 n m [a]) env y (1+k+k2):=fun s hs=>by
 obtain ⟨s1,e1,t1⟩:=h (s.begin i) (by show s.steps+1+k≤left; omega)
 have t1':s1.steps=s.steps+1+k:=t1
 obtain ⟨s2,e2,t2⟩:=h2 s1 (by omega)
 refine ⟨s2,?_,by omega⟩
 rw [evalD_succ d _ _ _ (by omega),stepD]
 simp only [NT.op,NT.kid,NT.l,NT.id,NT.n,List.getD_cons_zero]
 rw [if_neg (by decide),if_neg (by decide),if_neg (by decide),if_neg (by decide),if_pos (by decide),e1]
 simp only [Res.bind_ok,hP,e2]
theorem Er.call {i:Nat} {n m:Int} {a b:NT} {p:Int} {v:Val} {e:Int} {k k2:Nat} (hP:P.getD n.toNat default=(p,b)) (h:Ev P left d a env v k) (h2:Er P left d b [(p,v)] e k2):Er P left (d+1) (.mk i 7 n m [a]) env e (1+k+k2):=fun s hs=>by
 obtain ⟨s1,e1,t1⟩:=h (s.begin i) (by show s.steps+1+k≤left; omega)
 have t1':s1.steps=s.steps+1+k:=t1
 obtain ⟨j,e2⟩:=h2 s1 (by omega)
 refine ⟨j,?_⟩
 rw [evalD_succ d _ _ _ (by omega),stepD]
 simp only [NT.op,NT.kid,NT.l,NT.id,NT.n,List.getD_cons_zero]
 rw [if_neg (by decide),if_neg (by decide),if_neg (by decide),if_neg (by decide),if_pos (by decide),e1]
 simp only [Res.bind_ok,hP,e2]
theorem EvL.ws {g:Int→Ex} {f:Int→Val} {k:Nat}:∀ (ws:List Int) (i:Nat),(∀ w∈ws,∀ j,Ev P left d ((g w).nt j) env (f w) k)→EvL P left d env (Ex.ntL i (ws.map g)) (ws.map f) (ws.length * k)
 | [],i,h=>by simpa [Ex.ntL] using EvL.nil
 | w :: ws,i,h=>by
  have e:(w :: ws).length * k=k+ws.length * k:=by rw [List.length_cons,Nat.add_mul]; omega
  rw [e]
  exact .cons (h w (by simp) i) (EvL.ws ws _ fun x hx=>h x (by simp [hx]))
theorem keep_go {i:Nat} {n m:Int} {a b:NT} {f:Val→Int} {k:Nat}:∀ (l:List Val),(∀ x∈l,Ev P left d b ((n,x) :: env) (.num (f x)) k)→∀ s:St,s.steps+l.length * k≤left→∃ s',eachD (evalD P left d b) (.mk i 18 n m [a,b]) env l s = .ok (l.filter fun x=>f x != 0) s'∧s'.steps=s.steps+l.length * k
 | [],h,s,hs=>⟨s,rfl,by simp⟩
 | x :: xs,h,s,hs=>by
  have e:(x :: xs).length * k=k+xs.length * k:=by rw [List.length_cons,Nat.add_mul]; omega
  rw [e] at hs ⊢
  obtain ⟨s1,e1,t1⟩:=h x (by simp) s (by omega)
  obtain ⟨s2,e2,t2⟩:=keep_go (i:=i) (m:=m) (a:=a) xs (fun y hy=>h y (by simp [hy])) s1 (by omega)
  refine ⟨s2,?_,by omega⟩
  have e3:asNum (.num (f x))=some (f x):=rfl
  have e4:¬ (18:Int)=17:=by decide
  simp only [eachD,NT.n,NT.op,e1,Res.bind_ok,e4,if_false,e3,e2]
  by_cases h0:f x=0
  ·simp [h0]
  ·simp [h0]
theorem Ev.keep {i:Nat} {n m:Int} {a b:NT} {l:List Val} {f:Val→Int} {k k2:Nat} (h:Ev P left d a env (seqV l) k) (h2:∀ x∈l,Ev P left d b ((n,x) :: env) (.num (f x)) k2):Ev P left (d+1) (.mk i 18 n m [a,b]) env (seqV (l.filter fun x=>f x != 0)) (1+k+l.length * k2):=fun s hs=>by
 obtain ⟨s1,e1,t1⟩:=h (s.begin i) (by show s.steps+1+k≤left; omega)
 have t1':s1.steps=s.steps+1+k:=t1
 obtain ⟨s2,e2,t2⟩:=keep_go (i:=i) (m:=m) (a:=a) l h2 s1 (by omega)
 refine ⟨note (.mk i 18 n m [a,b]) (seqV (l.filter fun x=>f x != 0)) s2,?_,by rw [note_steps]; omega⟩
 rw [evalD_succ d _ _ _ (by omega),stepD]
 simp only [NT.op,NT.kid,NT.l,NT.id,List.getD_cons_zero,List.getD_cons_succ]
 rw [if_neg (by decide),if_neg (by decide),if_neg (by decide),if_neg (by decide),if_neg (by decide),if_neg (by decide),if_neg (by decide),if_neg (by decide),if_pos (by decide),e1]
 simp only [Res.bind_ok,seqV,asMany,if_true,e2]
theorem Er.keep {i:Nat} {n m:Int} {a b:NT} {x:Val} {l:List Val} {k k2:Nat} {e:Int} (h:Ev P left d a env (seqV (x :: l)) k) (h2:Er P left d b ((n,x) :: env) e k2):Er P left (d+1) (.mk i 18 n m [a,b]) env e (1+k+k2):=fun s hs=>by
 obtain ⟨s1,e1,t1⟩:=h (s.begin i) (by show s.steps+1+k≤left; omega)
 have t1':s1.steps=s.steps+1+k:=t1
 obtain ⟨j,e2⟩:=h2 s1 (by omega)
 refine ⟨j,?_⟩
 rw [evalD_succ d _ _ _ (by omega),stepD]
 simp only [NT.op,NT.kid,NT.l,NT.id,List.getD_cons_zero,List.getD_cons_succ]
 rw [if_neg (by decide),if_neg (by decide),if_neg (by decide),if_neg (by decide),if_neg (by decide),if_neg (by decide),if_neg (by decide),if_neg (by decide),if_pos (by decide),e1]
 simp only [Res.bind_ok,seqV,asMany,if_true,eachD,NT.n,e2,Res.bind_err]
end
def intE (n:Int):Ex:=mkE 1 n 0 []
def var1 (n:Int):Ex:=mkE 0 n 0 []
def callE (x:Ex):Ex:=mkE 7 0 0 [x]
def binE (o n:Int):Ex:=mkE 15 o 0 [var1 0,intE n]
def seqE (l:List Ex):Ex:=.mk 16 0 0 (.sv (l.map Ex.cs) false) l
def eachE (ws:List Int):Ex:=mkE 17 7 0 [seqE (ws.map intE),callE (var1 7)]
def callsE (ws:List Int):Ex:=seqE (ws.map fun w=>callE (intE w))
def keepE (ws:List Int):Ex:=mkE 18 7 0 [seqE (ws.map intE),callE (var1 7)]
abbrev nameG:ByteArray:=⟨#[103]⟩
def twoFn (o n:Int) (e:Ex):List Fn:=[⟨nameG,0,binE o n⟩,⟨nameF,3,e⟩]
def binT (o n:Int):NT:=.mk 0 15 o 0 [.mk 1 0 0 0 [],.mk 2 1 n 0 []]
theorem two_pg (o n:Int) (e:Ex):pgN 0 (twoFn o n e)=[(0,binT o n),(3,e.nt 3)]:=rfl
section
variable {left d:Nat} {o n:Int} {e:Ex} {env:Env}
theorem op_bin {o x y z:Int} (h:doW o x y=some z):opV 15 o [.num x,.num y] = .ok (.num z):=by
 simp [opV,opA,asNum,h]
theorem op_bin_err {o x y:Int} (h:doW o x y=none):opV 15 o [.num x,.num y] = .error 14:=by
 simp [opV,opA,asNum,h]
theorem ev_int (i:Nat) (w m:Int):Ev (pgN 0 (twoFn o n e)) left (d+1) (.mk i 1 w m []) env (.num w) (1+0):=Ev.opL (by decide) .nil rfl
theorem ev_bin {w z:Int} (h:doW o w n=some z):Ev (pgN 0 (twoFn o n e)) left (d+2) (binT o n) [(0,.num w)] (.num z) 3 :=
 Ev.op2 (d:=d+1) (by decide) (Ev.var 1 0 0 []) (ev_int 2 n 0) (op_bin h)
theorem er_bin {w:Int} (h:doW o w n=none):Er (pgN 0 (twoFn o n e)) left (d+2) (binT o n) [(0,.num w)] 14 3 :=
 Er.op2 (d:=d+1) (by decide) (Ev.var 1 0 0 []) (ev_int 2 n 0) (op_bin_err h)
theorem ev_calli {w z:Int} (h:doW o w n=some z) (j:Nat):Ev (pgN 0 (twoFn o n e)) left (d+3) ((callE (intE w)).nt j) env (.num z) 5 :=
 Ev.call (d:=d+2) (i:=j) (n:=0) (m:=0) (p:=0) rfl (ev_int (j+1) w 0) (ev_bin h)
theorem er_calli {w:Int} (h:doW o w n=none) (j:Nat):Er (pgN 0 (twoFn o n e)) left (d+3) ((callE (intE w)).nt j) env 14 5 :=
 Er.call (d:=d+2) (i:=j) (n:=0) (m:=0) (p:=0) rfl (ev_int (j+1) w 0) (er_bin h)
theorem ev_callv {w z:Int} (h:doW o w n=some z) (j:Nat) (hv:find env 7 = .num w):Ev (pgN 0 (twoFn o n e)) left (d+3) ((callE (var1 7)).nt j) env (.num z) 5:=by
 have h1:=Ev.var (P:=pgN 0 (twoFn o n e)) (left:=left) (d:=d+1) (env:=env) (j+1) 7 0 []
 rw [hv] at h1
 exact Ev.call (d:=d+2) (i:=j) (n:=0) (m:=0) (p:=0) rfl h1 (ev_bin h)
theorem er_callv {w:Int} (h:doW o w n=none) (j:Nat) (hv:find env 7 = .num w):Er (pgN 0 (twoFn o n e)) left (d+3) ((callE (var1 7)).nt j) env 14 5:=by
 have h1:=Ev.var (P:=pgN 0 (twoFn o n e)) (left:=left) (d:=d+1) (env:=env) (j+1) 7 0 []
 rw [hv] at h1
 exact Er.call (d:=d+2) (i:=j) (n:=0) (m:=0) (p:=0) rfl h1 (er_bin h)
theorem ev_words (ws:List Int) (j:Nat):Ev (pgN 0 (twoFn o n e)) left (d+2) ((seqE (ws.map intE)).nt j) env (seqV (nums ws)) (1+ws.length * 1) :=
 Ev.opL (d:=d+1) (i:=j) (n:=0) (m:=0) (by decide) (EvL.ws ws (j+1) (g:=intE) (f:=.num) (k:=1) fun w hw i=>ev_int i w 0) rfl
end
def zOf (o n w:Int):Int:=(doW o w n).getD 0
def Fine (o n:Int):Prop:=¬ ((o=3∨o=4)∧n=0)
theorem fine_do {o n w:Int} (h:Fine o n):doW o w n=some (zOf o n w):=by
 have:∃ z,doW o w n=some z:=by
  unfold doW
  by_cases h3:o=3
  ·subst h3
   have:n≠0:=fun h0=>h ⟨.inl rfl,h0⟩
   simp [this]
  ·by_cases h4:o=4
   ·subst h4
    have:n≠0:=fun h0=>h ⟨.inr rfl,h0⟩
    simp [this]
   ·simp only [h3,h4,if_false]
    repeat' split
    all_goals exact ⟨_,rfl⟩
 obtain ⟨z,hz⟩:=this
 simp [zOf,hz]
theorem not_fine_do {o n w:Int} (h:¬ Fine o n):doW o w n=none:=by
 have h2:(o=3∨o=4)∧n=0:=by
  by_cases hh:(o=3∨o=4)∧n=0
  ·exact hh
  ·exact absurd hh h
 obtain ⟨rfl | rfl,rfl⟩:=h2 <;> simp [doW]
section
variable {o n:Int} {ws:List Int}
theorem run_each (hl:ws.length≤8) (h:Fine o n):∃ s',wholeD (pgN 0 (twoFn o n (eachE ws))) 1000 1 .unit .zero = .ok (seqV (nums (ws.map (zOf o n)))) s':=by
 obtain ⟨z1,z2,z3⟩:=words_sz (ws.map (zOf o n)) (by simp; omega)
 let f:Val→Val:=fun v=>match v with
  | .num w => .num (zOf o n w)
  | v=>v
 have hm:(nums ws).map f=nums (ws.map (zOf o n)):=by simp [nums,f]
 have e:=Ev.each (P:=pgN 0 (twoFn o n (eachE ws))) (left:=1000) (env:=[(3,Val.unit)]) (i:=3) (n:=7) (m:=0) (d:=1000) (f:=f) (b:=(callE (var1 7)).nt (4+(seqE (ws.map intE)).size)) (k2:=5) (ev_words (d:=998) ws 4) fun x hx=>by
  obtain ⟨w,_,rfl⟩:=List.mem_map.1 hx
  exact ev_callv (d:=997) (fine_do h) _ rfl
 rw [hm] at e
 obtain ⟨s',e1,_⟩:=whole_ev (P:=pgN 0 (twoFn o n (eachE ws))) (f:=1) (p:=3) rfl e (by simp [nums]; omega) z1 z2 z3
 exact ⟨s',e1⟩
theorem run_calls2 (hl:ws.length≤8) (h:Fine o n):∃ s',wholeD (pgN 0 (twoFn o n (callsE ws))) 1000 1 .unit .zero = .ok (seqV (nums (ws.map (zOf o n)))) s':=by
 obtain ⟨z1,z2,z3⟩:=words_sz (ws.map (zOf o n)) (by simp; omega)
 have e:Ev (pgN 0 (twoFn o n (callsE ws))) 1000 1001 ((callsE ws).nt 3) [(3,Val.unit)] (seqV (ws.map fun w => .num (zOf o n w))) (1+ws.length * 5) :=
  Ev.opL (d:=1000) (i:=3) (n:=0) (m:=0) (by decide) (EvL.ws ws 4 (g:=fun w=>callE (intE w)) (f:=fun w => .num (zOf o n w)) (k:=5) fun w hw i=>ev_calli (d:=997) (fine_do h) i) rfl
 have hm:(ws.map fun w=>Val.num (zOf o n w))=nums (ws.map (zOf o n)):=by simp [nums]
 rw [hm] at e
 obtain ⟨s',e1,_⟩:=whole_ev (P:=pgN 0 (twoFn o n (callsE ws))) (f:=1) (p:=3) rfl e (by omega) z1 z2 z3
 exact ⟨s',e1⟩
theorem run_keep (hl:ws.length≤8) (h:Fine o n):∃ s',wholeD (pgN 0 (twoFn o n (keepE ws))) 1000 1 .unit .zero = .ok (seqV (nums (ws.filter fun w=>zOf o n w != 0))) s':=by
 obtain ⟨z1,z2,z3⟩:=words_sz (ws.filter fun w=>zOf o n w != 0) (by have:=List.length_filter_le (fun w=>zOf o n w != 0) ws; omega)
 let f:Val→Int:=fun v=>match v with
  | .num w=>zOf o n w
  | _=>0
 have hm:(nums ws).filter (fun x=>f x != 0)=nums (ws.filter fun w=>zOf o n w != 0):=by
  simp only [nums,List.filter_map]
  rfl
 have e:=Ev.keep (P:=pgN 0 (twoFn o n (keepE ws))) (left:=1000) (env:=[(3,Val.unit)]) (i:=3) (n:=7) (m:=0) (d:=1000) (f:=f) (b:=(callE (var1 7)).nt (4+(seqE (ws.map intE)).size)) (k2:=5) (ev_words (d:=998) ws 4) fun x hx=>by
  obtain ⟨w,_,rfl⟩:=List.mem_map.1 hx
  exact ev_callv (d:=997) (fine_do h) _ rfl
 rw [hm] at e
 obtain ⟨s',e1,_⟩:=whole_ev (P:=pgN 0 (twoFn o n (keepE ws))) (f:=1) (p:=3) rfl e (by simp [nums]; omega) z1 z2 z3
 exact ⟨s',e1⟩
theorem run_nil (e:Ex) (he:e=eachE []∨e=callsE []∨e=keepE []):∃ s',wholeD (pgN 0 (twoFn o n e)) 1000 1 .unit .zero = .ok (seqV (nums [])) s':=by
 obtain ⟨z1,z2,z3⟩:=words_sz [] (by simp)
 rcases he with rfl | rfl | rfl
 ·have e:=Ev.each (P:=pgN 0 (twoFn o n (eachE []))) (left:=1000) (env:=[(3,Val.unit)]) (i:=3) (n:=7) (m:=0) (d:=1000) (f:=id) (b:=(callE (var1 7)).nt 5) (k2:=5) (ev_words (d:=998) [] 4) fun x hx=>by simp [nums] at hx
  obtain ⟨s',e1,_⟩:=whole_ev (P:=pgN 0 (twoFn o n (eachE []))) (f:=1) (p:=3) rfl e (by simp [nums]) z1 z2 z3
  exact ⟨s',e1⟩
 ·have e:=Ev.opL (P:=pgN 0 (twoFn o n (callsE []))) (left:=1000) (env:=[(3,Val.unit)]) (d:=1000) (i:=3) (o:=16) (n:=0) (m:=0) (by decide) .nil (y:=seqV (nums [])) rfl
  obtain ⟨s',e1,_⟩:=whole_ev (P:=pgN 0 (twoFn o n (callsE []))) (f:=1) (p:=3) rfl e (by omega) z1 z2 z3
  exact ⟨s',e1⟩
 ·have e:=Ev.keep (P:=pgN 0 (twoFn o n (keepE []))) (left:=1000) (env:=[(3,Val.unit)]) (i:=3) (n:=7) (m:=0) (d:=1000) (f:=fun _=>0) (b:=(callE (var1 7)).nt 5) (k2:=5) (ev_words (d:=998) [] 4) fun x hx=>by simp [nums] at hx
  obtain ⟨s',e1,_⟩:=whole_ev (P:=pgN 0 (twoFn o n (keepE []))) (f:=1) (p:=3) rfl e (by simp [nums]) z1 z2 z3
  exact ⟨s',e1⟩
theorem run_err (e:Ex) (he:e=eachE ws∨e=callsE ws∨e=keepE ws) (hl:ws.length≤8) (hn:ws≠[]) (h:¬ Fine o n):∃ i,wholeD (pgN 0 (twoFn o n e)) 1000 1 .unit .zero = .err 14 i:=by
 cases ws with
 | nil=>exact absurd rfl hn
 | cons w ws =>
  simp only [List.length_cons] at hl
  rcases he with rfl | rfl | rfl
  ·have e:=Er.each (P:=pgN 0 (twoFn o n (eachE (w :: ws)))) (left:=1000) (env:=[(3,Val.unit)]) (i:=3) (n:=7) (m:=0) (d:=1000) (x:=.num w) (l:=nums ws) (b:=(callE (var1 7)).nt (4+(seqE ((w :: ws).map intE)).size)) (ev_words (d:=998) (w :: ws) 4) (er_callv (d:=997) (not_fine_do h) _ rfl)
   exact whole_er (P:=pgN 0 (twoFn o n (eachE (w :: ws)))) (f:=1) (p:=3) rfl e (by simp; omega)
  ·have e:=Er.fst (P:=pgN 0 (twoFn o n (callsE (w :: ws)))) (left:=1000) (env:=[(3,Val.unit)]) (i:=3) (o:=16) (n:=0) (m:=0) (d:=1000) (l:=Ex.ntL (4+(callE (intE w)).size) (ws.map fun w=>callE (intE w))) (by decide) (er_calli (d:=997) (w:=w) (not_fine_do h) 4)
   exact whole_er (P:=pgN 0 (twoFn o n (callsE (w :: ws)))) (f:=1) (p:=3) rfl e (by omega)
  ·have e:=Er.keep (P:=pgN 0 (twoFn o n (keepE (w :: ws)))) (left:=1000) (env:=[(3,Val.unit)]) (i:=3) (n:=7) (m:=0) (d:=1000) (x:=.num w) (l:=nums ws) (b:=(callE (var1 7)).nt (4+(seqE ((w :: ws).map intE)).size)) (ev_words (d:=998) (w :: ws) 4) (er_callv (d:=997) (not_fine_do h) _ rfl)
   exact whole_er (P:=pgN 0 (twoFn o n (keepE (w :: ws)))) (f:=1) (p:=3) rfl e (by simp; omega)
end
end Go.Proofs.Mn
set_option linter.unusedVariables false
set_option linter.unusedSimpArgs false
set_option maxHeartbeats 1000000
namespace Go.Proofs.Mn
open Go Go.Am
theorem okL_get {nf:Nat} {op n m:Int}:∀ {l:List Ex} {i:Nat} {deep:Int} {vars:List Int},okL nf op n m l i deep vars=true→∀ k:Nat,∀ h:k<l.length,okE nf l[k] deep (bndP op n m (i+k) vars)=true
 | [],i,deep,vars,h,k,hk=>by simp at hk
 | x :: xs,i,deep,vars,h,0,hk=>by
  simp only [okL,Bool.and_eq_true] at h
  simpa using h.1
 | x :: xs,i,deep,vars,h,k+1,hk=>by
  simp only [okL,Bool.and_eq_true] at h
  have:=okL_get h.2 k (by simpa using hk)
  rw [show i+1+k=i+(k+1) by omega] at this
  simpa using this
theorem bnd_mem {op n m:Int} {i:Nat} {vars vars':List Int} (hop:op≠4∨i=0) (h:∀ x,x∈vars↔x∈vars') (x:Int):x∈bndP op n m i vars↔x∈bnd op n m i vars':=by
 unfold bndP bnd
 by_cases h1:op=4
 ·have hi:i=0:=by
   rcases hop with hh | hh
   ·exact absurd h1 hh
   ·exact hh
  simp [h1,hi,h x,or_comm]
 ·by_cases h2:(op=3∨op=17∨op=18∨op=13)∧i=1
  ·rw [if_pos (.inr h2),if_pos (.inr h2)]
   simp [h x,or_comm]
  ·have h3:¬ (op=4∧i=0∨(op=3∨op=17∨op=18∨op=13)∧i=1):=by
    rintro (hh | hh)
    ·exact h1 hh.1
    ·exact h2 hh
   have h4:¬ (op=4∨(op=3∨op=17∨op=18∨op=13)∧i=1):=by
    rintro (hh | hh)
    ·exact h1 hh
    ·exact h2 hh
   rw [if_neg h3,if_neg h4]
   split
   ·simp [h x,or_comm]
   ·exact h x
theorem okE_wf {nf:Nat}:∀ (e:Ex) (i:Nat) (deep:Int) (vars vars':List Int),(∀ x,x∈vars↔x∈vars')→okE nf e deep vars=true→Wf nf vars' (e.nt i):=by
 intro e
 induction e using Ex.ind with
 | h op n m v l ih =>
 intro i deep vars vars' hv h
 simp only [okE,Bool.and_eq_true] at h
 obtain ⟨h1,h2⟩:=h
 simp only [nodeOk,Bool.and_eq_true,decide_eq_true_eq] at h1
 obtain ⟨⟨⟨⟨⟨hd,ho⟩,hn⟩,hp⟩,hx⟩,hm⟩:=h1
 rw [Ex.nt]
 have hpk:shape op (Ex.ntL (i+1) l).length:=by
  rw [Ex.ntL_length,shape]
  simp only [partsOk,Bool.or_eq_true,Bool.and_eq_true,decide_eq_true_eq,beq_iff_eq] at hp
  split
  ·rename_i h16
   rcases hp with hp | hp
   ·subst h16
    simp [arity] at hp
   ·exact hp.2
  ·rename_i h16
   rcases hp with hp | hp
   ·exact ⟨ho.1,ho.2,hp⟩
   ·exact absurd hp.1 h16
 refine .mk _ _ _ _ _ _ hpk ⟨fun h0=>(hv n).1 (hx h0),fun h0 => ?_,fun h0 => ?_,fun h0 => ?_,fun h0 => ?_⟩ fun k hk => ?_
 ·subst h0
  simpa [nOk] using hn
 ·rcases h0 with rfl | rfl <;> (simp [nOk] at hn; omega)
 ·subst h0
  simpa [nOk] using hn
 ·rcases h0 with rfl | rfl <;> simpa [nOk] using hn
 ·have hk2:k<l.length:=by rwa [Ex.ntL_length] at hk
  rw [Ex.ntL_get hk hk2]
  have h3:=okL_get h2 k hk2
  rw [Nat.zero_add] at h3
  refine ih _ (List.getElem_mem hk2) _ _ _ _ (fun x=>bnd_mem ?_ hv x) h3
  by_cases h4:op=4
  ·subst h4
   right
   rw [Ex.ntL_length,shape] at hpk
   simp [arity] at hpk
   omega
  ·exact .inl h4
theorem ok_int {nf:Nat} {w deep:Int} {vars:List Int} (hw:isWord w=true) (hd:deep≤40):okE nf (intE w) deep vars=true:=by
 simp [intE,mkE,okE,okL,nodeOk,nOk,partsOk,arity,hw,hd]
theorem okL_map {nf:Nat} {g:Int→Ex} {deep:Int} {vars:List Int}:∀ (ws:List Int) (i:Nat),(∀ w∈ws,okE nf (g w) deep vars=true)→okL nf 16 0 0 (ws.map g) i deep vars=true
 | [],i,h=>rfl
 | w :: ws,i,h=>by
  have hb:bndP 16 0 0 i vars=vars:=by simp [bndP]
  simp only [List.map_cons,okL,hb,h w (by simp),Bool.true_and]
  exact okL_map ws (i+1) fun x hx=>h x (by simp [hx])
theorem ok_seq {nf:Nat} {g:Int→Ex} {deep:Int} {vars:List Int} {ws:List Int} (hl:ws.length≤8) (hd:deep≤40) (h:∀ w∈ws,okE nf (g w) (deep+1) vars=true):okE nf (seqE (ws.map g)) deep vars=true:=by
 have:=okL_map ws 0 h
 simp [seqE,mkE,okE,nodeOk,nOk,partsOk,hl,hd,this]
theorem ok_bin {o n:Int} (ho:0≤o∧o≤11) (hn:isWord n=true):okE 2 (binE o n) 1 [0]=true:=by
 have h1:=ok_int (nf:=2) (deep:=2) (vars:=[0]) hn (by omega)
 have hb:∀ i,bndP 15 o 0 i [0]=[0]:=fun i=>by simp [bndP]
 simp only [binE,mkE,okE,okL,hb,Bool.and_eq_true,Bool.and_true]
 refine ⟨by simp [nodeOk,nOk,partsOk,arity,ho],?_,h1⟩
 decide
theorem ok_each {ws:List Int} (hl:ws.length≤8) (hw:∀ w∈ws,isWord w=true) (op:Int) (hop:op=17∨op=18):okE 2 (mkE op 7 0 [seqE (ws.map intE),callE (var1 7)]) 1 [3]=true:=by
 have h1:=ok_seq (nf:=2) (g:=intE) (deep:=2) (vars:=[3]) hl (by omega) fun w h=>ok_int (hw w h) (by omega)
 have h2:okE 2 (callE (var1 7)) 2 [3,7]=true:=by decide
 have hb0:bndP op 7 0 0 [3]=[3]:=by rcases hop with rfl | rfl <;> rfl
 have hb1:bndP op 7 0 1 [3]=[3,7]:=by rcases hop with rfl | rfl <;> rfl
 have hn:nodeOk 2 op 7 0 2 1 [3]=true:=by rcases hop with rfl | rfl <;> decide
 simp only [mkE,okE,okL,List.length_cons,List.length_nil,hb0,hb1,hn,Bool.true_and,Bool.and_true,Nat.zero_add]
 simp only [show (1:Int)+1=2 by rfl,h1,h2,Bool.and_self]
theorem ok_calls {ws:List Int} (hl:ws.length≤8) (hw:∀ w∈ws,isWord w=true):okE 2 (callsE ws) 1 [3]=true:=by
 refine ok_seq hl (by omega) fun w h => ?_
 have h1:=ok_int (nf:=2) (deep:=3) (vars:=[3]) (hw w h) (by omega)
 have hn:nodeOk 2 7 0 0 1 2 [3]=true:=by decide
 have hb:bndP 7 0 0 0 [3]=[3]:=rfl
 simp only [show (1:Int)+1=2 by rfl,callE,mkE,okE,okL,List.length_cons,List.length_nil,hb,hn,Bool.true_and,Bool.and_true,Nat.zero_add]
 simpa only [show (2:Int)+1=3 by rfl,intE,mkE,okE,okL,List.length_nil,Bool.and_true] using h1
theorem size_int (w:Int):(intE w).size=1:=rfl
theorem sizeL_map {g:Int→Ex} {k:Nat} (hg:∀ w,(g w).size=k):∀ ws:List Int,Ex.sizeL (ws.map g)=ws.length * k
 | []=>by simp [Ex.sizeL]
 | w :: ws=>by simp only [List.map_cons,Ex.sizeL,hg,sizeL_map hg ws,List.length_cons,Nat.add_mul]; omega
theorem size_each (ws:List Int) (op:Int):(mkE op 7 0 [seqE (ws.map intE),callE (var1 7)]).size=4+ws.length:=by
 simp only [mkE,seqE,callE,var1,Ex.size,Ex.sizeL,sizeL_map size_int]
 omega
theorem size_calls (ws:List Int):(callsE ws).size=1+ws.length * 2:=by
 have:∀ w,(callE (intE w)).size=2:=fun w=>rfl
 simp only [callsE,seqE,mkE,Ex.size,sizeL_map this]
theorem z64:is64 0:=by constructor <;> omega
theorem e64 {n:Int} (h:0≤n∧n≤100):is64 n:=by constructor <;> omega
theorem exok_int {w:Int} (hw:isWord w=true):(intE w).Ok:=mkE_ok (e64 (by omega)) (is64_word hw) z64 (by simp)
theorem exok_var {n:Int} (h:0≤n∧n≤100):(var1 n).Ok:=mkE_ok z64 (e64 h) z64 (by simp)
theorem exok_call {x:Ex} (h:x.Ok):(callE x).Ok:=mkE_ok (e64 (by omega)) z64 z64 (by simpa using h)
theorem exok_seq {l:List Ex} (h:∀ x∈l,x.Ok):(seqE l).Ok:=.mk _ _ _ _ _ (e64 (by omega)) z64 z64 (SlV.sv false) h
theorem exok_bin {o n:Int} (ho:0≤o∧o≤11) (hn:isWord n=true):(binE o n).Ok:=mkE_ok (e64 (by omega)) (e64 (by omega)) z64 fun x hx=>by
 simp only [List.mem_cons,List.not_mem_nil,or_false] at hx
 rcases hx with rfl | rfl
 ·exact exok_var (by omega)
 ·exact exok_int hn
theorem exok_each {ws:List Int} (hw:∀ w∈ws,isWord w=true) (op:Int) (hop:op=17∨op=18):(mkE op 7 0 [seqE (ws.map intE),callE (var1 7)]).Ok:=mkE_ok (e64 (by omega)) (e64 (by omega)) z64 fun x hx=>by
 simp only [List.mem_cons,List.not_mem_nil,or_false] at hx
 rcases hx with rfl | rfl
 ·exact exok_seq fun y hy=>by
   obtain ⟨w,hm,rfl⟩:=List.mem_map.1 hy
   exact exok_int (hw w hm)
 ·exact exok_call (exok_var (by omega))
theorem exok_calls {ws:List Int} (hw:∀ w∈ws,isWord w=true):(callsE ws).Ok:=exok_seq fun y hy=>by
 obtain ⟨w,hm,rfl⟩:=List.mem_map.1 hy
 exact exok_call (exok_int (hw w hm))
theorem two_prg {o n:Int} {e:Ex} {v:V} (ho:0≤o∧o≤11) (hn:isWord n=true) (hv:SlV ((twoFn o n e).map Fn.cs) v) (he:e.Ok) (hs:e.size≤500) (hk:okE 2 e 1 [3]=true) (hc:PC 69 [.agg [v,.int .i64 1]] (.int .i64 0)):Prg (twoFn o n e) v 1:=by
 refine ⟨hv,fun f hf => ?_,?_,fun f hf => ?_,hc⟩
 ·simp only [twoFn,List.mem_cons,List.not_mem_nil,or_false] at hf
  rcases hf with rfl | rfl
  ·exact ⟨z64,exok_bin ho hn⟩
  ·exact ⟨e64 (by simp),he⟩
 ·have:(binE o n).size=3:=rfl
  simp only [twoFn,szFn,this]
  omega
 ·rw [two_pg] at hf ⊢
  simp only [List.mem_cons,List.not_mem_nil,or_false] at hf
  rcases hf with rfl | rfl
  ·exact okE_wf (nf:=2) (binE o n) 0 1 [0] [0] (fun _=>Iff.rfl) (ok_bin ho hn)
  ·exact okE_wf (nf:=2) e 3 1 [3] [3] (fun _=>Iff.rfl) hk
end Go.Proofs.Mn
set_option linter.unusedVariables false
set_option linter.unusedSimpArgs false
set_option maxHeartbeats 1000000
namespace Go.Proofs.Mn
open Go Go.Am
section
variable {H:Heap} {fv:V} {mn:Int} {nf:Nat}
theorem within_c (n a b:Int):CC 164 [.int .i64 n,.int .i64 a,.int .i64 b] H (.ret (.bool (decide (a≤n∧n≤b)))) H:=by
 refine cc_of (af:=Trmn.a164) rfl rfl fun Q hQ => ?_
 simp only [Trmn.a164]
 by_cases h:a≤n
 ·simp [h,slotOf]
  simpa [h] using hQ
 ·simp [h,slotOf]
  simpa [h] using hQ
theorem within_q (n a b:Int):PC 164 [.int .i64 n,.int .i64 a,.int .i64 b] (.bool (decide (a≤n∧n≤b))) :=
 pc_ro rfl (fun h=>rfl) (within_c n a b)
theorem isVar_c (hc:isCell fv=true) (n:Int):CC 167 [.agg [fv,.int .i64 mn],.int .i64 n] H (.ret (.bool (isVarN n))) H:=by
 have hw:=within_q n 0 399
 rw [PC] at hw
 refine cc_of (af:=Trmn.a167) rfl rfl fun Q hQ => ?_
 simp only [Trmn.a167]
 simp [slotOf,hc,hw,-pcall,-Bool.decide_and]
 exact hQ
theorem isFun_c (hs:isCell fv=true) (hl:lenV fv=some (.int .i64 nf)) (hn:nf<2 ^ 60) (n:Int):CC 165 [.agg [fv,.int .i64 mn],.int .i64 n] H (.ret (.bool (decide (0≤n∧n≤(nf:Int) - 1)))) H:=by
 have hw:=within_q n 0 ((nf:Int) - 1)
 have w1:IntKind.i64.wrap ((nf:Int) - 1)=(nf:Int) - 1:=wrap64 (by omega) (by omega)
 rw [PC] at hw
 refine cc_of (af:=Trmn.a165) rfl rfl fun Q hQ => ?_
 simp only [Trmn.a165]
 simp [slotOf,hs,hl,w1,hw,-pcall,-Bool.decide_and]
 exact hQ
theorem any_c (hc:isCell fv=true) (n:Int):CC 232 [.agg [fv,.int .i64 mn],.int .i64 n] H (.ret (.bool true)) H:=by
 refine cc_of (af:=Trmn.a232) rfl rfl fun Q hQ => ?_
 simp only [Trmn.a232]
 simp [slotOf,hc,-pcall]
 exact hQ
theorem isWord_c (hc:isCell fv=true) (n:Int):CC 233 [.agg [fv,.int .i64 mn],.int .i64 n] H (.ret (.bool (isWord n))) H:=by
 have hw:=within_q n (-2147483648) 2147483647
 rw [PC] at hw
 refine cc_of (af:=Trmn.a233) rfl rfl fun Q hQ => ?_
 simp only [Trmn.a233]
 simp [slotOf,hc,hw,-pcall,-Bool.decide_and]
 exact hQ
theorem isOp_c (hc:isCell fv=true) (n:Int):CC 234 [.agg [fv,.int .i64 mn],.int .i64 n] H (.ret (.bool (decide (0≤n∧n≤11)))) H:=by
 have hw:=within_q n 0 11
 rw [PC] at hw
 refine cc_of (af:=Trmn.a234) rfl rfl fun Q hQ => ?_
 simp only [Trmn.a234]
 simp [slotOf,hc,hw,-pcall,-Bool.decide_and]
 exact hQ
theorem joins_c (n:Int):PC 266 [.int .i64 n] (.bool (isJoin n)):=by
 have hk:=contains_q [0,2,7,8,9,10,11] true n (by simp)
 have e:([0,2,7,8,9,10,11]:List Int).contains n=isJoin n:=by
  rw [Bool.eq_iff_iff]
  simp [isJoin,or_assoc]
 rw [e,PC] at hk
 simp only [List.map_cons,List.map_nil] at hk
 refine pc_ro rfl (fun h=>rfl) (cc_of (af:=Trmn.a266) rfl rfl fun Q hQ => ?_)
 simp only [Trmn.a266]
 simp [slotOf,fill,chunks,hk,-pcall]
 exact hQ
theorem isJoin_c (hc:isCell fv=true) (n:Int):CC 235 [.agg [fv,.int .i64 mn],.int .i64 n] H (.ret (.bool (isJoin n))) H:=by
 have hw:=joins_c n
 rw [PC] at hw
 refine cc_of (af:=Trmn.a235) rfl rfl fun Q hQ => ?_
 simp only [Trmn.a235]
 simp [slotOf,hc,hw,-pcall]
 exact hQ
def wrongV:V:=.iface 269 (.agg [.int .i64 1,.int .i64 0])
theorem must_q (b:Bool):pcall (lim gl Trmn.aprog) (.func (.func 163) [] []) [.bool b,.int .i64 1]=some (if b then .val (.tup []) else .pan wrongV):=by
 cases b with
 | true =>
  have h:(lim gl Trmn.aprog).call 163 [.bool true,.int .i64 1] []=some (.ret (.tup []),[]):=by
   refine CallP.eq (call_ofQ (af:=Trmn.a163) rfl rfl fun Q hQ => ?_)
   simp only [Trmn.a163]
   simp [slotOf]
   exact hQ _ _ ⟨rfl,rfl⟩
  simp [pcall,callee,h,pureL,pureV,viewW,viewWL]
 | false =>
  have h:(lim gl Trmn.aprog).call 163 [.bool false,.int .i64 1] []=some (.pan wrongV,[]):=by
   refine CallP.eq (call_ofQ (af:=Trmn.a163) rfl rfl fun Q hQ => ?_)
   simp only [Trmn.a163]
   simp [slotOf,fill]
   exact hQ _ _ ⟨rfl,rfl⟩
  simp [pcall,callee,h,pureL,pureV,viewW,viewWL,wrongV,viewV,viewL]
end
def ptF (op:Int):Int:=if op=16 then -1 else arity op
def nF (op:Int):Nat :=
 if op=0∨op=3∨op=4∨op=13∨op=17∨op=18 then 167
 else if op=1 then 233
 else if op=6∨op=7 then 165
 else if op=15 then 234
 else if op=22∨op=23 then 235
 else 232
def b1F (op:Int):Int:=if op=4 then 1 else if op=3∨op=13∨op=17∨op=18 then 2 else 0
def b2F (op:Int):Int:=if op=13 then 4 else 0
def formV (op:Int):List V:=[.int .i64 (ptF op),.func (.func (nF op)) [] [],.int .i64 (b1F op),.int .i64 (b2F op)]
def formsL:List V:=((List.range 27).map fun (k:Nat)=>formV (k:Int)).flatten
set_option maxRecDepth 20000 in
theorem forms_q (H:Heap):RO 204 [] H (.ret (.agg formsL)):=by
 refine ro_of (af:=Trmn.a204) rfl rfl fun Q hQ => ?_
 simp only [Trmn.a204]
 simp [slotOf,fill]
 exact hQ
theorem op_cases {op:Int} (h:0≤op∧op≤26) {P:Int→Prop} (hp:∀ k:Nat,k<27→P (k:Int)):P op:=by
 have:=hp op.toNat (by omega)
 rwa [show ((op.toNat:Nat):Int)=op by omega] at this
theorem forms_at {op:Int} (h:0≤op∧op≤26):(formsL.drop (op.toNat * 4)).take 4=formV op:=by
 refine op_cases (P:=fun op=>(formsL.drop (op.toNat * 4)).take 4=formV op) h fun k hk => ?_
 have:∀ k:Nat,k<27→(formsL.drop ((k:Int).toNat * 4)).take 4=formV (k:Int):=by
  intro k hk
  rw [Int.toNat_natCast]
  repeat (first | (exact absurd hk (by omega)) | (cases k with | zero=>rfl | succ k => ?_))
 exact this k hk
theorem forms_len:formsL.length=108:=rfl
section
variable {H:Heap} {fv:V} {mn:Int} {nf:Nat}
theorem nOk_c (hs:isCell fv=true) (hl:lenV fv=some (.int .i64 nf)) (hn:nf<2 ^ 60) (op n:Int):CC (nF op) [.agg [fv,.int .i64 mn],.int .i64 n] H (.ret (.bool (nOk nf op n))) H:=by
 unfold nF nOk
 by_cases h1:op=0∨op=3∨op=4∨op=13∨op=17∨op=18
 ·rw [if_pos h1,if_pos h1]; exact isVar_c hs n
 rw [if_neg h1,if_neg h1]
 by_cases h2:op=1
 ·rw [if_pos h2,if_pos h2]; exact isWord_c hs n
 rw [if_neg h2,if_neg h2]
 by_cases h3:op=6∨op=7
 ·rw [if_pos h3,if_pos h3]; exact isFun_c hs hl hn n
 rw [if_neg h3,if_neg h3]
 by_cases h4:op=15
 ·rw [if_pos h4,if_pos h4]; exact isOp_c hs n
 rw [if_neg h4,if_neg h4]
 by_cases h5:op=22∨op=23
 ·rw [if_pos h5,if_pos h5]; exact isJoin_c hs n
 rw [if_neg h5,if_neg h5]
 exact any_c hs n
end
def varV (vars:List Int) (ex:Bool):V:=.sv ((vars.map (V.int .i64)).map fun x=>[x]) ex
def bitB (b:Int) (i:Nat):Bool:=(b == 1&&i == 0)||(b == 2&&i == 1)||(b == 4&&i == 2)
end Go.Proofs.Mn
set_option linter.unusedVariables false
set_option linter.unusedSimpArgs false
set_option maxHeartbeats 1000000
namespace Go.Proofs.Mn
open Go Go.Am
theorem flat_one:∀ l:List V,(l.map fun x=>[x]).flatten=l
 | []=>rfl
 | x :: xs=>by simp only [List.map_cons,List.flatten_cons,flat_one xs]; rfl
theorem rep_flat (k:Nat) (x:V):(List.replicate k [x]).flatten=List.replicate k x:=by
 induction k with
 | zero=>rfl
 | succ k ih=>simp only [List.replicate_succ,List.flatten_cons,ih]; rfl
theorem cpy_cells (H:Heap) (cs:List V) (ex:Bool) (k:Nat) (hk:cs.length=k) (h0:0<k):copyV (H++[.cells k 1 (List.replicate k (V.int .i64 0))]) (.sl H.length 0 k k 1 false) (.sv (cs.map fun x=>[x]) ex) 1 =
  some (.int .i64 k,H++[.cells k 1 cs]):=by
 have h1:sliceLen (.sv (cs.map fun x=>[x]) ex)=some k:=by simp [sliceLen,hk]
 have h2:∀ h:Heap,sliceCells h (.sv (cs.map fun x=>[x]) ex)=some cs:=fun h=>by simp only [sliceCells,flat_one]
 have h3:=obj_last H k 1 (List.replicate k (V.int .i64 0))
 have h4:k≠0:=by omega
 have h5:splice (List.replicate k (V.int .i64 0)) (0 * 1) cs=cs:=by simp [splice,hk]
 simp only [copyV,h1,h2,h3,h4,h5,if_false,true_and]
 rw [if_pos (by omega),if_pos (by simp; omega),set_last]
theorem bit_q (b:Int) (hb:b=0∨b=1∨b=2∨b=4) (i:Nat) (hi:i<8):∃ z y,shiftV .shr .i64 b i=some (.int .i64 z)∧intBin .and .i64 z 1=some (.int .i64 y)∧intBin .eql .i64 y 1=some (.bool (bitB b i)):=by
 have hi:i=0∨i=1∨i=2∨i=3∨i=4∨i=5∨i=6∨i=7:=by omega
 rcases hb with rfl | rfl | rfl | rfl <;> rcases hi with rfl | rfl | rfl | rfl | rfl | rfl | rfl | rfl <;> exact ⟨_,_,rfl,rfl,rfl⟩
theorem pure_vars (l:List Int):pureL (l.map (V.int .i64))=true:=by
 induction l with
 | nil=>rfl
 | cons x xs ih=>simpa [pureL,pureV] using ih
def bindsV (b bm n m:Int) (i:Nat) (vars:List Int):List Int:=vars++(if bitB b i=true then [n] else [])++(if bitB bm i=true then [m] else [])
theorem bound_c (H:Heap) {vars:List Int} {ex:Bool} (h0:0<vars.length) (hl:vars.length≤2 ^ 30) {pt:Int} {fn:V} (hfn:isCell fn=true) {b bm:Int} (hb:b=0∨b=1∨b=2∨b=4) (hm:bm=0∨bm=1∨bm=2∨bm=4)
  {o n m:Int} {v:V} (hv:isCell v=true) {i:Nat} (hi:i<8) :
  CC 207 [.agg [.int .i64 pt,fn,.int .i64 b,.int .i64 bm],varV vars ex,.agg [.int .i64 o,.int .i64 n,.int .i64 m,v],.int .i64 i] H (.ret (varV (bindsV b bm n m i vars) false)) (H++[.gone]):=by
 obtain ⟨z,y,z1,z2,z3⟩:=bit_q b hb i hi
 obtain ⟨z',y',y1,y2,y3⟩:=bit_q bm hm i hi
 have hlv:lenV (varV vars ex)=some (.int .i64 vars.length):=by simp [varV,lenV]
 have hcv:isCell (varV vars ex)=true:=rfl
 have w2:IntKind.i64.wrap ((vars.length:Int)+2)=(vars.length:Int)+2:=wrap64 (by omega) (by omega)
 have hr:((vars.length:Int)+2) * 8≤(room:Int):=by simp only [room]; omega
 have hlt:(vars.length:Int)≤(vars.length:Int)+2:=by omega
 have hlt2:(vars.length:Int)+2≤9223372036854775807:=by omega
 have hcp:=cpy_cells H (vars.map (V.int .i64)) ex vars.length (by simp) h0
 change copyV _ _ (varV vars ex) _=_ at hcp
 have a1:=app_last H vars.length 8 (vars.map (V.int .i64)) (.int .i64 n) (.sv [[.int .i64 n]] true) rfl rfl (by simp only [room]; omega)
 have a2:=app_last H vars.length 8 (vars.map (V.int .i64)) (.int .i64 m) (.sv [[.int .i64 m]] true) rfl rfl (by simp only [room]; omega)
 have a3:=app_last H (vars.length+1) 8 (vars.map (V.int .i64)++[.int .i64 n]) (.int .i64 m) (.sv [[.int .i64 m]] true) rfl rfl (by simp only [room]; omega)
 have f0:=frz_last H vars.length (vars.map (V.int .i64)) (by simp) (pure_vars vars) false
 have f1:=fun (x:Int)=>frz_last H (vars.length+1) (vars.map (V.int .i64)++[V.int .i64 x]) (by simp) (by have:=pure_vars (vars++[x]); simpa using this) false
 have f2:=frz_last H (vars.length+1+1) (vars.map (V.int .i64)++[V.int .i64 n]++[V.int .i64 m]) (by simp) (by have:=pure_vars (vars++[n]++[m]); simpa using this) false
 have f1n:=f1 n
 have f1m:=f1 m
 have e00:bitB b i=false→bitB bm i=false→varV (bindsV b bm n m i vars) false = .sv ((vars.map (V.int .i64)).map fun x=>[x]) false:=fun g1 g2=>by simp [bindsV,g1,g2,varV]
 have e10:bitB b i=true→bitB bm i=false→varV (bindsV b bm n m i vars) false = .sv ((vars.map (V.int .i64)++[V.int .i64 n]).map fun x=>[x]) false:=fun g1 g2=>by simp [bindsV,g1,g2,varV]
 have e01:bitB b i=false→bitB bm i=true→varV (bindsV b bm n m i vars) false = .sv ((vars.map (V.int .i64)++[V.int .i64 m]).map fun x=>[x]) false:=fun g1 g2=>by simp [bindsV,g1,g2,varV]
 have e11:bitB b i=true→bitB bm i=true→varV (bindsV b bm n m i vars) false = .sv ((vars.map (V.int .i64)++[V.int .i64 n]++[V.int .i64 m]).map fun x=>[x]) false:=fun g1 g2=>by simp [bindsV,g1,g2,varV]
 have rf:=rep_flat vars.length (V.int .i64 0)
 have hpos:(0:Int)≤vars.length:=by omega
 refine cc_of (af:=Trmn.a207) rfl rfl fun Q hQ => ?_
 simp only [Trmn.a207]
 generalize varV vars ex=V0 at *
 generalize vars.map (V.int .i64)=cs at *
 generalize vars.length=k at *
 cases g1:bitB b i <;> cases g2:bitB bm i
 ·rw [e00 g1 g2] at hQ
  rw [g1] at z3
  rw [g2] at y3
  simp [slotOf,hfn,hv,hcv,hlv,w2,hr,hlt,hlt2,hpos,rf,hcp,z1,z2,z3,y1,y2,y3,a1,a2,a3,f0,fill,chunks,mkV,intBin_add,-intBin,-shiftV,-pcall]
  exact hQ
 ·rw [e01 g1 g2] at hQ
  rw [g1] at z3
  rw [g2] at y3
  simp [slotOf,hfn,hv,hcv,hlv,w2,hr,hlt,hlt2,hpos,rf,hcp,z1,z2,z3,y1,y2,y3,a1,a2,a3,f1m,fill,chunks,mkV,intBin_add,-intBin,-shiftV,-pcall]
  simpa using hQ
 ·rw [e10 g1 g2] at hQ
  rw [g1] at z3
  rw [g2] at y3
  simp [slotOf,hfn,hv,hcv,hlv,w2,hr,hlt,hlt2,hpos,rf,hcp,z1,z2,z3,y1,y2,y3,a1,a2,a3,f1n,fill,chunks,mkV,intBin_add,-intBin,-shiftV,-pcall]
  simpa using hQ
 ·rw [e11 g1 g2] at hQ
  rw [g1] at z3
  rw [g2] at y3
  simp only [List.append_assoc,List.cons_append,List.nil_append] at a3 f2
  simp [slotOf,hfn,hv,hcv,hlv,w2,hr,hlt,hlt2,hpos,rf,hcp,z1,z2,z3,y1,y2,y3,a1,a2,a3,f2,fill,chunks,mkV,intBin_add,-intBin,-shiftV,-pcall]
  simpa using hQ
theorem binds_eq {op n m:Int} {i:Nat} {vars:List Int}:bindsV (b1F op) (b2F op) n m i vars=bndP op n m i vars:=by
 unfold bindsV bndP b1F b2F bitB
 by_cases h4:op=4
 ·subst h4
  by_cases hi:i=0 <;> simp [hi]
 ·by_cases h2:op=3∨op=13∨op=17∨op=18
  ·have h2':op=3∨op=17∨op=18∨op=13:=by omega
   simp only [h4,h2,h2',if_false,if_true,false_and,false_or,true_and]
   by_cases hi:i=1
   ·subst hi
    by_cases h13:op=13 <;> simp [h13]
   ·by_cases h13:op=13
    ·by_cases hi2:i=2 <;> simp [h13,hi,hi2]
    ·simp [h13,hi]
  ·have h2':¬ (op=3∨op=17∨op=18∨op=13):=by omega
   have n1:¬ op=13:=by omega
   have n2:¬ op=3:=by omega
   have n3:¬ op=17:=by omega
   have n4:¬ op=18:=by omega
   simp [h4,n1,n2,n3,n4]
theorem b1F_cases (op:Int):b1F op=0∨b1F op=1∨b1F op=2∨b1F op=4:=by
 unfold b1F
 split
 ·simp
 ·split <;> simp
theorem b2F_cases (op:Int):b2F op=0∨b2F op=1∨b2F op=2∨b2F op=4:=by
 unfold b2F
 split <;> simp
end Go.Proofs.Mn
set_option linter.unusedVariables false
set_option linter.unusedSimpArgs false
set_option maxHeartbeats 4000000
namespace Go.Proofs.Mn
open Go Go.Am
abbrev walkF (lb ab pb wb:Nat):V:=.func (.func 205) [] [.ref lb 0 1,.ref ab 0 1,.ref pb 0 1,.ref wb 0 1]
structure WalkH (lb ab pb wb:Nat) (fv:V) (mn left:Int) (H:Heap):Prop where
 l:H[lb]?=some (.cells 1 1 [.int .i64 left])
 a:H[ab]?=some (.cells 1 108 formsL)
 p:H[pb]?=some (.cells 1 2 [fv,.int .i64 mn])
 w:H[wb]?=some (.cells 1 1 [walkF lb ab pb wb])
theorem WalkH.same {lb ab pb wb:Nat} {fv:V} {mn left:Int} {H H':Heap} (h:WalkH lb ab pb wb fv mn left H) (hs:∀ a,a<H.length→H'[a]?=H[a]?):WalkH lb ab pb wb fv mn left H':=by
 have hlt:∀ {a:Nat} {o:Am.Obj},H[a]?=some o→H'[a]?=some o:=fun {a o} ho=>(hs a (List.getElem?_eq_some_iff.1 ho).1).trans ho
 exact ⟨hlt h.l,hlt h.a,hlt h.p,hlt h.w⟩
theorem bndP_len {op n m:Int} {i:Nat} {vars:List Int}:vars.length≤(bndP op n m i vars).length∧(bndP op n m i vars).length≤vars.length+1:=by
 unfold bndP
 split
 ·simp
 ·split <;> simp
theorem partsOk_cases {op:Int} {k:Nat} (h:partsOk op k=true):(op=16∧k≤8)∨(op≠16∧(k:Int)=ptF op∧k≤3):=by
 simp only [partsOk,Bool.or_eq_true,Bool.and_eq_true,decide_eq_true_eq,beq_iff_eq] at h
 by_cases h16:op=16
 ·left
  refine ⟨h16,?_⟩
  rcases h with h | h
  ·subst h16
   simp [arity] at h
  ·exact h.2
 ·right
  rcases h with h | h
  ·refine ⟨h16,by simp [ptF,h16,h],?_⟩
   have:arity op≤3:=by unfold arity; repeat' split; all_goals omega
   omega
  ·exact absurd h.1 h16
theorem drop_cons {α:Type} {l:List α} {k:Nat} (h:k<l.length):l.drop k=l[k] :: l.drop (k+1):=List.drop_eq_getElem_cons h
def walkLoop:ACode:=match Trmn.a205.body with
 | .seq _ (.seq _ (.seq _ (.seq _ (.seq _ (.seq _ (.seq _ (.seq _ (.seq _ (.block _ (.loop b))))))))))=>b
 | _ => .skip
section
variable {nf lb ab pb wb:Nat} {fv:V} {mn:Int}
theorem chk_walk (hs:isCell fv=true) (hpf:pureV fv=true) (hlf:lenV fv=some (.int .i64 nf)) (hnf:nf<2 ^ 60) (n1:lb≠ab) (n2:lb≠pb) (n3:lb≠wb):∀ e:Ex,e.Ok→∀ (left deep left':Int) (vars:List Int) (ex:Bool) (H:Heap),
  chkW nf e left deep vars=some left'→0<vars.length→(vars.length:Int)≤deep→left≤600→WalkH lb ab pb wb fv mn left H →
  ∃ H',CC 205 [.agg e.cs,.int .i64 deep,varV vars ex,.ref lb 0 1,.ref ab 0 1,.ref pb 0 1,.ref wb 0 1] H (.ret (.tup [])) H'∧WalkH lb ab pb wb fv mn left' H'∧left'≤left∧H.length≤H'.length∧∀ a,a<H.length→a≠lb→H'[a]?=H[a]?:=by
 intro e
 induction e using Ex.ind with
 | h op n m v l ih =>
 intro hok left deep left' vars ex H hc h0 hvd h600 hw
 obtain ⟨hoo,hon,hom,hv,hl⟩:=hok.inv
 rw [chkW] at hc
 split at hc
 case isFalse=>cases hc
 rename_i hcond
 obtain ⟨hleft,hnode⟩:=hcond
 simp only [nodeOk,Bool.and_eq_true,decide_eq_true_eq] at hnode
 obtain ⟨⟨⟨⟨⟨hd,ho⟩,hn⟩,hp⟩,hx⟩,hm⟩:=hnode
 have hvc:=hv.cell
 have hlv:=len_ex hv
 have hlen8:l.length≤8:=by rcases partsOk_cases hp with h | h <;> omega
 -- the heap behind the count
 let H1:Heap:=H.set lb (.cells 1 1 [.int .i64 (left - 1)])
 have llt:lb<H.length:=(List.getElem?_eq_some_iff.1 hw.l).1
 have ol:objCells H lb=some (1,1,[.int .i64 left]):=vo_of hw.l
 have st1:storeV H (.ref lb 0 1) (.int .i64 (left - 1)) 1=some H1:=by
  simp only [storeV,ol,cellsV,true_and]
  rw [if_pos ⟨by simp,rfl,rfl⟩]
  rfl
 have hw1:WalkH lb ab pb wb fv mn (left - 1) H1:=by
  refine ⟨by simp [H1,llt],?_,?_,?_⟩
  ·rw [List.getElem?_set_ne n1]; exact hw.a
  ·rw [List.getElem?_set_ne n2]; exact hw.p
  ·rw [List.getElem?_set_ne n3]; exact hw.w
 have h1l:H1.length=H.length:=by simp [H1]
 have h1s:∀ a,a≠lb→H1[a]?=H[a]?:=fun a ha=>List.getElem?_set_ne (Ne.symm ha)
 have wl:IntKind.i64.wrap (left - 1)=left - 1:=wrap64 (by omega) (by omega)
 have wd:IntKind.i64.wrap (deep+1)=deep+1:=wrap64 (by omega) (by omega)
 have o1:objCells H1 lb=some (1,1,[.int .i64 (left - 1)]):=vo_of hw1.l
 have o2:objCells H1 ab=some (1,108,formsL):=vo_of hw1.a
 have o3:objCells H1 pb=some (1,2,[fv,.int .i64 mn]):=vo_of hw1.p
 have hwi:=within_q op 0 26
 rw [decide_eq_true ho,PC] at hwi
 have mt:=must_q true
 rw [if_pos rfl] at mt
 have hfa:=forms_at ho
 have hfl:=forms_len
 have k1:0≤left - 1:=by omega
 have k3:op.toNat * 4+4≤108:=by omega
 have k4:((op.toNat:Nat):Int)=op:=by omega
 have hno:=nOk_c (H:=H1) (mn:=mn) hs hlf hnf op n
 rw [hn,CC] at hno
 have hcon:=contains_q vars ex n (by omega)
 rw [PC] at hcon
 have hvm:pcall (lim gl Trmn.aprog) (.func (.func 167) [] []) [.agg [fv,.int .i64 mn],.int .i64 m]=some (.val (.bool (isVarN m))):=by
  have:=pc_ro (by simp [pureL,pureV,hpf]) (fun h=>rfl) (isVar_c (H:=[]) (mn:=mn) hs m)
  rwa [PC] at this
 have h8:lenV v=some (.int .i64 l.length):=hlv
 have key:CallP gl Trmn.aprog 205 [.agg [.int .i64 op,.int .i64 n,.int .i64 m,v],.int .i64 deep,varV vars ex,.ref lb 0 1,.ref ab 0 1,.ref pb 0 1,.ref wb 0 1] H (fun r H'=>r = .ret (.tup [])∧WalkH lb ab pb wb fv mn left' H'∧left'≤left∧H.length≤H'.length∧∀ a,a<H.length→a≠lb→H'[a]?=H[a]?):=by
  refine call_ofQ (af:=Trmn.a205) rfl rfl fun Q hQ => ?_
  clear_value H1
  change pcall _ _ [varV vars ex,_]=_ at hcon
  have hV:isCell (varV vars ex)=true:=rfl
  have hbq:=fun (Hk:Heap) (k:Nat) (hk:k<8)=>bound_c Hk (vars:=vars) (ex:=ex) h0 (by omega) (pt:=ptF op) (fn:=.func (.func (nF op)) [] []) rfl (b1F_cases op) (b2F_cases op) (o:=op) (n:=n) (m:=m) (v:=v) hvc hk
  generalize hV0:varV vars ex=V0 at *
  have hfv:formV op=[.int .i64 (ptF op),.func (.func (nF op)) [] [],.int .i64 (b1F op),.int .i64 (b2F op)]:=rfl
  have k8:(l.length:Int)≤8:=by omega
  have ho1:0≤op:=ho.1
  have ho2:op<27:=by omega
  have hcase:(((l.length:Int) == ptF op)=false∧ptF op<0∧(op != 0)=true∧(b2F op == 0)=true)∨(((l.length:Int) == ptF op)=true∧(op != 0)=true∧(b2F op == 0)=false∧isVarN m=true) ∨
    (((l.length:Int) == ptF op)=true∧(op != 0)=false∧(b2F op == 0)=true∧vars.contains n=true)∨(((l.length:Int) == ptF op)=true∧(op != 0)=true∧(b2F op == 0)=true):=by
   rcases partsOk_cases hp with ⟨rfl,hp8⟩ | ⟨h16,hpp,hp3⟩
   ·left
    refine ⟨?_,by decide,by decide,by decide⟩
    have:ptF 16 = -1:=rfl
    rw [this]
    simp
   ·right
    have e1:((l.length:Int) == ptF op)=true:=by simp [hpp]
    by_cases h13:op=13
    ·left
     refine ⟨e1,by simp [h13],by simp [h13,b2F],?_⟩
     simpa [h13] using hm
    ·right
     have e2:(b2F op == 0)=true:=by simp [b2F,h13]
     by_cases h00:op=0
     ·left
      exact ⟨e1,by simp [h00],e2,by simpa using hx h00⟩
     ·exact .inr ⟨e1,by simpa using h00,e2⟩
  have hbe:∀ k,bindsV (b1F op) (b2F op) n m k vars=bndP op n m k vars:=fun k=>binds_eq
  simp only [hbe] at hbq
  generalize ptF op=pt at *
  generalize nF op=nfn at *
  generalize b1F op=bb1 at *
  generalize b2F op=bb2 at *
  have loop:∀ fl,OptP ((lim gl Trmn.aprog).loop walkLoop ⟨[.agg [.int .i64 op,.int .i64 n,.int .i64 m,v],.int .i64 deep,V0,.ref lb 0 1,.ref ab 0 1,.ref pb 0 1,.ref wb 0 1,.agg [.int .i64 op,.int .i64 n,.int .i64 m,v],.agg [.int .i64 pt,.func (.func nfn) [] [],.int .i64 bb1,.int .i64 bb2],.undef,.undef,v,.int .i64 l.length,.int .i64 0],[],fl,none,H1⟩)
    (fun o c=>∃ Hf sl fl,o = .exit 0∧c=⟨sl,[],fl,none,Hf⟩∧WalkH lb ab pb wb fv mn left' Hf∧left'≤left∧H.length≤Hf.length∧∀ a,a<H.length→a≠lb→Hf[a]?=H[a]?):=by
   intro fl
   refine loop_nQ l.length (fun k c=>∃ Hk lk s9 s10 fl,WalkH lb ab pb wb fv mn lk Hk∧chkL nf op n m (l.drop k) k lk (deep+1) vars=some left'∧lk≤left∧H.length≤Hk.length∧(∀ a,a<H.length→a≠lb→Hk[a]?=H[a]?) ∧
    c=⟨[.agg [.int .i64 op,.int .i64 n,.int .i64 m,v],.int .i64 deep,V0,.ref lb 0 1,.ref ab 0 1,.ref pb 0 1,.ref wb 0 1,.agg [.int .i64 op,.int .i64 n,.int .i64 m,v],.agg [.int .i64 pt,.func (.func nfn) [] [],.int .i64 bb1,.int .i64 bb2],s9,s10,v,.int .i64 l.length,.int .i64 k],[],fl,none,Hk⟩) ?_
    ⟨H1,left - 1,.undef,.undef,fl,hw1,by simpa using hc,by omega,by omega,fun a ha hn=>h1s a hn,by simp⟩
   simp only [walkLoop,Trmn.a205]
   rintro I hI k c hkl ⟨Hk,lk,s9,s10,fl,hwk,hck,hle,hHl,hold,rfl⟩
   by_cases hlt:k<l.length
   ·have hlt':(k:Int)<l.length:=by omega
    rw [drop_cons hlt,chkL] at hck
    cases hck2:chkW nf l[k] lk (deep+1) (bndP op n m k vars) with
    | none=>rw [hck2] at hck; cases hck
    | some l2 =>
     rw [hck2] at hck
     simp only at hck
     have hb:=hbq Hk k (by omega)
     have hlb:=@bndP_len op n m k vars
     have hwk2:WalkH lb ab pb wb fv mn lk (Hk++[.gone]):=hwk.same fun a ha=>List.getElem?_append_left ha
     obtain ⟨H3,hc3,hw3,hle3,hl3,hs3⟩:=ih l[k] (List.getElem_mem hlt) (hl _ (List.getElem_mem hlt)) lk (deep+1) l2 (bndP op n m k vars) false (Hk++[.gone]) hck2 (by omega) (by omega) (by omega) hwk2
     rw [CC] at hb hc3
     have ow1:objCells Hk wb=some (1,1,[walkF lb ab pb wb]):=vo_of hwk.w
     have ow2:objCells (Hk++[.gone]) wb=some (1,1,[walkF lb ab pb wb]):=vo_of hwk2.w
     have ec:eqV (walkF lb ab pb wb) (walkF lb ab pb wb)=true:=by simp [eqV,eqL]
     have hi1:=idx_ex hv hlt
     have hcl:=Ex.cs_length l[k]
     have hct:=Ex.cs_take l[k]
     have hcc:=cells_ex (hl _ (List.getElem_mem hlt))
     have w5:IntKind.i64.wrap ((k:Int)+1)=(k:Int)+1:=wrap64 (by omega) (by omega)
     have llb:lb<Hk.length:=(List.getElem?_eq_some_iff.1 hwk.l).1
     rw [List.length_append] at hl3
     simp only [List.length_cons,List.length_nil] at hl3
     generalize varV (bndP op n m k vars) false=V1 at *
     generalize hxx:l[k]=x at *
     simp [slotOf,hlt',hi1,hcl,hct,hcc,hvc,ow1,ow2,ec,hb,hc3,wd,w5,fill,callee,ecallF,mkV,-pcall,-List.all_eq_true]
     refine ⟨hlt,hI _ _ ⟨H3,l2,.int .i64 k,.agg x.cs,none,hw3,hck,by omega,by omega,fun a ha hn => ?_,by simp⟩⟩
     rw [hs3 a (by simp; omega) hn,List.getElem?_append_left (by omega),hold a ha hn]
   ·obtain rfl:k=l.length:=by omega
    simp only [List.drop_length,chkL,Option.some.injEq] at hck
    subst hck
    simp [slotOf]
    exact ⟨hwk,hle,hHl,hold⟩
  rcases hcase with ⟨e1,e2,e3,e4⟩ | ⟨e1,e3,e4,e5⟩ | ⟨e1,e3,e4,e5⟩ | ⟨e1,e3,e4⟩
  ·simp only [Trmn.a205]
   simp [slotOf,ho1,ho2,hvc,ol,st1,o1,o2,o3,wl,k1,hleft,hd,hwi,mt,hfa,hfl,k3,k4,hno,hlv,e1,e2,e3,e4,k8,hfv,callee,ecallF,mkV,-pcall]
   refine OptP.mono (loop _) ?_
   rintro o c ⟨Hf,sl,fl,rfl,rfl,p1,p2,p3,p4⟩
   simp [slotOf]
   exact hQ _ _ ⟨rfl,p1,p2,p3,p4⟩
  ·rw [e5] at hvm
   simp only [Trmn.a205]
   simp [slotOf,ho1,ho2,hvc,ol,st1,o1,o2,o3,wl,k1,hleft,hd,hwi,mt,hfa,hfl,k3,k4,hno,hlv,e1,e3,e4,k8,hfv,hvm,callee,ecallF,mkV,-pcall]
   refine OptP.mono (loop _) ?_
   rintro o c ⟨Hf,sl,fl,rfl,rfl,p1,p2,p3,p4⟩
   simp [slotOf]
   exact hQ _ _ ⟨rfl,p1,p2,p3,p4⟩
  ·rw [e5] at hcon
   simp only [Trmn.a205]
   simp [slotOf,ho1,ho2,hvc,ol,st1,o1,o2,o3,wl,k1,hleft,hd,hwi,mt,hfa,hfl,k3,k4,hno,hlv,e1,e3,e4,k8,hfv,hcon,callee,ecallF,mkV,-pcall]
   refine OptP.mono (loop _) ?_
   rintro o c ⟨Hf,sl,fl,rfl,rfl,p1,p2,p3,p4⟩
   simp [slotOf]
   exact hQ _ _ ⟨rfl,p1,p2,p3,p4⟩
  ·simp only [Trmn.a205]
   simp [slotOf,ho1,ho2,hvc,ol,st1,o1,o2,o3,wl,k1,hleft,hd,hwi,mt,hfa,hfl,k3,k4,hno,hlv,e1,e3,e4,k8,hfv,callee,ecallF,mkV,-pcall]
   refine OptP.mono (loop _) ?_
   rintro o c ⟨Hf,sl,fl,rfl,rfl,p1,p2,p3,p4⟩
   simp [slotOf]
   exact hQ _ _ ⟨rfl,p1,p2,p3,p4⟩
 obtain ⟨r,H',e,rfl,h1,h2,h3,h4⟩:=OptP.ex key
 exact ⟨H',e,h1,h2,h3,h4⟩
end
end Go.Proofs.Mn
set_option linter.unusedVariables false
set_option linter.unusedSimpArgs false
set_option maxHeartbeats 4000000
namespace Go.Proofs.Mn
open Go Go.Am
theorem pure_ex {e:Ex} (h:e.Ok):pureL e.cs=true:=by
 cases h with
 | mk o n m v l _ _ _ hv _=>simp [Ex.cs,pureL,pureV,hv.pure]
section
variable {nf:Nat} {fv:V} {mn:Int}
set_option maxRecDepth 20000 in
theorem body_q (hs:isCell fv=true) (hpf:pureV fv=true) (hlf:lenV fv=some (.int .i64 nf)) (hnf:nf<2 ^ 60) {e:Ex} (he:e.Ok) {par left':Int} (hc:chkW nf e 600 1 [par]=some left') :
  PC 170 [.agg [fv,.int .i64 mn],.agg e.cs,.sv [[.int .i64 par]] true] (.tup []):=by
 have hcc:=cells_ex he
 have hcl:=Ex.cs_length e
 have hct:=Ex.cs_take e
 have hpe:=pure_ex he
 refine pc_ofW (by simp [pureL,pureV,hpf,hpe]) (CallP.mono (Q:=fun r h'=>r = .ret (.tup [])) ?_ fun r h' e=>⟨_,e,rfl⟩)
 have hfo:=forms_q
 have hw:WalkH 2 1 0 3 fv mn 600 [.cells 1 2 [fv,.int .i64 mn],.cells 1 108 formsL,.cells 1 1 [.int .i64 600],.cells 1 1 [walkF 2 1 0 3]]:=⟨rfl,rfl,rfl,rfl⟩
 obtain ⟨H',c,_⟩:=chk_walk (nf:=nf) (mn:=mn) hs hpf hlf hnf (by decide) (by decide) (by decide) e he 600 1 left' [par] true _ hc (by simp) (by simp) (by omega) hw
 rw [CC] at c
 change (lim gl Trmn.aprog).call 205 [.agg e.cs,.int .i64 1,.sv [[.int .i64 par]] true,_,_,_,_] _=_ at c
 have stq:∀ (a c:Am.Obj) (zs:List V),zs.length=108→storeV [a,.cells 1 108 zs,c] (.ref 1 0 1) (.agg formsL) 108=some [a,.cells 1 108 formsL,c]:=fun a c zs hz=>by
  have h1:formsL.all isCell=true:=rfl
  have h2:splice zs 0 formsL=formsL:=by simp [splice,forms_len,hz]
  have h3:cellsV (.agg formsL)=formsL:=rfl
  have h4:objCells [a,.cells 1 108 zs,c] 1=some (1,108,zs):=rfl
  simp only [storeV,h3,h4,h1,h2,forms_len]
  rw [if_pos (by simp [hz])]
  rfl
 have st6:∀ (a b:Am.Obj) (x:V),storeV [a,b,.cells 1 1 [x]] (.ref 2 0 1) (.int .i64 600) 1=some [a,b,.cells 1 1 [.int .i64 600]]:=fun a b x=>rfl
 have st7:∀ (a b c:Am.Obj) (x:V),storeV [a,b,c,.cells 1 1 [x]] (.ref 3 0 1) (walkF 2 1 0 3) 1=some [a,b,c,.cells 1 1 [walkF 2 1 0 3]]:=fun a b c x=>rfl
 have ob3:∀ (a b c:Am.Obj) (x:V),objCells [a,b,c,.cells 1 1 [x]] 3=some (1,1,[x]):=fun a b c x=>rfl
 refine call_ofQ (af:=Trmn.a170) rfl rfl fun Q hQ => ?_
 simp only [Trmn.a170]
 simp [slotOf,hs,hcc,hcl,hct,hfo,stq,st6,st7,ob3,c,rocall,callee,ecallF,mkV,-List.all_eq_true]
 exact hQ _ _ rfl
end
theorem eq_name {f g:Fn} (fv:V) (b:Nat) (H:Heap) (hf:f.Ok) (hg:g.Ok) (hb:H[b]?=some (.cells 1 6 f.cs)) (hne:(g.name.toList == f.name.toList)=false):CC 169 [.agg g.cs,.ref b 0 1] H (.ret (.bool false)) H:=by
 have ho:objCells H b=some (1,6,f.cs):=vo_of hb
 have hcc:=cells_fn hg
 have hcl:=Fn.cs_length g
 have hct:=Fn.cs_take g
 have e1:g.cs.take 1=[.str g.name]:=rfl
 have e2:f.cs.take 1=[.str f.name]:=rfl
 have hfl:=Fn.cs_length f
 have hsb:strBin .eql g.name f.name=some (.bool false):=by simp only [strBin,hne]
 refine cc_of (af:=Trmn.a169) rfl rfl fun Q hQ => ?_
 simp only [Trmn.a169]
 simp [slotOf,ho,hcc,hcl,hct,e1,e2,hfl,hsb,mkV,-List.all_eq_true]
 exact hQ
theorem index_fn {fs:List Fn} {f:Fn} {ex:Bool} {b:Nat} {H:Heap} (hf:f.Ok) (hfs:∀ g∈fs,g.Ok) (hb:H[b]?=some (.cells 1 6 f.cs)) (hne:∀ g∈fs,(g.name.toList == f.name.toList)=false) (hl:fs.length<2 ^ 40) :
  CC 203 [.sv (fs.map Fn.cs) ex,.func (.func 169) [] [.ref b 0 1]] H (.ret (.int .i64 (-1))) H:=by
 have hlv:lenV (.sv (fs.map Fn.cs) ex)=some (.int .i64 fs.length):=by simp [lenV]
 refine CallP.eq ?_
 refine call_ofQ (af:=Trmn.a203) rfl rfl fun Q hQ => ?_
 simp only [Trmn.a203]
 generalize hS:(V.sv (fs.map Fn.cs) ex)=S at *
 simp [slotOf,hlv]
 refine loop_nQ fs.length (fun i c=>∃ s3 fl,c=⟨[S,.func (.func 169) [] [.ref b 0 1],.int .i64 0,s3,.int .i64 fs.length,.int .i64 i],[],fl,none,H⟩) ?_ ⟨.undef,none,by simp⟩
 rintro I hI i c hi ⟨s3,fl,rfl⟩
 by_cases hlt:i<fs.length
 ·have hlt':(i:Int)<fs.length:=by omega
  have hi1:idxV S i 6=some (.pv fs[i].cs):=by rw [← hS]; exact idx_fn (SlV.sv ex) hlt
  have hm:=List.getElem_mem hlt
  have hc:=eq_name (.sv [] true) b H hf (hfs _ hm) hb (hne _ hm)
  rw [CC] at hc
  have hcc:=cells_fn (hfs _ hm)
  have hcl:=Fn.cs_length fs[i]
  have hct:=Fn.cs_take fs[i]
  have w5:IntKind.i64.wrap ((i:Int)+1)=(i:Int)+1:=wrap64 (by omega) (by omega)
  generalize fs[i]=g at *
  simp [slotOf,hlt',hi1,hc,hcc,hcl,hct,w5,callee,ecallF,mkV,-List.all_eq_true]
  exact ⟨hlt,hI _ _ ⟨_,none,rfl⟩⟩
 ·obtain rfl:i=fs.length:=by omega
  simp [slotOf]
  exact hQ _ _ ⟨rfl,rfl⟩
theorem contains_fn {fs:List Fn} {f:Fn} {ex:Bool} {b:Nat} {H:Heap} (hf:f.Ok) (hfs:∀ g∈fs,g.Ok) (hb:H[b]?=some (.cells 1 6 f.cs)) (hne:∀ g∈fs,(g.name.toList == f.name.toList)=false) (hl:fs.length<2 ^ 40) :
  CC 168 [.sv (fs.map Fn.cs) ex,.func (.func 169) [] [.ref b 0 1]] H (.ret (.bool false)) H:=by
 have hi:=index_fn (ex:=ex) hf hfs hb hne hl
 rw [CC] at hi
 refine cc_of (af:=Trmn.a168) rfl rfl fun Q hQ => ?_
 simp only [Trmn.a168]
 simp [slotOf,hi,callee,ecallF]
 exact hQ
structure FnsOk (fs:List Fn) (main:Int):Prop where
 len:1≤fs.length∧fs.length≤40
 main:0≤main∧main≤(fs.length:Int) - 1
 ok:∀ f∈fs,f.Ok
 named:∀ f∈fs,PC 166 [.str f.name] (.bool true)
 par:∀ f∈fs,isVarN f.par=true
 body:∀ f∈fs,∃ left',chkW fs.length f.body 600 1 [f.par]=some left'
 ne:∀ k,∀ h:k<fs.length,∀ g∈fs.take k,(g.name.toList == fs[k].name.toList)=false
theorem formed_q {fs:List Fn} {ex:Bool} {mn:Int} (h:FnsOk fs mn):PC 113 [.agg [.sv (fs.map Fn.cs) ex,.int .i64 mn]] (.agg [.sv (fs.map Fn.cs) ex,.int .i64 mn]):=by
 have hsl:SlV (fs.map Fn.cs) (.sv (fs.map Fn.cs) ex):=SlV.sv ex
 have hpf:pureV (.sv (fs.map Fn.cs) ex)=true:=rfl
 have hs:isCell (.sv (fs.map Fn.cs) ex)=true:=rfl
 have hlv:lenV (.sv (fs.map Fn.cs) ex)=some (.int .i64 fs.length):=by simp [lenV]
 obtain ⟨l1,l2⟩:=h.len
 have hwi:=within_q fs.length 1 40
 rw [decide_eq_true (show (1:Int)≤fs.length∧(fs.length:Int)≤40 by omega),PC] at hwi
 have hfun:pcall (lim gl Trmn.aprog) (.func (.func 165) [] []) [.agg [.sv (fs.map Fn.cs) ex,.int .i64 mn],.int .i64 mn]=some (.val (.bool true)):=by
  have:=pc_ro (by simp [pureL,pureV]) (fun h=>rfl) (isFun_c (H:=[]) (mn:=mn) hs hlv (by omega) mn)
  rwa [decide_eq_true h.main,PC] at this
 have mt:=must_q true
 rw [if_pos rfl] at mt
 have hslc:∀ k:Nat,k<fs.length→slcV (.sv (fs.map Fn.cs) ex) none (some (.int .i64 k)) none false 6=some (.sv ((fs.take k).map Fn.cs) (ex&&k == fs.length)):=fun k hk=>by
  have hh:headSz 6 (fs.map Fn.cs)=true:=by
   cases fs with
   | nil=>rfl
   | cons f fs=>simp [headSz]
  have hb:bnds fs.length none (some (.int .i64 k)) none=some (0,k,false):=by
   simp [bnds,optInt]
   omega
  simp [slcV,hb,hh,List.map_take]
 have hvar:∀ f∈fs,pcall (lim gl Trmn.aprog) (.func (.func 167) [] []) [.agg [.sv (fs.map Fn.cs) ex,.int .i64 mn],.int .i64 f.par]=some (.val (.bool true)):=fun f hf=>by
  have:=pc_ro (by simp [pureL,pureV]) (fun h=>rfl) (isVar_c (H:=[]) (mn:=mn) hs f.par)
  rwa [h.par f hf,PC] at this
 have hbod:∀ f∈fs,pcall (lim gl Trmn.aprog) (.func (.func 170) [] []) [.agg [.sv (fs.map Fn.cs) ex,.int .i64 mn],.agg f.body.cs,.sv [[.int .i64 f.par]] true]=some (.val (.tup [])):=fun f hf=>by
  obtain ⟨left',hc⟩:=h.body f hf
  have:=body_q (mn:=mn) hs hpf hlv (by omega) (h.ok f hf).2 hc
  rwa [PC] at this
 refine pc_ofW (by simp [pureL,pureV]) (CallP.mono (Q:=fun r h'=>r = .ret (.agg [.sv (fs.map Fn.cs) ex,.int .i64 mn])) ?_ fun r h' e=>⟨_,e,by simp [viewW,view1,viewV,viewL]⟩)
 refine call_ofQ (af:=Trmn.a113) rfl rfl fun Q hQ => ?_
 have hidx:∀ k,∀ hk:k<fs.length,idxV (.sv (fs.map Fn.cs) ex) k 6=some (.pv fs[k].cs):=fun k hk=>idx_fn hsl hk
 have hctn:∀ (k:Nat) (H:Heap),∀ hk:k<fs.length,H[k]?=some (.cells 1 6 fs[k].cs)→CC 168 [.sv ((fs.take k).map Fn.cs) (ex&&k == fs.length),.func (.func 169) [] [.ref k 0 1]] H (.ret (.bool false)) H:=fun k H hk hb =>
  contains_fn (h.ok _ (List.getElem_mem hk)) (fun g hg=>h.ok g (List.mem_of_mem_take hg)) hb (h.ne k hk) (by rw [List.length_take]; omega)
 generalize hV:V.sv (fs.map Fn.cs) ex=fv at *
 simp only [Trmn.a113]
 simp [slotOf,hs,hlv,hwi,hfun,mt,fill,mkV,-pcall]
 refine loop_nQ fs.length (fun k c=>∃ s4 s5 fl,c=⟨[.agg [fv,.int .i64 mn],.agg [fv,.int .i64 mn],.agg [.nils,.int .i64 0],.agg [fv,.int .i64 mn],s4,s5,fv,.int .i64 fs.length,.int .i64 k],[],fl,none,(fs.take k).map fun f => .cells 1 6 f.cs⟩) ?_ ⟨.undef,.undef,none,by simp⟩
 rintro I hI k c hk ⟨s4,s5,fl,rfl⟩
 by_cases hlt:k<fs.length
 ·have hlt':(k:Int)<fs.length:=by omega
  have hm:=List.getElem_mem hlt
  have hi1:=hidx k hlt
  have hcc:=cells_fn (h.ok _ hm)
  have hcl:=Fn.cs_length fs[k]
  have hct:=Fn.cs_take fs[k]
  have hn:=h.named _ hm
  rw [PC] at hn
  have hv:=hvar _ hm
  have hb:=hbod _ hm
  have hsc:=hslc k hlt
  let H0:Heap:=(fs.take k).map fun f=>Am.Obj.cells 1 6 f.cs
  have hH0:H0.length=k:=by simp [H0]; omega
  have hHk:(fs.take (k+1)).map (fun f=>Am.Obj.cells 1 6 f.cs)=H0++[.cells 1 6 fs[k].cs]:=by
   rw [← List.take_append_getElem hlt,List.map_append]; rfl
  have hl0:∀ o:Am.Obj,(H0++[o])[k]?=some o:=fun o=>by rw [List.getElem?_append_right (by omega),hH0]; simp
  have hc:=hctn k (H0++[.cells 1 6 fs[k].cs]) hlt (hl0 _)
  rw [CC] at hc
  have hst:∀ z,z.length=6→storeV (H0++[.cells 1 6 z]) (.ref k 0 1) (.agg fs[k].cs) 6=some (H0++[.cells 1 6 fs[k].cs]):=fun z hz=>by
   have h1:objCells (H0++[.cells 1 6 z]) k=some (1,6,z):=vo_of (hl0 _)
   have h3:cellsV (.agg fs[k].cs)=fs[k].cs:=rfl
   have h4:splice z 0 fs[k].cs=fs[k].cs:=by simp [splice,hz,hcl]
   simp only [storeV,h1,h3,h4,hcc,hcl,hz,true_and]
   rw [if_pos (by simp)]
   have h5:=set_last H0 (.cells 1 6 z) (.cells 1 6 fs[k].cs)
   rw [hH0] at h5
   rw [h5]
  have hob:objCells (H0++[.cells 1 6 fs[k].cs]) k=some (1,6,fs[k].cs):=vo_of (hl0 _)
  have e1:fs[k].cs.take 1=[.str fs[k].name]:=rfl
  have e2:(fs[k].cs.drop 1).take 1=[.int .i64 fs[k].par]:=rfl
  have e2':fs[k].cs.tail.take 1=[.int .i64 fs[k].par]:=rfl
  have e3:(fs[k].cs.drop 2).take 4=fs[k].body.cs:=by show (fs[k].body.cs).take 4=_; exact Ex.cs_take _
  have w5:IntKind.i64.wrap ((k:Int)+1)=(k:Int)+1:=wrap64 (by omega) (by omega)
  simp only [List.map_take] at hc hsc
  change WX _ _ _ ⟨_,_,_,_,H0⟩ _
  clear_value H0
  have hI2:=fun s4 s5 fl=>hI (k+1) _ ⟨s4,s5,fl,rfl⟩
  rw [hHk] at hI2
  generalize fs[k]=f at *
  simp [slotOf,hlt',hi1,hcc,hcl,hct,hH0,hst,hob,e1,e2,e2',e3,hn,hv,mt,hsc,hc,hb,w5,fill,chunks,callee,ecallF,mkV,hs,-pcall,-List.all_eq_true]
  exact ⟨hlt,hI2 _ _ _⟩
 ·obtain rfl:k=fs.length:=by omega
  simp [slotOf,hs,mkV]
  exact hQ _ _ rfl
theorem stop0_q (b:Nat) (H:Heap):(lim gl Trmn.aprog).dcall 111 [.ref b 0 1] none H=some (none,H):=by
 have hc:CC 112 [.nili,.ref b 0 1] H (.ret (.tup [])) H:=by
  refine cc_of (af:=Trmn.a112) rfl rfl fun Q hQ => ?_
  simp only [Trmn.a112]
  simp [slotOf]
  exact hQ
 rw [CC] at hc
 have hc':(noR (lim gl Trmn.aprog)).call 112 [.nili,.ref b 0 1] H=some (.ret (.tup []),H):=hc
 refine dcall_of (af:=Trmn.a111) rfl rfl ?_
 simp only [Trmn.a111]
 simp [slotOf,hc',callee,ecallF,resultV]
theorem check_q {fs:List Fn} {ex:Bool} {mn:Int} (h:FnsOk fs mn):PC 69 [.agg [.sv (fs.map Fn.cs) ex,.int .i64 mn]] (.int .i64 0):=by
 have hf:=formed_q (ex:=ex) h
 rw [PC] at hf
 have hs:isCell (.sv (fs.map Fn.cs) ex)=true:=rfl
 have hd:=stop0_q 0 [.cells 1 1 [.int .i64 0]]
 have st0:storeV [.cells 1 1 [.int .i64 0]] (.ref 0 0 1) (.int .i64 0) 1=some [.cells 1 1 [.int .i64 0]]:=rfl
 have ob0:objCells [.cells 1 1 [.int .i64 0]] 0=some (1,1,[.int .i64 0]):=rfl
 refine pc_of (by simp [pureL,pureV]) (fun h=>rfl) ?_
 refine call_ofQ (af:=Trmn.a69) rfl rfl fun Q hQ => ?_
 simp only [Trmn.a69]
 generalize V.sv (fs.map Fn.cs) ex=fv at *
 simp [slotOf,hs,hf,hd,st0,ob0,leave,callee,resultV,mkV,-pcall]
 exact hQ _ _ rfl
end Go.Proofs.Mn
set_option linter.unusedVariables false
set_option linter.unusedSimpArgs false
set_option maxHeartbeats 1000000
namespace Go.Proofs.Mn
open Go Go.Am
section
variable {P:Pg} {left d:Nat} {env:Env} {X Y:List Val}
end
section
variable {xs ks:List Int}
end
end Go.Proofs.Mn
set_option linter.unusedVariables false
set_option linter.unusedSimpArgs false
set_option maxHeartbeats 1000000
namespace Go.Proofs.Mn
open Go Go.Am
end Go.Proofs.Mn
set_option linter.unusedVariables false
set_option linter.unusedSimpArgs false
set_option maxHeartbeats 1000000
namespace Go.Proofs.Mn
open Go Go.Am
mutual
theorem nodes_skL:∀ l l':List Tr,l.map Tr.sk=l'.map Tr.sk→Tr.nodesL l=Tr.nodesL l'
 | [],[],_=>rfl
 | [],u :: us,h=>by simp at h
 | t :: ts,[],h=>by simp at h
 | t :: ts,u :: us,h=>by
  simp only [List.map_cons,List.cons.injEq] at h
  simp only [Tr.nodesL,nodes_sk t u h.1,nodes_skL ts us h.2]
theorem nodes_sk:∀ t u:Tr,t.sk=u.sk→t.nodes=u.nodes
 | .mk _ _ _ l,.mk _ _ _ l',h=>by
  rw [Tr.sk_mk,Tr.sk_mk] at h
  simp only [Sk.mk.injEq] at h
  simp only [Tr.nodes,nodes_skL l l' h.2.2]
end
theorem same_q:∀ t u:Tr,t.Ok→u.Ok→t.nodes<2 ^ 60→t.sk=u.sk→PC 16 [.agg t.cs,.agg u.cs] (.bool true):=by
 intro t
 induction t using Tr.ind with
 | h k n v l ih =>
 intro u ho hu hn hs
 cases u with
 | mk k' n' v' l' =>
 rw [Tr.sk_mk,Tr.sk_mk] at hs
 simp only [Sk.mk.injEq] at hs
 obtain ⟨rfl,rfl,hs⟩:=hs
 obtain ⟨_,_,hv,hl⟩:=ho.inv
 obtain ⟨_,_,hv',hl'⟩:=hu.inv
 have hlen:l.length=l'.length:=by
  have:=congrArg List.length hs
  simpa using this
 simp only [Tr.nodes] at hn
 have hnl:=Tr.nodesL_length l
 have hlv:=len_tr hv
 have hlv':=len_tr hv'
 rw [← hlen] at hlv'
 have hvc:=hv.cell
 have hvc':=hv'.cell
 refine pc_of (by simp [pureL,pureV,pure_tr ho,pure_tr hu]) (fun h=>rfl) ?_
 refine call_ofQ (af:=Trmn.a16) rfl rfl fun Q hQ => ?_
 simp only [Trmn.a16]
 simp [Tr.cs,slotOf,hvc,hvc',hlv,hlv',-pcall]
 refine loop_nQ l.length (fun i c=>∃ fl,c=⟨[.agg [.int .i64 k,.int .i64 n,v],.agg [.int .i64 k,.int .i64 n,v'],.agg [.int .i64 k,.int .i64 n,v],.agg [.int .i64 k,.int .i64 n,v'],.bool false,.int .i64 i],[],fl,none,[]⟩) ?_ ⟨none,by simp⟩
 rintro I hI i c hi ⟨fl,rfl⟩
 by_cases hlt:i<l.length
 ·have hlt':(i:Int)<l.length:=by omega
  have hlt2:i<l'.length:=by omega
  have hsi:l[i].sk=l'[i].sk:=by
   have:=congrArg (fun x=>x[i]?) hs
   simpa [List.getElem?_map,List.getElem?_eq_getElem hlt,List.getElem?_eq_getElem hlt2] using this
  have hc:=ih l[i] (List.getElem_mem hlt) l'[i] (hl _ (List.getElem_mem hlt)) (hl' _ (List.getElem_mem hlt2)) (by have:=Tr.nodesL_mem (List.getElem_mem hlt); omega) hsi
  have hi1:=idx_tr hv hlt
  have hi2:=idx_tr hv' hlt2
  have hw2:IntKind.i64.wrap ((i:Int)+1)=(i:Int)+1:=wrap64 (by omega) (by omega)
  rw [PC] at hc
  generalize l[i]=x at *
  generalize l'[i]=y at *
  simp [hvc,hvc',hlv,hlv',hlt',hi1,hi2,hc,hw2,slotOf,mkV,-pcall]
  exact ⟨hlt,hI _ _ ⟨none,rfl⟩⟩
 ·obtain rfl:i=l.length:=by omega
  simp [hvc,hlv,slotOf]
  exact hQ _ _ rfl
end Go.Proofs.Mn
set_option linter.unusedVariables false
set_option linter.unusedSimpArgs false
set_option maxHeartbeats 1000000
namespace Go.Proofs.Mn
open Go Go.Am
theorem fold_check (o:Int) (k:Nat) (ho:o=22∨o=23) (hk:k<7):PC 69 [.agg [foldV o (joinsL k),.int .i64 0]] (.int .i64 0):=by
 have key:∀ {a:V} {h:Heap},TE.ok gl Trmn.aprog ⟨69,[a],[],.ret (.int .i64 0),h⟩→pureL [a]=true→PC 69 [a] (.int .i64 0):=by
  intro a h ht hp
  simp only [TE.ok] at ht
  rw [PC,pcall]
  simp only [callee,List.nil_append,List.append_nil,hp,if_true,ht]
  rfl
 have hk:k=0∨k=1∨k=2∨k=3∨k=4∨k=5∨k=6:=by omega
 rcases ho with rfl | rfl
 ·rcases hk with rfl | rfl | rfl | rfl | rfl | rfl | rfl
  ·exact key MnF2.k1 rfl
  ·exact key MnF2.k3 rfl
  ·exact key MnF2.k5 rfl
  ·exact key MnF2.k7 rfl
  ·exact key MnF2.k9 rfl
  ·exact key MnF2.k11 rfl
  ·exact key MnF2.k13 rfl
 ·rcases hk with rfl | rfl | rfl | rfl | rfl | rfl | rfl
  ·exact key MnF2.k2 rfl
  ·exact key MnF2.k4 rfl
  ·exact key MnF2.k6 rfl
  ·exact key MnF2.k8 rfl
  ·exact key MnF2.k10 rfl
  ·exact key MnF2.k12 rfl
  ·exact key MnF2.k14 rfl
theorem joinsL_ok {k:Nat} (hk:k<7):isJoin (joinsL k)=true∧0≤joinsL k∧joinsL k≤11:=by
 have hk:k=0∨k=1∨k=2∨k=3∨k=4∨k=5∨k=6:=by omega
 rcases hk with rfl | rfl | rfl | rfl | rfl | rfl | rfl <;> decide
theorem doW_join {op a b:Int} (ho:isJoin op=true):doW op a b=some (joinW op a b):=by
 have:∃ z,doW op a b=some z:=by
  simp only [isJoin,Bool.or_eq_true,beq_iff_eq] at ho
  rcases ho with (((((rfl | rfl) | rfl) | rfl) | rfl) | rfl) | rfl <;> exact ⟨_,rfl⟩
 obtain ⟨z,hz⟩:=this
 simp [joinW,hz]
theorem fold_prg (o:Int) (k:Nat) (ho:o=22∨o=23) (hk:k<7):Prg [foldFn o (joinsL k)] (foldV o (joinsL k)) 0:=by
 obtain ⟨hj,h0,h1⟩:=joinsL_ok hk
 have h64:is64 o∧is64 (joinsL k):=by rcases ho with rfl | rfl <;> (refine ⟨by constructor <;> omega,by constructor <;> omega⟩)
 have z64:is64 0:=by constructor <;> omega
 refine ⟨SlV.sv true,fun f hf => ?_,by simp [szFn,foldFn,Ex.size,Ex.sizeL],fun f hf => ?_,fold_check o k ho hk⟩
 ·rw [List.mem_singleton.1 hf]
  refine ⟨z64,.mk _ _ _ _ _ h64.1 h64.2 z64 (SlV.sv (es:=[[.int .i64 0,.int .i64 0,.int .i64 0,.nils]]) true) fun x hx => ?_⟩
  rw [List.mem_singleton.1 hx]
  exact .mk _ _ _ _ _ z64 z64 z64 (.nil rfl) (by simp)
 ·rw [fold_pg] at hf ⊢
  rw [List.mem_singleton.1 hf]
  refine .mk _ _ _ _ _ _ ?_ ?_ fun j hj2 => ?_
  ·rcases ho with rfl | rfl <;> simp [shape,arity]
  ·rcases ho with rfl | rfl <;> simp [numsOk,hj]
  ·have:j=0:=by simpa using hj2
   subst this
   have hb:bnd o (joinsL k) 0 0 [0]=[0]:=by rcases ho with rfl | rfl <;> simp [bnd]
   simp only [List.getElem_cons_zero,hb]
   exact .mk _ _ _ _ _ _ (by simp [shape,arity]) (by simp [numsOk]) (by simp)
def argV:Nat→V
 | 0 => .nils
 | k+1 => .sl 0 0 (k+1) (k+1) 3 false
def argH (ws:List Int):Nat→Heap
 | 0=>[]
 | k+1=>[.cells (k+1) 3 (((ws.take (k+1)).map wordT).map Tr.cs).flatten]
def argF (ws:List Int):V:=match ws with
 | [] => .nils
 | ws => .sv ((ws.map wordT).map Tr.cs) false
theorem argF_sl (ws:List Int):SlV ((ws.map wordT).map Tr.cs) (argF ws):=by
 cases ws with
 | nil=>exact .nil rfl
 | cons w ws=>exact SlV.sv false
theorem arg_app (ws:List Int) (k:Nat) (hk:k<ws.length) (hl:ws.length≤200):appV (argH ws k) (argV k) (.sv [[.int .i64 1,.int .i64 ws[k],.nils]] true) 3 40=some (argV (k+1),argH ws (k+1)):=by
 have ht:((ws.take (k+1)).map wordT).map Tr.cs=((ws.take k).map wordT).map Tr.cs++[[.int .i64 1,.int .i64 ws[k],.nils]]:=by
  rw [← List.take_append_getElem hk,List.map_append,List.map_append]; rfl
 cases k with
 | zero =>
  simp only [argH,argV,ht]
  simp [appV,sliceLen,sliceCells,room]
 | succ k =>
  have h:=appV_own (h:=argH ws (k+1)) (o:=0) (n:=k+1) (sz:=3) (bytes:=40) (k:=1) (y:=.sv [[.int .i64 1,.int .i64 ws[k+1],.nils]] true) (ys:=[.int .i64 1,.int .i64 ws[k+1],.nils]) rfl rfl rfl rfl (by simp only [room]; omega)
  rw [argV,h,argH,argH,ht]
  simp [argV]
theorem frz_arg (ws:List Int):∃ H',frzA (argH ws ws.length) (.agg [.int .i64 4,.int .i64 0,argV ws.length])=some (.agg [.int .i64 4,.int .i64 0,argF ws],H'):=by
 cases ws with
 | nil=>exact ⟨[],rfl⟩
 | cons w ws =>
  have hp:pureL (((w :: ws).map wordT).map Tr.cs).flatten=true:=by
   have:∀ l:List Int,pureL ((l.map wordT).map Tr.cs).flatten=true:=by
    intro l
    induction l with
    | nil=>rfl
    | cons x l ih=>simpa [pureL,pureV,wordT,Tr.cs] using ih
   exact this _
  have hch:=chunks3 ((w :: ws).map wordT)
  have ht:(w :: ws).take (ws.length+1)=w :: ws:=List.take_of_length_le (by simp)
  have hf:frzV (argH (w :: ws) (ws.length+1)) (.sl 0 0 (ws.length+1) (ws.length+1) 3 false)=some (.sv (((w :: ws).map wordT).map Tr.cs) false,[.gone]):=by
   rw [argH,ht]
   rw [List.length_map,List.length_cons] at hch
   simp only [frzV,viewV,objCells,List.getElem?_cons_zero,hp,Nat.zero_le,true_and,and_true,Nat.zero_mul,Nat.zero_add,Nat.le_refl,if_true,List.drop_zero,hch]
   rfl
  refine ⟨[.gone],?_⟩
  have hi:∀ (h:Heap) (n:Int),frzV h (.int .i64 n)=some (.int .i64 n,h):=fun _ _=>rfl
  simp only [List.length_cons,argV,argF,frzA,frzL,hi,hf,Option.map_some]
end Go.Proofs.Mn
set_option linter.unusedVariables false
set_option linter.unusedSimpArgs false
set_option maxHeartbeats 1000000
namespace Go.Proofs.Mn
open Go Go.Am
theorem named_of {s:ByteArray} {h:Heap} (ht:TE.ok gl Trmn.aprog ⟨166,[.str s],[],.ret (.bool true),h⟩):PC 166 [.str s] (.bool true):=by
 simp only [TE.ok] at ht
 rw [PC,pcall]
 simp only [callee,List.nil_append,List.append_nil,ht]
 rfl
theorem two_ok {o n:Int} {e:Ex} (ho:0≤o∧o≤11) (hn:isWord n=true) (he:e.Ok) (hs:e.size≤500) (hk:okE 2 e 1 [3]=true):FnsOk (twoFn o n e) 1:=by
 have hb:=ok_bin ho hn
 have h3:(binE o n).size=3:=rfl
 have hmem:∀ {P:Fn→Prop},P ⟨nameG,0,binE o n⟩→P ⟨nameF,3,e⟩→∀ f∈twoFn o n e,P f:=fun h1 h2 f hf=>by
  simp only [twoFn,List.mem_cons,List.not_mem_nil,or_false] at hf
  rcases hf with rfl | rfl
  ·exact h1
  ·exact h2
 refine ⟨by simp [twoFn],by simp [twoFn],hmem ⟨z64,exok_bin ho hn⟩ ⟨e64 (by simp),he⟩,hmem (named_of MnF2.m1) (named_of MnF2.m2),hmem rfl rfl,hmem ⟨_,chkW_ok (binE o n) 600 1 _ hb (by omega)⟩ ⟨_,chkW_ok e 600 1 _ hk (by omega)⟩,fun k hk g hg => ?_⟩
 have hk2:k=0∨k=1:=by simp [twoFn] at hk; omega
 rcases hk2 with rfl | rfl
 ·simp at hg
 ·simp only [twoFn,List.take_succ_cons,List.take_zero,List.mem_singleton] at hg
  subst hg
  show (nameG.toList == nameF.toList)=false
  decide +kernel
theorem two_prog {o n:Int} {e:Ex} (ho:0≤o∧o≤11) (hn:isWord n=true) (he:e.Ok) (hs:e.size≤500) (hk:okE 2 e 1 [3]=true):Prg (twoFn o n e) (.sv ((twoFn o n e).map Fn.cs) true) 1 :=
 two_prg ho hn (SlV.sv true) he hs hk (check_q (two_ok ho hn he hs hk))
def unitT:Tr:=.mk 0 0 .nils []
theorem unit_arg {nf:Nat}:Arg nf unitT:=by
 have hok:unitT.Ok:=.mk _ _ _ _ (by constructor <;> omega) (by constructor <;> omega) (.nil rfl) (by simp)
 have hn:unitT.nodes=1:=rfl
 refine ⟨hok,by omega,?_,?_⟩
 ·rw [unitT,ofTr_mk,if_neg (by decide),if_pos rfl]
  exact .unit
 ·have h:=valid_q unitT hok (by omega)
  have g1:unitT.sized=true:=by decide
  have g2:unitT.fits 12=true:=by decide
  rw [g1,g2] at h
  exact h
theorem unit_of:ofTr unitT = .unit:=by rw [unitT,ofTr_mk,if_neg (by decide),if_pos rfl]
def Out (args:List V) (e:Int) (good:Prop) (ys:List Int):Prop:=∃ k m s:Int,∃ u:V,PC 10 args (.tup [.agg [.int .i64 k,.int .i64 m,u],.int .i64 s,.int .i64 e])∧isCell u=true ∧
 (good→e=0∧∃ t:Tr,t.cs=[.int .i64 k,.int .i64 m,u]∧t.Ok∧t.sk=(seqV (nums ys)).sk)
theorem out_ok {args:List V} {r:Res Val} {ys:List Int} {s':St} (h:RunP 10 args r) (e:r = .ok (seqV (nums ys)) s') (good:Prop):Out args 0 good ys:=by
 rw [e] at h
 obtain ⟨tr,p,o,k⟩:=h
 cases tr with
 | mk a b v l =>
  have hc:=cells_tr o
  exact ⟨a,b,_,v,p,by simpa [Tr.cs,isCell] using hc,fun g=>⟨rfl,_,rfl,o,k⟩⟩
theorem out_err {args:List V} {r:Res Val} {ys:List Int} {i:Nat} {good:Prop} (h:RunP 10 args r) (he:r = .err 14 i) (hg:¬ good):Out args 14 good ys:=by
 rw [he] at h
 exact ⟨0,0,0,.nils,h (by decide),rfl,fun h=>absurd h hg⟩
def Good (o n:Int) (ws:List Int):Prop:=Fine o n∨ws=[]
def eOf (o n:Int) (ws:List Int) (e:Int):Prop:=(Good o n ws→e=0)∧(¬ Good o n ws→e=14)
def argsOf (o n:Int) (e:Ex):List V:=[.agg [.sv ((twoFn o n e).map Fn.cs) true,.int .i64 1],.agg unitT.cs,.int .i64 1000]
section
variable {o n:Int} {ws:List Int} (ho:0≤o∧o≤11) (hn:isWord n=true) (hl:ws.length≤8) (hw:∀ w∈ws,isWord w=true)
include ho hn hl hw
theorem out_gen {e:Ex} {ys:List Int} (he:e.Ok) (hs:e.size≤500) (hk:okE 2 e 1 [3]=true) (hcase:e=eachE ws∨e=callsE ws∨e=keepE ws) (hys:ws=[]→ys=[])
  (hrun:Fine o n→∃ s',wholeD (pgN 0 (twoFn o n e)) 1000 1 .unit .zero = .ok (seqV (nums ys)) s'):∃ er,Out (argsOf o n e) er (Good o n ws) ys∧eOf o n ws er:=by
 have h:=Run_p (fuel:=1000) (f:=1) (two_prog ho hn he hs hk) (unit_arg (nf:=2)) (by simp [twoFn]) (by omega)
 rw [unit_of] at h
 by_cases hf:Fine o n
 ·obtain ⟨s',e1⟩:=hrun hf
  exact ⟨0,out_ok h e1 _,fun _=>rfl,fun h=>absurd (.inl hf) h⟩
 ·by_cases h0:ws=[]
  ·subst h0
   obtain ⟨s',e1⟩:=run_nil (o:=o) (n:=n) e hcase
   rw [hys rfl]
   exact ⟨0,out_ok h e1 _,fun _=>rfl,fun h=>absurd (.inr rfl) h⟩
  ·obtain ⟨i,e1⟩:=run_err (o:=o) (n:=n) (ws:=ws) e hcase hl h0 hf
   have hg:¬ Good o n ws:=fun h=>by rcases h with h | h; exact hf h; exact h0 h
   exact ⟨14,out_err h e1 hg,fun h=>absurd h hg,fun _=>rfl⟩
theorem out_each:∃ er,Out (argsOf o n (eachE ws)) er (Good o n ws) (ws.map (zOf o n))∧eOf o n ws er :=
 out_gen ho hn hl hw (exok_each hw 17 (.inl rfl)) (by have:=size_each ws 17; simp only [eachE] at *; omega) (ok_each hl hw 17 (.inl rfl)) (.inl rfl) (fun h=>by rw [h]; rfl) fun hf=>run_each hl hf
theorem out_calls:∃ er,Out (argsOf o n (callsE ws)) er (Good o n ws) (ws.map (zOf o n))∧eOf o n ws er :=
 out_gen ho hn hl hw (exok_calls hw) (by have:=size_calls ws; omega) (ok_calls hl hw) (.inr (.inl rfl)) (fun h=>by rw [h]; rfl) fun hf=>run_calls2 hl hf
theorem out_keep:∃ er,Out (argsOf o n (keepE ws)) er (Good o n ws) (ws.filter fun w=>zOf o n w != 0)∧eOf o n ws er :=
 out_gen ho hn hl hw (exok_each hw 18 (.inr rfl)) (by have:=size_each ws 18; simp only [keepE] at *; omega) (ok_each hl hw 18 (.inr rfl)) (.inr (.inr rfl)) (fun h=>by rw [h]; rfl) fun hf=>run_keep hl hf
end
theorem view_arg (ws:List Int):viewW 0 (argH ws ws.length) (.agg [.int .i64 4,.int .i64 0,argV ws.length])=some (.agg [.int .i64 4,.int .i64 0,argF ws]):=by
 cases ws with
 | nil=>rfl
 | cons w ws =>
  have hp:pureL (((w :: ws).map wordT).map Tr.cs).flatten=true:=by
   have:∀ l:List Int,pureL ((l.map wordT).map Tr.cs).flatten=true:=by
    intro l
    induction l with
    | nil=>rfl
    | cons x l ih=>simpa [pureL,pureV,wordT,Tr.cs] using ih
   exact this _
  have hch:=chunks3 ((w :: ws).map wordT)
  have ht:(w :: ws).take (ws.length+1)=w :: ws:=List.take_of_length_le (by simp)
  have hf:viewV 0 (argH (w :: ws) (ws.length+1)) (.sl 0 0 (ws.length+1) (ws.length+1) 3 false)=some (.sv (((w :: ws).map wordT).map Tr.cs) false):=by
   rw [argH,ht]
   rw [List.length_map,List.length_cons] at hch
   simp only [viewV,objCells,List.getElem?_cons_zero,hp,Nat.zero_le,true_and,and_true,Nat.zero_mul,Nat.zero_add,Nat.le_refl,if_true,List.drop_zero,hch]
  have hi:∀ (h:Heap) (n:Int),viewV 0 h (.int .i64 n)=some (.int .i64 n):=fun _ _=>by simp [viewV]
  have hw:∀ (h:Heap) (l:List V),viewW 0 h (.agg l)=((viewL 0 h l).map .agg).or (viewS 0 h (.agg l)):=fun _ _=>by simp [viewW,view1,viewV]
  rw [hw]
  simp only [List.length_cons,argV,argF,viewL,hi,hf,Option.map_some,Option.some_or]
theorem list_q2 (ws:List Int) (v:V) (hv:SlV (ws.map fun w=>[.int .i64 w]) v) (hl:ws.length≤60):PC 30 [v] (.agg [.int .i64 4,.int .i64 0,argF ws]):=by
 have hvc:=hv.cell
 have hlv:lenV v=some (.int .i64 ws.length):=by rw [hv.len]; simp
 refine pc_ofW (by simp [pureL,hv.pure]) (CallP.mono (Q:=fun r h'=>r = .ret (.agg [.int .i64 4,.int .i64 0,argV ws.length])∧h'=argH ws ws.length) ?_ fun r h' e=>⟨_,e.1,by rw [e.2]; exact view_arg ws⟩)
 refine call_ofQ (af:=Trmn.a30) rfl rfl fun Q hQ => ?_
 simp only [Trmn.a30]
 simp [slotOf,hvc,hlv,fill,mkV,-pcall]
 refine loop_nQ ws.length (fun k c=>∃ s3 fl,c=⟨[v,.agg [.int .i64 0,.int .i64 0,.nils],.agg [.int .i64 4,.int .i64 0,argV k],s3,v,.int .i64 ws.length,.int .i64 k],[],fl,none,argH ws k⟩) ?_ ⟨.undef,none,by simp [argV,argH]⟩
 rintro I hI k c hkl ⟨s3,fl,rfl⟩
 by_cases hlt:k<ws.length
 ·have hlt':(k:Int)<ws.length:=by omega
  have hi1:idxV v k 1=some (.pv [.int .i64 ws[k]]):=by rw [hv.idx]; simp [hlt]
  have hnum:=num_q ws[k]
  rw [PC] at hnum
  have happ:=arg_app ws k hlt (by omega)
  have avc:isCell (argV k)=true:=by cases k <;> rfl
  have avc2:isCell (argV (k+1))=true:=rfl
  have avs:=cellsV_cell avc2
  have w5:IntKind.i64.wrap ((k:Int)+1)=(k:Int)+1:=wrap64 (by omega) (by omega)
  have hch1:chunks 3 1 [.int .i64 1,.int .i64 ws[k],.nils]=[[.int .i64 1,.int .i64 ws[k],.nils]]:=rfl
  simp [slotOf,hlt',hi1,hch1,hnum,happ,avc,avc2,avs,w5,fill,mkV,-pcall]
  exact ⟨hlt,hI _ _ ⟨.int .i64 ws[k],none,by simp⟩⟩
 ·obtain rfl:k=ws.length:=by omega
  have avc:isCell (argV ws.length)=true:=by cases ws <;> rfl
  have avs:=cellsV_cell avc
  simp [slotOf,avc,avs,mkV,-pcall]
  exact hQ _ _ ⟨rfl,rfl⟩
theorem whole_q2 (n:Int):PC 27 [.int .i64 n] (.agg [.int .i64 1,.int .i64 n,.int .i64 0,.nils]):=by
 have h:=exp_q 1 n .nils rfl rfl
 rw [PC] at h
 refine pc_ro rfl (fun h=>rfl) (cc_of (af:=Trmn.a27) rfl rfl fun Q hQ => ?_)
 simp only [Trmn.a27]
 simp [slotOf,h,mkV,-pcall]
 exact hQ
theorem run_c {H:Heap} {o n:Int} {e:Ex} (he:e.Ok) {k m s er:Int} {u:V} (hu:isCell u=true) (hH:H[0]?=some (.cells 1 4 (binE o n).cs)) (hp:PC 10 (argsOf o n e) (.tup [.agg [.int .i64 k,.int .i64 m,u],.int .i64 s,.int .i64 er])) :
  CC 28 [.agg e.cs,.ref 0 0 1] H (.ret (.tup [.agg [.int .i64 k,.int .i64 m,u],.int .i64 er])) H:=by
 have ho:objCells H 0=some (1,4,(binE o n).cs):=vo_of hH
 cases e with
 | mk a b c v l =>
  have hvc:=he.inv.2.2.2.1.cell
  have hvp:=he.inv.2.2.2.1.pure
  rw [PC,argsOf] at hp
  have ebin:(binE o n).cs=[.int .i64 15,.int .i64 o,.int .i64 0,.sv [[.int .i64 0,.int .i64 0,.int .i64 0,.nils],[.int .i64 1,.int .i64 n,.int .i64 0,.nils]] true]:=rfl
  rw [ebin] at ho
  change pcall _ _ [.agg [.sv [[.str nameG,.int .i64 0,.int .i64 15,.int .i64 o,.int .i64 0,.sv [[.int .i64 0,.int .i64 0,.int .i64 0,.nils],[.int .i64 1,.int .i64 n,.int .i64 0,.nils]] true],[.str nameF,.int .i64 3,.int .i64 a,.int .i64 b,.int .i64 c,v]] true,.int .i64 1],.agg [.int .i64 0,.int .i64 0,.nils],.int .i64 1000]=_ at hp
  refine cc_of (af:=Trmn.a28) rfl rfl fun Q hQ => ?_
  simp only [Trmn.a28]
  simp [slotOf,Ex.cs,ho,hvc,hvp,hu,hp,fill,chunks,mkV,pureL,pureV,-pcall]
  exact hQ
end Go.Proofs.Mn
set_option linter.unusedVariables false
set_option linter.unusedSimpArgs false
set_option maxHeartbeats 4000000
namespace Go.Proofs.Mn
open Go Go.Am
theorem sk_num {t:Tr} {n:Int} (h:t.sk=(Val.num n).sk):∃ v,t.cs=[.int .i64 1,.int .i64 n,v]:=by
 cases t with
 | mk k m v l =>
  simp only [Tr.sk_mk,Val.sk,Sk.mk.injEq] at h
  obtain ⟨rfl,rfl,_⟩:=h
  exact ⟨v,rfl⟩
theorem sk_nums {t:Tr} {l:List Int} (ho:t.Ok) (h:t.sk=(seqV (nums l)).sk):∃ v,t.cs=[.int .i64 4,.int .i64 0,v]∧isCell v=true∧lenV v=some (.int .i64 l.length)∧∀ i,∀ hi:i<l.length,∃ k u,idxV v i 3=some (.pv [.int .i64 k,.int .i64 l[i],u]):=by
 cases t with
 | mk k m v ts =>
  obtain ⟨_,_,hv,hl⟩:=ho.inv
  rw [seqV,Val.sk_many,Tr.sk_mk] at h
  simp only [Sk.mk.injEq] at h
  obtain ⟨rfl,rfl,h⟩:=h
  have hlen:ts.length=l.length:=by
   have:=congrArg List.length h
   simpa [nums] using this
  refine ⟨v,rfl,hv.cell,by rw [len_tr hv,hlen],fun i hi => ?_⟩
  have hi2:i<ts.length:=by omega
  have hs:ts[i].sk=(Val.num l[i]).sk:=by
   have:=congrArg (fun x=>x[i]?) h
   simp only [nums,List.getElem?_map,List.getElem?_eq_getElem hi,List.getElem?_eq_getElem hi2,Option.map_some,Option.some.injEq] at this
   exact this
  obtain ⟨u,hu⟩:=sk_num hs
  exact ⟨1,u,by rw [idx_tr hv hi2,hu]⟩
theorem law_folds (ws:List Int) (v:V) (hv:SlV (ws.map fun w=>[.int .i32 w]) v) (hw:∀ w∈ws,isWord w=true) (hlen:ws.length<2 ^ 60) (op:Nat) (hop:op<256) :
  ∃ h',(lim gl Trmn.aprog).call 7 [v,.int .u8 op] []=some (.ret (.bool true),h'):=by
 have key:CallP gl Trmn.aprog 7 [v,.int .u8 op] [] (fun r h'=>r = .ret (.bool true)):=by
  have haw:=awake_q
  rw [PC] at haw
  have hvc:=hv.cell
  have hlv:lenV v=some (.int .i64 ws.length):=by rw [hv.len]; simp
  by_cases h200:ws.length≤200
  ·have k200:¬ (200:Int)<ws.length:=by omega
   have h7:op % 7<7:=Nat.mod_lt _ (by omega)
   have hjn:=joins_q op hop
   obtain ⟨hj,hj0,hj1⟩:=joinsL_ok h7
   have f1:=Run_p (fuel:=10) (fold_prg 22 (op % 7) (.inl rfl) h7) (words_arg (nf:=1) (argF_sl ws) hw (by omega)) (f:=0) (by simp) (by omega)
   have f2:=Run_p (fuel:=10) (fold_prg 23 (op % 7) (.inr rfl) h7) (words_arg (nf:=1) (argF_sl ws) hw (by omega)) (f:=0) (by simp) (by omega)
   rw [ofTr_words] at f1 f2
   obtain ⟨s1,e1,st1⟩:=fold_run (joinsL (op % 7)) ws
   obtain ⟨s2,e2⟩:=scan_run (joinsL (op % 7)) ws h200
   generalize joinsL (op % 7)=n at *
   rw [e1] at f1
   rw [e2] at f2
   obtain ⟨t1,p1,o1,k1⟩:=f1
   obtain ⟨t2,p2,o2,k2⟩:=f2
   obtain ⟨u1,c1⟩:=sk_num k1
   obtain ⟨u2,c2,u2c,u2l,u2i⟩:=sk_nums o2 k2
   have hcc1:=cells_tr o1
   rw [c1] at p1 hcc1
   rw [c2] at p2
   rw [st1] at p1
   have u1c:isCell u1=true:=by simpa [isCell] using hcc1
   rw [scanW_length] at u2l
   have u2g:∀ i,∀ hi:i<ws.length,∃ k u,idxV u2 i 3=some (.pv [.int .i64 k,.int .i64 (foldW n (neutral n) (ws.take i)),u]):=fun i hi=>by
    obtain ⟨k,u,h⟩:=u2i i (by rw [scanW_length]; exact hi)
    rw [scanW_get] at h
    exact ⟨k,u,h⟩
   have hne:=neutral_q hj
   have x0:=var_q 0
   have x1:=exp_q 22 n (.sv [[.int .i64 0,.int .i64 0,.int .i64 0,.nils]] true) rfl rfl
   have x2:=exp_q 23 n (.sv [[.int .i64 0,.int .i64 0,.int .i64 0,.nils]] true) rfl rfl
   have x3:=prog_q 22 n 0 (.sv [[.int .i64 0,.int .i64 0,.int .i64 0,.nils]] true) rfl rfl
   have x4:=prog_q 23 n 0 (.sv [[.int .i64 0,.int .i64 0,.int .i64 0,.nils]] true) rfl rfl
   have hcs:(wordsT (argF ws) ws).cs=[.int .i64 4,.int .i64 0,argF ws]:=rfl
   rw [hcs] at p1 p2
   rw [PC] at hjn p1 p2 hne x0 x1 x2 x3 x4
   have afc:=(argF_sl ws).cell
   change pcall _ _ [.agg [.sv [[.str nameF,.int .i64 0,.int .i64 22,.int .i64 n,.int .i64 0,.sv [[.int .i64 0,.int .i64 0,.int .i64 0,.nils]] true]] true,.int .i64 0],.agg [.int .i64 4,.int .i64 0,argF ws],.int .i64 10]=some (.val (.tup [.agg [.int .i64 1,.int .i64 (foldW n (neutral n) ws),u1],.int .i64 2,.int .i64 0])) at p1
   change pcall _ _ [.agg [.sv [[.str nameF,.int .i64 0,.int .i64 23,.int .i64 n,.int .i64 0,.sv [[.int .i64 0,.int .i64 0,.int .i64 0,.nils]] true]] true,.int .i64 0],.agg [.int .i64 4,.int .i64 0,argF ws],.int .i64 10]=some (.val (.tup [.agg [.int .i64 4,.int .i64 0,u2],.int .i64 s2.steps,.int .i64 0])) at p2
   have hce:chunks 4 1 [.int .i64 0,.int .i64 0,.int .i64 0,.nils]=[[.int .i64 0,.int .i64 0,.int .i64 0,.nils]]:=rfl
   have u1s:=cellsV_cell u1c
   have u2s:=cellsV_cell u2c
   obtain ⟨HF,hfz⟩:=frz_arg ws
   refine call_ofQ (af:=Trmn.a7) rfl rfl fun Q hQ => ?_
   simp only [Trmn.a7]
   simp [slotOf,hvc,hlv,k200,h200,hjn,fill,mkV,-pcall]
   refine loop_nQ ws.length (fun k c=>∃ s5 fl,c=⟨[v,.int .u8 op,.bool false,.int .i64 n,.agg [.int .i64 4,.int .i64 0,argV k],s5,.undef,.undef,.undef,.undef,.undef,.undef,.undef,.undef,.undef,.undef,.undef,.undef,v,.int .i64 ws.length,.int .i64 k,.undef,.undef,.undef],[],fl,none,argH ws k⟩) ?_ ⟨.undef,none,by simp [argV,argH]⟩
   rintro I hI k c hkl ⟨s5,fl,rfl⟩
   by_cases hlt:k<ws.length
   ·have hlt':(k:Int)<ws.length:=by omega
    have hi1:idxV v k 1=some (.pv [.int .i32 ws[k]]):=by rw [hv.idx]; simp [hlt]
    have hwk:=isWord_iff.1 (hw _ (List.getElem_mem hlt))
    have wc:IntKind.i64.wrap ws[k]=ws[k]:=wrap64 (by omega) (by omega)
    have hnum:=num_q ws[k]
    rw [PC] at hnum
    have happ:=arg_app ws k hlt h200
    have avc:isCell (argV k)=true:=by cases k <;> rfl
    have avc2:isCell (argV (k+1))=true:=rfl
    have avs:=cellsV_cell avc2
    have w5:IntKind.i64.wrap ((k:Int)+1)=(k:Int)+1:=wrap64 (by omega) (by omega)
    have hch1:chunks 3 1 [.int .i64 1,.int .i64 ws[k],.nils]=[[.int .i64 1,.int .i64 ws[k],.nils]]:=rfl
    simp [slotOf,hlt',hi1,wc,hch1,hnum,happ,avc,avc2,avs,w5,fill,mkV,-pcall]
    exact ⟨hlt,hI _ _ ⟨.int .i32 ws[k],none,by simp⟩⟩
   ·obtain rfl:k=ws.length:=by omega
    clear hI
    simp [slotOf,WX_frz,hfz,hce,u1s,u2s,x0,x1,x2,x3,x4,p1,p2,hne,afc,u1c,u2c,u2l,hlv,fill,mkV,-pcall]
    refine loop_nQ ws.length (fun i c=>∃ s14 s15 s16 s17 fl,c=⟨[v,.int .u8 op,.bool false,.int .i64 n,.agg [.int .i64 4,.int .i64 0,argF ws],s5,.agg [.int .i64 1,.int .i64 (foldW n (neutral n) ws),u1],.int .i64 2,.int .i64 0,.agg [.int .i64 4,.int .i64 0,u2],.int .i64 0,.int .i64 (neutral n),.int .i64 0,.int .i64 (foldW n (neutral n) (ws.take i)),s14,s15,s16,s17,v,.int .i64 ws.length,.int .i64 ws.length,v,.int .i64 ws.length,.int .i64 i],[],fl,none,HF⟩) ?_ ⟨.undef,.undef,.undef,.undef,none,by simp [foldW]⟩
    rintro J hJ i c hil ⟨s14,s15,s16,s17,fl2,rfl⟩
    by_cases hlt2:i<ws.length
    ·have hlt':(i:Int)<ws.length:=by omega
     have hi1:idxV v i 1=some (.pv [.int .i32 ws[i]]):=by rw [hv.idx]; simp [hlt2]
     have hwi:=hw _ (List.getElem_mem hlt2)
     have hwk:=isWord_iff.1 hwi
     have wc:IntKind.i64.wrap ws[i]=ws[i]:=wrap64 (by omega) (by omega)
     obtain ⟨kk,uu,hu⟩:=u2g i hlt2
     have hdo:=do_q n hj0 hj1 (foldW_words (op:=n) hw i) hwi
     rw [doW_join hj,← foldW_take hlt2,PC] at hdo
     simp only at hdo
     have w5:IntKind.i64.wrap ((i:Int)+1)=(i:Int)+1:=wrap64 (by omega) (by omega)
     simp [slotOf,hlt',hi1,wc,hu,hdo,w5,u2c,u2s,mkV,-pcall]
     exact ⟨hlt2,hJ _ _ ⟨.int .i64 i,.int .i32 ws[i],.int .i64 (foldW n (neutral n) (ws.take (i+1))),.int .i64 0,none,by simp⟩⟩
    ·obtain rfl:i=ws.length:=by omega
     simp [slotOf,haw,u1c,u1s,-pcall]
     exact hQ _ _ rfl
  ·have k200:(200:Int)<ws.length:=by omega
   refine call_ofQ (af:=Trmn.a7) rfl rfl fun Q hQ => ?_
   simp only [Trmn.a7]
   simp [slotOf,hvc,hlv,k200,haw,mkV,-pcall]
   exact hQ _ _ rfl
 obtain ⟨r,h',e,rfl⟩:=OptP.ex key
 exact ⟨h',e⟩
end Go.Proofs.Mn
set_option linter.unusedVariables false
set_option linter.unusedSimpArgs false
set_option maxHeartbeats 4000000
namespace Go.Proofs.Mn
open Go Go.Am
theorem chunks4:∀ ts:List Ex,chunks 4 ts.length (ts.map Ex.cs).flatten=ts.map Ex.cs
 | []=>rfl
 | t :: ts=>by
  have h3:=Ex.cs_length t
  simp only [List.length_cons,chunks,List.map_cons,List.flatten_cons]
  rw [List.take_left' h3,List.drop_left' h3,chunks4 ts]
theorem pure_exs:∀ {ts:List Ex},(∀ t∈ts,t.Ok)→pureL (ts.map Ex.cs).flatten=true
 | [],_=>rfl
 | t :: ts,h=>by
  simp only [List.map_cons,List.flatten_cons]
  exact pureL_append (pure_ex (h t (by simp))) (pure_exs fun u hu=>h u (by simp [hu]))
abbrev callC:List V:=[.int .i64 7,.int .i64 0,.int .i64 0,.sv [[.int .i64 0,.int .i64 7,.int .i64 0,.nils]] true]
def eachH (B:Am.Obj) (ws:List Int) (k:Nat):Heap:=[B,.cells k 4 (((ws.take k).map intE).map Ex.cs).flatten,.cells k 4 (((ws.take k).map fun w=>callE (intE w)).map Ex.cs).flatten]
theorem each_app1 (B:Am.Obj) (ws:List Int) (k:Nat) (hk:k<ws.length) (hl:ws.length≤8):appV (eachH B ws k) (.sl 1 0 k k 4 false) (.sv [[.int .i64 1,.int .i64 ws[k],.int .i64 0,.nils]] true) 4 48 =
  some (.sl 1 0 (k+1) (k+1) 4 false,[B,.cells (k+1) 4 (((ws.take (k+1)).map intE).map Ex.cs).flatten,.cells k 4 (((ws.take k).map fun w=>callE (intE w)).map Ex.cs).flatten]):=by
 have h:=appV_own (h:=eachH B ws k) (o:=1) (n:=k) (sz:=4) (bytes:=48) (k:=1) (y:=.sv [[.int .i64 1,.int .i64 ws[k],.int .i64 0,.nils]] true) (ys:=[.int .i64 1,.int .i64 ws[k],.int .i64 0,.nils]) rfl rfl rfl rfl (by simp only [room]; omega)
 rw [h]
 have e:(((ws.take (k+1)).map intE).map Ex.cs).flatten=(((ws.take k).map intE).map Ex.cs).flatten++[.int .i64 1,.int .i64 ws[k],.int .i64 0,.nils]:=by
  rw [← List.take_append_getElem hk,List.map_append,List.map_append,List.flatten_append]
  rfl
 rw [e]
 rfl
theorem each_app2 (B:Am.Obj) (ws:List Int) (k:Nat) (hk:k<ws.length) (hl:ws.length≤8):appV [B,.cells (k+1) 4 (((ws.take (k+1)).map intE).map Ex.cs).flatten,.cells k 4 (((ws.take k).map fun w=>callE (intE w)).map Ex.cs).flatten] (.sl 2 0 k k 4 false) (.sv [[.int .i64 7,.int .i64 0,.int .i64 0,.sv [[.int .i64 1,.int .i64 ws[k],.int .i64 0,.nils]] true]] true) 4 48 =
  some (.sl 2 0 (k+1) (k+1) 4 false,eachH B ws (k+1)):=by
 have h:=appV_own (h:=[B,.cells (k+1) 4 (((ws.take (k+1)).map intE).map Ex.cs).flatten,.cells k 4 (((ws.take k).map fun w=>callE (intE w)).map Ex.cs).flatten]) (o:=2) (n:=k) (sz:=4) (bytes:=48) (k:=1) (y:=.sv [[.int .i64 7,.int .i64 0,.int .i64 0,.sv [[.int .i64 1,.int .i64 ws[k],.int .i64 0,.nils]] true]] true) (ys:=[.int .i64 7,.int .i64 0,.int .i64 0,.sv [[.int .i64 1,.int .i64 ws[k],.int .i64 0,.nils]] true]) rfl rfl rfl rfl (by simp only [room]; omega)
 rw [h]
 have e:(((ws.take (k+1)).map fun w=>callE (intE w)).map Ex.cs).flatten=(((ws.take k).map fun w=>callE (intE w)).map Ex.cs).flatten++[.int .i64 7,.int .i64 0,.int .i64 0,.sv [[.int .i64 1,.int .i64 ws[k],.int .i64 0,.nils]] true]:=by
  rw [← List.take_append_getElem hk,List.map_append,List.map_append,List.flatten_append]
  rfl
 rw [eachH,e]
 rfl
theorem frz_exs (a b c:Am.Obj) (ts:List Ex) (n:Nat) (hn:ts.length=n) (h:∀ t∈ts,t.Ok):frzA [a,b,.cells n 4 (ts.map Ex.cs).flatten] (.sl 2 0 n n 4 false)=some (.sv (ts.map Ex.cs) false,[a,b,.gone]) ∧
  frzA [a,.cells n 4 (ts.map Ex.cs).flatten,c] (.sl 1 0 n n 4 false)=some (.sv (ts.map Ex.cs) false,[a,.gone,c]):=by
 have hp:=pure_exs h
 have hch:=chunks4 ts
 rw [hn] at hch
 constructor
 ·simp only [frzA,frzV,viewV,objCells,List.getElem?_cons_succ,List.getElem?_cons_zero,hp,Nat.zero_le,true_and,and_true,Nat.zero_mul,Nat.zero_add,Nat.le_refl,if_true,List.drop_zero,hch]
  rfl
 ·simp only [frzA,frzV,viewV,objCells,List.getElem?_cons_succ,List.getElem?_cons_zero,hp,Nat.zero_le,true_and,and_true,Nat.zero_mul,Nat.zero_add,Nat.le_refl,if_true,List.drop_zero,hch]
  rfl
theorem words_sk (v:V) (ys:List Int):(wordsT v ys).sk=(seqV (nums ys)).sk:=by
 rw [wordsT,Tr.sk_mk,seqV,Val.sk_many,List.map_map,nums,List.map_map]
 congr 1
 exact List.map_congr_left fun w _=>by simp [Val.sk,wordT,Tr.sk_mk]
theorem law_each (ws:List Int) (v:V) (hv:SlV (ws.map fun w=>[.int .i16 w]) v) (hw:∀ w∈ws,-32768≤w∧w≤32767) (op:Nat) (hop:op<256) (n:Int) (hn : -32768≤n∧n≤32767) :
  ∃ h',(lim gl Trmn.aprog).call 6 [v,.int .u8 op,.int .i16 n] []=some (.ret (.bool true),h'):=by
 have key:CallP gl Trmn.aprog 6 [v,.int .u8 op,.int .i16 n] [] (fun r h'=>r = .ret (.bool true)):=by
  have haw:=awake_q
  rw [PC] at haw
  have hvc:=hv.cell
  have hlv:lenV v=some (.int .i64 ws.length):=by rw [hv.len]; simp
  by_cases h8:8<ws.length
  ·have k8:(8:Int)<ws.length:=by omega
   refine call_ofQ (af:=Trmn.a6) rfl rfl fun Q hQ => ?_
   simp only [Trmn.a6]
   simp [slotOf,hvc,hlv,k8,haw,mkV,-pcall]
   exact hQ _ _ rfl
  have k8:¬ (8:Int)<ws.length:=by omega
  have hl:ws.length≤8:=by omega
  have hww:∀ w∈ws,isWord w=true:=fun w h=>isWord_iff.2 (by have:=hw w h; omega)
  have hnw:isWord n=true:=isWord_iff.2 (by omega)
  have wn:IntKind.i64.wrap n=n:=wrap64 (by omega) (by omega)
  have wo:IntKind.i64.wrap (op:Int)=op:=wrap64 (by omega) (by omega)
  have eo:(op:Int).tmod 12=((op % 12:Nat):Int):=by rw [Int.tmod_eq_emod_of_nonneg (by omega)]; omega
  have ho:0≤((op % 12:Nat):Int)∧((op % 12:Nat):Int)≤11:=by omega
  have w1:IntKind.i64.wrap ((op % 12:Nat):Int)=((op % 12:Nat):Int):=wrap64 (by omega) (by omega)
  generalize ((op % 12:Nat):Int)=o at *
  obtain ⟨eE,⟨kE,mE,sE,uE,pE,cE,gE⟩,eE0,eE1⟩:=out_each ho hnw hl hww
  obtain ⟨eC,⟨kC,mC,sC,uC,pC,cC,gC⟩,eC0,eC1⟩:=out_calls ho hnw hl hww
  obtain ⟨eK,⟨kK,mK,sK,uK,pK,cK,gK⟩,eK0,eK1⟩:=out_keep ho hnw hl hww
  have hb0:∀ (c d:Am.Obj),([.cells 1 4 (binE o n).cs,c,d]:Heap)[0]?=some (.cells 1 4 (binE o n).cs):=fun c d=>rfl
  have rE:=run_c (exok_each hww 17 (.inl rfl)) cE (hb0 .gone .gone) pE
  have rC:=run_c (exok_calls hww) cC (hb0 .gone .gone) pC
  have rK:=run_c (exok_each hww 18 (.inr rfl)) cK (hb0 .gone .gone) pK
  rw [CC] at rE rC rK
  have x0:=var_q 0
  have x1:=whole_q2 n
  have ebin:(binE o n).cs=[.int .i64 15,.int .i64 o,.int .i64 0,.sv [[.int .i64 0,.int .i64 0,.int .i64 0,.nils],[.int .i64 1,.int .i64 n,.int .i64 0,.nils]] true]:=rfl
  have x2:=exp_q 15 o (.sv [[.int .i64 0,.int .i64 0,.int .i64 0,.nils],[.int .i64 1,.int .i64 n,.int .i64 0,.nils]] true) rfl rfl
  have x3:=var_q 7
  have x4:=exp_q 7 0 (.sv [[.int .i64 0,.int .i64 7,.int .i64 0,.nils]] true) rfl rfl
  have f1:=frz_exs (.cells 1 4 (binE o n).cs) (.cells ws.length 4 ((ws.map intE).map Ex.cs).flatten) .gone (ws.map fun w=>callE (intE w)) ws.length (by simp) fun t ht=>by
   obtain ⟨w,hm,rfl⟩:=List.mem_map.1 ht
   exact exok_call (exok_int (hww w hm))
  have f2:=frz_exs (.cells 1 4 (binE o n).cs) .gone .gone (ws.map intE) ws.length (by simp) fun t ht=>by
   obtain ⟨w,hm,rfl⟩:=List.mem_map.1 ht
   exact exok_int (hww w hm)
  have f1:=f1.1
  have f2:=f2.2
  let wV:V:=.sv ((ws.map intE).map Ex.cs) false
  let cV:V:=.sv ((ws.map fun w=>callE (intE w)).map Ex.cs) false
  have x5:=exp_q 16 0 wV rfl rfl
  have x6:=exp_q 17 7 (.sv [[.int .i64 16,.int .i64 0,.int .i64 0,wV],callC] true) rfl rfl
  have x7:=exp_q 16 0 cV rfl rfl
  have x8:=exp_q 18 7 (.sv [[.int .i64 16,.int .i64 0,.int .i64 0,wV],callC] true) rfl rfl
  rw [PC] at x0 x1 x2 x3 x4 x5 x6 x7 x8
  change (lim gl Trmn.aprog).call 28 [.agg [.int .i64 17,.int .i64 7,.int .i64 0,.sv [[.int .i64 16,.int .i64 0,.int .i64 0,wV],callC] true],.ref 0 0 1] _=_ at rE
  change (lim gl Trmn.aprog).call 28 [.agg [.int .i64 16,.int .i64 0,.int .i64 0,cV],.ref 0 0 1] _=_ at rC
  change (lim gl Trmn.aprog).call 28 [.agg [.int .i64 18,.int .i64 7,.int .i64 0,.sv [[.int .i64 16,.int .i64 0,.int .i64 0,wV],callC] true],.ref 0 0 1] _=_ at rK
  change _=some (cV,_) at f1
  change _=some (wV,_) at f2
  have wc:isCell wV=true:=rfl
  have cc:isCell cV=true:=rfl
  have wp:pureV wV=true:=rfl
  have cp:pureV cV=true:=rfl
  clear_value wV cV
  have hE0:eachH (.cells 1 4 (binE o n).cs) ws 0=[.cells 1 4 (binE o n).cs,.cells 0 4 [],.cells 0 4 []]:=rfl
  have hEn:eachH (.cells 1 4 (binE o n).cs) ws ws.length=[.cells 1 4 (binE o n).cs,.cells ws.length 4 ((ws.map intE).map Ex.cs).flatten,.cells ws.length 4 ((ws.map fun w=>callE (intE w)).map Ex.cs).flatten]:=by simp only [eachH,List.take_length]
  have hst:storeV [.cells 1 4 [.int .i64 0,.int .i64 0,.int .i64 0,.nils]] (.ref 0 0 1) (.agg [.int .i64 15,.int .i64 o,.int .i64 0,.sv [[.int .i64 0,.int .i64 0,.int .i64 0,.nils],[.int .i64 1,.int .i64 n,.int .i64 0,.nils]] true]) 4=some [.cells 1 4 [.int .i64 15,.int .i64 o,.int .i64 0,.sv [[.int .i64 0,.int .i64 0,.int .i64 0,.nils],[.int .i64 1,.int .i64 n,.int .i64 0,.nils]] true]]:=rfl
  refine call_ofQ (af:=Trmn.a6) rfl rfl fun Q hQ => ?_
  simp only [Trmn.a6]
  simp [slotOf,hvc,hlv,k8,wn,wo,eo,w1,x0,x1,x2,hst,fill,chunks,mkV,-pcall]
  refine loop_nQ ws.length (fun k c=>∃ s7 fl,c=⟨[v,.int .u8 op,.int .i16 n,.bool false,.ref 0 0 1,.sl 1 0 k k 4 false,.sl 2 0 k k 4 false,s7,.undef,.undef,.undef,.undef,.undef,.undef,.undef,.undef,.undef,.undef,.undef,.undef,.undef,v,.int .i64 ws.length,.int .i64 k,.undef,.undef,.undef],[],fl,none,eachH (.cells 1 4 (binE o n).cs) ws k⟩) ?_ ⟨.undef,none,by simp [eachH,ebin]⟩
  rintro I hI k c hk ⟨s7,fl,rfl⟩
  by_cases hlt:k<ws.length
  ·have hlt':(k:Int)<ws.length:=by omega
   have hix:idxV v k 1=some (.pv [.int .i16 ws[k]]):=by rw [hv.idx]; simp [hlt]
   have hwk:=hw _ (List.getElem_mem hlt)
   have wz:IntKind.i64.wrap ws[k]=ws[k]:=wrap64 (by omega) (by omega)
   have w5:IntKind.i64.wrap ((k:Int)+1)=(k:Int)+1:=wrap64 (by omega) (by omega)
   have a1:=each_app1 (.cells 1 4 (binE o n).cs) ws k hlt hl
   have a2:=each_app2 (.cells 1 4 (binE o n).cs) ws k hlt hl
   have y1:=whole_q2 ws[k]
   have y2:=exp_q 7 0 (.sv [[.int .i64 1,.int .i64 ws[k],.int .i64 0,.nils]] true) rfl rfl
   rw [PC] at y1 y2
   have hI2:=fun s7 fl=>hI (k+1) _ ⟨s7,fl,rfl⟩
   generalize ws[k]=z at *
   generalize eachH (.cells 1 4 (binE o n).cs) ws k=Hk at *
   generalize eachH (.cells 1 4 (binE o n).cs) ws (k+1)=Hk1 at *
   generalize (((ws.take (k+1)).map intE).map Ex.cs).flatten=c1 at *
   generalize (((ws.take k).map fun w=>callE (intE w)).map Ex.cs).flatten=c2 at *
   generalize (binE o n).cs=bc at *
   simp [slotOf,hlt',hix,wz,w5,y1,y2,a1,a2,fill,chunks,mkV,pureL,pureV,-pcall]
   exact ⟨hlt,hI2 _ _⟩
  obtain rfl:k=ws.length:=by omega
  clear hI
  rw [hEn]
  generalize hbc:(binE o n).cs=bc at *
  generalize ((ws.map intE).map Ex.cs).flatten=c1 at *
  generalize ((ws.map fun w=>callE (intE w)).map Ex.cs).flatten=c2 at *
  simp [slotOf,WX_frz,f1,f2,x3,x4,x5,x6,x7,x8,rE,rC,rK,cE,cC,cK,wc,cc,wp,cp,fill,chunks,callee,ecallF,mkV,pureL,pureV,-pcall]
  by_cases hg:Good o n ws
  ·obtain rfl:=eE0 hg
   obtain rfl:=eC0 hg
   obtain rfl:=eK0 hg
   obtain ⟨_,tE,tcE,toE,tsE⟩:=gE hg
   obtain ⟨_,tC,tcC,toC,tsC⟩:=gC hg
   obtain ⟨_,tK,tcK,toK,tsK⟩:=gK hg
   obtain ⟨u',ce,uc,ul,ui⟩:=sk_nums toE tsE
   have cee:=ce
   rw [tcE] at cee
   simp only [List.cons.injEq,V.int.injEq,true_and,and_true] at cee
   obtain ⟨rfl,rfl,rfl⟩:=cee
   rw [List.length_map] at ul
   have hnE:tE.nodes<2 ^ 60:=by
    have h0:(wordsT (argF (ws.map (zOf o n))) (ws.map (zOf o n))).sk=(seqV (nums (ws.map (zOf o n)))).sk:=words_sk _ _
    have h1:=nodes_sk _ _ (tsE.trans h0.symm)
    rw [h1,wordsT,Tr.nodes,nodes_words,List.length_map]
    omega
   have sEC:=same_q tE tC toE toC hnE (tsE.trans tsC.symm)
   rw [tcE,tcC,PC] at sEC
   have hF8:(ws.filter fun w=>zOf o n w != 0).length≤8:=by have:=List.length_filter_le (fun w=>zOf o n w != 0) ws; omega
   have hFw:∀ w∈(ws.filter fun w=>zOf o n w != 0),isWord w=true:=fun w h=>hww w (List.mem_filter.1 h).1
   have hsk:(wordsT (argF (ws.filter fun w=>zOf o n w != 0)) (ws.filter fun w=>zOf o n w != 0)).sk=(seqV (nums (ws.filter fun w=>zOf o n w != 0))).sk:=words_sk _ _
   have hnK:tK.nodes<2 ^ 60:=by
    have h1:=nodes_sk _ _ (tsK.trans hsk.symm)
    rw [h1,wordsT,Tr.nodes,nodes_words]
    omega
   have sKL:=same_q tK _ toK (words_ok (argF_sl _) hFw) hnK (tsK.trans hsk.symm)
   rw [tcK,PC] at sKL
   change pcall _ _ [_,.agg [.int .i64 4,.int .i64 0,argF (ws.filter fun w=>zOf o n w != 0)]]=_ at sKL
   have hlist:=list_q2 (ws.filter fun w=>zOf o n w != 0) (.sv ((ws.filter fun w=>zOf o n w != 0).map fun w=>[.int .i64 w]) false) (SlV.sv false) (by omega)
   rw [PC] at hlist
   have hfz:frzA [.cells 1 4 bc,.gone,.gone,.cells (ws.filter fun w=>zOf o n w != 0).length 1 ((ws.filter fun w=>zOf o n w != 0).map (V.int .i64))] (.sl 3 0 (ws.filter fun w=>zOf o n w != 0).length (ws.filter fun w=>zOf o n w != 0).length 1 false) =
     some (.sv ((ws.filter fun w=>zOf o n w != 0).map fun w=>[.int .i64 w]) false,[.cells 1 4 bc,.gone,.gone,.gone]):=by
    have hp:=pure_vars (ws.filter fun w=>zOf o n w != 0)
    have hch:=chunks_one ((ws.filter fun w=>zOf o n w != 0).map (V.int .i64))
    rw [List.length_map,List.map_map] at hch
    simp only [frzA,frzV,viewV,objCells,List.getElem?_cons_succ,List.getElem?_cons_zero,hp,Nat.zero_le,true_and,and_true,Nat.zero_mul,Nat.zero_add,Nat.le_refl,if_true,List.drop_zero,hch]
    rfl
   have afc:=(argF_sl (ws.filter fun w=>zOf o n w != 0)).cell
   simp [slotOf,hvc,hlv,mkV,-pcall]
   refine loop_nQ ws.length (fun i c=>∃ s17 s18 s19 s20 fl,c=⟨[v,.int .u8 op,.int .i16 n,.bool false,.ref 0 0 1,wV,cV,s7,.agg callC,.func (.func 28) [] [.ref 0 0 1],.agg [.int .i64 4,.int .i64 0,uE],.int .i64 0,.agg [.int .i64 kC,.int .i64 mC,uC],.int .i64 0,.agg [.int .i64 kK,.int .i64 mK,uK],.int .i64 0,.sl 3 0 ((ws.take i).filter fun w=>zOf o n w != 0).length ((ws.take i).filter fun w=>zOf o n w != 0).length 1 false,s17,s18,s19,s20,v,.int .i64 ws.length,.int .i64 ws.length,v,.int .i64 ws.length,.int .i64 i],[],fl,none,[.cells 1 4 bc,.gone,.gone,.cells ((ws.take i).filter fun w=>zOf o n w != 0).length 1 (((ws.take i).filter fun w=>zOf o n w != 0).map (V.int .i64))]⟩) ?_ ⟨.undef,.undef,.undef,.undef,none,by simp⟩
   rintro I hI i c hi ⟨s17,s18,s19,s20,fl,rfl⟩
   by_cases hlt:i<ws.length
   ·have hlt':(i:Int)<ws.length:=by omega
    have hge:¬ (ws.length:Int)≤i:=by omega
    have hix:idxV v i 1=some (.pv [.int .i16 ws[i]]):=by rw [hv.idx]; simp [hlt]
    have hwk:=hw _ (List.getElem_mem hlt)
    have hwi:=hww _ (List.getElem_mem hlt)
    have wz:IntKind.i64.wrap ws[i]=ws[i]:=wrap64 (by omega) (by omega)
    have w5:IntKind.i64.wrap ((i:Int)+1)=(i:Int)+1:=wrap64 (by omega) (by omega)
    have hfine:Fine o n:=by
     rcases hg with h | h
     ·exact h
     ·rw [h] at hlt; simp at hlt
    have hdo:=do_q o ho.1 ho.2 hwi hnw
    rw [fine_do hfine,PC] at hdo
    simp only at hdo
    obtain ⟨kk,uu,hu⟩:=ui i (by rw [List.length_map]; exact hlt)
    rw [List.getElem_map] at hu
    have hF:(ws.take (i+1)).filter (fun w=>zOf o n w != 0)=(ws.take i).filter (fun w=>zOf o n w != 0)++(if zOf o n ws[i] != 0 then [ws[i]] else []):=by
     rw [← List.take_append_getElem hlt,List.filter_append]
     simp only [List.filter_cons,List.filter_nil]
    have hI2:=fun s17 s18 s19 s20 fl=>hI (i+1) _ ⟨s17,s18,s19,s20,fl,rfl⟩
    rw [hF] at hI2
    have hFl:((ws.take i).filter fun w=>zOf o n w != 0).length≤8:=by
     have:=List.length_filter_le (fun w=>zOf o n w != 0) (ws.take i)
     rw [List.length_take] at this
     omega
    generalize (ws.take i).filter (fun w=>zOf o n w != 0)=F at *
    generalize zOf o n ws[i]=z at *
    generalize ws[i]=w at *
    have hap:=appV_own (h:=[.cells 1 4 bc,.gone,.gone,.cells F.length 1 (F.map (V.int .i64))]) (o:=3) (n:=F.length) (sz:=1) (bytes:=8) (k:=1) (y:=.sv [[.int .i64 w]] true) (ys:=[.int .i64 w]) rfl rfl rfl rfl (by simp only [room]; omega)
    simp only [List.set_cons_succ,List.set_cons_zero] at hap
    by_cases hz:z=0
    ·simp only [hz,bne_self_eq_false,Bool.false_eq_true,if_false,List.append_nil] at hI2
     subst hz
     simp [slotOf,hlt',hge,hix,wz,wn,wo,eo,w1,hdo,ul,uc,hu,w5,mkV,-pcall]
     exact ⟨hlt,hI2 _ _ _ _ _⟩
    ·have hzb:(z != 0)=true:=by simpa using hz
     simp only [hzb,if_true,List.map_append,List.map_cons,List.map_nil,List.length_append,List.length_cons,List.length_nil,Nat.zero_add] at hI2
     simp [slotOf,hlt',hge,hix,wz,wn,wo,eo,w1,hdo,ul,uc,hu,hzb,hap,w5,fill,chunks,mkV,-pcall]
     exact ⟨hlt,hI2 _ _ _ _ _⟩
   ·obtain rfl:i=ws.length:=by omega
    clear hI
    rw [List.take_length]
    generalize ws.filter (fun w=>zOf o n w != 0)=F at *
    generalize argF F=aF at *
    simp [slotOf,WX_frz,hfz,ul,uc,hlv,sEC,sKL,hlist,haw,cC,cK,afc,mkV,-pcall]
    exact hQ _ _ rfl
  ·obtain rfl:=eE1 hg
   obtain rfl:=eC1 hg
   obtain rfl:=eK1 hg
   simp [slotOf,haw,mkV,-pcall]
   exact hQ _ _ rfl
 obtain ⟨r,h',e,rfl⟩:=OptP.ex key
 exact ⟨h',e⟩
end Go.Proofs.Mn
