/- A part of the law's proof: PartA. -/
import Derived.Test.YtlgehpjbhijknaaGreatDoorCoreD
import Derived.Test.YtlgehpjbhijknaaGreatDoorFn
set_option linter.unusedVariables false
set_option linter.unusedSimpArgs false
namespace Go.Proofs.Nst
open Go Go.Am
def is64 (n:Int):Prop:=-9223372036854775808≤n∧n≤9223372036854775807
def gl:Nat→List V
 | 0=>[.int .i64 0,.int .i64 1,.int .i64 2,.int .i64 3,.int .i64 4]
 | 1=>[.int .i64 0,.int .i64 0,.int .i64 2,.int .i64 2,.int .i64 1]
 | 2=>[.func (.func 276) [] [],.func (.func 277) [] [],.func (.func 278) [] [],.func (.func 279) [] [],.func (.func 280) [] []]
 | _=>[]
theorem gl0:gl 0=[.int .i64 0,.int .i64 1,.int .i64 2,.int .i64 3,.int .i64 4]:=rfl
theorem gl1:gl 1=[.int .i64 0,.int .i64 0,.int .i64 2,.int .i64 2,.int .i64 1]:=rfl
theorem gl2:gl 2=[.func (.func 276) [] [],.func (.func 277) [] [],.func (.func 278) [] [],.func (.func 279) [] [],.func (.func 280) [] []]:=rfl
abbrev PC (f:Nat) (args:List V) (v:V):Prop:=pcall (lim gl Trnz.aprog) (.func (.func f) [] []) args=some (.val v)
abbrev CC (f:Nat) (args:List V) (h:Heap) (r:R) (h':Heap):Prop:=(lim gl Trnz.aprog).call f args h=some (r,h')
theorem pc_ofW {f:Nat} {args:List V} {v:V} (hp:pureL args=true) (hc:CallP gl Trnz.aprog f args [] (fun r h'=>∃ u,r = .ret u∧viewW 0 h' u=some v)):PC f args v:=by
 obtain ⟨r,h',e,u,rfl,hv⟩:=OptP.ex hc
 simp [PC,pcall,callee,hp,e,hv]
theorem pc_of {f:Nat} {args:List V} {v:V} (hp:pureL args=true) (hv:∀ h,viewW 0 h v=some v) (hc:CallP gl Trnz.aprog f args [] (fun r h'=>r = .ret v)):PC f args v :=
 pc_ofW hp (CallP.mono hc fun r h' e=>⟨v,e,hv h'⟩)
theorem pc_pan {f:Nat} {args:List V} {v:V} (hp:pureL args=true) (hv:pureV v=true) (hc:CallP gl Trnz.aprog f args [] (fun r h'=>r = .pan v)):pcall (lim gl Trnz.aprog) (.func (.func f) [] []) args=some (.pan v):=by
 obtain ⟨r,h',e,rfl⟩:=OptP.ex hc
 simp [pcall,callee,hp,e,hv]
theorem view_boolint (b:Bool) (k:IntKind) (n:Int) (h:Heap):viewW 0 h (.tup [.bool b,.int k n])=some (.tup [.bool b,.int k n]):=rfl
inductive Tr where
 | mk (k n:Int) (v:V) (l:List Tr)
 deriving Inhabited
namespace Tr
def k:Tr→Int | mk k _ _ _=>k
def n:Tr→Int | mk _ n _ _=>n
def v:Tr→V | mk _ _ v _=>v
def l:Tr→List Tr | mk _ _ _ l=>l
def cs:Tr→List V | mk k n v _=>[.int .i64 k,.int .i64 n,v]
@[simp] theorem cs_length (t:Tr):t.cs.length=3:=by cases t; rfl
@[simp] theorem cs_take (t:Tr):t.cs.take 3=t.cs:=by cases t; rfl
theorem cs_eq (t:Tr):t.cs=[.int .i64 t.k,.int .i64 t.n,t.v]:=by cases t; rfl
inductive Ok:Tr→Prop
 | mk (k n:Int) (v:V) (l:List Tr) (hk:is64 k) (hn:is64 n) (hv:SlV (l.map cs) v) (hl:∀ x∈l,Ok x):Ok (.mk k n v l)
theorem Ok.inv {k n:Int} {v:V} {l:List Tr} (h:Ok (.mk k n v l)):is64 k∧is64 n∧SlV (l.map cs) v∧∀ x∈l,Ok x:=by
 cases h with
 | mk _ _ _ _ a b c d=>exact ⟨a,b,c,d⟩
theorem ind {P:Tr→Prop} (h:∀ k n v l,(∀ x∈l,P x)→P (.mk k n v l)):∀ t,P t
 | .mk k n v l=>h k n v l fun x hx=>ind h x
termination_by t=>SizeOf.sizeOf t
decreasing_by
 have:=List.sizeOf_lt_of_mem hx
 simp only [mk.sizeOf_spec]
 omega
mutual
def nodes:Tr→Nat
 | .mk _ _ _ l=>1+nodesL l
def nodesL:List Tr→Nat
 | []=>0
 | t :: ts=>nodes t+nodesL ts
end
mutual
def levels:Tr→Nat
 | .mk _ _ _ l=>levelsL l+1
def levelsL:List Tr→Nat
 | []=>0
 | t :: ts=>max (levels t) (levelsL ts)
end
theorem nodes_pos (t:Tr):1≤t.nodes:=by cases t; simp only [nodes]; omega
theorem nodesL_append (a b:List Tr):nodesL (a++b)=nodesL a+nodesL b:=by
 induction a with
 | nil=>simp [nodesL]
 | cons t ts ih=>simp only [List.cons_append,nodesL,ih]; omega
theorem levelsL_append (a b:List Tr):levelsL (a++b)=max (levelsL a) (levelsL b):=by
 induction a with
 | nil=>simp [levelsL]
 | cons t ts ih=>simp only [List.cons_append,levelsL,ih]; omega
theorem nodesL_take {l:List Tr} {i:Nat} (h:i<l.length):nodesL (l.take (i+1))=nodesL (l.take i)+l[i].nodes:=by
 rw [← List.take_append_getElem h,nodesL_append]; simp [nodesL]
theorem levelsL_take {l:List Tr} {i:Nat} (h:i<l.length):levelsL (l.take (i+1))=max (levelsL (l.take i)) l[i].levels:=by
 rw [← List.take_append_getElem h,levelsL_append]; simp [levelsL]
theorem nodesL_mem:∀ {l:List Tr} {t:Tr},t∈l→t.nodes≤nodesL l
 | u :: us,t,h=>by
  simp only [nodesL]
  rcases List.mem_cons.1 h with rfl | h
  ·omega
  ·have:=nodesL_mem h; omega
theorem levelsL_mem:∀ {l:List Tr} {t:Tr},t∈l→t.levels≤levelsL l
 | u :: us,t,h=>by
  simp only [levelsL]
  rcases List.mem_cons.1 h with rfl | h
  ·omega
  ·have:=levelsL_mem h; omega
theorem nodesL_length:∀ l:List Tr,l.length≤nodesL l
 | []=>by simp [nodesL]
 | t :: ts=>by have:=nodesL_length ts; have:=nodes_pos t; simp only [nodesL,List.length_cons]; omega
mutual
theorem levels_le_nodes:∀ t:Tr,t.levels≤t.nodes
 | .mk _ _ _ l=>by have:=levelsL_le_nodesL l; simp only [levels,nodes]; omega
theorem levelsL_le_nodesL:∀ l:List Tr,levelsL l≤nodesL l
 | []=>by simp [levelsL]
 | t :: ts=>by have:=levels_le_nodes t; have:=levelsL_le_nodesL ts; simp only [levelsL,nodesL]; omega
end
theorem nodesL_take_le {l:List Tr} (i:Nat):nodesL (l.take i)≤nodesL l:=by
 have:=nodesL_append (l.take i) (l.drop i)
 rw [List.take_append_drop] at this
 omega
end Tr
theorem idx_tr {l:List Tr} {v:V} (hv:SlV (l.map Tr.cs) v) {i:Nat} (hi:i<l.length):idxV v i 3=some (.pv l[i].cs):=by
 rw [hv.idx]
 simp [hi]
theorem len_tr {l:List Tr} {v:V} (hv:SlV (l.map Tr.cs) v):lenV v=some (.int .i64 l.length):=by
 rw [hv.len]; simp
theorem pure_tr {t:Tr} (h:t.Ok):pureL t.cs=true:=by
 cases h with
 | mk k n v l _ _ hv _=>simp [Tr.cs,pureL,pureV,hv.pure]
theorem add_nat (a b:Nat) (h:a+b<2 ^ 63):IntKind.i64.wrap ((a:Int)+(b:Int))=((a+b:Nat):Int):=by rw [wrap64 (by omega) (by omega)]; rfl
inductive Ty where
 | unit | int
 | pair (a b:Ty) | sum (a b:Ty)
 | seq (a:Ty)
 deriving DecidableEq
namespace Ty
def own:Ty→Nat
 | .unit=>0 | .int=>1 | .pair a b=>a.own+b.own | .sum a b=>1+a.own+b.own | .seq _=>2
def data:Ty→Nat
 | .unit=>0 | .int=>0 | .pair a b=>a.data+b.data | .sum a b=>a.data+b.data | .seq a=>a.own+a.data
def size:Ty→Nat
 | .unit=>1 | .int=>1 | .pair a b=>1+a.size+b.size | .sum a b=>1+a.size+b.size | .seq a=>1+a.size
def deep:Ty→Nat
 | .unit=>1 | .int=>1 | .pair a b=>max a.deep b.deep+1 | .sum a b=>max a.deep b.deep+1 | .seq a=>a.deep+1
def kind:Ty→Nat
 | .unit=>0 | .int=>1 | .pair _ _=>2 | .sum _ _=>3 | .seq _=>4
theorem both_size:∀ t:Ty,t.own+t.data≤2 * t.size
 | .unit=>by simp [own,data,size] | .int=>by simp [own,data,size]
 | .pair a b=>by have:=both_size a; have:=both_size b; simp only [own,data,size]; omega
 | .sum a b=>by have:=both_size a; have:=both_size b; simp only [own,data,size]; omega
 | .seq a=>by have:=both_size a; simp only [own,data,size]; omega
theorem own_size (t:Ty):t.own≤2 * t.size:=by have:=both_size t; omega
theorem data_size (t:Ty):t.data≤2 * t.size:=by have:=both_size t; omega
end Ty
inductive IsTy:Tr→Ty→Prop
 | unit (v:V):IsTy (.mk 0 0 v []) .unit
 | int (v:V):IsTy (.mk 1 0 v []) .int
 | pair (v:V) (a b:Tr) (x y:Ty) (ha:IsTy a x) (hb:IsTy b y):IsTy (.mk 2 0 v [a,b]) (.pair x y)
 | sum (v:V) (a b:Tr) (x y:Ty) (ha:IsTy a x) (hb:IsTy b y):IsTy (.mk 3 0 v [a,b]) (.sum x y)
 | seq (v:V) (a:Tr) (x:Ty) (ha:IsTy a x):IsTy (.mk 4 0 v [a]) (.seq x)
def partsK (k:Int):Int:=if k=0 then 0 else if k=1 then 0 else if k=2 then 2 else if k=3 then 2 else if k=4 then 1 else -1
theorem lies_q (n a b:Int):PC 29 [.int .i64 n,.int .i64 a,.int .i64 b] (.bool (decide (a≤n∧n≤b))):=by
 refine pc_of rfl (fun h=>rfl) ?_
 refine call_ofQ (af:=Trnz.a29) rfl rfl fun Q hQ => ?_
 simp only [Trnz.a29]
 by_cases h:a≤n
 ·simp [h,slotOf]
  refine hQ _ _ ?_
  simp [h]
 ·simp [h,slotOf]
  refine hQ _ _ ?_
  simp [h]
theorem nodes_q:∀ t:Tr,t.Ok→t.nodes<2 ^ 60→PC 96 [.agg t.cs] (.int .i64 t.nodes):=by
 intro t
 induction t using Tr.ind with
 | h k n v l ih =>
 intro ho hn
 obtain ⟨_,_,hv,hl⟩:=ho.inv
 simp only [Tr.nodes] at hn
 have hlv:=len_tr hv
 refine pc_of (by simp [pureL,pureV,pure_tr ho]) (fun h=>rfl) ?_
 refine call_ofQ (af:=Trnz.a96) rfl rfl fun Q hQ => ?_
 simp only [Trnz.a96]
 simp [Tr.cs,hv.cell]
 refine loop_nQ l.length (fun i c=>c=⟨[.agg [.int .i64 k,.int .i64 n,v],.agg [.int .i64 k,.int .i64 n,v],.int .i64 0,.int .i64 (1+Tr.nodesL (l.take i):Nat),.int .i64 i],[],none,none,[]⟩) ?_ (by simp [Tr.nodesL])
 rintro I hI i c hi rfl
 have hlen:=Tr.nodesL_length l
 by_cases hlt:i<l.length
 ·have hlt':(i:Int)<l.length:=by omega
  have hc:=ih l[i] (List.getElem_mem hlt) (hl _ (List.getElem_mem hlt)) (by have:=Tr.nodesL_mem (List.getElem_mem hlt); omega)
  have hi1:=idx_tr hv hlt
  have ht:=Tr.nodesL_take hlt
  have hle:=Tr.nodesL_take_le (l:=l) (i+1)
  have hw2:IntKind.i64.wrap ((i:Int)+1)=(i:Int)+1:=wrap64 (by omega) (by omega)
  rw [PC] at hc
  generalize l[i]=x at *
  have hw:IntKind.i64.wrap (1+(Tr.nodesL (l.take i):Int)+(x.nodes:Int))=1+(Tr.nodesL (l.take (i+1)):Int):=by rw [wrap64 (by omega) (by omega)]; omega
  simp [hv.cell,hlv,hlt',hi1,hc,hw,hw2,slotOf,-pcall]
  exact ⟨hlt,hI _ _ rfl⟩
 ·obtain rfl:i=l.length:=by omega
  simp [hv.cell,hlv,slotOf]
  refine hQ _ _ ?_
  simp [Tr.nodes]
theorem levels_q:∀ t:Tr,t.Ok→t.nodes<2 ^ 60→PC 97 [.agg t.cs] (.int .i64 t.levels):=by
 intro t
 induction t using Tr.ind with
 | h k n v l ih =>
 intro ho hn
 obtain ⟨_,_,hv,hl⟩:=ho.inv
 simp only [Tr.nodes] at hn
 have hlv:=len_tr hv
 refine pc_of (by simp [pureL,pureV,pure_tr ho]) (fun h=>rfl) ?_
 refine call_ofQ (af:=Trnz.a97) rfl rfl fun Q hQ => ?_
 simp only [Trnz.a97]
 simp [Tr.cs,hv.cell]
 refine loop_nQ l.length (fun i c=>c=⟨[.agg [.int .i64 k,.int .i64 n,v],.agg [.int .i64 k,.int .i64 n,v],.int .i64 0,.int .i64 (Tr.levelsL (l.take i):Nat),.int .i64 i],[],none,none,[]⟩) ?_ (by simp [Tr.levelsL])
 rintro I hI i c hi rfl
 have hlen:=Tr.nodesL_length l
 have hll:=Tr.levelsL_le_nodesL l
 by_cases hlt:i<l.length
 ·have hlt':(i:Int)<l.length:=by omega
  have hc:=ih l[i] (List.getElem_mem hlt) (hl _ (List.getElem_mem hlt)) (by have:=Tr.nodesL_mem (List.getElem_mem hlt); omega)
  have hi1:=idx_tr hv hlt
  have ht:=Tr.levelsL_take hlt
  have hw2:IntKind.i64.wrap ((i:Int)+1)=(i:Int)+1:=wrap64 (by omega) (by omega)
  rw [PC] at hc
  generalize l[i]=x at *
  have e:(if Tr.levelsL (l.take i)<x.levels then (x.levels:Int) else (Tr.levelsL (l.take i):Int))=((Tr.levelsL (l.take (i+1)):Nat):Int):=by
   rw [ht]; split <;> omega
  simp [hv.cell,hlv,hlt',hi1,hc,e,hw2,slotOf,-pcall]
  exact ⟨hlt,hI _ _ rfl⟩
 ·obtain rfl:i=l.length:=by omega
  have hw:IntKind.i64.wrap ((Tr.levelsL l:Int)+1)=(Tr.levelsL l:Int)+1:=wrap64 (by omega) (by omega)
  simp [hv.cell,hlv,hw,slotOf]
  refine hQ _ _ ?_
  simp [Tr.levels]
theorem parts_q (k:Int):PC 122 [.int .i64 k] (.int .i64 (partsK k)):=by
 have hlies:=lies_q k 0 4
 rw [PC] at hlies
 refine pc_of rfl (fun h=>rfl) ?_
 refine call_ofQ (af:=Trnz.a122) rfl rfl fun Q hQ => ?_
 simp only [Trnz.a122]
 by_cases h:0≤k∧k≤4
 ·have hd:decide (0≤k∧k≤4)=true:=by simp [h]
  rw [hd] at hlies
  have h5:k=0∨k=1∨k=2∨k=3∨k=4:=by omega
  rcases h5 with rfl | rfl | rfl | rfl | rfl <;>
  ·simp [hlies,fill,slotOf,idxV,chunks,-pcall]
   exact hQ _ _ rfl
 ·have hd:decide (0≤k∧k≤4)=false:=by simp; omega
  rw [hd] at hlies
  simp [hlies,slotOf,-pcall]
  refine hQ _ _ ?_
  have e:partsK k = -1:=by unfold partsK; rw [if_neg (by omega),if_neg (by omega),if_neg (by omega),if_neg (by omega),if_neg (by omega)]
  rw [e]
theorem isTy_iff {k n:Int} {v:V} {l:List Tr}:(∃ τ,IsTy (.mk k n v l) τ)↔n=0∧(l.length:Int)=partsK k∧∀ x∈l,∃ τ,IsTy x τ:=by
 constructor
 ·rintro ⟨τ,h⟩
  cases h with
  | unit=>simp [partsK]
  | int=>simp [partsK]
  | pair _ a b x y ha hb=>exact ⟨rfl,by simp [partsK],by simp; exact ⟨⟨_,ha⟩,⟨_,hb⟩⟩⟩
  | sum _ a b x y ha hb=>exact ⟨rfl,by simp [partsK],by simp; exact ⟨⟨_,ha⟩,⟨_,hb⟩⟩⟩
  | seq _ a x ha=>exact ⟨rfl,by simp [partsK],by simp; exact ⟨_,ha⟩⟩
 ·rintro ⟨rfl,h2,h3⟩
  unfold partsK at h2
  split at h2
  ·subst_vars
   match l,h2 with
   | [],_=>exact ⟨_,.unit v⟩
  split at h2
  ·subst_vars
   match l,h2 with
   | [],_=>exact ⟨_,.int v⟩
  split at h2
  ·subst_vars
   match l,h2,h3 with
   | [a,b],_,h3 =>
    obtain ⟨x,hx⟩:=h3 a (by simp)
    obtain ⟨y,hy⟩:=h3 b (by simp)
    exact ⟨_,.pair v a b x y hx hy⟩
  split at h2
  ·subst_vars
   match l,h2,h3 with
   | [a,b],_,h3 =>
    obtain ⟨x,hx⟩:=h3 a (by simp)
    obtain ⟨y,hy⟩:=h3 b (by simp)
    exact ⟨_,.sum v a b x y hx hy⟩
  split at h2
  ·subst_vars
   match l,h2,h3 with
   | [a],_,h3 =>
    obtain ⟨x,hx⟩:=h3 a (by simp)
    exact ⟨_,.seq v a x hx⟩
  ·omega
theorem IsTy.nodes {t:Tr} {τ:Ty} (h:IsTy t τ):t.nodes=τ.size:=by
 induction h with
 | unit=>rfl
 | int=>rfl
 | pair v a b x y _ _ iha ihb=>simp only [Tr.nodes,Tr.nodesL,Ty.size,iha,ihb]; omega
 | sum v a b x y _ _ iha ihb=>simp only [Tr.nodes,Tr.nodesL,Ty.size,iha,ihb]; omega
 | seq v a x _ iha=>simp only [Tr.nodes,Tr.nodesL,Ty.size,iha]; omega
theorem IsTy.levels {t:Tr} {τ:Ty} (h:IsTy t τ):t.levels=τ.deep:=by
 induction h with
 | unit=>rfl
 | int=>rfl
 | pair v a b x y _ _ iha ihb=>simp only [Tr.levels,Tr.levelsL,Ty.deep,iha,ihb]; omega
 | sum v a b x y _ _ iha ihb=>simp only [Tr.levels,Tr.levelsL,Ty.deep,iha,ihb]; omega
 | seq v a x _ iha=>simp only [Tr.levels,Tr.levelsL,Ty.deep,iha]; omega
open Classical in
theorem isData_q:∀ t:Tr,t.Ok→t.nodes<2 ^ 60→PC 98 [.agg t.cs] (.bool (decide (∃ τ,IsTy t τ))):=by
 intro t
 induction t using Tr.ind with
 | h k n v l ih =>
 intro ho hn
 obtain ⟨_,_,hv,hl⟩:=ho.inv
 simp only [Tr.nodes] at hn
 have hlv:=len_tr hv
 have hp:=parts_q k
 rw [PC] at hp
 have hlen:=Tr.nodesL_length l
 refine pc_of (by simp [pureL,pureV,pure_tr ho]) (fun h=>rfl) ?_
 refine call_ofQ (af:=Trnz.a98) rfl rfl fun Q hQ => ?_
 simp only [Trnz.a98]
 by_cases h0:n=0
 case neg =>
  have hne:(n != 0)=true:=by simpa using h0
  simp [Tr.cs,hv.cell,hne,slotOf]
  refine hQ _ _ ?_
  rw [decide_eq_false (fun h=>h0 (isTy_iff.1 h).1)]
 subst h0
 by_cases h1:(l.length:Int)=partsK k
 case neg =>
  have hne:((l.length:Int) != partsK k)=true:=by simpa using h1
  simp [Tr.cs,hv.cell,hne,hlv,hp,slotOf,-pcall]
  refine hQ _ _ ?_
  rw [decide_eq_false (fun h=>h1 (isTy_iff.1 h).2.1)]
 have hne:((l.length:Int) != partsK k)=false:=by simpa using h1
 simp [Tr.cs,hv.cell,hne,hlv,hp,slotOf,-pcall]
 refine loop_nQ l.length (fun i c=>(∀ x∈l.take i,∃ τ,IsTy x τ)∧c=⟨[.agg [.int .i64 k,.int .i64 0,v],.agg [.int .i64 k,.int .i64 0,v],.bool false,.int .i64 i],[],none,none,[]⟩) ?_ (by simp)
 rintro I hI i c hi ⟨hty,rfl⟩
 by_cases hlt:i<l.length
 ·have hlt':(i:Int)<l.length:=by omega
  have hc:=ih l[i] (List.getElem_mem hlt) (hl _ (List.getElem_mem hlt)) (by have:=Tr.nodesL_mem (List.getElem_mem hlt); omega)
  have hi1:=idx_tr hv hlt
  have hw2:IntKind.i64.wrap ((i:Int)+1)=(i:Int)+1:=wrap64 (by omega) (by omega)
  rw [PC] at hc
  by_cases hx:∃ τ,IsTy l[i] τ
  ·rw [decide_eq_true hx] at hc
   simp [hv.cell,hlv,hlt',hi1,hc,hw2,slotOf,-pcall]
   refine ⟨hlt,hI _ _ ⟨?_,rfl⟩⟩
   rw [← List.take_append_getElem hlt]
   intro x hm
   rcases List.mem_append.1 hm with hm | hm
   ·exact hty x hm
   ·rw [List.mem_singleton.1 hm]; exact hx
  ·rw [decide_eq_false hx] at hc
   simp [hv.cell,hlv,hlt',hi1,hc,hw2,slotOf,-pcall]
   refine hQ _ _ ?_
   rw [decide_eq_false (fun h=>hx ((isTy_iff.1 h).2.2 _ (List.getElem_mem hlt)))]
 ·obtain rfl:i=l.length:=by omega
  simp [hv.cell,hlv,slotOf]
  refine hQ _ _ ?_
  rw [decide_eq_true (isTy_iff.2 ⟨rfl,h1,by simpa using hty⟩)]
open Classical in
noncomputable def tyErr (t:Tr):Int:=if 60<t.nodes∨12<t.levels then 3 else if ∃ τ,IsTy t τ then 0 else 15
open Classical in
theorem isType_q (t:Tr) (ho:t.Ok) (hn:t.nodes<2 ^ 60):PC 51 [.agg t.cs] (.int .i64 (tyErr t)):=by
 have h1:=nodes_q t ho hn
 have h2:=levels_q t ho hn
 have h3:=isData_q t ho hn
 rw [PC] at h1 h2 h3
 refine pc_of (by simp [pureL,pureV,pure_tr ho]) (fun h=>rfl) ?_
 refine call_ofQ (af:=Trnz.a51) rfl rfl fun Q hQ => ?_
 simp only [Trnz.a51]
 have hcell:∀ x∈t.cs,isCell x=true:=by
  cases ho with
  | mk k n v l _ _ hv _=>simp [Tr.cs,hv.cell]
 have hall:t.cs.all isCell=true:=by simpa using hcell
 unfold tyErr at hQ
 by_cases ha:60<t.nodes
 ·have ha':(60:Int)<t.nodes:=by omega
  simp [hall,h1,ha',slotOf,-pcall,-List.all_eq_true]
  refine hQ _ _ ?_
  rw [if_pos (.inl ha)]
 ·have ha':¬ (60:Int)<t.nodes:=by omega
  by_cases hb:12<t.levels
  ·have hb':(12:Int)<t.levels:=by omega
   simp [hall,h1,h2,ha',hb',slotOf,-pcall,-List.all_eq_true]
   refine hQ _ _ ?_
   rw [if_pos (.inr hb)]
  ·have hb':¬ (12:Int)<t.levels:=by omega
   by_cases hc:∃ τ,IsTy t τ
   ·rw [decide_eq_true hc] at h3
    simp [hall,h1,h2,h3,ha',hb',slotOf,-pcall,-List.all_eq_true]
    refine hQ _ _ ?_
    rw [if_neg (by omega),if_pos hc]
   ·rw [decide_eq_false hc] at h3
    simp [hall,h1,h2,h3,ha',hb',slotOf,-pcall,-List.all_eq_true]
    refine hQ _ _ ?_
    rw [if_neg (by omega),if_neg hc]
theorem own_q {t:Tr} {τ:Ty} (h:IsTy t τ):t.Ok→τ.size<2 ^ 60→PC 68 [.agg t.cs] (.int .i64 τ.own):=by
 induction h with
 | unit v =>
  intro ho hs
  obtain ⟨_,_,hv,hl⟩:=ho.inv
  refine pc_of (by simp [pureL,pureV,pure_tr ho]) (fun h=>rfl) ?_
  refine call_ofQ (af:=Trnz.a68) rfl rfl fun Q hQ => ?_
  simp only [Trnz.a68]
  simp [Tr.cs,hv.cell,slotOf]
  exact hQ _ _ rfl
 | int v =>
  intro ho hs
  obtain ⟨_,_,hv,hl⟩:=ho.inv
  refine pc_of (by simp [pureL,pureV,pure_tr ho]) (fun h=>rfl) ?_
  refine call_ofQ (af:=Trnz.a68) rfl rfl fun Q hQ => ?_
  simp only [Trnz.a68]
  simp [Tr.cs,hv.cell,slotOf]
  exact hQ _ _ rfl
 | pair v a b x y ha hb iha ihb =>
  intro ho hs
  obtain ⟨_,_,hv,hl⟩:=ho.inv
  simp only [Ty.size] at hs
  have h1:=iha (hl a (by simp)) (by omega)
  have h2:=ihb (hl b (by simp)) (by omega)
  rw [PC] at h1 h2
  have i0:=idx_tr hv (i:=0) (by simp)
  have i1:=idx_tr hv (i:=1) (by simp)
  simp only [List.getElem_cons_zero,List.getElem_cons_succ,Int.natCast_zero,Int.natCast_one] at i0 i1
  have:=x.own_size
  have:=y.own_size
  have hw:=add_nat x.own y.own (by omega)
  refine pc_of (by simp [pureL,pureV,pure_tr ho]) (fun h=>rfl) ?_
  refine call_ofQ (af:=Trnz.a68) rfl rfl fun Q hQ => ?_
  simp only [Trnz.a68]
  simp [Tr.cs_eq (.mk 2 0 v [a,b]),Tr.k,Tr.n,Tr.v,hv.cell,i0,i1,h1,h2,hw,slotOf,-pcall]
  exact hQ _ _ rfl
 | sum v a b x y ha hb iha ihb =>
  intro ho hs
  obtain ⟨_,_,hv,hl⟩:=ho.inv
  simp only [Ty.size] at hs
  have h1:=iha (hl a (by simp)) (by omega)
  have h2:=ihb (hl b (by simp)) (by omega)
  rw [PC] at h1 h2
  have i0:=idx_tr hv (i:=0) (by simp)
  have i1:=idx_tr hv (i:=1) (by simp)
  simp only [List.getElem_cons_zero,List.getElem_cons_succ,Int.natCast_zero,Int.natCast_one] at i0 i1
  have:=x.own_size
  have:=y.own_size
  have hw0:IntKind.i64.wrap (1+(x.own:Int))=((1+x.own:Nat):Int):=add_nat 1 x.own (by omega)
  have hw:=add_nat (1+x.own) y.own (by omega)
  refine pc_of (by simp [pureL,pureV,pure_tr ho]) (fun h=>rfl) ?_
  refine call_ofQ (af:=Trnz.a68) rfl rfl fun Q hQ => ?_
  simp only [Trnz.a68]
  simp [Tr.cs_eq (.mk 3 0 v [a,b]),Tr.k,Tr.n,Tr.v,hv.cell,i0,i1,h1,h2,hw0,hw,slotOf,-pcall,-Int.natCast_add]
  exact hQ _ _ rfl
 | seq v a x ha iha =>
  intro ho hs
  obtain ⟨_,_,hv,hl⟩:=ho.inv
  refine pc_of (by simp [pureL,pureV,pure_tr ho]) (fun h=>rfl) ?_
  refine call_ofQ (af:=Trnz.a68) rfl rfl fun Q hQ => ?_
  simp only [Trnz.a68]
  simp [Tr.cs,hv.cell,slotOf]
  exact hQ _ _ rfl
theorem data_q {t:Tr} {τ:Ty} (h:IsTy t τ):t.Ok→τ.size<2 ^ 60→PC 101 [.agg t.cs] (.int .i64 τ.data):=by
 induction h with
 | unit v =>
  intro ho hs
  obtain ⟨_,_,hv,hl⟩:=ho.inv
  refine pc_of (by simp [pureL,pureV,pure_tr ho]) (fun h=>rfl) ?_
  refine call_ofQ (af:=Trnz.a101) rfl rfl fun Q hQ => ?_
  simp only [Trnz.a101]
  simp [Tr.cs,hv.cell,slotOf]
  exact hQ _ _ rfl
 | int v =>
  intro ho hs
  obtain ⟨_,_,hv,hl⟩:=ho.inv
  refine pc_of (by simp [pureL,pureV,pure_tr ho]) (fun h=>rfl) ?_
  refine call_ofQ (af:=Trnz.a101) rfl rfl fun Q hQ => ?_
  simp only [Trnz.a101]
  simp [Tr.cs,hv.cell,slotOf]
  exact hQ _ _ rfl
 | pair v a b x y ha hb iha ihb =>
  intro ho hs
  obtain ⟨_,_,hv,hl⟩:=ho.inv
  simp only [Ty.size] at hs
  have h1:=iha (hl a (by simp)) (by omega)
  have h2:=ihb (hl b (by simp)) (by omega)
  rw [PC] at h1 h2
  have i0:=idx_tr hv (i:=0) (by simp)
  have i1:=idx_tr hv (i:=1) (by simp)
  simp only [List.getElem_cons_zero,List.getElem_cons_succ,Int.natCast_zero,Int.natCast_one] at i0 i1
  have:=x.data_size
  have:=y.data_size
  have hw:=add_nat x.data y.data (by omega)
  refine pc_of (by simp [pureL,pureV,pure_tr ho]) (fun h=>rfl) ?_
  refine call_ofQ (af:=Trnz.a101) rfl rfl fun Q hQ => ?_
  simp only [Trnz.a101]
  simp [Tr.cs_eq (.mk 2 0 v [a,b]),Tr.k,Tr.n,Tr.v,hv.cell,i0,i1,h1,h2,hw,slotOf,-pcall]
  exact hQ _ _ rfl
 | sum v a b x y ha hb iha ihb =>
  intro ho hs
  obtain ⟨_,_,hv,hl⟩:=ho.inv
  simp only [Ty.size] at hs
  have h1:=iha (hl a (by simp)) (by omega)
  have h2:=ihb (hl b (by simp)) (by omega)
  rw [PC] at h1 h2
  have i0:=idx_tr hv (i:=0) (by simp)
  have i1:=idx_tr hv (i:=1) (by simp)
  simp only [List.getElem_cons_zero,List.getElem_cons_succ,Int.natCast_zero,Int.natCast_one] at i0 i1
  have:=x.data_size
  have:=y.data_size
  have hw:=add_nat x.data y.data (by omega)
  refine pc_of (by simp [pureL,pureV,pure_tr ho]) (fun h=>rfl) ?_
  refine call_ofQ (af:=Trnz.a101) rfl rfl fun Q hQ => ?_
  simp only [Trnz.a101]
  simp [Tr.cs_eq (.mk 3 0 v [a,b]),Tr.k,Tr.n,Tr.v,hv.cell,i0,i1,h1,h2,hw,slotOf,-pcall]
  exact hQ _ _ rfl
 | seq v a x ha iha =>
  intro ho hs
  obtain ⟨_,_,hv,hl⟩:=ho.inv
  simp only [Ty.size] at hs
  have h1:=own_q ha (hl a (by simp)) (by omega)
  have h2:=iha (hl a (by simp)) (by omega)
  rw [PC] at h1 h2
  have i0:=idx_tr hv (i:=0) (by simp)
  simp only [List.getElem_cons_zero,List.getElem_cons_succ,Int.natCast_zero,Int.natCast_one] at i0
  have:=x.data_size
  have:=x.own_size
  have hw:=add_nat x.own x.data (by omega)
  refine pc_of (by simp [pureL,pureV,pure_tr ho]) (fun h=>rfl) ?_
  refine call_ofQ (af:=Trnz.a101) rfl rfl fun Q hQ => ?_
  simp only [Trnz.a101]
  simp [Tr.cs_eq (.mk 4 0 v [a]),Tr.k,Tr.n,Tr.v,hv.cell,i0,h1,h2,hw,slotOf,-pcall]
  exact hQ _ _ rfl
theorem cells_tr {t:Tr} (ho:t.Ok):t.cs.all isCell=true:=by
 cases ho with
 | mk k n v l _ _ hv _=>simp [Tr.cs,hv.cell]
theorem tyErr_ok {t:Tr} {τ:Ty} (h:IsTy t τ) (hs:τ.size≤60) (hd:τ.deep≤12):tyErr t=0:=by
 unfold tyErr
 rw [if_neg (by rw [h.nodes,h.levels]; omega),if_pos ⟨τ,h⟩]
theorem tyErr_zero {t:Tr} (h:tyErr t=0):∃ τ,IsTy t τ∧τ.size≤60∧τ.deep≤12:=by
 unfold tyErr at h
 split at h
 ·cases h
 ·rename_i h1
  split at h
  ·rename_i h2
   obtain ⟨τ,hτ⟩:=h2
   rw [hτ.nodes,hτ.levels] at h1
   exact ⟨τ,hτ,by omega,by omega⟩
  ·cases h
theorem tyErr_cases (t:Tr):(∃ e:Int,(e=3∨e=15)∧tyErr t=e)∨∃ τ,IsTy t τ∧τ.size≤60∧τ.deep≤12∧tyErr t=0:=by
 by_cases h:tyErr t=0
 ·obtain ⟨τ,a,b,c⟩:=tyErr_zero h
  exact .inr ⟨τ,a,b,c,h⟩
 ·refine .inl ⟨tyErr t,?_,rfl⟩
  unfold tyErr at h ⊢
  split
  ·exact .inl rfl
  ·rename_i h1
   rw [if_neg h1] at h
   split
   ·rename_i h2
    rw [if_pos h2] at h
    exact absurd rfl h
   ·exact .inr rfl
namespace Tr
mutual
def long:Tr→Bool
 | .mk k _ _ l=>(k == 4&&decide (4096<l.length))||longL l
def longL:List Tr→Bool
 | []=>false
 | t :: ts=>long t||longL ts
end
theorem longL_iff {l:List Tr}:longL l=true↔∃ t∈l,t.long=true:=by
 induction l with
 | nil=>simp [longL]
 | cons t ts ih=>simp [longL,ih]
end Tr
theorem sizeOf_q:∀ t:Tr,t.Ok→t.nodes<2 ^ 60→PC 30 [.agg t.cs] (.int .i64 t.nodes):=by
 intro t
 induction t using Tr.ind with
 | h k n v l ih =>
 intro ho hn
 obtain ⟨_,_,hv,hl⟩:=ho.inv
 simp only [Tr.nodes] at hn
 have hlv:=len_tr hv
 refine pc_of (by simp [pureL,pureV,pure_tr ho]) (fun h=>rfl) ?_
 refine call_ofQ (af:=Trnz.a30) rfl rfl fun Q hQ => ?_
 simp only [Trnz.a30]
 simp [Tr.cs,hv.cell]
 refine loop_nQ l.length (fun i c=>c=⟨[.agg [.int .i64 k,.int .i64 n,v],.agg [.int .i64 k,.int .i64 n,v],.int .i64 0,.int .i64 (1+Tr.nodesL (l.take i):Nat),.int .i64 i],[],none,none,[]⟩) ?_ (by simp [Tr.nodesL])
 rintro I hI i c hi rfl
 have hlen:=Tr.nodesL_length l
 by_cases hlt:i<l.length
 ·have hlt':(i:Int)<l.length:=by omega
  have hc:=ih l[i] (List.getElem_mem hlt) (hl _ (List.getElem_mem hlt)) (by have:=Tr.nodesL_mem (List.getElem_mem hlt); omega)
  have hi1:=idx_tr hv hlt
  have ht:=Tr.nodesL_take hlt
  have hle:=Tr.nodesL_take_le (l:=l) (i+1)
  have hw2:IntKind.i64.wrap ((i:Int)+1)=(i:Int)+1:=wrap64 (by omega) (by omega)
  rw [PC] at hc
  generalize l[i]=x at *
  have hw:IntKind.i64.wrap (1+(Tr.nodesL (l.take i):Int)+(x.nodes:Int))=1+(Tr.nodesL (l.take (i+1)):Int):=by rw [wrap64 (by omega) (by omega)]; omega
  simp [hv.cell,hlv,hlt',hi1,hc,hw,hw2,slotOf,-pcall]
  exact ⟨hlt,hI _ _ rfl⟩
 ·obtain rfl:i=l.length:=by omega
  simp [hv.cell,hlv,slotOf]
  refine hQ _ _ ?_
  simp [Tr.nodes]
theorem isWord_q (n:Int):PC 123 [.int .i64 n] (.bool (decide (-2147483648≤n∧n≤2147483647))):=by
 have hc:=lies_q n (-2147483648) 2147483647
 rw [PC] at hc
 refine pc_of rfl (fun h=>rfl) ?_
 refine call_ofQ (af:=Trnz.a123) rfl rfl fun Q hQ => ?_
 simp only [Trnz.a123]
 simp [hc,slotOf,-pcall]
 refine hQ _ _ ?_
 simp
theorem must_t (e:Int):PC 63 [.bool true,.int .i64 e] (.tup []):=by
 refine pc_of rfl (fun h=>rfl) ?_
 refine call_ofQ (af:=Trnz.a63) rfl rfl fun Q hQ => ?_
 simp only [Trnz.a63]
 simp [slotOf]
 exact hQ _ _ rfl
theorem must_f (e:Int):pcall (lim gl Trnz.aprog) (.func (.func 63) [] []) [.bool false,.int .i64 e]=some (.pan (.iface 128 (.agg [.int .i64 e]))):=by
 refine pc_pan rfl rfl ?_
 refine call_ofQ (af:=Trnz.a63) rfl rfl fun Q hQ => ?_
 simp only [Trnz.a63]
 simp [slotOf,fill]
 exact hQ _ _ rfl
theorem objCells_set {h:Heap} {a:Nat} {o:Am.Obj} (ho:h[a]?=some o) (n sz:Nat) (cs:List V):objCells (h.set a (.cells n sz cs)) a=some (n,sz,cs):=by
 have:=(List.getElem?_eq_some_iff.1 ho).1
 simp [objCells,this]
theorem objCells_ne {h:Heap} {a b:Nat} (hne:a≠b) (o:Am.Obj):objCells (h.set a o) b=objCells h b:=by
 simp [objCells,hne]
theorem objCells_of {h:Heap} {a n sz:Nat} {cs:List V} (ho:h[a]?=some (.cells n sz cs)):objCells h a=some (n,sz,cs):=by
 simp [objCells,ho]
abbrev clo98 (a b:Nat):V:=.func (.func 117) [] [.ref a 0 1,.ref b 0 1]
theorem small1_q:∀ t:Tr,t.Ok→∀ (L d:Nat) (h:Heap) (a b:Nat),L<2 ^ 60→d<2 ^ 60→a≠b→h[a]?=some (.cells 1 1 [.int .i64 L])→h[b]?=some (.cells 1 1 [clo98 a b]) →
  ∃ (ok:Bool) (L':Int),CC 117 [.agg t.cs,.int .i64 d,.ref a 0 1,.ref b 0 1] h (.ret (.bool ok)) (h.set a (.cells 1 1 [.int .i64 L']))∧(ok=true↔t.nodes≤L∧t.levels≤d)∧(ok=true→L'=L - t.nodes):=by
 intro t
 induction t using Tr.ind with
 | h k n v l ih =>
 intro ho L d h a b hL hd hab ha hb
 obtain ⟨_,_,hv,hl⟩:=ho.inv
 have hlv:=len_tr hv
 have key:CallP gl Trnz.aprog 117 [.agg (Tr.mk k n v l).cs,.int .i64 d,.ref a 0 1,.ref b 0 1] h (fun r h'=>∃ (ok:Bool) (L':Int),r = .ret (.bool ok)∧h'=h.set a (.cells 1 1 [.int .i64 L'])∧(ok=true↔(Tr.mk k n v l).nodes≤L∧(Tr.mk k n v l).levels≤d)∧(ok=true→L'=L - (Tr.mk k n v l).nodes)):=by
  refine call_ofQ (af:=Trnz.a117) rfl rfl fun Q hQ => ?_
  simp only [Trnz.a117]
  have oa:=objCells_of ha
  have hb':=hb
  have ob:∀ x,objCells (h.set a (.cells 1 1 [.int .i64 x])) b=some (1,1,[clo98 a b]):=fun x=>by rw [objCells_ne hab]; exact objCells_of hb
  have oa':∀ x,objCells (h.set a (.cells 1 1 [.int .i64 x])) a=some (1,1,[.int .i64 x]):=fun x=>objCells_set ha _ _ _
  have hw:IntKind.i64.wrap ((L:Int) - 1)=(L:Int) - 1:=wrap64 (by omega) (by omega)
  by_cases h0:L=0
  ·subst h0
   simp [Tr.cs,hv.cell,oa,oa',storeV,hw,slotOf]
   refine hQ _ _ ⟨false,-1,rfl,rfl,?_,by simp⟩
   simp [Tr.nodes]
  have hlt0:¬ ((L:Int) - 1<0):=by omega
  by_cases h1:d=0
  ·subst h1
   simp [Tr.cs,hv.cell,oa,oa',storeV,hw,hlt0,slotOf]
   refine hQ _ _ ⟨false,L - 1,rfl,rfl,?_,by simp⟩
   simp [Tr.levels]
  have hd0:((d:Int) == 0)=false:=by simp; omega
  simp [Tr.cs,hv.cell,oa,oa',storeV,hw,hlt0,hd0,hlv,slotOf]
  refine loop_nQ l.length (fun i c=>Tr.nodesL (l.take i)+1≤L∧Tr.levelsL (l.take i)+1≤d∧∃ x y,c=⟨[.agg [.int .i64 k,.int .i64 n,v],.int .i64 d,.ref a 0 1,.ref b 0 1,.agg [.int .i64 k,.int .i64 n,v],.bool false,x,v,.int .i64 l.length,.int .i64 i],[],y,none,h.set a (.cells 1 1 [.int .i64 (L - 1 - Tr.nodesL (l.take i))])⟩) ?_ ⟨by simp [Tr.nodesL]; omega,by simp [Tr.levelsL]; omega,.undef,none,by simp [Tr.nodesL]⟩
  rintro I hI i c hi ⟨hn1,hl1,x,y,rfl⟩
  by_cases hlt:i<l.length
  ·have hlt':(i:Int)<l.length:=by omega
   have hi1:=idx_tr hv hlt
   have htn:=Tr.nodesL_take hlt
   have htl:=Tr.levelsL_take hlt
   have hle:=Tr.nodesL_take_le (l:=l) (i+1)
   have hLi:((L - 1 - Tr.nodesL (l.take i):Nat):Int)=(L:Int) - 1 - Tr.nodesL (l.take i):=by omega
   have hdi:((d - 1:Nat):Int)=(d:Int) - 1:=by omega
   have ha2:(h.set a (.cells 1 1 [.int .i64 ((L:Int) - 1 - Tr.nodesL (l.take i))]))[a]?=some (.cells 1 1 [.int .i64 ((L - 1 - Tr.nodesL (l.take i):Nat):Int)]):=by
    have:=(List.getElem?_eq_some_iff.1 ha).1
    rw [hLi]; simp [this]
   have hb2:(h.set a (.cells 1 1 [.int .i64 ((L:Int) - 1 - Tr.nodesL (l.take i))]))[b]?=some (.cells 1 1 [clo98 a b]):=by simp [hab,hb]
   obtain ⟨ok,L',hc,h2,h3⟩:=ih l[i] (List.getElem_mem hlt) (hl _ (List.getElem_mem hlt)) (L - 1 - Tr.nodesL (l.take i)) (d - 1) _ a b (by omega) (by omega) hab ha2 hb2
   rw [hdi] at hc
   have hok:=hl _ (List.getElem_mem hlt)
   have hw1:IntKind.i64.wrap ((d:Int) - 1)=(d:Int) - 1:=wrap64 (by omega) (by omega)
   have hw2:IntKind.i64.wrap ((i:Int)+1)=(i:Int)+1:=wrap64 (by omega) (by have:=Tr.nodesL_length (l.take i); rw [List.length_take] at this; omega)
   have hcc:=cells_tr hok
   have hcall:=Tr.nodesL_mem (List.getElem_mem hlt)
   have hcal2:=Tr.levelsL_mem (List.getElem_mem hlt)
   simp only [List.set_set] at hc
   generalize l[i]=u at *
   cases ok with
   | true =>
    have h3:=h3 rfl
    have h2:=h2.1 rfl
    simp [hv.cell,hlv,hlt',hi1,ob,oa',hc,hcc,hw1,hw2,slotOf,-List.all_eq_true]
    refine ⟨hlt,hI _ _ ⟨by omega,by omega,.agg u.cs,none,?_⟩⟩
    have e:L'=(L:Int) - 1 - Tr.nodesL (l.take (i+1)):=by omega
    rw [e]
    rfl
   | false =>
    simp [hv.cell,hlv,hlt',hi1,ob,oa',hc,hcc,hw1,slotOf,-List.all_eq_true]
    refine hQ _ _ ⟨false,L',rfl,rfl,?_,by simp⟩
    simp only [Bool.false_eq_true,false_iff] at h2 ⊢
    simp only [Tr.nodes,Tr.levels]
    omega
  ·obtain rfl:i=l.length:=by omega
   rw [List.take_length] at hn1 hl1
   simp [hv.cell,hlv,slotOf]
   refine hQ _ _ ⟨true,_,rfl,rfl,?_,fun _ => ?_⟩
   ·simp only [Tr.nodes,Tr.levels,true_iff]; omega
   ·simp only [Tr.nodes]; omega
 obtain ⟨r,h',e,ok,L',rfl,rfl,h1,h2⟩:=OptP.ex key
 exact ⟨ok,L',e,h1,h2⟩
theorem small_q (t:Tr) (ho:t.Ok):PC 88 [.agg t.cs] (.bool (decide (t.nodes≤60∧t.levels≤12))):=by
 obtain ⟨ok,L',hc,h1,h2⟩:=small1_q t ho 60 12 [.cells 1 1 [.int .i64 60],.cells 1 1 [clo98 0 1]] 0 1 (by omega) (by omega) (by omega) rfl rfl
 refine pc_of (by simp [pureL,pureV,pure_tr ho]) (fun h=>rfl) ?_
 refine call_ofQ (af:=Trnz.a88) rfl rfl fun Q hQ => ?_
 simp only [Trnz.a88]
 have hcc:=cells_tr ho
 have hc':(lim gl Trnz.aprog).call 117 [.agg t.cs,.int .i64 12,.ref 0 0 1,.ref 1 0 1] [.cells 1 1 [.int .i64 60],.cells 1 1 [clo98 0 1]]=some (.ret (.bool ok),_):=hc
 simp [hcc,hc',storeV,objCells,slotOf,-List.all_eq_true]
 refine hQ _ _ ?_
 have:ok=decide (t.nodes≤60∧t.levels≤12):=by
  cases ok with
  | true=>rw [decide_eq_true (h1.1 rfl)]
  | false=>rw [decide_eq_false (fun h=>by have:=h1.2 h; cases this)]
 rw [this]
theorem mem_take_succ {α:Type} {l:List α} {i:Nat} (h:i<l.length) {u:α} (hu:u∈l.take (i+1)):u∈l.take i∨u=l[i]:=by
 rw [← List.take_append_getElem h] at hu
 rcases List.mem_append.1 hu with hu | hu
 ·exact .inl hu
 ·exact .inr (List.mem_singleton.1 hu)
def Tr.sized (t:Tr):Bool:=decide (t.nodes≤20000) && !t.long
def objs:Ty→Nat
 | .unit=>1 | .int=>1 | .pair a b=>objs a+objs b+2 | .sum a b=>objs a+objs b+2 | .seq a=>objs a+2
abbrev lobj (own data kind:Nat) (v:V):Am.Obj:=.cells 1 4 [.int .i64 own,.int .i64 data,.int .i64 kind,v]
def layL:Nat→Ty→List Am.Obj
 | b,.unit=>[lobj 0 0 0 .nils]
 | b,.int=>[lobj 1 0 1 .nils]
 | b,.pair x y=>lobj (x.own+y.own) (x.data+y.data) 2 (.sl (b+1+objs x) 0 2 2 1 false) :: (layL (b+1) x ++ .cells 2 1 [.ref (b+1) 0 1,.ref (b+2+objs x) 0 1] :: layL (b+2+objs x) y)
 | b,.sum x y=>lobj (1+x.own+y.own) (x.data+y.data) 3 (.sl (b+1+objs x) 0 2 2 1 false) :: (layL (b+1) x ++ .cells 2 1 [.ref (b+1) 0 1,.ref (b+2+objs x) 0 1] :: layL (b+2+objs x) y)
 | b,.seq x=>lobj 2 (x.own+x.data) 4 (.sl (b+1+objs x) 0 1 1 1 false) :: (layL (b+1) x++[.cells 1 1 [.ref (b+1) 0 1]])
theorem layL_length:∀ (b:Nat) (τ:Ty),(layL b τ).length=objs τ
 | b,.unit=>rfl
 | b,.int=>rfl
 | b,.pair x y=>by simp only [layL,objs,List.length_cons,List.length_append,layL_length]; omega
 | b,.sum x y=>by simp only [layL,objs,List.length_cons,List.length_append,layL_length]; omega
 | b,.seq x=>by simp only [layL,objs,List.length_cons,List.length_append,layL_length,List.length_nil]
theorem layL_head (b:Nat) (τ:Ty):∃ v,(layL b τ)[0]?=some (lobj τ.own τ.data τ.kind v):=by
 cases τ <;> exact ⟨_,rfl⟩
theorem none_q (b:Nat) (h:Heap):CC 276 [.ref b 0 1] h (.ret (.agg [.int .i64 0,.int .i64 0])) h:=by
 refine CallP.eq (call_ofQ (af:=Trnz.a276) rfl rfl fun Q hQ => ?_)
 simp only [Trnz.a276]
 simp [fill,slotOf]
 exact hQ _ _ ⟨rfl,rfl⟩
theorem one_q (b:Nat) (h:Heap):CC 277 [.ref b 0 1] h (.ret (.agg [.int .i64 1,.int .i64 0])) h:=by
 refine CallP.eq (call_ofQ (af:=Trnz.a277) rfl rfl fun Q hQ => ?_)
 simp only [Trnz.a277]
 simp [fill,slotOf]
 exact hQ _ _ ⟨rfl,rfl⟩
section
variable {h:Heap} {b pb a1 a2:Nat} {u0 u1 u2 v1 v2 w1 w2:V} {o1 d1 o2 d2:Nat}
theorem both_q (hb:h[b]?=some (.cells 1 4 [u0,u1,u2,.sl pb 0 2 2 1 false])) (hp:h[pb]?=some (.cells 2 1 [.ref a1 0 1,.ref a2 0 1]))
  (h1:h[a1]?=some (.cells 1 4 [.int .i64 o1,.int .i64 d1,v1,w1])) (h2:h[a2]?=some (.cells 1 4 [.int .i64 o2,.int .i64 d2,v2,w2])) (hs:o1+o2+d1+d2<2 ^ 60) :
  CC 278 [.ref b 0 1] h (.ret (.agg [.int .i64 (o1+o2:Nat),.int .i64 (d1+d2:Nat)])) h:=by
 have e0:=objCells_of hb
 have e1:=objCells_of hp
 have e2:=objCells_of h1
 have e3:=objCells_of h2
 have w1:IntKind.i64.wrap ((o1:Int)+o2)=(o1:Int)+o2:=wrap64 (by omega) (by omega)
 have w2:IntKind.i64.wrap ((d1:Int)+d2)=(d1:Int)+d2:=wrap64 (by omega) (by omega)
 refine CallP.eq (call_ofQ (af:=Trnz.a278) rfl rfl fun Q hQ => ?_)
 simp only [Trnz.a278]
 simp [e0,e1,e2,e3,w1,w2,fill,slotOf]
 exact hQ _ _ ⟨rfl,rfl⟩
theorem sum_q (hb:h[b]?=some (.cells 1 4 [u0,u1,u2,.sl pb 0 2 2 1 false])) (hp:h[pb]?=some (.cells 2 1 [.ref a1 0 1,.ref a2 0 1]))
  (h1:h[a1]?=some (.cells 1 4 [.int .i64 o1,.int .i64 d1,v1,w1])) (h2:h[a2]?=some (.cells 1 4 [.int .i64 o2,.int .i64 d2,v2,w2])) (hs:o1+o2+d1+d2<2 ^ 60) :
  CC 279 [.ref b 0 1] h (.ret (.agg [.int .i64 (1+o1+o2:Nat),.int .i64 (d1+d2:Nat)])) h:=by
 have hc:=ro_eq (af:=Trnz.a278) rfl (both_q hb hp h1 h2 hs)
 have w1:IntKind.i64.wrap ((o1:Int)+o2+1)=1+(o1:Int)+o2:=by rw [wrap64 (by omega) (by omega)]; omega
 refine CallP.eq (call_ofQ (af:=Trnz.a279) rfl rfl fun Q hQ => ?_)
 simp only [Trnz.a279]
 simp at hc
 simp [hc,w1,fill,slotOf]
 exact hQ _ _ ⟨rfl,rfl⟩
theorem seqc_q (hb:h[b]?=some (.cells 1 4 [u0,u1,u2,.sl pb 0 1 1 1 false])) (hp:h[pb]?=some (.cells 1 1 [.ref a1 0 1]))
  (h1:h[a1]?=some (.cells 1 4 [.int .i64 o1,.int .i64 d1,v1,w1])) (hs:o1+d1<2 ^ 60) :
  CC 280 [.ref b 0 1] h (.ret (.agg [.int .i64 2,.int .i64 (o1+d1:Nat)])) h:=by
 have e0:=objCells_of hb
 have e1:=objCells_of hp
 have e2:=objCells_of h1
 have w1:IntKind.i64.wrap ((o1:Int)+d1)=(o1:Int)+d1:=wrap64 (by omega) (by omega)
 refine CallP.eq (call_ofQ (af:=Trnz.a280) rfl rfl fun Q hQ => ?_)
 simp only [Trnz.a280]
 simp [e0,e1,e2,w1,fill,slotOf]
 exact hQ _ _ ⟨rfl,rfl⟩
end
def isWord (n:Int):Bool:=decide (-2147483648≤n∧n≤2147483647)
def isV:Ty→Tr→Bool
 | .unit,.mk k n _ l=>k == 0&&n == 0&&l.isEmpty
 | .int,.mk k n _ l=>k == 1&&isWord n&&l.isEmpty
 | .pair a b,.mk k n _ l=>k == 2&&n == 0&&(match l with | [x,y]=>isV a x&&isV b y | _=>false)
 | .sum a b,.mk k n _ l=>k == 3&&(match l with | [x]=>(n == 0&&isV a x)||(n == 1&&isV b x) | _=>false)
 | .seq a,.mk k n _ l=>k == 4&&n == 0&&l.all (isV a)
theorem ne_false {a b:Int} (h:a≠b):(a == b)=false:=by simpa using h
theorem ne_true {a b:Int} (h:a≠b):(a != b)=true:=by simpa using h
theorem of_unit (v:V) (ho:(Tr.mk 0 0 v []).Ok) (h:Heap):CC 89 [.agg (Tr.mk 0 0 v []).cs] h (.ret (.ref h.length 0 1)) (h++layL h.length .unit):=by
 obtain ⟨_,_,hv,hl⟩:=ho.inv
 have hlv:=len_tr hv
 have hm:=must_t 15
 rw [PC] at hm
 have hc:=none_q h.length (h++[lobj 0 0 0 .nils])
 refine CallP.eq (call_ofQ (af:=Trnz.a89) rfl rfl fun Q hQ => ?_)
 simp only [Trnz.a89]
 simp [Tr.cs,hv.cell,hlv,gl1,hm,fill,slotOf,-pcall]
 refine loop_nQ 0 (fun i c=>c=⟨[.agg [.int .i64 0,.int .i64 0,v],.agg [.int .i64 0,.int .i64 0,v],.nilp,.ref h.length 0 1,.undef,v,.int .i64 0,.int .i64 0],[],none,none,h++[lobj 0 0 0 .nils]⟩) ?_ rfl
 rintro I hI i c hi rfl
 simp [hv.cell,gl2,hc,objCells,storeV,slotOf,-pcall]
 exact hQ _ _ ⟨rfl,rfl⟩
theorem of_int (v:V) (ho:(Tr.mk 1 0 v []).Ok) (h:Heap):CC 89 [.agg (Tr.mk 1 0 v []).cs] h (.ret (.ref h.length 0 1)) (h++layL h.length .int):=by
 obtain ⟨_,_,hv,hl⟩:=ho.inv
 have hlv:=len_tr hv
 have hm:=must_t 15
 rw [PC] at hm
 have hc:=one_q h.length (h++[lobj 0 0 1 .nils])
 refine CallP.eq (call_ofQ (af:=Trnz.a89) rfl rfl fun Q hQ => ?_)
 simp only [Trnz.a89]
 simp [Tr.cs,hv.cell,hlv,gl1,hm,fill,slotOf,-pcall]
 refine loop_nQ 0 (fun i c=>c=⟨[.agg [.int .i64 1,.int .i64 0,v],.agg [.int .i64 1,.int .i64 0,v],.nilp,.ref h.length 0 1,.undef,v,.int .i64 0,.int .i64 0],[],none,none,h++[lobj 0 0 1 .nils]⟩) ?_ rfl
 rintro I hI i c hi rfl
 simp [hv.cell,gl2,hc,objCells,storeV,slotOf,-pcall]
 exact hQ _ _ ⟨rfl,rfl⟩
theorem of_seq (v:V) (a:Tr) (x:Ty) (ho:(Tr.mk 4 0 v [a]).Ok) (ha:IsTy a x) (hs:x.size<2 ^ 50) (ih:∀ h,CC 89 [.agg a.cs] h (.ret (.ref h.length 0 1)) (h++layL h.length x)) (h:Heap) :
  CC 89 [.agg (Tr.mk 4 0 v [a]).cs] h (.ret (.ref h.length 0 1)) (h++layL h.length (.seq x)):=by
 obtain ⟨_,_,hv,hl⟩:=ho.inv
 have hlv:=len_tr hv
 have hm:=must_t 15
 rw [PC] at hm
 have i0:=idx_tr hv (i:=0) (by simp)
 simp only [List.getElem_cons_zero,Int.natCast_zero] at i0
 have hoa:=hl a (by simp)
 have hcc:=cells_tr hoa
 -- the heaps
 have hc1:=ih (h++[lobj 0 0 4 .nils])
 have l1:(h++[lobj 0 0 4 .nils]).length=h.length+1:=by simp
 rw [l1] at hc1
 have hlen:=layL_length (h.length+1) x
 obtain ⟨w,hw⟩:=layL_head (h.length+1) x
 have:=x.both_size
 refine CallP.eq (call_ofQ (af:=Trnz.a89) rfl rfl fun Q hQ => ?_)
 have hcs:(Tr.mk 4 0 v [a]).cs=[.int .i64 4,.int .i64 0,v]:=rfl
 generalize hX:layL (h.length+1) x=X at *
 have e1:objCells (h++[lobj 0 0 4 .nils]) h.length=some (1,4,[.int .i64 0,.int .i64 0,.int .i64 4,.nils]):=by simp [objCells]
 have e2:objCells (h++[lobj 0 0 4 .nils]++X) h.length=some (1,4,[.int .i64 0,.int .i64 0,.int .i64 4,.nils]):=by simp [objCells]
 have n2:(h++[lobj 0 0 4 .nils]++X).length=h.length+1+objs x:=by simp [hlen]; omega
 have e3:objCells (h++[lobj 0 0 4 .nils]++X++[Am.Obj.cells 1 1 [.ref (h.length+1) 0 1]]) h.length=some (1,4,[.int .i64 0,.int .i64 0,.int .i64 4,.nils]):=by simp [objCells]
 have s3:(h++[lobj 0 0 4 .nils]++X++[Am.Obj.cells 1 1 [.ref (h.length+1) 0 1]]).set h.length (Am.Obj.cells 1 4 [.int .i64 0,.int .i64 0,.int .i64 4,.sl (h.length+1+objs x) 0 1 1 1 false]) =
  h++[lobj 0 0 4 (.sl (h.length+1+objs x) 0 1 1 1 false)]++X++[Am.Obj.cells 1 1 [.ref (h.length+1) 0 1]]:=by simp
 have g0:(h++[lobj 0 0 4 (.sl (h.length+1+objs x) 0 1 1 1 false)]++X++[Am.Obj.cells 1 1 [.ref (h.length+1) 0 1]])[h.length]?=some (.cells 1 4 [.int .i64 0,.int .i64 0,.int .i64 4,.sl (h.length+1+objs x) 0 1 1 1 false]):=by simp
 have g1:(h++[lobj 0 0 4 (.sl (h.length+1+objs x) 0 1 1 1 false)]++X++[Am.Obj.cells 1 1 [.ref (h.length+1) 0 1]])[h.length+1+objs x]?=some (.cells 1 1 [.ref (h.length+1) 0 1]):=by
  rw [List.getElem?_append_right (by simp [hlen]; omega)]
  simp [hlen]
  rw [show h.length+1+objs x - (h.length+(objs x+1))=0 by omega]
  rfl
 have g2:(h++[lobj 0 0 4 (.sl (h.length+1+objs x) 0 1 1 1 false)]++X++[Am.Obj.cells 1 1 [.ref (h.length+1) 0 1]])[h.length+1]?=some (lobj x.own x.data x.kind w):=by
  have hx0:0<X.length:=(List.getElem?_eq_some_iff.1 hw).1
  rw [List.getElem?_append_left (by simp; omega),List.getElem?_append_right (by simp)]
  simpa using hw
 have hq:=seqc_q g0 g1 g2 (by omega)
 have e5:=objCells_of g0
 have s5:(h++[lobj 0 0 4 (.sl (h.length+1+objs x) 0 1 1 1 false)]++X++[Am.Obj.cells 1 1 [.ref (h.length+1) 0 1]]).set h.length (Am.Obj.cells 1 4 [.int .i64 2,.int .i64 ((x.own:Int)+(x.data:Int)),.int .i64 4,.sl (h.length+1+objs x) 0 1 1 1 false]) =
  h++layL h.length (.seq x):=by simp [layL,hX]
 generalize hH1:h++[lobj 0 0 4 .nils]=H1 at *
 generalize hH2:H1++X=H2 at *
 generalize hH3:H2++[Am.Obj.cells 1 1 [V.ref (h.length+1) 0 1]]=H3 at *
 generalize hH4:h++[lobj 0 0 4 (.sl (h.length+1+objs x) 0 1 1 1 false)]++X++[Am.Obj.cells 1 1 [.ref (h.length+1) 0 1]]=H4 at *
 have room1:(8:Nat)≤room:=by simp [room]
 simp only [Trnz.a89]
 simp [hcs,hv.cell,hlv,gl1,hm,fill,slotOf,-pcall]
 refine loop_nQ 1 (fun i c=>(i=0∧c=⟨[.agg [.int .i64 4,.int .i64 0,v],.agg [.int .i64 4,.int .i64 0,v],.nilp,.ref h.length 0 1,.undef,v,.int .i64 1,.int .i64 0],[],none,none,H1⟩) ∨
  (i=1∧c=⟨[.agg [.int .i64 4,.int .i64 0,v],.agg [.int .i64 4,.int .i64 0,v],.nilp,.ref h.length 0 1,.agg a.cs,v,.int .i64 1,.int .i64 1],[],none,none,H4⟩)) ?_ (.inl ⟨rfl,by rw [← hH1]; rfl⟩)
 rintro I hI i c hi (⟨rfl,rfl⟩ | ⟨rfl,rfl⟩)
 ·have hwr:IntKind.i64.wrap 1=1:=rfl
  simp [hv.cell,i0,e1,e2,e3,n2,s3,hc1,hcc,storeV,appV,sliceLen,sliceCells,fill,room1,hH2,hH3,hwr,slotOf,-pcall,-List.all_eq_true]
  exact hI _ _ (.inr ⟨rfl,rfl⟩)
 ·simp [hv.cell,gl2,hq,e5,s5,storeV,slotOf,-pcall]
  exact hQ _ _ ⟨rfl,rfl⟩
theorem of_pair (v:V) (a b:Tr) (x y:Ty) (ho:(Tr.mk 2 0 v [a,b]).Ok) (hs:x.size+y.size<2 ^ 50) (iha:∀ h,CC 89 [.agg a.cs] h (.ret (.ref h.length 0 1)) (h++layL h.length x))
  (ihb:∀ h,CC 89 [.agg b.cs] h (.ret (.ref h.length 0 1)) (h++layL h.length y)) (h:Heap):CC 89 [.agg (Tr.mk 2 0 v [a,b]).cs] h (.ret (.ref h.length 0 1)) (h++layL h.length (.pair x y)):=by
 obtain ⟨_,_,hv,hl⟩:=ho.inv
 have hlv:=len_tr hv
 have hm:=must_t 15
 rw [PC] at hm
 have i0:=idx_tr hv (i:=0) (by simp)
 have i1:=idx_tr hv (i:=1) (by simp)
 simp only [List.getElem_cons_zero,List.getElem_cons_succ,Int.natCast_zero,Int.natCast_one] at i0 i1
 have hca:=cells_tr (hl a (by simp))
 have hcb:=cells_tr (hl b (by simp))
 have hc1:=iha (h++[lobj 0 0 2 .nils])
 have l1:(h++[lobj 0 0 2 .nils]).length=h.length+1:=by simp
 rw [l1] at hc1
 have hlen:=layL_length (h.length+1) x
 obtain ⟨w,hw⟩:=layL_head (h.length+1) x
 have hlen2:=layL_length (h.length+2+objs x) y
 obtain ⟨w',hw'⟩:=layL_head (h.length+2+objs x) y
 have:=x.both_size
 have:=y.both_size
 have hcs:(Tr.mk 2 0 v [a,b]).cs=[.int .i64 2,.int .i64 0,v]:=rfl
 refine CallP.eq (call_ofQ (af:=Trnz.a89) rfl rfl fun Q hQ => ?_)
 generalize hX:layL (h.length+1) x=X at *
 generalize hY:layL (h.length+2+objs x) y=Y at *
 have hx0:0<X.length:=(List.getElem?_eq_some_iff.1 hw).1
 have hy0:0<Y.length:=(List.getElem?_eq_some_iff.1 hw').1
 -- the heaps: H1 the layout itself; H2 with the first part; H3 with the list of parts; H4 that stored; H5 with the second part; H6 with the list grown
 have e1:objCells (h++[lobj 0 0 2 .nils]) h.length=some (1,4,[.int .i64 0,.int .i64 0,.int .i64 2,.nils]):=by simp [objCells]
 have e2:objCells (h++[lobj 0 0 2 .nils]++X) h.length=some (1,4,[.int .i64 0,.int .i64 0,.int .i64 2,.nils]):=by simp [objCells]
 have n2:(h++[lobj 0 0 2 .nils]++X).length=h.length+1+objs x:=by simp [hlen]; omega
 have e3:objCells (h++[lobj 0 0 2 .nils]++X++[Am.Obj.cells 1 1 [.ref (h.length+1) 0 1]]) h.length=some (1,4,[.int .i64 0,.int .i64 0,.int .i64 2,.nils]):=by simp [objCells]
 have s3:(h++[lobj 0 0 2 .nils]++X++[Am.Obj.cells 1 1 [.ref (h.length+1) 0 1]]).set h.length (Am.Obj.cells 1 4 [.int .i64 0,.int .i64 0,.int .i64 2,.sl (h.length+1+objs x) 0 1 1 1 false]) =
  h++[lobj 0 0 2 (.sl (h.length+1+objs x) 0 1 1 1 false)]++X++[Am.Obj.cells 1 1 [.ref (h.length+1) 0 1]]:=by simp
 have n4:(h++[lobj 0 0 2 (.sl (h.length+1+objs x) 0 1 1 1 false)]++X++[Am.Obj.cells 1 1 [.ref (h.length+1) 0 1]]).length=h.length+2+objs x:=by simp [hlen]; omega
 have e4:objCells (h++[lobj 0 0 2 (.sl (h.length+1+objs x) 0 1 1 1 false)]++X++[Am.Obj.cells 1 1 [.ref (h.length+1) 0 1]]) h.length=some (1,4,[.int .i64 0,.int .i64 0,.int .i64 2,.sl (h.length+1+objs x) 0 1 1 1 false]):=by simp [objCells]
 have hc2:=ihb (h++[lobj 0 0 2 (.sl (h.length+1+objs x) 0 1 1 1 false)]++X++[Am.Obj.cells 1 1 [.ref (h.length+1) 0 1]])
 rw [n4,hY] at hc2
 have e5:objCells (h++[lobj 0 0 2 (.sl (h.length+1+objs x) 0 1 1 1 false)]++X++[Am.Obj.cells 1 1 [.ref (h.length+1) 0 1]]++Y) h.length=some (1,4,[.int .i64 0,.int .i64 0,.int .i64 2,.sl (h.length+1+objs x) 0 1 1 1 false]):=by simp [objCells]
 have at1:∀ (A:List Am.Obj) (o:Am.Obj) (B:List Am.Obj),A.length=h.length+1+objs x→(A++[o]++B)[h.length+1+objs x]?=some o:=fun A o B hA=>by
  rw [List.getElem?_append_left (by simp; omega),List.getElem?_append_right (by omega),hA,Nat.sub_self]
  rfl
 have set1:∀ (A:List Am.Obj) (o o':Am.Obj) (B:List Am.Obj),A.length=h.length+1+objs x→(A++[o]++B).set (h.length+1+objs x) o'=A++[o']++B:=fun A o o' B hA=>by
  rw [List.append_assoc,List.set_append_right _ _ (by omega),hA,Nat.sub_self]
  simp
 have nA:(h++[lobj 0 0 2 (.sl (h.length+1+objs x) 0 1 1 1 false)]++X).length=h.length+1+objs x:=by simp [hlen]; omega
 have e6:objCells (h++[lobj 0 0 2 (.sl (h.length+1+objs x) 0 1 1 1 false)]++X++[Am.Obj.cells 1 1 [.ref (h.length+1) 0 1]]++Y) (h.length+1+objs x)=some (1,1,[.ref (h.length+1) 0 1]):=objCells_of (at1 _ _ _ nA)
 have s6:=set1 _ (Am.Obj.cells 1 1 [.ref (h.length+1) 0 1]) (.cells 2 1 [.ref (h.length+1) 0 1,.ref (h.length+2+objs x) 0 1]) Y nA
 have e7:objCells (h++[lobj 0 0 2 (.sl (h.length+1+objs x) 0 1 1 1 false)]++X++[Am.Obj.cells 2 1 [.ref (h.length+1) 0 1,.ref (h.length+2+objs x) 0 1]]++Y) h.length=some (1,4,[.int .i64 0,.int .i64 0,.int .i64 2,.sl (h.length+1+objs x) 0 1 1 1 false]):=by simp [objCells]
 have s7:(h++[lobj 0 0 2 (.sl (h.length+1+objs x) 0 1 1 1 false)]++X++[Am.Obj.cells 2 1 [.ref (h.length+1) 0 1,.ref (h.length+2+objs x) 0 1]]++Y).set h.length (Am.Obj.cells 1 4 [.int .i64 0,.int .i64 0,.int .i64 2,.sl (h.length+1+objs x) 0 2 2 1 false]) =
  h++[lobj 0 0 2 (.sl (h.length+1+objs x) 0 2 2 1 false)]++X++[Am.Obj.cells 2 1 [.ref (h.length+1) 0 1,.ref (h.length+2+objs x) 0 1]]++Y:=by simp
 have nB:(h++[lobj 0 0 2 (.sl (h.length+1+objs x) 0 2 2 1 false)]++X).length=h.length+1+objs x:=by simp [hlen]; omega
 have g0:(h++[lobj 0 0 2 (.sl (h.length+1+objs x) 0 2 2 1 false)]++X++[Am.Obj.cells 2 1 [.ref (h.length+1) 0 1,.ref (h.length+2+objs x) 0 1]]++Y)[h.length]?=some (.cells 1 4 [.int .i64 0,.int .i64 0,.int .i64 2,.sl (h.length+1+objs x) 0 2 2 1 false]):=by simp
 have g1:(h++[lobj 0 0 2 (.sl (h.length+1+objs x) 0 2 2 1 false)]++X++[Am.Obj.cells 2 1 [.ref (h.length+1) 0 1,.ref (h.length+2+objs x) 0 1]]++Y)[h.length+1+objs x]?=some (.cells 2 1 [.ref (h.length+1) 0 1,.ref (h.length+2+objs x) 0 1]):=at1 _ _ _ nB
 have g2:(h++[lobj 0 0 2 (.sl (h.length+1+objs x) 0 2 2 1 false)]++X++[Am.Obj.cells 2 1 [.ref (h.length+1) 0 1,.ref (h.length+2+objs x) 0 1]]++Y)[h.length+1]?=some (lobj x.own x.data x.kind w):=by
  rw [List.getElem?_append_left (by simp <;> omega),List.getElem?_append_left (by simp <;> omega),List.getElem?_append_right (by simp)]
  simpa using hw
 have g3:(h++[lobj 0 0 2 (.sl (h.length+1+objs x) 0 2 2 1 false)]++X++[Am.Obj.cells 2 1 [.ref (h.length+1) 0 1,.ref (h.length+2+objs x) 0 1]]++Y)[h.length+2+objs x]?=some (lobj y.own y.data y.kind w'):=by
  rw [List.getElem?_append_right (by simp [hlen]; omega)]
  rw [show h.length+2+objs x - (h++[lobj 0 0 2 (.sl (h.length+1+objs x) 0 2 2 1 false)]++X++[Am.Obj.cells 2 1 [.ref (h.length+1) 0 1,.ref (h.length+2+objs x) 0 1]]).length=0 by simp [hlen]; omega]
  exact hw'
 have hq:=both_q g0 g1 g2 g3 (by omega)
 have e8:=objCells_of g0
 have s8:(h++[lobj 0 0 2 (.sl (h.length+1+objs x) 0 2 2 1 false)]++X++[Am.Obj.cells 2 1 [.ref (h.length+1) 0 1,.ref (h.length+2+objs x) 0 1]]++Y).set h.length (Am.Obj.cells 1 4 [.int .i64 ((x.own:Int)+(y.own:Int)),.int .i64 ((x.data:Int)+(y.data:Int)),.int .i64 2,.sl (h.length+1+objs x) 0 2 2 1 false]) =
  h++layL h.length (.pair x y):=by simp [layL,hX,hY]
 generalize hH1:h++[lobj 0 0 2 .nils]=H1 at *
 generalize hH2:H1++X=H2 at *
 generalize hH3:H2++[Am.Obj.cells 1 1 [V.ref (h.length+1) 0 1]]=H3 at *
 generalize hH4:h++[lobj 0 0 2 (.sl (h.length+1+objs x) 0 1 1 1 false)]++X++[Am.Obj.cells 1 1 [.ref (h.length+1) 0 1]]=H4 at *
 generalize hH5:H4++Y=H5 at *
 generalize hH6:h++[lobj 0 0 2 (.sl (h.length+1+objs x) 0 1 1 1 false)]++X++[Am.Obj.cells 2 1 [.ref (h.length+1) 0 1,.ref (h.length+2+objs x) 0 1]]++Y=H6 at *
 generalize hH7:h++[lobj 0 0 2 (.sl (h.length+1+objs x) 0 2 2 1 false)]++X++[Am.Obj.cells 2 1 [.ref (h.length+1) 0 1,.ref (h.length+2+objs x) 0 1]]++Y=H7 at *
 have room1:(8:Nat)≤room:=by simp [room]
 have room2:(16:Nat)≤room:=by simp [room]
 simp only [Trnz.a89]
 simp [hcs,hv.cell,hlv,gl1,hm,fill,slotOf,-pcall]
 refine loop_nQ 2 (fun i c=>(i=0∧c=⟨[.agg [.int .i64 2,.int .i64 0,v],.agg [.int .i64 2,.int .i64 0,v],.nilp,.ref h.length 0 1,.undef,v,.int .i64 2,.int .i64 0],[],none,none,H1⟩) ∨
  (i=1∧c=⟨[.agg [.int .i64 2,.int .i64 0,v],.agg [.int .i64 2,.int .i64 0,v],.nilp,.ref h.length 0 1,.agg a.cs,v,.int .i64 2,.int .i64 1],[],none,none,H4⟩) ∨
  (i=2∧c=⟨[.agg [.int .i64 2,.int .i64 0,v],.agg [.int .i64 2,.int .i64 0,v],.nilp,.ref h.length 0 1,.agg b.cs,v,.int .i64 2,.int .i64 2],[],none,none,H7⟩)) ?_ (.inl ⟨rfl,by rw [← hH1]; rfl⟩)
 rintro I hI i c hi (⟨rfl,rfl⟩ | ⟨rfl,rfl⟩ | ⟨rfl,rfl⟩)
 ·have hwr:IntKind.i64.wrap 1=1:=rfl
  simp [hv.cell,i0,e1,e2,e3,n2,s3,hc1,hca,storeV,appV,sliceLen,sliceCells,fill,room1,hH2,hH3,hwr,slotOf,-pcall,-List.all_eq_true]
  exact hI _ _ (.inr (.inl ⟨rfl,rfl⟩))
 ·have hwr:IntKind.i64.wrap (1+1)=2:=rfl
  simp [hv.cell,i1,e4,e5,e6,s6,e7,s7,hc2,hcb,storeV,appV,sliceLen,sliceCells,fill,room2,hH5,hH6,hwr,slotOf,-pcall,-List.all_eq_true]
  exact hI _ _ (.inr (.inr ⟨rfl,rfl⟩))
 ·simp [hv.cell,gl2,hq,e8,s8,storeV,slotOf,-pcall]
  exact hQ _ _ ⟨rfl,rfl⟩
theorem of_sum (v:V) (a b:Tr) (x y:Ty) (ho:(Tr.mk 3 0 v [a,b]).Ok) (hs:x.size+y.size<2 ^ 50) (iha:∀ h,CC 89 [.agg a.cs] h (.ret (.ref h.length 0 1)) (h++layL h.length x))
  (ihb:∀ h,CC 89 [.agg b.cs] h (.ret (.ref h.length 0 1)) (h++layL h.length y)) (h:Heap):CC 89 [.agg (Tr.mk 3 0 v [a,b]).cs] h (.ret (.ref h.length 0 1)) (h++layL h.length (.sum x y)):=by
 obtain ⟨_,_,hv,hl⟩:=ho.inv
 have hlv:=len_tr hv
 have hm:=must_t 15
 rw [PC] at hm
 have i0:=idx_tr hv (i:=0) (by simp)
 have i1:=idx_tr hv (i:=1) (by simp)
 simp only [List.getElem_cons_zero,List.getElem_cons_succ,Int.natCast_zero,Int.natCast_one] at i0 i1
 have hca:=cells_tr (hl a (by simp))
 have hcb:=cells_tr (hl b (by simp))
 have hc1:=iha (h++[lobj 0 0 3 .nils])
 have l1:(h++[lobj 0 0 3 .nils]).length=h.length+1:=by simp
 rw [l1] at hc1
 have hlen:=layL_length (h.length+1) x
 obtain ⟨w,hw⟩:=layL_head (h.length+1) x
 have hlen2:=layL_length (h.length+2+objs x) y
 obtain ⟨w',hw'⟩:=layL_head (h.length+2+objs x) y
 have:=x.both_size
 have:=y.both_size
 have hcs:(Tr.mk 3 0 v [a,b]).cs=[.int .i64 3,.int .i64 0,v]:=rfl
 refine CallP.eq (call_ofQ (af:=Trnz.a89) rfl rfl fun Q hQ => ?_)
 generalize hX:layL (h.length+1) x=X at *
 generalize hY:layL (h.length+2+objs x) y=Y at *
 have hx0:0<X.length:=(List.getElem?_eq_some_iff.1 hw).1
 have hy0:0<Y.length:=(List.getElem?_eq_some_iff.1 hw').1
 -- the heaps: H1 the layout itself; H2 with the first part; H3 with the list of parts; H4 that stored; H5 with the second part; H6 with the list grown
 have e1:objCells (h++[lobj 0 0 3 .nils]) h.length=some (1,4,[.int .i64 0,.int .i64 0,.int .i64 3,.nils]):=by simp [objCells]
 have e2:objCells (h++[lobj 0 0 3 .nils]++X) h.length=some (1,4,[.int .i64 0,.int .i64 0,.int .i64 3,.nils]):=by simp [objCells]
 have n2:(h++[lobj 0 0 3 .nils]++X).length=h.length+1+objs x:=by simp [hlen]; omega
 have e3:objCells (h++[lobj 0 0 3 .nils]++X++[Am.Obj.cells 1 1 [.ref (h.length+1) 0 1]]) h.length=some (1,4,[.int .i64 0,.int .i64 0,.int .i64 3,.nils]):=by simp [objCells]
 have s3:(h++[lobj 0 0 3 .nils]++X++[Am.Obj.cells 1 1 [.ref (h.length+1) 0 1]]).set h.length (Am.Obj.cells 1 4 [.int .i64 0,.int .i64 0,.int .i64 3,.sl (h.length+1+objs x) 0 1 1 1 false]) =
  h++[lobj 0 0 3 (.sl (h.length+1+objs x) 0 1 1 1 false)]++X++[Am.Obj.cells 1 1 [.ref (h.length+1) 0 1]]:=by simp
 have n4:(h++[lobj 0 0 3 (.sl (h.length+1+objs x) 0 1 1 1 false)]++X++[Am.Obj.cells 1 1 [.ref (h.length+1) 0 1]]).length=h.length+2+objs x:=by simp [hlen]; omega
 have e4:objCells (h++[lobj 0 0 3 (.sl (h.length+1+objs x) 0 1 1 1 false)]++X++[Am.Obj.cells 1 1 [.ref (h.length+1) 0 1]]) h.length=some (1,4,[.int .i64 0,.int .i64 0,.int .i64 3,.sl (h.length+1+objs x) 0 1 1 1 false]):=by simp [objCells]
 have hc2:=ihb (h++[lobj 0 0 3 (.sl (h.length+1+objs x) 0 1 1 1 false)]++X++[Am.Obj.cells 1 1 [.ref (h.length+1) 0 1]])
 rw [n4,hY] at hc2
 have e5:objCells (h++[lobj 0 0 3 (.sl (h.length+1+objs x) 0 1 1 1 false)]++X++[Am.Obj.cells 1 1 [.ref (h.length+1) 0 1]]++Y) h.length=some (1,4,[.int .i64 0,.int .i64 0,.int .i64 3,.sl (h.length+1+objs x) 0 1 1 1 false]):=by simp [objCells]
 have at1:∀ (A:List Am.Obj) (o:Am.Obj) (B:List Am.Obj),A.length=h.length+1+objs x→(A++[o]++B)[h.length+1+objs x]?=some o:=fun A o B hA=>by
  rw [List.getElem?_append_left (by simp; omega),List.getElem?_append_right (by omega),hA,Nat.sub_self]
  rfl
 have set1:∀ (A:List Am.Obj) (o o':Am.Obj) (B:List Am.Obj),A.length=h.length+1+objs x→(A++[o]++B).set (h.length+1+objs x) o'=A++[o']++B:=fun A o o' B hA=>by
  rw [List.append_assoc,List.set_append_right _ _ (by omega),hA,Nat.sub_self]
  simp
 have nA:(h++[lobj 0 0 3 (.sl (h.length+1+objs x) 0 1 1 1 false)]++X).length=h.length+1+objs x:=by simp [hlen]; omega
 have e6:objCells (h++[lobj 0 0 3 (.sl (h.length+1+objs x) 0 1 1 1 false)]++X++[Am.Obj.cells 1 1 [.ref (h.length+1) 0 1]]++Y) (h.length+1+objs x)=some (1,1,[.ref (h.length+1) 0 1]):=objCells_of (at1 _ _ _ nA)
 have s6:=set1 _ (Am.Obj.cells 1 1 [.ref (h.length+1) 0 1]) (.cells 2 1 [.ref (h.length+1) 0 1,.ref (h.length+2+objs x) 0 1]) Y nA
 have e7:objCells (h++[lobj 0 0 3 (.sl (h.length+1+objs x) 0 1 1 1 false)]++X++[Am.Obj.cells 2 1 [.ref (h.length+1) 0 1,.ref (h.length+2+objs x) 0 1]]++Y) h.length=some (1,4,[.int .i64 0,.int .i64 0,.int .i64 3,.sl (h.length+1+objs x) 0 1 1 1 false]):=by simp [objCells]
 have s7:(h++[lobj 0 0 3 (.sl (h.length+1+objs x) 0 1 1 1 false)]++X++[Am.Obj.cells 2 1 [.ref (h.length+1) 0 1,.ref (h.length+2+objs x) 0 1]]++Y).set h.length (Am.Obj.cells 1 4 [.int .i64 0,.int .i64 0,.int .i64 3,.sl (h.length+1+objs x) 0 2 2 1 false]) =
  h++[lobj 0 0 3 (.sl (h.length+1+objs x) 0 2 2 1 false)]++X++[Am.Obj.cells 2 1 [.ref (h.length+1) 0 1,.ref (h.length+2+objs x) 0 1]]++Y:=by simp
 have nB:(h++[lobj 0 0 3 (.sl (h.length+1+objs x) 0 2 2 1 false)]++X).length=h.length+1+objs x:=by simp [hlen]; omega
 have g0:(h++[lobj 0 0 3 (.sl (h.length+1+objs x) 0 2 2 1 false)]++X++[Am.Obj.cells 2 1 [.ref (h.length+1) 0 1,.ref (h.length+2+objs x) 0 1]]++Y)[h.length]?=some (.cells 1 4 [.int .i64 0,.int .i64 0,.int .i64 3,.sl (h.length+1+objs x) 0 2 2 1 false]):=by simp
 have g1:(h++[lobj 0 0 3 (.sl (h.length+1+objs x) 0 2 2 1 false)]++X++[Am.Obj.cells 2 1 [.ref (h.length+1) 0 1,.ref (h.length+2+objs x) 0 1]]++Y)[h.length+1+objs x]?=some (.cells 2 1 [.ref (h.length+1) 0 1,.ref (h.length+2+objs x) 0 1]):=at1 _ _ _ nB
 have g2:(h++[lobj 0 0 3 (.sl (h.length+1+objs x) 0 2 2 1 false)]++X++[Am.Obj.cells 2 1 [.ref (h.length+1) 0 1,.ref (h.length+2+objs x) 0 1]]++Y)[h.length+1]?=some (lobj x.own x.data x.kind w):=by
  rw [List.getElem?_append_left (by simp <;> omega),List.getElem?_append_left (by simp <;> omega),List.getElem?_append_right (by simp)]
  simpa using hw
 have g3:(h++[lobj 0 0 3 (.sl (h.length+1+objs x) 0 2 2 1 false)]++X++[Am.Obj.cells 2 1 [.ref (h.length+1) 0 1,.ref (h.length+2+objs x) 0 1]]++Y)[h.length+2+objs x]?=some (lobj y.own y.data y.kind w'):=by
  rw [List.getElem?_append_right (by simp [hlen]; omega)]
  rw [show h.length+2+objs x - (h++[lobj 0 0 3 (.sl (h.length+1+objs x) 0 2 2 1 false)]++X++[Am.Obj.cells 2 1 [.ref (h.length+1) 0 1,.ref (h.length+2+objs x) 0 1]]).length=0 by simp [hlen]; omega]
  exact hw'
 have hq:=sum_q g0 g1 g2 g3 (by omega)
 have e8:=objCells_of g0
 have s8:(h++[lobj 0 0 3 (.sl (h.length+1+objs x) 0 2 2 1 false)]++X++[Am.Obj.cells 2 1 [.ref (h.length+1) 0 1,.ref (h.length+2+objs x) 0 1]]++Y).set h.length (Am.Obj.cells 1 4 [.int .i64 (1+(x.own:Int)+(y.own:Int)),.int .i64 ((x.data:Int)+(y.data:Int)),.int .i64 3,.sl (h.length+1+objs x) 0 2 2 1 false]) =
  h++layL h.length (.sum x y):=by simp [layL,hX,hY]
 generalize hH1:h++[lobj 0 0 3 .nils]=H1 at *
 generalize hH2:H1++X=H2 at *
 generalize hH3:H2++[Am.Obj.cells 1 1 [V.ref (h.length+1) 0 1]]=H3 at *
 generalize hH4:h++[lobj 0 0 3 (.sl (h.length+1+objs x) 0 1 1 1 false)]++X++[Am.Obj.cells 1 1 [.ref (h.length+1) 0 1]]=H4 at *
 generalize hH5:H4++Y=H5 at *
 generalize hH6:h++[lobj 0 0 3 (.sl (h.length+1+objs x) 0 1 1 1 false)]++X++[Am.Obj.cells 2 1 [.ref (h.length+1) 0 1,.ref (h.length+2+objs x) 0 1]]++Y=H6 at *
 generalize hH7:h++[lobj 0 0 3 (.sl (h.length+1+objs x) 0 2 2 1 false)]++X++[Am.Obj.cells 2 1 [.ref (h.length+1) 0 1,.ref (h.length+2+objs x) 0 1]]++Y=H7 at *
 have room1:(8:Nat)≤room:=by simp [room]
 have room2:(16:Nat)≤room:=by simp [room]
 simp only [Trnz.a89]
 simp [hcs,hv.cell,hlv,gl1,hm,fill,slotOf,-pcall]
 refine loop_nQ 2 (fun i c=>(i=0∧c=⟨[.agg [.int .i64 3,.int .i64 0,v],.agg [.int .i64 3,.int .i64 0,v],.nilp,.ref h.length 0 1,.undef,v,.int .i64 2,.int .i64 0],[],none,none,H1⟩) ∨
  (i=1∧c=⟨[.agg [.int .i64 3,.int .i64 0,v],.agg [.int .i64 3,.int .i64 0,v],.nilp,.ref h.length 0 1,.agg a.cs,v,.int .i64 2,.int .i64 1],[],none,none,H4⟩) ∨
  (i=2∧c=⟨[.agg [.int .i64 3,.int .i64 0,v],.agg [.int .i64 3,.int .i64 0,v],.nilp,.ref h.length 0 1,.agg b.cs,v,.int .i64 2,.int .i64 2],[],none,none,H7⟩)) ?_ (.inl ⟨rfl,by rw [← hH1]; rfl⟩)
 rintro I hI i c hi (⟨rfl,rfl⟩ | ⟨rfl,rfl⟩ | ⟨rfl,rfl⟩)
 ·have hwr:IntKind.i64.wrap 1=1:=rfl
  simp [hv.cell,i0,e1,e2,e3,n2,s3,hc1,hca,storeV,appV,sliceLen,sliceCells,fill,room1,hH2,hH3,hwr,slotOf,-pcall,-List.all_eq_true]
  exact hI _ _ (.inr (.inl ⟨rfl,rfl⟩))
 ·have hwr:IntKind.i64.wrap (1+1)=2:=rfl
  simp [hv.cell,i1,e4,e5,e6,s6,e7,s7,hc2,hcb,storeV,appV,sliceLen,sliceCells,fill,room2,hH5,hH6,hwr,slotOf,-pcall,-List.all_eq_true]
  exact hI _ _ (.inr (.inr ⟨rfl,rfl⟩))
 ·simp [hv.cell,gl2,hq,e8,s8,storeV,slotOf,-pcall]
  exact hQ _ _ ⟨rfl,rfl⟩
theorem of_q {t:Tr} {τ:Ty} (hτ:IsTy t τ):t.Ok→τ.size<2 ^ 50→∀ h:Heap,CC 89 [.agg t.cs] h (.ret (.ref h.length 0 1)) (h++layL h.length τ):=by
 induction hτ with
 | unit v=>exact fun ho _ h=>of_unit v ho h
 | int v=>exact fun ho _ h=>of_int v ho h
 | pair v a b x y _ _ iha ihb =>
  intro ho hs h
  simp only [Ty.size] at hs
  obtain ⟨_,_,_,hl⟩:=ho.inv
  exact of_pair v a b x y ho (by omega) (iha (hl a (by simp)) (by omega)) (ihb (hl b (by simp)) (by omega)) h
 | sum v a b x y _ _ iha ihb =>
  intro ho hs h
  simp only [Ty.size] at hs
  obtain ⟨_,_,_,hl⟩:=ho.inv
  exact of_sum v a b x y ho (by omega) (iha (hl a (by simp)) (by omega)) (ihb (hl b (by simp)) (by omega)) h
 | seq v a x ha iha =>
  intro ho hs h
  simp only [Ty.size] at hs
  obtain ⟨_,_,_,hl⟩:=ho.inv
  exact of_seq v a x ho ha (by omega) (iha (hl a (by simp)) (by omega)) h
inductive Lay (H:Heap):Nat→Ty→Prop
 | unit (b:Nat) (w:V) (h:H[b]?=some (lobj 0 0 0 w)):Lay H b .unit
 | int (b:Nat) (w:V) (h:H[b]?=some (lobj 1 0 1 w)):Lay H b .int
 | pair (b p a1 a2:Nat) (x y:Ty) (h:H[b]?=some (lobj (x.own+y.own) (x.data+y.data) 2 (.sl p 0 2 2 1 false))) (hp:H[p]?=some (.cells 2 1 [.ref a1 0 1,.ref a2 0 1])) (h1:Lay H a1 x) (h2:Lay H a2 y) (l1:b<a1) (l2:a1+objs x<a2) (l3:b+objs (.pair x y)=a2+objs y):Lay H b (.pair x y)
 | sum (b p a1 a2:Nat) (x y:Ty) (h:H[b]?=some (lobj (1+x.own+y.own) (x.data+y.data) 3 (.sl p 0 2 2 1 false))) (hp:H[p]?=some (.cells 2 1 [.ref a1 0 1,.ref a2 0 1])) (h1:Lay H a1 x) (h2:Lay H a2 y) (l1:b<a1) (l2:a1+objs x<a2) (l3:b+objs (.sum x y)=a2+objs y):Lay H b (.sum x y)
 | seq (b p a1:Nat) (x:Ty) (h:H[b]?=some (lobj 2 (x.own+x.data) 4 (.sl p 0 1 1 1 false))) (hp:H[p]?=some (.cells 1 1 [.ref a1 0 1])) (h1:Lay H a1 x) (l1:b<a1) (l3:a1+objs x<b+objs (.seq x)):Lay H b (.seq x)
theorem Lay.ext {H:Heap} {b:Nat} {τ:Ty} (h:Lay H b τ) {H':Heap} (he:∀ (i:Nat) o,H[i]?=some o→H'[i]?=some o):Lay H' b τ:=by
 induction h with
 | unit b w h=>exact .unit b w (he _ _ h)
 | int b w h=>exact .int b w (he _ _ h)
 | pair b p a1 a2 x y h hp _ _ l1 l2 l3 ih1 ih2=>exact .pair b p a1 a2 x y (he _ _ h) (he _ _ hp) ih1 ih2 l1 l2 l3
 | sum b p a1 a2 x y h hp _ _ l1 l2 l3 ih1 ih2=>exact .sum b p a1 a2 x y (he _ _ h) (he _ _ hp) ih1 ih2 l1 l2 l3
 | seq b p a1 x h hp _ l1 l3 ih1=>exact .seq b p a1 x (he _ _ h) (he _ _ hp) ih1 l1 l3
theorem get_app {H X:Heap} {i:Nat} {o:Am.Obj} (h:H[i]?=some o):(H++X)[i]?=some o:=by
 rw [List.getElem?_append_left (List.getElem?_eq_some_iff.1 h).1]; exact h
theorem Lay.app {H:Heap} {b:Nat} {τ:Ty} (h:Lay H b τ) (X:Heap):Lay (H++X) b τ:=h.ext fun i o=>get_app
inductive Fr {α β:Type} (R:α→β→Prop):List α→List β→Prop
 | nil:Fr R [] []
 | cons {a b as bs} (h:R a b) (t:Fr R as bs):Fr R (a :: as) (b :: bs)
namespace Fr
variable {α β:Type} {R:α→β→Prop}
theorem length {as:List α} {bs:List β} (h:Fr R as bs):as.length=bs.length:=by
 induction h with
 | nil=>rfl
 | cons _ _ ih=>simp [ih]
theorem append {as as':List α} {bs bs':List β} (h:Fr R as bs) (h':Fr R as' bs'):Fr R (as++as') (bs++bs'):=by
 induction h with
 | nil=>exact h'
 | cons a _ ih=>exact .cons a ih
theorem get {as:List α} {bs:List β} (h:Fr R as bs):∀ {i:Nat} (h1:i<as.length) (h2:i<bs.length),R as[i] bs[i]:=by
 induction h with
 | nil=>intro i h1; simp at h1
 | cons a _ ih =>
  intro i h1 h2
  cases i with
  | zero=>exact a
  | succ i=>exact ih (by simpa using h1) (by simpa using h2)
theorem mem {as:List α} {bs:List β} (h:Fr R as bs) {b:β} (hb:b∈bs):∃ a∈as,R a b:=by
 induction h with
 | nil=>simp at hb
 | cons r _ ih =>
  rcases List.mem_cons.1 hb with rfl | hb
  ·exact ⟨_,by simp,r⟩
  ·obtain ⟨a,h1,h2⟩:=ih hb
   exact ⟨a,by simp [h1],h2⟩
theorem take {as:List α} {bs:List β} (h:Fr R as bs):∀ n,Fr R (as.take n) (bs.take n):=by
 induction h with
 | nil=>intro n; simpa using Fr.nil
 | cons r _ ih =>
  intro n
  cases n with
  | zero=>exact .nil
  | succ n=>exact .cons r (ih n)
theorem drop {as:List α} {bs:List β} (h:Fr R as bs):∀ n,Fr R (as.drop n) (bs.drop n):=by
 induction h with
 | nil=>intro n; simpa using Fr.nil
 | cons r t ih =>
  intro n
  cases n with
  | zero=>exact .cons r t
  | succ n=>exact ih n
theorem mono {R':α→β→Prop} {as:List α} {bs:List β} (h:Fr R as bs) (hr:∀ a b,R a b→R' a b):Fr R' as bs:=by
 induction h with
 | nil=>exact .nil
 | cons r _ ih=>exact .cons (hr _ _ r) ih
end Fr
abbrev CellsV (cs:List V) (v:V):Prop:=SlV (cs.map fun x=>[x]) v
abbrev IntsV (l:List Int) (v:V):Prop:=CellsV (l.map fun n => .int .i64 n) v
def ListsV (ls:List (List Int)) (v:V):Prop:=∃ vs,CellsV vs v∧Fr IntsV ls vs
theorem flatten_single (cs:List V):(cs.map fun x=>[x]).flatten=cs:=by
 induction cs with
 | nil=>rfl
 | cons c cs ih=>simp [ih]
theorem chunks_single:∀ (cs:List V),chunks 1 cs.length cs=cs.map fun x=>[x]
 | []=>rfl
 | c :: cs=>by simp [chunks,chunks_single cs]
theorem CellsV.slen' {cs:List V} {v:V} (h:CellsV cs v):sliceLen v=some cs.length:=by
 have:=SlV.slen h
 simpa using this
theorem CellsV.scells' {cs:List V} {v:V} (h:CellsV cs v) (hp:Heap):sliceCells hp v=some cs:=by
 have:=SlV.scells h hp
 rw [this,flatten_single]
theorem CellsV.len' {cs:List V} {v:V} (h:CellsV cs v):lenV v=some (.int .i64 cs.length):=by
 have:=SlV.len h
 simpa using this
theorem CellsV.idx' {cs:List V} {v:V} (h:CellsV cs v) {i:Nat} (hi:i<cs.length):idxV v i 1=some (.pv [cs[i]]):=by
 rw [SlV.idx h]
 simp [hi]
theorem IntsV.len' {l:List Int} {v:V} (h:IntsV l v):lenV v=some (.int .i64 l.length):=by
 have:=CellsV.len' h
 simpa using this
theorem IntsV.idx' {l:List Int} {v:V} (h:IntsV l v) {i:Nat} (hi:i<l.length):idxV v i 1=some (.pv [.int .i64 l[i]]):=by
 have:=CellsV.idx' h (i:=i) (by simpa using hi)
 simpa using this
theorem pureL_all {cs:List V}:pureL cs=true↔∀ c∈cs,pureV c=true:=by
 induction cs with
 | nil=>simp [pureL]
 | cons c cs ih=>simp [pureL,ih]
theorem frIntsPure {ls:List (List Int)} {vs:List V} (h:Fr IntsV ls vs):pureL vs=true:=pureL_all.2 fun c hc=>by
 obtain ⟨a,_,h1⟩:=h.mem hc
 exact SlV.pure h1
theorem ListsV.pure {ls:List (List Int)} {v:V} (h:ListsV ls v):pureV v=true:=by
 obtain ⟨vs,h1,_⟩:=h
 exact SlV.pure h1
theorem ListsV.len {ls:List (List Int)} {v:V} (h:ListsV ls v):lenV v=some (.int .i64 ls.length):=by
 obtain ⟨vs,h1,h2⟩:=h
 rw [CellsV.len' h1,h2.length]
theorem ListsV.idx {ls:List (List Int)} {v:V} (h:ListsV ls v) {i:Nat} (hi:i<ls.length):∃ w,idxV v i 1=some (.pv [w])∧IntsV ls[i] w:=by
 obtain ⟨vs,h1,h2⟩:=h
 have hi':i<vs.length:=by rw [← h2.length]; exact hi
 exact ⟨vs[i],CellsV.idx' h1 hi',h2.get hi hi'⟩
theorem ListsV.cell {ls:List (List Int)} {v:V} (h:ListsV ls v):isCell v=true:=by
 obtain ⟨vs,h1,_⟩:=h
 exact SlV.cell h1
theorem ListsV.cells {ls:List (List Int)} {v:V} (h:ListsV ls v):cellsV v=[v]:=by
 obtain ⟨vs,h1,_⟩:=h
 exact SlV.cells h1
theorem view_own {H:Heap} {b n:Nat} {cs:List V} (hb:H[b]?=some (.cells n 1 cs)) (hn:n=cs.length) (hp:pureL cs=true):frzV H (.sl b 0 n n 1 false)=some (.sv (cs.map fun x=>[x]) false,H.set b .gone):=by
 subst hn
 simp [frzV,viewV,objCells_of hb,hp,chunks_single]
theorem viewW_own {H:Heap} {b n:Nat} {cs:List V} (hb:H[b]?=some (.cells n 1 cs)) (hn:n=cs.length) (hp:pureL cs=true):viewW 0 H (.sl b 0 n n 1 false)=some (.sv (cs.map fun x=>[x]) false):=by
 subst hn
 refine viewW_of ?_
 simp [viewV,objCells_of hb,hp,chunks_single]
def partU (k:Int) (o:Option Tr):Option Tr:=match o with
 | none=>none
 | some t=>if t.n=k then t.l[0]? else none
def AllV (τ:Ty) (l:List (Option Tr)):Prop:=∀ t,some t∈l→t.Ok∧isV τ t=true
theorem isV_sum {a b:Ty} {t:Tr} (h:isV (.sum a b) t=true):∃ x,t.l=[x]∧(t.n=0∧isV a x=true∨t.n=1∧isV b x=true):=by
 obtain ⟨k,n,v,l⟩:=t
 match l with
 | [x]=>simp only [isV,Bool.and_eq_true,Bool.or_eq_true,beq_iff_eq] at h; exact ⟨x,rfl,h.2⟩
 | []=>simp [isV] at h
 | _ :: _ :: _=>simp [isV] at h
theorem Tr.Ok.kids {t:Tr} (h:t.Ok):∀ x∈t.l,x.Ok:=by
 cases h with
 | mk k n v l a b c d=>exact d
theorem AllV.left {a b:Ty} {l:List (Option Tr)} (h:AllV (.sum a b) l):AllV a (l.map (partU 0)):=by
 intro t ht
 obtain ⟨o,ho,he⟩:=List.mem_map.1 ht
 cases o with
 | none=>simp [partU] at he
 | some u =>
  obtain ⟨h1,h2⟩:=h u ho
  obtain ⟨x,e,h3⟩:=isV_sum h2
  rcases h3 with ⟨h3,h4⟩ | ⟨h3,h4⟩
  ·simp [partU,e,h3] at he
   subst he
   exact ⟨h1.kids _ (by simp [e]),h4⟩
  ·simp [partU,h3] at he
theorem AllV.right {a b:Ty} {l:List (Option Tr)} (h:AllV (.sum a b) l):AllV b (l.map (partU 1)):=by
 intro t ht
 obtain ⟨o,ho,he⟩:=List.mem_map.1 ht
 cases o with
 | none=>simp [partU] at he
 | some u =>
  obtain ⟨h1,h2⟩:=h u ho
  obtain ⟨x,e,h3⟩:=isV_sum h2
  rcases h3 with ⟨h3,h4⟩ | ⟨h3,h4⟩
  ·simp [partU,h3] at he
  ·simp [partU,e,h3] at he
   subst he
   exact ⟨h1.kids _ (by simp [e]),h4⟩
def pvO:Option Tr→V
 | none => .nilp
 | some t => .pv t.cs
inductive Ptrs (H:Heap) (l:List (Option Tr)):V→Prop
 | sv (v:V) (h:CellsV (l.map pvO) v):Ptrs H l v
 | sl (b:Nat) (h:H[b]?=some (.cells l.length 1 (l.map pvO))):Ptrs H l (.sl b 0 l.length l.length 1 false)
theorem Ptrs.len {H:Heap} {l:List (Option Tr)} {v:V} (h:Ptrs H l v):lenV v=some (.int .i64 l.length):=by
 cases h with
 | sv _ h=>have:=CellsV.len' h; simpa using this
 | sl b h=>rfl
theorem load_ref {h:Heap} {b n sz off:Nat} {cs:List V} {x:V} (ho:h[b]?=some (.cells n sz cs)) (hx:cs[off]?=some x):loadV h (.ref b off n) 1 false=some x:=by
 have hlt:=(List.getElem?_eq_some_iff.1 hx).1
 have e:(cs.drop off).take 1=[x]:=by
  rw [List.drop_eq_getElem_cons hlt,List.take_succ_cons,List.take_zero]
  have:=(List.getElem?_eq_some_iff.1 hx).2
  rw [this]
 simp only [loadV,objCells_of ho]
 rw [if_pos ⟨trivial,by omega⟩,e]
 rfl
theorem Ptrs.read {H:Heap} {l:List (Option Tr)} {v:V} (h:Ptrs H l v) {i:Nat} (hi:i<l.length):∃ a,idxV v i 1=some a∧loadV H a 1 false=some (pvO l[i]):=by
 cases h with
 | sv _ h =>
  have:=CellsV.idx' h (i:=i) (by simpa using hi)
  exact ⟨_,this,by simp⟩
 | sl b h =>
  refine ⟨.ref b ((0+i) * 1) l.length,?_,?_⟩
  ·simp only [idxV,Int.toNat_natCast]
   rw [if_pos ⟨by omega,by omega,trivial⟩]
  ·exact load_ref h (by simp [hi])
theorem Ptrs.cell {H:Heap} {l:List (Option Tr)} {v:V} (h:Ptrs H l v):isCell v=true:=by
 cases h with
 | sv _ h=>exact SlV.cell h
 | sl b h=>rfl
theorem Ptrs.cells {H:Heap} {l:List (Option Tr)} {v:V} (h:Ptrs H l v):cellsV v=[v]:=by
 cases h with
 | sv _ h=>exact SlV.cells h
 | sl b h=>rfl
theorem Ptrs.ext {H H':Heap} {l:List (Option Tr)} {v:V} (h:Ptrs H l v) (he:∀ (i:Nat) o,H[i]?=some o→H'[i]?=some o):Ptrs H' l v:=by
 cases h with
 | sv _ h=>exact .sv _ h
 | sl b h=>exact .sl b (he _ _ h)
theorem Tr.Ok.sl {t:Tr} (h:t.Ok):SlV (t.l.map Tr.cs) t.v:=by
 cases h with
 | mk k n v l a b c d=>exact c
theorem load_cell {H:Heap} {c:Nat} {x:V} (h:H[c]?=some (.cells 1 1 [x])):loadV H (.ref c 0 1) 1 false=some x:=load_ref h rfl
theorem get_set_ne {H:Heap} {i j:Nat} (h:i≠j) (o:Am.Obj):(H.set i o)[j]?=H[j]?:=List.getElem?_set_ne h
theorem set_last {H:Heap} (o o':Am.Obj):(H++[o]).set H.length o'=H++[o']:=by simp
inductive Pool (H:Heap) (p q:Nat):List (Option Tr)→Prop
 | nil (h:H[p]?=some (.cells 1 1 [.nils])):Pool H p q []
 | cons (l:List (Option Tr)) (hl:l≠[]) (h:H[p]?=some (.cells 1 1 [.sl q 0 l.length l.length 1 false])) (hq:H[q]?=some (.cells l.length 1 (l.map pvO))):Pool H p q l
theorem Pool.app {H:Heap} {p q:Nat} {l:List (Option Tr)} (h:Pool H p q l) (X:Heap):Pool (H++X) p q l:=by
 cases h with
 | nil h=>exact .nil (get_app h)
 | cons _ hl h hq=>exact .cons _ hl (get_app h) (get_app hq)
def poolV (q n:Nat):V:=if n=0 then .nils else .sl q 0 n n 1 false
theorem Pool.cell {H:Heap} {p q:Nat} {l:List (Option Tr)} (h:Pool H p q l):H[p]?=some (.cells 1 1 [poolV q l.length]):=by
 cases h with
 | nil h=>exact h
 | cons _ hl h hq =>
  rw [h,poolV,if_neg (by simpa using hl)]
theorem Pool.set {H:Heap} {p q:Nat} {l:List (Option Tr)} (h:Pool H p q l) {j:Nat} (h1:j≠p) (h2:j≠q) (o:Am.Obj):Pool (H.set j o) p q l:=by
 cases h with
 | nil h=>exact .nil (by rw [get_set_ne h1]; exact h)
 | cons _ hl h hq=>exact .cons _ hl (by rw [get_set_ne h1]; exact h) (by rw [get_set_ne h2]; exact hq)
theorem ext_of {H G:Heap} (hl:H.length≤G.length) (h:∀ j,j<H.length→G[j]?=H[j]?):∃ X,G=H++X:=by
 refine ⟨G.drop H.length,?_⟩
 have e:G.take H.length=H:=by
  apply List.ext_getElem?
  intro i
  rw [List.getElem?_take]
  by_cases hi:i<H.length
  ·rw [if_pos hi,h i hi]
  ·rw [if_neg hi]
   rw [Nat.not_lt] at hi
   exact (List.getElem?_eq_none (by omega)).symm
 have:=List.take_append_drop H.length G
 rw [e] at this
 exact this.symm
theorem ListsV.nil:ListsV [] .nils:=⟨[],.nil rfl,.nil⟩
theorem ListsV.one {l:List Int} {u:V} (h:IntsV l u):ListsV [l] (.sv [[u]] true):=⟨[u],.sv true,.cons h .nil⟩
theorem ListsV.two {l m:List Int} {u w:V} (h:IntsV l u) (h2:IntsV m w):ListsV [l,m] (.sv [[u],[w]] true):=⟨[u,w],.sv true,.cons h (.cons h2 .nil)⟩
abbrev wrong (e:Int):V:=.iface 128 (.agg [.int .i64 e])
theorem of_shape (k n:Int) (v:V) (l:List Tr) (ho:(Tr.mk k n v l).Ok) (hb:¬ (n=0∧(l.length:Int)=partsK k)) (h:Heap):CC 89 [.agg (Tr.mk k n v l).cs] h (.pan (wrong 15)) h:=by
 obtain ⟨_,_,hv,hl⟩:=ho.inv
 have hlv:=len_tr hv
 have hm:=must_f 15
 have hcs:(Tr.mk k n v l).cs=[.int .i64 k,.int .i64 n,v]:=rfl
 refine CallP.eq (call_ofQ (af:=Trnz.a89) rfl rfl fun Q hQ => ?_)
 simp only [Trnz.a89]
 by_cases h0:0≤k
 case neg =>
  simp [hcs,hv.cell,h0,hm,slotOf,forget,AOper.writes,-pcall]
  exact hQ _ _ ⟨rfl,rfl⟩
 by_cases h5:k<5
 case neg =>
  simp [hcs,hv.cell,h0,h5,hm,slotOf,forget,AOper.writes,-pcall]
  exact hQ _ _ ⟨rfl,rfl⟩
 by_cases hn:n=0
 case neg =>
  have hn':(n == 0)=false:=by simpa using hn
  simp [hcs,hv.cell,h0,h5,hn',hm,slotOf,forget,AOper.writes,-pcall]
  exact hQ _ _ ⟨rfl,rfl⟩
 subst hn
 have hk:k=0∨k=1∨k=2∨k=3∨k=4:=by omega
 have hne:((l.length:Int) == partsK k)=false:=by
  rw [beq_eq_false_iff_ne]
  exact fun e=>hb ⟨rfl,e⟩
 rcases hk with rfl | rfl | rfl | rfl | rfl
 ·have e:((l.length:Int) == 0)=false:=hne
  simp [hcs,hv.cell,hlv,gl1,e,hm,slotOf,forget,AOper.writes,-pcall,-beq_eq_false_iff_ne]
  exact hQ _ _ ⟨rfl,rfl⟩
 ·have e:((l.length:Int) == 0)=false:=hne
  simp [hcs,hv.cell,hlv,gl1,e,hm,slotOf,forget,AOper.writes,-pcall,-beq_eq_false_iff_ne]
  exact hQ _ _ ⟨rfl,rfl⟩
 ·have e:((l.length:Int) == 2)=false:=hne
  simp [hcs,hv.cell,hlv,gl1,e,hm,slotOf,forget,AOper.writes,-pcall,-beq_eq_false_iff_ne]
  exact hQ _ _ ⟨rfl,rfl⟩
 ·have e:((l.length:Int) == 2)=false:=hne
  simp [hcs,hv.cell,hlv,gl1,e,hm,slotOf,forget,AOper.writes,-pcall,-beq_eq_false_iff_ne]
  exact hQ _ _ ⟨rfl,rfl⟩
 ·have e:((l.length:Int) == 1)=false:=hne
  simp [hcs,hv.cell,hlv,gl1,e,hm,slotOf,forget,AOper.writes,-pcall,-beq_eq_false_iff_ne]
  exact hQ _ _ ⟨rfl,rfl⟩
theorem of_one (v:V) (a:Tr) (ho:(Tr.mk 4 0 v [a]).Ok) (iha:∀ h,∃ X,CC 89 [.agg a.cs] h (.pan (wrong 15)) (h++X)) (h:Heap):∃ X,CC 89 [.agg (Tr.mk 4 0 v [a]).cs] h (.pan (wrong 15)) (h++X):=by
 obtain ⟨_,_,hv,hl⟩:=ho.inv
 have hlv:=len_tr hv
 have hm:=must_t 15
 rw [PC] at hm
 have i0:=idx_tr hv (i:=0) (by simp)
 simp only [List.getElem_cons_zero,Int.natCast_zero] at i0
 have hcc:=cells_tr (hl a (by simp))
 obtain ⟨X,hc⟩:=iha (h++[lobj 0 0 4 .nils])
 have e1:objCells (h++[lobj 0 0 4 .nils]) h.length=some (1,4,[.int .i64 0,.int .i64 0,.int .i64 4,.nils]):=by simp [objCells]
 refine ⟨[lobj 0 0 4 .nils]++X,?_⟩
 rw [← List.append_assoc]
 have hcs:(Tr.mk 4 0 v [a]).cs=[.int .i64 4,.int .i64 0,v]:=rfl
 refine CallP.eq (call_ofQ (af:=Trnz.a89) rfl rfl fun Q hQ => ?_)
 generalize hH1:h++[lobj 0 0 4 .nils]=H1 at *
 simp only [Trnz.a89]
 simp [hcs,hv.cell,hlv,gl1,hm,fill,slotOf,-pcall]
 refine loop_nQ 1 (fun i c=>i=0∧c=⟨[.agg [.int .i64 4,.int .i64 0,v],.agg [.int .i64 4,.int .i64 0,v],.nilp,.ref h.length 0 1,.undef,v,.int .i64 1,.int .i64 0],[],none,none,H1⟩) ?_ ⟨rfl,by rw [← hH1]; rfl⟩
 rintro I hI i c hi ⟨rfl,rfl⟩
 simp [hv.cell,i0,e1,hc,hcc,slotOf,forget,AOper.writes,-pcall,-List.all_eq_true]
 exact hQ _ _ ⟨rfl,rfl⟩
theorem of_fst2 (v:V) (a b:Tr) (ho:(Tr.mk 2 0 v [a,b]).Ok) (iha:∀ h,∃ X,CC 89 [.agg a.cs] h (.pan (wrong 15)) (h++X)) (h:Heap):∃ X,CC 89 [.agg (Tr.mk 2 0 v [a,b]).cs] h (.pan (wrong 15)) (h++X):=by
 obtain ⟨_,_,hv,hl⟩:=ho.inv
 have hlv:=len_tr hv
 have hm:=must_t 15
 rw [PC] at hm
 have i0:=idx_tr hv (i:=0) (by simp)
 simp only [List.getElem_cons_zero,Int.natCast_zero] at i0
 have hcc:=cells_tr (hl a (by simp))
 obtain ⟨X,hc⟩:=iha (h++[lobj 0 0 2 .nils])
 have e1:objCells (h++[lobj 0 0 2 .nils]) h.length=some (1,4,[.int .i64 0,.int .i64 0,.int .i64 2,.nils]):=by simp [objCells]
 refine ⟨[lobj 0 0 2 .nils]++X,?_⟩
 rw [← List.append_assoc]
 have hcs:(Tr.mk 2 0 v [a,b]).cs=[.int .i64 2,.int .i64 0,v]:=rfl
 refine CallP.eq (call_ofQ (af:=Trnz.a89) rfl rfl fun Q hQ => ?_)
 generalize hH1:h++[lobj 0 0 2 .nils]=H1 at *
 simp only [Trnz.a89]
 simp [hcs,hv.cell,hlv,gl1,hm,fill,slotOf,-pcall]
 refine loop_nQ 2 (fun i c=>i=0∧c=⟨[.agg [.int .i64 2,.int .i64 0,v],.agg [.int .i64 2,.int .i64 0,v],.nilp,.ref h.length 0 1,.undef,v,.int .i64 2,.int .i64 0],[],none,none,H1⟩) ?_ ⟨rfl,by rw [← hH1]; rfl⟩
 rintro I hI i c hi ⟨rfl,rfl⟩
 simp [hv.cell,i0,e1,hc,hcc,slotOf,forget,AOper.writes,-pcall,-List.all_eq_true]
 exact hQ _ _ ⟨rfl,rfl⟩
theorem of_snd2 (v:V) (a b:Tr) (x:Ty) (ho:(Tr.mk 2 0 v [a,b]).Ok) (iha:∀ h,CC 89 [.agg a.cs] h (.ret (.ref h.length 0 1)) (h++layL h.length x)) (ihb:∀ h,∃ X,CC 89 [.agg b.cs] h (.pan (wrong 15)) (h++X)) (h:Heap):∃ X,CC 89 [.agg (Tr.mk 2 0 v [a,b]).cs] h (.pan (wrong 15)) (h++X):=by
 obtain ⟨_,_,hv,hl⟩:=ho.inv
 have hlv:=len_tr hv
 have hm:=must_t 15
 rw [PC] at hm
 have i0:=idx_tr hv (i:=0) (by simp)
 have i1:=idx_tr hv (i:=1) (by simp)
 simp only [List.getElem_cons_zero,List.getElem_cons_succ,Int.natCast_zero,Int.natCast_one] at i0 i1
 have hca:=cells_tr (hl a (by simp))
 have hcb:=cells_tr (hl b (by simp))
 have hc1:=iha (h++[lobj 0 0 2 .nils])
 have l1:(h++[lobj 0 0 2 .nils]).length=h.length+1:=by simp
 rw [l1] at hc1
 have hlen:=layL_length (h.length+1) x
 have hcs:(Tr.mk 2 0 v [a,b]).cs=[.int .i64 2,.int .i64 0,v]:=rfl
 generalize hX:layL (h.length+1) x=X at *
 have e1:objCells (h++[lobj 0 0 2 .nils]) h.length=some (1,4,[.int .i64 0,.int .i64 0,.int .i64 2,.nils]):=by simp [objCells]
 have e2:objCells (h++[lobj 0 0 2 .nils]++X) h.length=some (1,4,[.int .i64 0,.int .i64 0,.int .i64 2,.nils]):=by simp [objCells]
 have n2:(h++[lobj 0 0 2 .nils]++X).length=h.length+1+objs x:=by simp [hlen]; omega
 have e3:objCells (h++[lobj 0 0 2 .nils]++X++[Am.Obj.cells 1 1 [.ref (h.length+1) 0 1]]) h.length=some (1,4,[.int .i64 0,.int .i64 0,.int .i64 2,.nils]):=by simp [objCells]
 have s3:(h++[lobj 0 0 2 .nils]++X++[Am.Obj.cells 1 1 [.ref (h.length+1) 0 1]]).set h.length (Am.Obj.cells 1 4 [.int .i64 0,.int .i64 0,.int .i64 2,.sl (h.length+1+objs x) 0 1 1 1 false]) =
  h++[lobj 0 0 2 (.sl (h.length+1+objs x) 0 1 1 1 false)]++X++[Am.Obj.cells 1 1 [.ref (h.length+1) 0 1]]:=by simp
 have e4:objCells (h++[lobj 0 0 2 (.sl (h.length+1+objs x) 0 1 1 1 false)]++X++[Am.Obj.cells 1 1 [.ref (h.length+1) 0 1]]) h.length=some (1,4,[.int .i64 0,.int .i64 0,.int .i64 2,.sl (h.length+1+objs x) 0 1 1 1 false]):=by simp [objCells]
 obtain ⟨Y,hc2⟩:=ihb (h++[lobj 0 0 2 (.sl (h.length+1+objs x) 0 1 1 1 false)]++X++[Am.Obj.cells 1 1 [.ref (h.length+1) 0 1]])
 refine ⟨[lobj 0 0 2 (.sl (h.length+1+objs x) 0 1 1 1 false)]++X++[Am.Obj.cells 1 1 [.ref (h.length+1) 0 1]]++Y,?_⟩
 rw [show h++([lobj 0 0 2 (.sl (h.length+1+objs x) 0 1 1 1 false)]++X++[Am.Obj.cells 1 1 [.ref (h.length+1) 0 1]]++Y)=h++[lobj 0 0 2 (.sl (h.length+1+objs x) 0 1 1 1 false)]++X++[Am.Obj.cells 1 1 [.ref (h.length+1) 0 1]]++Y by simp]
 refine CallP.eq (call_ofQ (af:=Trnz.a89) rfl rfl fun Q hQ => ?_)
 generalize hH1:h++[lobj 0 0 2 .nils]=H1 at *
 generalize hH2:H1++X=H2 at *
 generalize hH3:H2++[Am.Obj.cells 1 1 [V.ref (h.length+1) 0 1]]=H3 at *
 generalize hH4:h++[lobj 0 0 2 (.sl (h.length+1+objs x) 0 1 1 1 false)]++X++[Am.Obj.cells 1 1 [.ref (h.length+1) 0 1]]=H4 at *
 have room1:(8:Nat)≤room:=by simp [room]
 simp only [Trnz.a89]
 simp [hcs,hv.cell,hlv,gl1,hm,fill,slotOf,-pcall]
 refine loop_nQ 2 (fun i c=>(i=0∧c=⟨[.agg [.int .i64 2,.int .i64 0,v],.agg [.int .i64 2,.int .i64 0,v],.nilp,.ref h.length 0 1,.undef,v,.int .i64 2,.int .i64 0],[],none,none,H1⟩) ∨
  (i=1∧c=⟨[.agg [.int .i64 2,.int .i64 0,v],.agg [.int .i64 2,.int .i64 0,v],.nilp,.ref h.length 0 1,.agg a.cs,v,.int .i64 2,.int .i64 1],[],none,none,H4⟩)) ?_ (.inl ⟨rfl,by rw [← hH1]; rfl⟩)
 rintro I hI i c hi (⟨rfl,rfl⟩ | ⟨rfl,rfl⟩)
 ·have hwr:IntKind.i64.wrap 1=1:=rfl
  simp [hv.cell,i0,e1,e2,e3,n2,s3,hc1,hca,storeV,appV,sliceLen,sliceCells,fill,room1,hH2,hH3,hwr,slotOf,-pcall,-List.all_eq_true]
  exact hI _ _ (.inr ⟨rfl,rfl⟩)
 ·simp [hv.cell,i1,e4,hc2,hcb,slotOf,forget,AOper.writes,-pcall,-List.all_eq_true]
  exact hQ _ _ ⟨rfl,rfl⟩
theorem of_fst3 (v:V) (a b:Tr) (ho:(Tr.mk 3 0 v [a,b]).Ok) (iha:∀ h,∃ X,CC 89 [.agg a.cs] h (.pan (wrong 15)) (h++X)) (h:Heap):∃ X,CC 89 [.agg (Tr.mk 3 0 v [a,b]).cs] h (.pan (wrong 15)) (h++X):=by
 obtain ⟨_,_,hv,hl⟩:=ho.inv
 have hlv:=len_tr hv
 have hm:=must_t 15
 rw [PC] at hm
 have i0:=idx_tr hv (i:=0) (by simp)
 simp only [List.getElem_cons_zero,Int.natCast_zero] at i0
 have hcc:=cells_tr (hl a (by simp))
 obtain ⟨X,hc⟩:=iha (h++[lobj 0 0 3 .nils])
 have e1:objCells (h++[lobj 0 0 3 .nils]) h.length=some (1,4,[.int .i64 0,.int .i64 0,.int .i64 3,.nils]):=by simp [objCells]
 refine ⟨[lobj 0 0 3 .nils]++X,?_⟩
 rw [← List.append_assoc]
 have hcs:(Tr.mk 3 0 v [a,b]).cs=[.int .i64 3,.int .i64 0,v]:=rfl
 refine CallP.eq (call_ofQ (af:=Trnz.a89) rfl rfl fun Q hQ => ?_)
 generalize hH1:h++[lobj 0 0 3 .nils]=H1 at *
 simp only [Trnz.a89]
 simp [hcs,hv.cell,hlv,gl1,hm,fill,slotOf,-pcall]
 refine loop_nQ 2 (fun i c=>i=0∧c=⟨[.agg [.int .i64 3,.int .i64 0,v],.agg [.int .i64 3,.int .i64 0,v],.nilp,.ref h.length 0 1,.undef,v,.int .i64 2,.int .i64 0],[],none,none,H1⟩) ?_ ⟨rfl,by rw [← hH1]; rfl⟩
 rintro I hI i c hi ⟨rfl,rfl⟩
 simp [hv.cell,i0,e1,hc,hcc,slotOf,forget,AOper.writes,-pcall,-List.all_eq_true]
 exact hQ _ _ ⟨rfl,rfl⟩
theorem of_snd3 (v:V) (a b:Tr) (x:Ty) (ho:(Tr.mk 3 0 v [a,b]).Ok) (iha:∀ h,CC 89 [.agg a.cs] h (.ret (.ref h.length 0 1)) (h++layL h.length x)) (ihb:∀ h,∃ X,CC 89 [.agg b.cs] h (.pan (wrong 15)) (h++X)) (h:Heap):∃ X,CC 89 [.agg (Tr.mk 3 0 v [a,b]).cs] h (.pan (wrong 15)) (h++X):=by
 obtain ⟨_,_,hv,hl⟩:=ho.inv
 have hlv:=len_tr hv
 have hm:=must_t 15
 rw [PC] at hm
 have i0:=idx_tr hv (i:=0) (by simp)
 have i1:=idx_tr hv (i:=1) (by simp)
 simp only [List.getElem_cons_zero,List.getElem_cons_succ,Int.natCast_zero,Int.natCast_one] at i0 i1
 have hca:=cells_tr (hl a (by simp))
 have hcb:=cells_tr (hl b (by simp))
 have hc1:=iha (h++[lobj 0 0 3 .nils])
 have l1:(h++[lobj 0 0 3 .nils]).length=h.length+1:=by simp
 rw [l1] at hc1
 have hlen:=layL_length (h.length+1) x
 have hcs:(Tr.mk 3 0 v [a,b]).cs=[.int .i64 3,.int .i64 0,v]:=rfl
 generalize hX:layL (h.length+1) x=X at *
 have e1:objCells (h++[lobj 0 0 3 .nils]) h.length=some (1,4,[.int .i64 0,.int .i64 0,.int .i64 3,.nils]):=by simp [objCells]
 have e2:objCells (h++[lobj 0 0 3 .nils]++X) h.length=some (1,4,[.int .i64 0,.int .i64 0,.int .i64 3,.nils]):=by simp [objCells]
 have n2:(h++[lobj 0 0 3 .nils]++X).length=h.length+1+objs x:=by simp [hlen]; omega
 have e3:objCells (h++[lobj 0 0 3 .nils]++X++[Am.Obj.cells 1 1 [.ref (h.length+1) 0 1]]) h.length=some (1,4,[.int .i64 0,.int .i64 0,.int .i64 3,.nils]):=by simp [objCells]
 have s3:(h++[lobj 0 0 3 .nils]++X++[Am.Obj.cells 1 1 [.ref (h.length+1) 0 1]]).set h.length (Am.Obj.cells 1 4 [.int .i64 0,.int .i64 0,.int .i64 3,.sl (h.length+1+objs x) 0 1 1 1 false]) =
  h++[lobj 0 0 3 (.sl (h.length+1+objs x) 0 1 1 1 false)]++X++[Am.Obj.cells 1 1 [.ref (h.length+1) 0 1]]:=by simp
 have e4:objCells (h++[lobj 0 0 3 (.sl (h.length+1+objs x) 0 1 1 1 false)]++X++[Am.Obj.cells 1 1 [.ref (h.length+1) 0 1]]) h.length=some (1,4,[.int .i64 0,.int .i64 0,.int .i64 3,.sl (h.length+1+objs x) 0 1 1 1 false]):=by simp [objCells]
 obtain ⟨Y,hc2⟩:=ihb (h++[lobj 0 0 3 (.sl (h.length+1+objs x) 0 1 1 1 false)]++X++[Am.Obj.cells 1 1 [.ref (h.length+1) 0 1]])
 refine ⟨[lobj 0 0 3 (.sl (h.length+1+objs x) 0 1 1 1 false)]++X++[Am.Obj.cells 1 1 [.ref (h.length+1) 0 1]]++Y,?_⟩
 rw [show h++([lobj 0 0 3 (.sl (h.length+1+objs x) 0 1 1 1 false)]++X++[Am.Obj.cells 1 1 [.ref (h.length+1) 0 1]]++Y)=h++[lobj 0 0 3 (.sl (h.length+1+objs x) 0 1 1 1 false)]++X++[Am.Obj.cells 1 1 [.ref (h.length+1) 0 1]]++Y by simp]
 refine CallP.eq (call_ofQ (af:=Trnz.a89) rfl rfl fun Q hQ => ?_)
 generalize hH1:h++[lobj 0 0 3 .nils]=H1 at *
 generalize hH2:H1++X=H2 at *
 generalize hH3:H2++[Am.Obj.cells 1 1 [V.ref (h.length+1) 0 1]]=H3 at *
 generalize hH4:h++[lobj 0 0 3 (.sl (h.length+1+objs x) 0 1 1 1 false)]++X++[Am.Obj.cells 1 1 [.ref (h.length+1) 0 1]]=H4 at *
 have room1:(8:Nat)≤room:=by simp [room]
 simp only [Trnz.a89]
 simp [hcs,hv.cell,hlv,gl1,hm,fill,slotOf,-pcall]
 refine loop_nQ 2 (fun i c=>(i=0∧c=⟨[.agg [.int .i64 3,.int .i64 0,v],.agg [.int .i64 3,.int .i64 0,v],.nilp,.ref h.length 0 1,.undef,v,.int .i64 2,.int .i64 0],[],none,none,H1⟩) ∨
  (i=1∧c=⟨[.agg [.int .i64 3,.int .i64 0,v],.agg [.int .i64 3,.int .i64 0,v],.nilp,.ref h.length 0 1,.agg a.cs,v,.int .i64 2,.int .i64 1],[],none,none,H4⟩)) ?_ (.inl ⟨rfl,by rw [← hH1]; rfl⟩)
 rintro I hI i c hi (⟨rfl,rfl⟩ | ⟨rfl,rfl⟩)
 ·have hwr:IntKind.i64.wrap 1=1:=rfl
  simp [hv.cell,i0,e1,e2,e3,n2,s3,hc1,hca,storeV,appV,sliceLen,sliceCells,fill,room1,hH2,hH3,hwr,slotOf,-pcall,-List.all_eq_true]
  exact hI _ _ (.inr ⟨rfl,rfl⟩)
 ·simp [hv.cell,i1,e4,hc2,hcb,slotOf,forget,AOper.writes,-pcall,-List.all_eq_true]
  exact hQ _ _ ⟨rfl,rfl⟩
theorem of_bad:∀ t:Tr,t.Ok→t.nodes<2 ^ 50→(¬ ∃ τ,IsTy t τ)→∀ h:Heap,∃ X,CC 89 [.agg t.cs] h (.pan (wrong 15)) (h++X):=by
 intro t
 induction t using Tr.ind with
 | h k n v l ih =>
 intro ho hn hb h
 by_cases hs:n=0∧(l.length:Int)=partsK k
 case neg=>exact ⟨[],by rw [List.append_nil]; exact of_shape k n v l ho hs h⟩
 obtain ⟨rfl,hlen⟩:=hs
 obtain ⟨_,_,_,hl⟩:=ho.inv
 simp only [Tr.nodes] at hn
 have hx:∃ x∈l,¬ ∃ τ,IsTy x τ:=by
  apply Classical.byContradiction
  intro hc
  refine hb (isTy_iff.2 ⟨rfl,hlen,fun x hx => ?_⟩)
  apply Classical.byContradiction
  exact fun h'=>hc ⟨x,hx,h'⟩
 have go:∀ x∈l,(¬ ∃ τ,IsTy x τ)→∀ h,∃ X,CC 89 [.agg x.cs] h (.pan (wrong 15)) (h++X):=fun x hx hbx=>ih x hx (hl x hx) (by have:=Tr.nodesL_mem hx; omega) hbx
 have good:∀ x∈l,∀ τ,IsTy x τ→∀ h,CC 89 [.agg x.cs] h (.ret (.ref h.length 0 1)) (h++layL h.length τ):=fun x hx τ hτ=>of_q hτ (hl x hx) (by rw [← hτ.nodes]; have:=Tr.nodesL_mem hx; omega)
 have two:∀ a b:Tr,l=[a,b]→(¬ ∃ τ,IsTy a τ)∨∃ τ,IsTy a τ∧¬ ∃ τ,IsTy b τ:=by
  rintro a b rfl
  by_cases ha:∃ τ,IsTy a τ
  ·obtain ⟨τ,hτ⟩:=ha
   right
   refine ⟨τ,hτ,fun hb' => ?_⟩
   obtain ⟨x,hx,hxx⟩:=hx
   simp only [List.mem_cons,List.not_mem_nil,or_false] at hx
   rcases hx with rfl | rfl
   ·exact hxx ⟨τ,hτ⟩
   ·exact hxx hb'
  ·exact .inl ha
 unfold partsK at hlen
 split at hlen
 ·rename_i hk
  subst hk
  match l,hlen,hx with
  | [],_,⟨x,hx,_⟩=>cases hx
 split at hlen
 ·rename_i hk
  subst hk
  match l,hlen,hx with
  | [],_,⟨x,hx,_⟩=>cases hx
 split at hlen
 ·rename_i hk
  subst hk
  match l,hlen with
  | [a,b],_ =>
   rcases two a b rfl with ha | ⟨τ,ha,hb'⟩
   ·exact of_fst2 v a b ho (go a (by simp) ha) h
   ·exact of_snd2 v a b τ ho (good a (by simp) τ ha) (go b (by simp) hb') h
 split at hlen
 ·rename_i hk
  subst hk
  match l,hlen with
  | [a,b],_ =>
   rcases two a b rfl with ha | ⟨τ,ha,hb'⟩
   ·exact of_fst3 v a b ho (go a (by simp) ha) h
   ·exact of_snd3 v a b τ ho (good a (by simp) τ ha) (go b (by simp) hb') h
 split at hlen
 ·rename_i hk
  subst hk
  match l,hlen,hx with
  | [a],_,⟨x,hx,hxx⟩ =>
   rw [List.mem_singleton] at hx
   subst hx
   exact of_one v x ho (go x (by simp) hxx) h
 ·omega
theorem asked_bad (t:Tr) (ho:t.Ok) (hn:t.nodes<2 ^ 50) {e:Int} (he:e=3∨e=15) (ht:tyErr t=e) (h:Heap):∃ X,CC 49 [.agg t.cs] h (.pan (wrong e)) (h++X):=by
 have hs:=small_q t ho
 rw [PC] at hs
 have hcc:=cells_tr ho
 unfold tyErr at ht
 by_cases hsm:t.nodes≤60∧t.levels≤12
 ·rw [if_neg (by omega)] at ht
  have hb:¬ ∃ τ,IsTy t τ:=by
   intro hb
   rw [if_pos hb] at ht
   omega
  rw [if_neg hb] at ht
  subst ht
  rw [decide_eq_true hsm] at hs
  obtain ⟨X,hc⟩:=of_bad t ho hn hb h
  have hm:=must_t 3
  rw [PC] at hm
  refine ⟨X,CallP.eq (call_ofQ (af:=Trnz.a49) rfl rfl fun Q hQ => ?_)⟩
  simp only [Trnz.a49]
  simp [hcc,hs,hm,hc,slotOf,-pcall,-List.all_eq_true]
  exact hQ _ _ ⟨rfl,rfl⟩
 ·rw [if_pos (by omega)] at ht
  subst ht
  rw [decide_eq_false hsm] at hs
  have hm:=must_f 3
  refine ⟨[],CallP.eq (call_ofQ (af:=Trnz.a49) rfl rfl fun Q hQ => ?_)⟩
  simp only [Trnz.a49]
  simp [hcc,hs,hm,slotOf,-pcall,-List.all_eq_true]
  exact hQ _ _ ⟨rfl,by simp⟩
theorem asked_q {t:Tr} {τ:Ty} (hτ:IsTy t τ) (ho:t.Ok) (h1:τ.size≤60) (h2:τ.deep≤12) (h:Heap):CC 49 [.agg t.cs] h (.ret (.ref h.length 0 1)) (h++layL h.length τ):=by
 have hs:=small_q t ho
 rw [PC,decide_eq_true ⟨by rw [hτ.nodes]; omega,by rw [hτ.levels]; omega⟩] at hs
 have hcc:=cells_tr ho
 have hm:=must_t 3
 rw [PC] at hm
 have hc:=of_q hτ ho (by omega) h
 refine CallP.eq (call_ofQ (af:=Trnz.a49) rfl rfl fun Q hQ => ?_)
 simp only [Trnz.a49]
 simp [hcc,hs,hm,hc,slotOf,-pcall,-List.all_eq_true]
 exact hQ _ _ ⟨rfl,rfl⟩
theorem caught_none (p:Nat) (h:Heap):(lim gl Trnz.aprog).dcall 48 [.ref p 0 1] none h=some (none,h):=by
 refine dcall_of (af:=Trnz.a48) rfl rfl ?_
 simp only [Trnz.a48]
 simp [slotOf]
theorem caught_wrong (p:Nat) (e u:Int) (h:Heap) (hp:h[p]?=some (.cells 1 1 [.int .i64 u])):(lim gl Trnz.aprog).dcall 48 [.ref p 0 1] (some (wrong e)) h=some (none,h.set p (.cells 1 1 [.int .i64 e])):=by
 have o:=objCells_of hp
 refine dcall_of (af:=Trnz.a48) rfl rfl ?_
 simp only [Trnz.a48]
 simp [o,storeV,slotOf]
end Go.Proofs.Nst
set_option maxRecDepth 100000
namespace Go.Proofs.Nst
open Go Go.Am
def i (n:Int):V:=.int .i64 n
def e0:TE:=⟨50,[(.ref 1 0 1),(i 2),(.sv [[(.sv [[(i 0)],[(i 3)]] false)],[(.sv [[(i 3)],[(i 1)]] false)],[(.sv [[(i 0)],[(i 2)],[(i 2)],[(i 3)]] false)],[(.sv [[(i 2)],[(i 0)],[(i 1)],[(i 1)]] false)],[(.sv [[(i 5)],[(i 6)],[(i 7)],[(i 8)]] false)]] false)],[(.cells 1 1 [(i 0)]),(.cells 1 4 [(i 2),(i 3),(i 4),(.sl 5 0 1 1 1 false)]),(.cells 1 4 [(i 2),(i 1),(i 4),(.sl 4 0 1 1 1 false)]),(.cells 1 4 [(i 1),(i 0),(i 1),.nils]),(.cells 1 1 [(.ref 3 0 1)]),(.cells 1 1 [(.ref 2 0 1)])],(.ret (.sv [[(i 4),(i 0),(.sv [[(i 4),(i 0),(.sv [[(i 1),(i 5),.nils],[(i 1),(i 6),.nils]] false)],[(i 4),(i 0),.nils],[(i 4),(i 0),(.sv [[(i 1),(i 7),.nils]] false)]] false)],[(i 4),(i 0),(.sv [[(i 4),(i 0),(.sv [[(i 1),(i 8),.nils]] false)]] false)]] false)),[(.cells 1 1 [(i 0)]),(.cells 1 4 [(i 2),(i 3),(i 4),(.sl 5 0 1 1 1 false)]),(.cells 1 4 [(i 2),(i 1),(i 4),(.sl 4 0 1 1 1 false)]),(.cells 1 4 [(i 1),(i 0),(i 1),.nils]),(.cells 1 1 [(.ref 3 0 1)]),(.cells 1 1 [(.ref 2 0 1)]),(.cells 1 1 [(i 2)]),(.cells 1 1 [(.sv [[(.sv [[(i 0)],[(i 3)]] false)],[(.sv [[(i 3)],[(i 1)]] false)],[(.sv [[(i 0)],[(i 2)],[(i 2)],[(i 3)]] false)],[(.sv [[(i 2)],[(i 0)],[(i 1)],[(i 1)]] false)],[(.sv [[(i 5)],[(i 6)],[(i 7)],[(i 8)]] false)]] false)]),(.cells 1 3 [(.ref 1 0 1),(i 0),(i 2)]),(.loop 10500 [(.ref 7 0 1)] .exhausted none),(.cells 1 1 [(.yf 9)]),(.cells 1 1 [(.func (.func 120) [] [(.ref 10 0 1),(.ref 11 0 1)])]),(.map [((.agg [(.ref 3 0 1),(i 0)]),(i 1)),((.agg [(.ref 3 0 1),(i 1)]),(i 1)),((.agg [(.ref 2 0 1),(i 0)]),(i 3)),((.agg [(.ref 2 0 1),(i 1)]),(i 1)),((.agg [(.ref 3 0 1),(i 2)]),(i 1)),((.agg [(.ref 2 0 1),(i 2)]),(i 2)),((.agg [(.ref 1 0 1),(i 0)]),(i 7)),((.agg [(.ref 3 0 1),(i 3)]),(i 1)),((.agg [(.ref 2 0 1),(i 3)]),(i 2)),((.agg [(.ref 1 0 1),(i 1)]),(i 3))]),(.cells 1 2 [(.sv [[(.sv [[(i 0)],[(i 3)]] false)],[(.sv [[(i 3)],[(i 1)]] false)],[(.sv [[(i 0)],[(i 2)],[(i 2)],[(i 3)]] false)],[(.sv [[(i 2)],[(i 0)],[(i 1)],[(i 1)]] false)],[(.sv [[(i 5)],[(i 6)],[(i 7)],[(i 8)]] false)]] false),(.map 12)]),(.cells 1 1 [(i 7)]),(.cells 1 1 [(i 3)]),(.cells 1 1 [(i 1)]),(.cells 1 1 [(i 1)]),(.cells 1 1 [(i 1)]),(.cells 1 1 [(i 2)]),(.cells 1 1 [(i 1)]),(.cells 1 1 [(i 3)]),(.cells 1 1 [(i 2)]),(.cells 1 1 [(i 1)]),.gone]⟩
theorem k0:e0.ok gl Trnz.aprog:=tbl_run (tbl:=[]) (n:=500) tblNil (by kernel_rfl)
def e1:TE:=⟨17,[(.agg [(i 4),(i 0),(.sv [[(i 4),(i 0),(.sv [[(i 1),(i 0),.nils]] true)]] true)]),(i 2),(.sv [[(.sv [[(i 0)],[(i 3)]] false)],[(.sv [[(i 3)],[(i 1)]] false)],[(.sv [[(i 0)],[(i 2)],[(i 2)],[(i 3)]] false)],[(.sv [[(i 2)],[(i 0)],[(i 1)],[(i 1)]] false)],[(.sv [[(i 5)],[(i 6)],[(i 7)],[(i 8)]] false)]] false),(.sv [[(i 1)],[(i 0)],[(i 1)]] true)],[],(.ret (.tup [(.sv [[(.sv [[(i 3)],[(i 0)],[(i 3)]] false)],[(.sv [[(i 1)],[(i 3)],[(i 1)]] false)],[(.sv [[(i 0)],[(i 2)],[(i 2)],[(i 3)]] false)],[(.sv [[(i 2)],[(i 0)],[(i 1)],[(i 1)]] false)],[(.sv [[(i 5)],[(i 6)],[(i 7)],[(i 8)]] false)]] false),(i 0)])),[(.cells 1 1 [(i 2)]),(.cells 1 1 [(i 0)]),(.cells 1 4 [(i 2),(i 3),(i 4),(.sl 6 0 1 1 1 false)]),(.cells 1 4 [(i 2),(i 1),(i 4),(.sl 5 0 1 1 1 false)]),(.cells 1 4 [(i 1),(i 0),(i 1),.nils]),(.cells 1 1 [(.ref 4 0 1)]),(.cells 1 1 [(.ref 3 0 1)]),.gone,.gone,.gone]⟩
theorem k1:e1.ok gl Trnz.aprog:=tbl_run (tbl:=[]) (n:=500) tblNil (by kernel_rfl)
def e2:TE:=⟨19,[(.agg [(i 4),(i 0),(.sv [[(i 4),(i 0),(.sv [[(i 1),(i 0),.nils]] true)]] true)]),(i 1),(.sv [[(.sv [[(i 0)]] false)],[(.sv [[(i 1)]] false)],[(.sv [[(i 0)]] false)],[(.sv [[(i 1)]] false)],[(.sv [[(i 8)]] false)]] false),(i 1),(.sv [[(.sv [[(i 0)]] false)],[(.sv [[(i 3)]] false)],[(.sv [[(i 0)],[(i 2)],[(i 2)]] false)],[(.sv [[(i 2)],[(i 0)],[(i 1)]] false)],[(.sv [[(i 5)],[(i 6)],[(i 7)]] false)]] false)],[],(.ret (.tup [(.sl 8 0 5 5 1 false),(i 0)])),[(.cells 1 1 [(.sv [[(.sv [[(i 0)]] false)],[(.sv [[(i 1)]] false)],[(.sv [[(i 0)]] false)],[(.sv [[(i 1)]] false)],[(.sv [[(i 8)]] false)]] false)]),(.cells 1 1 [(.sv [[(.sv [[(i 0)]] false)],[(.sv [[(i 3)]] false)],[(.sv [[(i 0)],[(i 2)],[(i 2)]] false)],[(.sv [[(i 2)],[(i 0)],[(i 1)]] false)],[(.sv [[(i 5)],[(i 6)],[(i 7)]] false)]] false)]),(.cells 1 1 [(i 0)]),(.cells 1 4 [(i 2),(i 3),(i 4),(.sl 7 0 1 1 1 false)]),(.cells 1 4 [(i 2),(i 1),(i 4),(.sl 6 0 1 1 1 false)]),(.cells 1 4 [(i 1),(i 0),(i 1),.nils]),(.cells 1 1 [(.ref 5 0 1)]),(.cells 1 1 [(.ref 4 0 1)]),(.cells 5 1 [(.sl 10 0 2 2 1 false),(.sl 11 0 2 2 1 false),(.sl 12 0 4 4 1 false),(.sl 13 0 4 4 1 false),(.sl 14 0 4 4 1 false)]),(.cells 1 1 [(.sl 8 0 5 5 1 false)]),(.cells 2 1 [(i 0),(i 1)]),(.cells 2 1 [(i 1),(i 3)]),(.cells 4 1 [(i 0),(i 1),(i 3),(i 3)]),(.cells 4 1 [(i 1),(i 2),(i 0),(i 1)]),(.cells 4 1 [(i 8),(i 5),(i 6),(i 7)]),(.cells 1 1 [(.func (.func 70) [] [(.ref 1 0 1),(.ref 9 0 1),(.ref 0 0 1),(.ref 15 0 1)])])]⟩
theorem k2:e2.ok gl Trnz.aprog:=tbl_run (tbl:=[]) (n:=500) tblNil (by kernel_rfl)
def e3:TE:=⟨9,[(.agg [(i 4),(i 0),(.sv [[(i 1),(i 0),.nils]] true)]),(i 3),(.sv [[(.sv [[(i 1)],[(i 1)],[(i 0)]] true)],[(.sv [[(i 2)],[(i 1)],[(i 0)]] true)],[(.sv [[(i 7)],[(i 8)],[(i 9)]] true)]] true)],[],(.ret (.tup [(.sv [[(i 4),(i 0),(.sv [[(i 1),(i 8),.nils],[(i 1),(i 9),.nils]] false)],[(i 4),(i 0),(.sv [[(i 1),(i 8),.nils]] false)],[(i 4),(i 0),.nils]] false),(i 0)])),[(.cells 1 1 [(i 0)]),(.cells 1 4 [(i 2),(i 1),(i 4),(.sl 3 0 1 1 1 false)]),(.cells 1 4 [(i 1),(i 0),(i 1),.nils]),(.cells 1 1 [(.ref 2 0 1)])]⟩
theorem k3:e3.ok gl Trnz.aprog:=tbl_run (tbl:=[]) (n:=500) tblNil (by kernel_rfl)
def e4:TE:=⟨46,[(.agg [(i 4),(i 0),(.sv [[(i 4),(i 0),(.sv [[(i 1),(i 5),.nils],[(i 1),(i 6),.nils]] true)],[(i 4),(i 0),.nils],[(i 4),(i 0),(.sv [[(i 1),(i 7),.nils]] true)]] true)]),(.agg [(i 4),(i 0),(.sv [[(i 4),(i 0),(.sv [[(i 1),(i 0),.nils]] true)]] true)])],[],(.ret (i 0)),[(.cells 1 1 [(i 0)]),(.cells 1 4 [(i 2),(i 3),(i 4),(.sl 5 0 1 1 1 false)]),(.cells 1 4 [(i 2),(i 1),(i 4),(.sl 4 0 1 1 1 false)]),(.cells 1 4 [(i 1),(i 0),(i 1),.nils]),(.cells 1 1 [(.ref 3 0 1)]),(.cells 1 1 [(.ref 2 0 1)])]⟩
theorem k4:e4.ok gl Trnz.aprog:=tbl_run (tbl:=[]) (n:=500) tblNil (by kernel_rfl)
def e5:TE:=⟨31,[(.agg [(i 3),(i 0),(.sv [[(i 1),(i 0),.nils],[(i 4),(i 0),(.sv [[(i 1),(i 0),.nils]] true)]] true)]),(.sv [[(i 3),(i 0),(.sv [[(i 1),(i 4),.nils]] true)],[(i 3),(i 1),(.sv [[(i 4),(i 0),(.sv [[(i 1),(i 1),.nils],[(i 1),(i 2),.nils]] true)]] true)],[(i 3),(i 1),(.sv [[(i 4),(i 0),.nils]] true)]] true)],[],(.ret (.tup [(.sv [[(.sv [[(i 0)],[(i 1)],[(i 1)]] false)],[(.sv [[(i 4)],[(i 0)],[(i 0)]] false)],[(.sv [[(i 0)],[(i 0)],[(i 2)]] false)],[(.sv [[(i 0)],[(i 2)],[(i 0)]] false)],[(.sv [[(i 1)],[(i 2)]] false)]] false),(i 0)])),[(.cells 1 1 [(i 0)]),(.cells 1 4 [(i 4),(i 1),(i 3),(.sl 3 0 2 2 1 false)]),(.cells 1 4 [(i 1),(i 0),(i 1),.nils]),(.cells 2 1 [(.ref 2 0 1),(.ref 4 0 1)]),(.cells 1 4 [(i 2),(i 1),(i 4),(.sl 6 0 1 1 1 false)]),(.cells 1 4 [(i 1),(i 0),(i 1),.nils]),(.cells 1 1 [(.ref 5 0 1)]),(.cells 3 1 [(.pv [(i 3),(i 0),(.sv [[(i 1),(i 4),.nils]] true)]),(.pv [(i 3),(i 1),(.sv [[(i 4),(i 0),(.sv [[(i 1),(i 1),.nils],[(i 1),(i 2),.nils]] true)]] true)]),(.pv [(i 3),(i 1),(.sv [[(i 4),(i 0),.nils]] true)])]),(.cells 1 1 [(.ref 1 0 1)]),(.cells 1 1 [(.sl 7 0 3 3 1 false)]),.gone,(.cells 1 1 [(i 0)]),.gone,(.cells 1 1 [(.ref 2 0 1)]),(.cells 1 1 [(.sv [[(.pv [(i 1),(i 4),.nils])],[.nilp],[.nilp]] false)]),.gone,(.cells 1 1 [(i 1)]),.gone,(.cells 1 1 [(.ref 4 0 1)]),(.cells 1 1 [(.sv [[.nilp],[(.pv [(i 4),(i 0),(.sv [[(i 1),(i 1),.nils],[(i 1),(i 2),.nils]] true)])],[(.pv [(i 4),(i 0),.nils])]] false)]),(.cells 1 1 [(.sl 22 0 2 2 1 false)]),.gone,(.cells 2 1 [(.pv [(i 1),(i 1),.nils]),(.pv [(i 1),(i 2),.nils])]),.gone,(.cells 1 1 [(.ref 5 0 1)]),(.cells 1 1 [(.sl 22 0 2 2 1 false)]),.gone]⟩
theorem k5:e5.ok gl Trnz.aprog:=tbl_run (tbl:=[]) (n:=500) tblNil (by kernel_rfl)
def e6:TE:=⟨47,[(.agg [(i 4),(i 0),(.sv [[(i 4),(i 0),(.sv [[(i 1),(i 5),.nils],[(i 1),(i 6),.nils]] true)],[(i 4),(i 0),.nils],[(i 4),(i 0),(.sv [[(i 1),(i 7),.nils]] true)]] true)])],[],(.ret (.bool true)),[(.cells 1 1 [(.func (.func 84) [] [(.ref 0 0 1)])]),(.cells 1 1 [(i 12)]),(.cells 1 1 [(i 11)]),(.cells 1 1 [(i 10)]),(.cells 1 1 [(i 10)]),(.cells 1 1 [(i 11)]),(.cells 1 1 [(i 11)]),(.cells 1 1 [(i 10)])]⟩
theorem k6:e6.ok gl Trnz.aprog:=tbl_run (tbl:=[]) (n:=500) tblNil (by kernel_rfl)
def e7:TE:=⟨31,[(.agg [(i 4),(i 0),(.sv [[(i 4),(i 0),(.sv [[(i 1),(i 0),.nils]] true)]] true)]),(.sv [[(i 4),(i 0),(.sv [[(i 4),(i 0),(.sv [[(i 1),(i 5),.nils],[(i 1),(i 6),.nils]] true)],[(i 4),(i 0),.nils],[(i 4),(i 0),(.sv [[(i 1),(i 7),.nils]] true)]] true)],[(i 4),(i 0),(.sv [[(i 4),(i 0),(.sv [[(i 1),(i 8),.nils]] true)]] true)]] true)],[],(.ret (.tup [(.sv [[(.sv [[(i 0)],[(i 3)]] false)],[(.sv [[(i 3)],[(i 1)]] false)],[(.sv [[(i 0)],[(i 2)],[(i 2)],[(i 3)]] false)],[(.sv [[(i 2)],[(i 0)],[(i 1)],[(i 1)]] false)],[(.sv [[(i 5)],[(i 6)],[(i 7)],[(i 8)]] false)]] false),(i 0)])),[(.cells 1 1 [(i 0)]),(.cells 1 4 [(i 2),(i 3),(i 4),(.sl 5 0 1 1 1 false)]),(.cells 1 4 [(i 2),(i 1),(i 4),(.sl 4 0 1 1 1 false)]),(.cells 1 4 [(i 1),(i 0),(i 1),.nils]),(.cells 1 1 [(.ref 3 0 1)]),(.cells 1 1 [(.ref 2 0 1)]),(.cells 2 1 [(.pv [(i 4),(i 0),(.sv [[(i 4),(i 0),(.sv [[(i 1),(i 5),.nils],[(i 1),(i 6),.nils]] true)],[(i 4),(i 0),.nils],[(i 4),(i 0),(.sv [[(i 1),(i 7),.nils]] true)]] true)]),(.pv [(i 4),(i 0),(.sv [[(i 4),(i 0),(.sv [[(i 1),(i 8),.nils]] true)]] true)])]),(.cells 1 1 [(.ref 1 0 1)]),(.cells 1 1 [(.sl 6 0 2 2 1 false)]),(.cells 1 1 [(.sl 11 0 4 4 1 false)]),.gone,(.cells 4 1 [(.pv [(i 4),(i 0),(.sv [[(i 1),(i 5),.nils],[(i 1),(i 6),.nils]] true)]),(.pv [(i 4),(i 0),.nils]),(.pv [(i 4),(i 0),(.sv [[(i 1),(i 7),.nils]] true)]),(.pv [(i 4),(i 0),(.sv [[(i 1),(i 8),.nils]] true)])]),.gone,(.cells 1 1 [(.ref 2 0 1)]),(.cells 1 1 [(.sl 11 0 4 4 1 false)]),(.cells 1 1 [(.sl 17 0 4 4 1 false)]),.gone,(.cells 4 1 [(.pv [(i 1),(i 5),.nils]),(.pv [(i 1),(i 6),.nils]),(.pv [(i 1),(i 7),.nils]),(.pv [(i 1),(i 8),.nils])]),.gone,(.cells 1 1 [(.ref 3 0 1)]),(.cells 1 1 [(.sl 17 0 4 4 1 false)]),.gone]⟩
theorem k7:e7.ok gl Trnz.aprog:=tbl_run (tbl:=[]) (n:=500) tblNil (by kernel_rfl)
def e8:TE:=⟨31,[(.agg [(i 4),(i 0),(.sv [[(i 4),(i 0),(.sv [[(i 1),(i 0),.nils]] true)]] true)]),(.sv [[(i 4),(i 0),(.sv [[(i 4),(i 0),(.sv [[(i 1),(i 5),.nils],[(i 1),(i 6),.nils]] true)],[(i 4),(i 0),.nils],[(i 4),(i 0),(.sv [[(i 1),(i 7),.nils]] true)]] true)]] true)],[],(.ret (.tup [(.sv [[(.sv [[(i 0)]] false)],[(.sv [[(i 3)]] false)],[(.sv [[(i 0)],[(i 2)],[(i 2)]] false)],[(.sv [[(i 2)],[(i 0)],[(i 1)]] false)],[(.sv [[(i 5)],[(i 6)],[(i 7)]] false)]] false),(i 0)])),[(.cells 1 1 [(i 0)]),(.cells 1 4 [(i 2),(i 3),(i 4),(.sl 5 0 1 1 1 false)]),(.cells 1 4 [(i 2),(i 1),(i 4),(.sl 4 0 1 1 1 false)]),(.cells 1 4 [(i 1),(i 0),(i 1),.nils]),(.cells 1 1 [(.ref 3 0 1)]),(.cells 1 1 [(.ref 2 0 1)]),(.cells 1 1 [(.pv [(i 4),(i 0),(.sv [[(i 4),(i 0),(.sv [[(i 1),(i 5),.nils],[(i 1),(i 6),.nils]] true)],[(i 4),(i 0),.nils],[(i 4),(i 0),(.sv [[(i 1),(i 7),.nils]] true)]] true)])]),(.cells 1 1 [(.ref 1 0 1)]),(.cells 1 1 [(.sl 6 0 1 1 1 false)]),(.cells 1 1 [(.sl 11 0 3 3 1 false)]),.gone,(.cells 3 1 [(.pv [(i 4),(i 0),(.sv [[(i 1),(i 5),.nils],[(i 1),(i 6),.nils]] true)]),(.pv [(i 4),(i 0),.nils]),(.pv [(i 4),(i 0),(.sv [[(i 1),(i 7),.nils]] true)])]),.gone,(.cells 1 1 [(.ref 2 0 1)]),(.cells 1 1 [(.sl 11 0 3 3 1 false)]),(.cells 1 1 [(.sl 17 0 3 3 1 false)]),.gone,(.cells 3 1 [(.pv [(i 1),(i 5),.nils]),(.pv [(i 1),(i 6),.nils]),(.pv [(i 1),(i 7),.nils])]),.gone,(.cells 1 1 [(.ref 3 0 1)]),(.cells 1 1 [(.sl 17 0 3 3 1 false)]),.gone]⟩
theorem k8:e8.ok gl Trnz.aprog:=tbl_run (tbl:=[]) (n:=500) tblNil (by kernel_rfl)
def e9:TE:=⟨12,[(.agg [(i 4),(i 0),(.sv [[(i 4),(i 0),(.sv [[(i 1),(i 0),.nils]] true)]] true)]),(i 2),(.sv [[(.sv [[(i 0)],[(i 3)]] false)],[(.sv [[(i 3)],[(i 1)]] false)],[(.sv [[(i 0)],[(i 2)],[(i 2)],[(i 3)]] false)],[(.sv [[(i 2)],[(i 0)],[(i 1)],[(i 1)]] false)],[(.sv [[(i 5)],[(i 6)],[(i 7)],[(i 8)]] false)]] false),(.sv [[(.sv [[(i 0)],[(i 3)]] false)],[(.sv [[(i 3)],[(i 1)]] false)],[(.sv [[(i 0)],[(i 2)],[(i 2)],[(i 3)]] false)],[(.sv [[(i 2)],[(i 0)],[(i 1)],[(i 1)]] false)],[(.sv [[(i 5)],[(i 6)],[(i 7)],[(i 8)]] false)]] false)],[],(.ret (.tup [(.bool true),(i 0)])),[(.cells 1 1 [(i 0)]),(.cells 1 4 [(i 2),(i 3),(i 4),(.sl 5 0 1 1 1 false)]),(.cells 1 4 [(i 2),(i 1),(i 4),(.sl 4 0 1 1 1 false)]),(.cells 1 4 [(i 1),(i 0),(i 1),.nils]),(.cells 1 1 [(.ref 3 0 1)]),(.cells 1 1 [(.ref 2 0 1)])]⟩
theorem k9:e9.ok gl Trnz.aprog:=tbl_run (tbl:=[e0]) (n:=500) (tblCons k0 tblNil) (by kernel_rfl)
def e10:TE:=⟨31,[(.agg [(i 4),(i 0),(.sv [[(i 4),(i 0),(.sv [[(i 1),(i 0),.nils]] true)]] true)]),(.sv [[(i 4),(i 0),(.sv [[(i 4),(i 0),(.sv [[(i 1),(i 8),.nils]] true)]] true)]] true)],[],(.ret (.tup [(.sv [[(.sv [[(i 0)]] false)],[(.sv [[(i 1)]] false)],[(.sv [[(i 0)]] false)],[(.sv [[(i 1)]] false)],[(.sv [[(i 8)]] false)]] false),(i 0)])),[(.cells 1 1 [(i 0)]),(.cells 1 4 [(i 2),(i 3),(i 4),(.sl 5 0 1 1 1 false)]),(.cells 1 4 [(i 2),(i 1),(i 4),(.sl 4 0 1 1 1 false)]),(.cells 1 4 [(i 1),(i 0),(i 1),.nils]),(.cells 1 1 [(.ref 3 0 1)]),(.cells 1 1 [(.ref 2 0 1)]),(.cells 1 1 [(.pv [(i 4),(i 0),(.sv [[(i 4),(i 0),(.sv [[(i 1),(i 8),.nils]] true)]] true)])]),(.cells 1 1 [(.ref 1 0 1)]),(.cells 1 1 [(.sl 6 0 1 1 1 false)]),(.cells 1 1 [(.sl 11 0 1 1 1 false)]),.gone,(.cells 1 1 [(.pv [(i 4),(i 0),(.sv [[(i 1),(i 8),.nils]] true)])]),.gone,(.cells 1 1 [(.ref 2 0 1)]),(.cells 1 1 [(.sl 11 0 1 1 1 false)]),(.cells 1 1 [(.sl 17 0 1 1 1 false)]),.gone,(.cells 1 1 [(.pv [(i 1),(i 8),.nils])]),.gone,(.cells 1 1 [(.ref 3 0 1)]),(.cells 1 1 [(.sl 17 0 1 1 1 false)]),.gone]⟩
theorem k10:e10.ok gl Trnz.aprog:=tbl_run (tbl:=[]) (n:=500) tblNil (by kernel_rfl)
def e11:TE:=⟨14,[(.agg [(i 4),(i 0),(.sv [[(i 4),(i 0),(.sv [[(i 1),(i 0),.nils]] true)]] true)]),(i 2),(.sv [[(.sv [[(i 0)],[(i 3)]] false)],[(.sv [[(i 3)],[(i 1)]] false)],[(.sv [[(i 0)],[(i 2)],[(i 2)],[(i 3)]] false)],[(.sv [[(i 2)],[(i 0)],[(i 1)],[(i 1)]] false)],[(.sv [[(i 5)],[(i 6)],[(i 7)],[(i 8)]] false)]] false)],[],(.ret (.tup [(.sv [[(.sv [[(i 0)],[(i 3)]] false)],[(.sv [[(i 3)],[(i 1)]] false)],[(.sv [[(i 0)],[(i 2)],[(i 2)],[(i 3)]] false)],[(.sv [[(i 2)],[(i 0)],[(i 1)],[(i 1)]] false)],[(.sv [[(i 5)],[(i 6)],[(i 7)],[(i 8)]] false)]] false),(i 0)])),[(.cells 1 1 [(i 0)]),(.cells 1 4 [(i 2),(i 3),(i 4),(.sl 5 0 1 1 1 false)]),(.cells 1 4 [(i 2),(i 1),(i 4),(.sl 4 0 1 1 1 false)]),(.cells 1 4 [(i 1),(i 0),(i 1),.nils]),(.cells 1 1 [(.ref 3 0 1)]),(.cells 1 1 [(.ref 2 0 1)]),(.cells 2 1 [(.pv [(i 4),(i 0),(.sv [[(i 4),(i 0),(.sv [[(i 1),(i 5),.nils],[(i 1),(i 6),.nils]] false)],[(i 4),(i 0),.nils],[(i 4),(i 0),(.sv [[(i 1),(i 7),.nils]] false)]] false)]),(.pv [(i 4),(i 0),(.sv [[(i 4),(i 0),(.sv [[(i 1),(i 8),.nils]] false)]] false)])]),(.cells 1 1 [(.ref 1 0 1)]),(.cells 1 1 [(.sl 6 0 2 2 1 false)]),(.cells 1 1 [(.sl 11 0 4 4 1 false)]),.gone,(.cells 4 1 [(.pv [(i 4),(i 0),(.sv [[(i 1),(i 5),.nils],[(i 1),(i 6),.nils]] false)]),(.pv [(i 4),(i 0),.nils]),(.pv [(i 4),(i 0),(.sv [[(i 1),(i 7),.nils]] false)]),(.pv [(i 4),(i 0),(.sv [[(i 1),(i 8),.nils]] false)])]),.gone,(.cells 1 1 [(.ref 2 0 1)]),(.cells 1 1 [(.sl 11 0 4 4 1 false)]),(.cells 1 1 [(.sl 17 0 4 4 1 false)]),.gone,(.cells 4 1 [(.pv [(i 1),(i 5),.nils]),(.pv [(i 1),(i 6),.nils]),(.pv [(i 1),(i 7),.nils]),(.pv [(i 1),(i 8),.nils])]),.gone,(.cells 1 1 [(.ref 3 0 1)]),(.cells 1 1 [(.sl 17 0 4 4 1 false)]),.gone]⟩
theorem k11:e11.ok gl Trnz.aprog:=tbl_run (tbl:=[e0]) (n:=500) (tblCons k0 tblNil) (by kernel_rfl)
def e12:TE:=⟨8,[],[],(.ret (.bool true)),[]⟩
theorem k12:e12.ok gl Trnz.aprog:=tbl_run (tbl:=[e1,e2,e3,e4,e5,e6,e7,e8,e9,e10,e11]) (n:=500) (tblCons k1 (tblCons k2 (tblCons k3 (tblCons k4 (tblCons k5 (tblCons k6 (tblCons k7 (tblCons k8 (tblCons k9 (tblCons k10 (tblCons k11 tblNil))))))))))) (by kernel_rfl)
theorem held_q:PC 8 [] (.bool true):=by
 have h:=k12
 simp only [TE.ok,e12] at h
 simp [PC,pcall,callee,h,viewW,view1,viewV]
theorem ok_one {t:Tr} (k:Int) (hk:is64 k) (ht:t.Ok):(Tr.mk k 0 (.sv [t.cs] true) [t]).Ok :=
 .mk _ _ _ _ hk ⟨by omega,by omega⟩ (by simpa using SlV.sv true) (by simp [ht])
def chkE (τ:Ty) (w:Tr):Int:=if w.sized then (if isV τ w then 0 else 1) else 3
end Go.Proofs.Nst
