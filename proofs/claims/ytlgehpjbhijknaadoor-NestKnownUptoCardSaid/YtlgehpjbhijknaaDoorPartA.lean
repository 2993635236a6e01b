/- A part of the law's proof: PartA. -/
import Derived.Test.YtlgehpjbhijknaaDoorCoreD
import Derived.Test.YtlgehpjbhijknaaDoorFn
set_option linter.unusedVariables false
set_option linter.unusedSimpArgs false
namespace Go.Proofs.Nst
open Go Go.Am
def is64 (n:Int):Prop:=-9223372036854775808≤n∧n≤9223372036854775807
def gl:Nat→List V
 | 0=>[.int .i64 0,.int .i64 1,.int .i64 2,.int .i64 3,.int .i64 4]
 | 1=>[.int .i64 0,.int .i64 0,.int .i64 2,.int .i64 2,.int .i64 1]
 | 2=>[.func (.func 128) [] [],.func (.func 129) [] [],.func (.func 130) [] [],.func (.func 131) [] [],.func (.func 132) [] []]
 | _=>[]
theorem gl0:gl 0=[.int .i64 0,.int .i64 1,.int .i64 2,.int .i64 3,.int .i64 4]:=rfl
theorem gl1:gl 1=[.int .i64 0,.int .i64 0,.int .i64 2,.int .i64 2,.int .i64 1]:=rfl
theorem gl2:gl 2=[.func (.func 128) [] [],.func (.func 129) [] [],.func (.func 130) [] [],.func (.func 131) [] [],.func (.func 132) [] []]:=rfl
abbrev PC (f:Nat) (args:List V) (v:V):Prop:=pcall (lim gl Trnx.aprog) (.func (.func f) [] []) args=some (.val v)
abbrev CC (f:Nat) (args:List V) (h:Heap) (r:R) (h':Heap):Prop:=(lim gl Trnx.aprog).call f args h=some (r,h')
theorem pc_ofW {f:Nat} {args:List V} {v:V} (hp:pureL args=true) (hc:CallP gl Trnx.aprog f args [] (fun r h'=>∃ u,r = .ret u∧viewW 0 h' u=some v)):PC f args v:=by
 obtain ⟨r,h',e,u,rfl,hv⟩:=OptP.ex hc
 simp [PC,pcall,callee,hp,e,hv]
theorem pc_of {f:Nat} {args:List V} {v:V} (hp:pureL args=true) (hv:∀ h,viewW 0 h v=some v) (hc:CallP gl Trnx.aprog f args [] (fun r h'=>r = .ret v)):PC f args v :=
 pc_ofW hp (CallP.mono hc fun r h' e=>⟨v,e,hv h'⟩)
theorem pc_pan {f:Nat} {args:List V} {v:V} (hp:pureL args=true) (hv:pureV v=true) (hc:CallP gl Trnx.aprog f args [] (fun r h'=>r = .pan v)):pcall (lim gl Trnx.aprog) (.func (.func f) [] []) args=some (.pan v):=by
 obtain ⟨r,h',e,rfl⟩:=OptP.ex hc
 simp [pcall,callee,hp,e,hv]
inductive Tr where
 | mk (k n:Int) (v:V) (l:List Tr)
 deriving Inhabited
namespace Tr
def k:Tr→Int | mk k _ _ _=>k
def n:Tr→Int | mk _ n _ _=>n
def v:Tr→V | mk _ _ v _=>v
def l:Tr→List Tr | mk _ _ _ l=>l
def cs:Tr→List V | mk k n v _=>[.int .i64 k,.int .i64 n,v]
@[simp] theorem cs_length (t:Tr):t.cs.length=3:=by cases t; rfl
@[simp] theorem cs_take (t:Tr):t.cs.take 3=t.cs:=by cases t; rfl
theorem cs_eq (t:Tr):t.cs=[.int .i64 t.k,.int .i64 t.n,t.v]:=by cases t; rfl
inductive Ok:Tr→Prop
 | mk (k n:Int) (v:V) (l:List Tr) (hk:is64 k) (hn:is64 n) (hv:SlV (l.map cs) v) (hl:∀ x∈l,Ok x):Ok (.mk k n v l)
theorem Ok.inv {k n:Int} {v:V} {l:List Tr} (h:Ok (.mk k n v l)):is64 k∧is64 n∧SlV (l.map cs) v∧∀ x∈l,Ok x:=by
 cases h with
 | mk _ _ _ _ a b c d=>exact ⟨a,b,c,d⟩
theorem ind {P:Tr→Prop} (h:∀ k n v l,(∀ x∈l,P x)→P (.mk k n v l)):∀ t,P t
 | .mk k n v l=>h k n v l fun x hx=>ind h x
termination_by t=>SizeOf.sizeOf t
decreasing_by
 have:=List.sizeOf_lt_of_mem hx
 simp only [mk.sizeOf_spec]
 omega
mutual
def nodes:Tr→Nat
 | .mk _ _ _ l=>1+nodesL l
def nodesL:List Tr→Nat
 | []=>0
 | t :: ts=>nodes t+nodesL ts
end
mutual
def levels:Tr→Nat
 | .mk _ _ _ l=>levelsL l+1
def levelsL:List Tr→Nat
 | []=>0
 | t :: ts=>max (levels t) (levelsL ts)
end
theorem nodes_pos (t:Tr):1≤t.nodes:=by cases t; simp only [nodes]; omega
theorem nodesL_append (a b:List Tr):nodesL (a++b)=nodesL a+nodesL b:=by
 induction a with
 | nil=>simp [nodesL]
 | cons t ts ih=>simp only [List.cons_append,nodesL,ih]; omega
theorem levelsL_append (a b:List Tr):levelsL (a++b)=max (levelsL a) (levelsL b):=by
 induction a with
 | nil=>simp [levelsL]
 | cons t ts ih=>simp only [List.cons_append,levelsL,ih]; omega
theorem nodesL_take {l:List Tr} {i:Nat} (h:i<l.length):nodesL (l.take (i+1))=nodesL (l.take i)+l[i].nodes:=by
 rw [← List.take_append_getElem h,nodesL_append]; simp [nodesL]
theorem levelsL_take {l:List Tr} {i:Nat} (h:i<l.length):levelsL (l.take (i+1))=max (levelsL (l.take i)) l[i].levels:=by
 rw [← List.take_append_getElem h,levelsL_append]; simp [levelsL]
theorem nodesL_mem:∀ {l:List Tr} {t:Tr},t∈l→t.nodes≤nodesL l
 | u :: us,t,h=>by
  simp only [nodesL]
  rcases List.mem_cons.1 h with rfl | h
  ·omega
  ·have:=nodesL_mem h; omega
theorem levelsL_mem:∀ {l:List Tr} {t:Tr},t∈l→t.levels≤levelsL l
 | u :: us,t,h=>by
  simp only [levelsL]
  rcases List.mem_cons.1 h with rfl | h
  ·omega
  ·have:=levelsL_mem h; omega
theorem nodesL_length:∀ l:List Tr,l.length≤nodesL l
 | []=>by simp [nodesL]
 | t :: ts=>by have:=nodesL_length ts; have:=nodes_pos t; simp only [nodesL,List.length_cons]; omega
mutual
theorem levels_le_nodes:∀ t:Tr,t.levels≤t.nodes
 | .mk _ _ _ l=>by have:=levelsL_le_nodesL l; simp only [levels,nodes]; omega
theorem levelsL_le_nodesL:∀ l:List Tr,levelsL l≤nodesL l
 | []=>by simp [levelsL]
 | t :: ts=>by have:=levels_le_nodes t; have:=levelsL_le_nodesL ts; simp only [levelsL,nodesL]; omega
end
theorem nodesL_take_le {l:List Tr} (i:Nat):nodesL (l.take i)≤nodesL l:=by
 have:=nodesL_append (l.take i) (l.drop i)
 rw [List.take_append_drop] at this
 omega
end Tr
theorem idx_tr {l:List Tr} {v:V} (hv:SlV (l.map Tr.cs) v) {i:Nat} (hi:i<l.length):idxV v i 3=some (.pv l[i].cs):=by
 rw [hv.idx]
 simp [hi]
theorem len_tr {l:List Tr} {v:V} (hv:SlV (l.map Tr.cs) v):lenV v=some (.int .i64 l.length):=by
 rw [hv.len]; simp
theorem pure_tr {t:Tr} (h:t.Ok):pureL t.cs=true:=by
 cases h with
 | mk k n v l _ _ hv _=>simp [Tr.cs,pureL,pureV,hv.pure]
inductive Ty where
 | unit | int
 | pair (a b:Ty) | sum (a b:Ty)
 | seq (a:Ty)
 deriving DecidableEq
namespace Ty
def own:Ty→Nat
 | .unit=>0 | .int=>1 | .pair a b=>a.own+b.own | .sum a b=>1+a.own+b.own | .seq _=>2
def data:Ty→Nat
 | .unit=>0 | .int=>0 | .pair a b=>a.data+b.data | .sum a b=>a.data+b.data | .seq a=>a.own+a.data
def size:Ty→Nat
 | .unit=>1 | .int=>1 | .pair a b=>1+a.size+b.size | .sum a b=>1+a.size+b.size | .seq a=>1+a.size
def deep:Ty→Nat
 | .unit=>1 | .int=>1 | .pair a b=>max a.deep b.deep+1 | .sum a b=>max a.deep b.deep+1 | .seq a=>a.deep+1
def kind:Ty→Nat
 | .unit=>0 | .int=>1 | .pair _ _=>2 | .sum _ _=>3 | .seq _=>4
theorem both_size:∀ t:Ty,t.own+t.data≤2 * t.size
 | .unit=>by simp [own,data,size] | .int=>by simp [own,data,size]
 | .pair a b=>by have:=both_size a; have:=both_size b; simp only [own,data,size]; omega
 | .sum a b=>by have:=both_size a; have:=both_size b; simp only [own,data,size]; omega
 | .seq a=>by have:=both_size a; simp only [own,data,size]; omega
theorem own_size (t:Ty):t.own≤2 * t.size:=by have:=both_size t; omega
end Ty
inductive IsTy:Tr→Ty→Prop
 | unit (v:V):IsTy (.mk 0 0 v []) .unit
 | int (v:V):IsTy (.mk 1 0 v []) .int
 | pair (v:V) (a b:Tr) (x y:Ty) (ha:IsTy a x) (hb:IsTy b y):IsTy (.mk 2 0 v [a,b]) (.pair x y)
 | sum (v:V) (a b:Tr) (x y:Ty) (ha:IsTy a x) (hb:IsTy b y):IsTy (.mk 3 0 v [a,b]) (.sum x y)
 | seq (v:V) (a:Tr) (x:Ty) (ha:IsTy a x):IsTy (.mk 4 0 v [a]) (.seq x)
def partsK (k:Int):Int:=if k=0 then 0 else if k=1 then 0 else if k=2 then 2 else if k=3 then 2 else if k=4 then 1 else -1
theorem lies_q (n a b:Int):PC 85 [.int .i64 n,.int .i64 a,.int .i64 b] (.bool (decide (a≤n∧n≤b))):=by
 refine pc_of rfl (fun h=>rfl) ?_
 refine call_ofQ (af:=Trnx.a85) rfl rfl fun Q hQ => ?_
 simp only [Trnx.a85]
 by_cases h:a≤n
 ·simp [h,slotOf]
  refine hQ _ _ ?_
  simp [h]
 ·simp [h,slotOf]
  refine hQ _ _ ?_
  simp [h]
theorem nodes_q:∀ t:Tr,t.Ok→t.nodes<2 ^ 60→PC 40 [.agg t.cs] (.int .i64 t.nodes):=by
 intro t
 induction t using Tr.ind with
 | h k n v l ih =>
 intro ho hn
 obtain ⟨_,_,hv,hl⟩:=ho.inv
 simp only [Tr.nodes] at hn
 have hlv:=len_tr hv
 refine pc_of (by simp [pureL,pureV,pure_tr ho]) (fun h=>rfl) ?_
 refine call_ofQ (af:=Trnx.a40) rfl rfl fun Q hQ => ?_
 simp only [Trnx.a40]
 simp [Tr.cs,hv.cell]
 refine loop_nQ l.length (fun i c=>c=⟨[.agg [.int .i64 k,.int .i64 n,v],.agg [.int .i64 k,.int .i64 n,v],.int .i64 0,.int .i64 (1+Tr.nodesL (l.take i):Nat),.int .i64 i],[],none,none,[]⟩) ?_ (by simp [Tr.nodesL])
 rintro I hI i c hi rfl
 have hlen:=Tr.nodesL_length l
 by_cases hlt:i<l.length
 ·have hlt':(i:Int)<l.length:=by omega
  have hc:=ih l[i] (List.getElem_mem hlt) (hl _ (List.getElem_mem hlt)) (by have:=Tr.nodesL_mem (List.getElem_mem hlt); omega)
  have hi1:=idx_tr hv hlt
  have ht:=Tr.nodesL_take hlt
  have hle:=Tr.nodesL_take_le (l:=l) (i+1)
  have hw2:IntKind.i64.wrap ((i:Int)+1)=(i:Int)+1:=wrap64 (by omega) (by omega)
  rw [PC] at hc
  generalize l[i]=x at *
  have hw:IntKind.i64.wrap (1+(Tr.nodesL (l.take i):Int)+(x.nodes:Int))=1+(Tr.nodesL (l.take (i+1)):Int):=by rw [wrap64 (by omega) (by omega)]; omega
  simp [hv.cell,hlv,hlt',hi1,hc,hw,hw2,slotOf,-pcall]
  exact ⟨hlt,hI _ _ rfl⟩
 ·obtain rfl:i=l.length:=by omega
  simp [hv.cell,hlv,slotOf]
  refine hQ _ _ ?_
  simp [Tr.nodes]
theorem levels_q:∀ t:Tr,t.Ok→t.nodes<2 ^ 60→PC 41 [.agg t.cs] (.int .i64 t.levels):=by
 intro t
 induction t using Tr.ind with
 | h k n v l ih =>
 intro ho hn
 obtain ⟨_,_,hv,hl⟩:=ho.inv
 simp only [Tr.nodes] at hn
 have hlv:=len_tr hv
 refine pc_of (by simp [pureL,pureV,pure_tr ho]) (fun h=>rfl) ?_
 refine call_ofQ (af:=Trnx.a41) rfl rfl fun Q hQ => ?_
 simp only [Trnx.a41]
 simp [Tr.cs,hv.cell]
 refine loop_nQ l.length (fun i c=>c=⟨[.agg [.int .i64 k,.int .i64 n,v],.agg [.int .i64 k,.int .i64 n,v],.int .i64 0,.int .i64 (Tr.levelsL (l.take i):Nat),.int .i64 i],[],none,none,[]⟩) ?_ (by simp [Tr.levelsL])
 rintro I hI i c hi rfl
 have hlen:=Tr.nodesL_length l
 have hll:=Tr.levelsL_le_nodesL l
 by_cases hlt:i<l.length
 ·have hlt':(i:Int)<l.length:=by omega
  have hc:=ih l[i] (List.getElem_mem hlt) (hl _ (List.getElem_mem hlt)) (by have:=Tr.nodesL_mem (List.getElem_mem hlt); omega)
  have hi1:=idx_tr hv hlt
  have ht:=Tr.levelsL_take hlt
  have hw2:IntKind.i64.wrap ((i:Int)+1)=(i:Int)+1:=wrap64 (by omega) (by omega)
  rw [PC] at hc
  generalize l[i]=x at *
  have e:(if Tr.levelsL (l.take i)<x.levels then (x.levels:Int) else (Tr.levelsL (l.take i):Int))=((Tr.levelsL (l.take (i+1)):Nat):Int):=by
   rw [ht]; split <;> omega
  simp [hv.cell,hlv,hlt',hi1,hc,e,hw2,slotOf,-pcall]
  exact ⟨hlt,hI _ _ rfl⟩
 ·obtain rfl:i=l.length:=by omega
  have hw:IntKind.i64.wrap ((Tr.levelsL l:Int)+1)=(Tr.levelsL l:Int)+1:=wrap64 (by omega) (by omega)
  simp [hv.cell,hlv,hw,slotOf]
  refine hQ _ _ ?_
  simp [Tr.levels]
theorem parts_q (k:Int):PC 97 [.int .i64 k] (.int .i64 (partsK k)):=by
 have hlies:=lies_q k 0 4
 rw [PC] at hlies
 refine pc_of rfl (fun h=>rfl) ?_
 refine call_ofQ (af:=Trnx.a97) rfl rfl fun Q hQ => ?_
 simp only [Trnx.a97]
 by_cases h:0≤k∧k≤4
 ·have hd:decide (0≤k∧k≤4)=true:=by simp [h]
  rw [hd] at hlies
  have h5:k=0∨k=1∨k=2∨k=3∨k=4:=by omega
  rcases h5 with rfl | rfl | rfl | rfl | rfl <;>
  ·simp [hlies,fill,slotOf,idxV,chunks,-pcall]
   exact hQ _ _ rfl
 ·have hd:decide (0≤k∧k≤4)=false:=by simp; omega
  rw [hd] at hlies
  simp [hlies,slotOf,-pcall]
  refine hQ _ _ ?_
  have e:partsK k = -1:=by unfold partsK; rw [if_neg (by omega),if_neg (by omega),if_neg (by omega),if_neg (by omega),if_neg (by omega)]
  rw [e]
theorem isTy_iff {k n:Int} {v:V} {l:List Tr}:(∃ τ,IsTy (.mk k n v l) τ)↔n=0∧(l.length:Int)=partsK k∧∀ x∈l,∃ τ,IsTy x τ:=by
 constructor
 ·rintro ⟨τ,h⟩
  cases h with
  | unit=>simp [partsK]
  | int=>simp [partsK]
  | pair _ a b x y ha hb=>exact ⟨rfl,by simp [partsK],by simp; exact ⟨⟨_,ha⟩,⟨_,hb⟩⟩⟩
  | sum _ a b x y ha hb=>exact ⟨rfl,by simp [partsK],by simp; exact ⟨⟨_,ha⟩,⟨_,hb⟩⟩⟩
  | seq _ a x ha=>exact ⟨rfl,by simp [partsK],by simp; exact ⟨_,ha⟩⟩
 ·rintro ⟨rfl,h2,h3⟩
  unfold partsK at h2
  split at h2
  ·subst_vars
   match l,h2 with
   | [],_=>exact ⟨_,.unit v⟩
  split at h2
  ·subst_vars
   match l,h2 with
   | [],_=>exact ⟨_,.int v⟩
  split at h2
  ·subst_vars
   match l,h2,h3 with
   | [a,b],_,h3 =>
    obtain ⟨x,hx⟩:=h3 a (by simp)
    obtain ⟨y,hy⟩:=h3 b (by simp)
    exact ⟨_,.pair v a b x y hx hy⟩
  split at h2
  ·subst_vars
   match l,h2,h3 with
   | [a,b],_,h3 =>
    obtain ⟨x,hx⟩:=h3 a (by simp)
    obtain ⟨y,hy⟩:=h3 b (by simp)
    exact ⟨_,.sum v a b x y hx hy⟩
  split at h2
  ·subst_vars
   match l,h2,h3 with
   | [a],_,h3 =>
    obtain ⟨x,hx⟩:=h3 a (by simp)
    exact ⟨_,.seq v a x hx⟩
  ·omega
theorem IsTy.nodes {t:Tr} {τ:Ty} (h:IsTy t τ):t.nodes=τ.size:=by
 induction h with
 | unit=>rfl
 | int=>rfl
 | pair v a b x y _ _ iha ihb=>simp only [Tr.nodes,Tr.nodesL,Ty.size,iha,ihb]; omega
 | sum v a b x y _ _ iha ihb=>simp only [Tr.nodes,Tr.nodesL,Ty.size,iha,ihb]; omega
 | seq v a x _ iha=>simp only [Tr.nodes,Tr.nodesL,Ty.size,iha]; omega
theorem IsTy.levels {t:Tr} {τ:Ty} (h:IsTy t τ):t.levels=τ.deep:=by
 induction h with
 | unit=>rfl
 | int=>rfl
 | pair v a b x y _ _ iha ihb=>simp only [Tr.levels,Tr.levelsL,Ty.deep,iha,ihb]; omega
 | sum v a b x y _ _ iha ihb=>simp only [Tr.levels,Tr.levelsL,Ty.deep,iha,ihb]; omega
 | seq v a x _ iha=>simp only [Tr.levels,Tr.levelsL,Ty.deep,iha]; omega
open Classical in
theorem isData_q:∀ t:Tr,t.Ok→t.nodes<2 ^ 60→PC 80 [.agg t.cs] (.bool (decide (∃ τ,IsTy t τ))):=by
 intro t
 induction t using Tr.ind with
 | h k n v l ih =>
 intro ho hn
 obtain ⟨_,_,hv,hl⟩:=ho.inv
 simp only [Tr.nodes] at hn
 have hlv:=len_tr hv
 have hp:=parts_q k
 rw [PC] at hp
 have hlen:=Tr.nodesL_length l
 refine pc_of (by simp [pureL,pureV,pure_tr ho]) (fun h=>rfl) ?_
 refine call_ofQ (af:=Trnx.a80) rfl rfl fun Q hQ => ?_
 simp only [Trnx.a80]
 by_cases h0:n=0
 case neg =>
  have hne:(n != 0)=true:=by simpa using h0
  simp [Tr.cs,hv.cell,hne,slotOf]
  refine hQ _ _ ?_
  rw [decide_eq_false (fun h=>h0 (isTy_iff.1 h).1)]
 subst h0
 by_cases h1:(l.length:Int)=partsK k
 case neg =>
  have hne:((l.length:Int) != partsK k)=true:=by simpa using h1
  simp [Tr.cs,hv.cell,hne,hlv,hp,slotOf,-pcall]
  refine hQ _ _ ?_
  rw [decide_eq_false (fun h=>h1 (isTy_iff.1 h).2.1)]
 have hne:((l.length:Int) != partsK k)=false:=by simpa using h1
 simp [Tr.cs,hv.cell,hne,hlv,hp,slotOf,-pcall]
 refine loop_nQ l.length (fun i c=>(∀ x∈l.take i,∃ τ,IsTy x τ)∧c=⟨[.agg [.int .i64 k,.int .i64 0,v],.agg [.int .i64 k,.int .i64 0,v],.bool false,.int .i64 i],[],none,none,[]⟩) ?_ (by simp)
 rintro I hI i c hi ⟨hty,rfl⟩
 by_cases hlt:i<l.length
 ·have hlt':(i:Int)<l.length:=by omega
  have hc:=ih l[i] (List.getElem_mem hlt) (hl _ (List.getElem_mem hlt)) (by have:=Tr.nodesL_mem (List.getElem_mem hlt); omega)
  have hi1:=idx_tr hv hlt
  have hw2:IntKind.i64.wrap ((i:Int)+1)=(i:Int)+1:=wrap64 (by omega) (by omega)
  rw [PC] at hc
  by_cases hx:∃ τ,IsTy l[i] τ
  ·rw [decide_eq_true hx] at hc
   simp [hv.cell,hlv,hlt',hi1,hc,hw2,slotOf,-pcall]
   refine ⟨hlt,hI _ _ ⟨?_,rfl⟩⟩
   rw [← List.take_append_getElem hlt]
   intro x hm
   rcases List.mem_append.1 hm with hm | hm
   ·exact hty x hm
   ·rw [List.mem_singleton.1 hm]; exact hx
  ·rw [decide_eq_false hx] at hc
   simp [hv.cell,hlv,hlt',hi1,hc,hw2,slotOf,-pcall]
   refine hQ _ _ ?_
   rw [decide_eq_false (fun h=>hx ((isTy_iff.1 h).2.2 _ (List.getElem_mem hlt)))]
 ·obtain rfl:i=l.length:=by omega
  simp [hv.cell,hlv,slotOf]
  refine hQ _ _ ?_
  rw [decide_eq_true (isTy_iff.2 ⟨rfl,h1,by simpa using hty⟩)]
open Classical in
noncomputable def tyErr (t:Tr):Int:=if 60<t.nodes∨12<t.levels then 3 else if ∃ τ,IsTy t τ then 0 else 15
open Classical in
theorem isType_q (t:Tr) (ho:t.Ok) (hn:t.nodes<2 ^ 60):PC 39 [.agg t.cs] (.int .i64 (tyErr t)):=by
 have h1:=nodes_q t ho hn
 have h2:=levels_q t ho hn
 have h3:=isData_q t ho hn
 rw [PC] at h1 h2 h3
 refine pc_of (by simp [pureL,pureV,pure_tr ho]) (fun h=>rfl) ?_
 refine call_ofQ (af:=Trnx.a39) rfl rfl fun Q hQ => ?_
 simp only [Trnx.a39]
 have hcell:∀ x∈t.cs,isCell x=true:=by
  cases ho with
  | mk k n v l _ _ hv _=>simp [Tr.cs,hv.cell]
 have hall:t.cs.all isCell=true:=by simpa using hcell
 unfold tyErr at hQ
 by_cases ha:60<t.nodes
 ·have ha':(60:Int)<t.nodes:=by omega
  simp [hall,h1,ha',slotOf,-pcall,-List.all_eq_true]
  refine hQ _ _ ?_
  rw [if_pos (.inl ha)]
 ·have ha':¬ (60:Int)<t.nodes:=by omega
  by_cases hb:12<t.levels
  ·have hb':(12:Int)<t.levels:=by omega
   simp [hall,h1,h2,ha',hb',slotOf,-pcall,-List.all_eq_true]
   refine hQ _ _ ?_
   rw [if_pos (.inr hb)]
  ·have hb':¬ (12:Int)<t.levels:=by omega
   by_cases hc:∃ τ,IsTy t τ
   ·rw [decide_eq_true hc] at h3
    simp [hall,h1,h2,h3,ha',hb',slotOf,-pcall,-List.all_eq_true]
    refine hQ _ _ ?_
    rw [if_neg (by omega),if_pos hc]
   ·rw [decide_eq_false hc] at h3
    simp [hall,h1,h2,h3,ha',hb',slotOf,-pcall,-List.all_eq_true]
    refine hQ _ _ ?_
    rw [if_neg (by omega),if_neg hc]
theorem cells_tr {t:Tr} (ho:t.Ok):t.cs.all isCell=true:=by
 cases ho with
 | mk k n v l _ _ hv _=>simp [Tr.cs,hv.cell]
namespace Tr
mutual
def long:Tr→Bool
 | .mk k _ _ l=>(k == 4&&decide (4096<l.length))||longL l
def longL:List Tr→Bool
 | []=>false
 | t :: ts=>long t||longL ts
end
def numOk (k n m:Int):Bool :=
 if k=0 then n == 0&&m == 0 else if k=1 then decide (-2147483648≤n∧n≤2147483647)&&m == 0 else if k=2 then n == 0&&m == 2
 else if k=3 then decide (0≤n∧n≤1)&&m == 1 else if k=4 then n == 0 else false
mutual
def allNum:Tr→Bool
 | .mk k n _ l=>numOk k n l.length&&allNumL l
def allNumL:List Tr→Bool
 | []=>true
 | t :: ts=>allNum t&&allNumL ts
end
theorem longL_iff {l:List Tr}:longL l=true↔∃ t∈l,t.long=true:=by
 induction l with
 | nil=>simp [longL]
 | cons t ts ih=>simp [longL,ih]
theorem allNumL_iff {l:List Tr}:allNumL l=true↔∀ t∈l,t.allNum=true:=by
 induction l with
 | nil=>simp [allNumL]
 | cons t ts ih=>simp [allNumL,ih]
end Tr
theorem number_q (t:Tr) (ho:t.Ok):PC 62 [.agg t.cs] (.bool (Tr.numOk t.k t.n t.l.length)):=by
 cases ho with
 | mk k n v l hk hn hv hl =>
 have hlv:=len_tr hv
 refine pc_of (by simp [pureL,pureV,Tr.cs,hv.pure]) (fun h=>rfl) ?_
 refine call_ofQ (af:=Trnx.a62) rfl rfl fun Q hQ => ?_
 have hq:∀ b,b=Tr.numOk k n l.length→∀ h',Q (.ret (.bool b)) h':=fun b hb h'=>hQ _ _ (by rw [hb]; rfl)
 simp only [Trnx.a62]
 have h5:k=0∨k=1∨k=2∨k=3∨k=4∨¬ (k=0∨k=1∨k=2∨k=3∨k=4):=by omega
 rcases h5 with rfl | rfl | rfl | rfl | rfl | h5
 ·cases e:n == 0 <;> simp [Tr.cs,hv.cell,hlv,e,slotOf] <;> refine hq _ ?_ _ <;> simp [Tr.numOk,e]
 ·by_cases e : -2147483648≤n <;> by_cases e2:n≤2147483647 <;> simp [Tr.cs,hv.cell,hlv,e,e2,slotOf] <;> refine hq _ ?_ _ <;> simp [Tr.numOk,e,e2]
 ·cases e:n == 0 <;> simp [Tr.cs,hv.cell,hlv,e,slotOf] <;> refine hq _ ?_ _ <;> simp [Tr.numOk,e]
 ·have e3:decide (0≤n∧n≤1)=(n == 0||n == 1):=by rw [Bool.eq_iff_iff]; simp; omega
  cases e:n == 0 <;> cases e2:n == 1 <;> rw [e,e2] at e3 <;> simp [Tr.cs,hv.cell,hlv,e,e2,slotOf] <;> refine hq _ ?_ _ <;> simp only [Tr.numOk,e3] <;> simp
 ·simp [Tr.cs,hv.cell,hlv,slotOf]
  refine hq _ ?_ _
  simp [Tr.numOk]
 ·have e0:(k == 0)=false:=by simp; omega
  have e1:(k == 1)=false:=by simp; omega
  have e2:(k == 2)=false:=by simp; omega
  have e3:(k == 3)=false:=by simp; omega
  have e4:(k == 4)=false:=by simp; omega
  simp [Tr.cs,hv.cell,hlv,e0,e1,e2,e3,e4,slotOf]
  refine hq _ ?_ _
  simp at e0 e1 e2 e3 e4
  simp [Tr.numOk,e0,e1,e2,e3,e4]
theorem must_t (e:Int):PC 58 [.bool true,.int .i64 e] (.tup []):=by
 refine pc_of rfl (fun h=>rfl) ?_
 refine call_ofQ (af:=Trnx.a58) rfl rfl fun Q hQ => ?_
 simp only [Trnx.a58]
 simp [slotOf]
 exact hQ _ _ rfl
theorem must_f (e:Int):pcall (lim gl Trnx.aprog) (.func (.func 58) [] []) [.bool false,.int .i64 e]=some (.pan (.iface 104 (.agg [.int .i64 e]))):=by
 refine pc_pan rfl rfl ?_
 refine call_ofQ (af:=Trnx.a58) rfl rfl fun Q hQ => ?_
 simp only [Trnx.a58]
 simp [slotOf,fill]
 exact hQ _ _ rfl
theorem objCells_set {h:Heap} {a:Nat} {o:Am.Obj} (ho:h[a]?=some o) (n sz:Nat) (cs:List V):objCells (h.set a (.cells n sz cs)) a=some (n,sz,cs):=by
 have:=(List.getElem?_eq_some_iff.1 ho).1
 simp [objCells,this]
theorem objCells_ne {h:Heap} {a b:Nat} (hne:a≠b) (o:Am.Obj):objCells (h.set a o) b=objCells h b:=by
 simp [objCells,hne]
theorem objCells_of {h:Heap} {a n sz:Nat} {cs:List V} (ho:h[a]?=some (.cells n sz cs)):objCells h a=some (n,sz,cs):=by
 simp [objCells,ho]
abbrev clo98 (a b:Nat):V:=.func (.func 98) [] [.ref a 0 1,.ref b 0 1]
theorem small1_q:∀ t:Tr,t.Ok→∀ (L d:Nat) (h:Heap) (a b:Nat),L<2 ^ 60→d<2 ^ 60→a≠b→h[a]?=some (.cells 1 1 [.int .i64 L])→h[b]?=some (.cells 1 1 [clo98 a b]) →
  ∃ (ok:Bool) (L':Int),CC 98 [.agg t.cs,.int .i64 d,.ref a 0 1,.ref b 0 1] h (.ret (.bool ok)) (h.set a (.cells 1 1 [.int .i64 L']))∧(ok=true↔t.nodes≤L∧t.levels≤d)∧(ok=true→L'=L - t.nodes):=by
 intro t
 induction t using Tr.ind with
 | h k n v l ih =>
 intro ho L d h a b hL hd hab ha hb
 obtain ⟨_,_,hv,hl⟩:=ho.inv
 have hlv:=len_tr hv
 have key:CallP gl Trnx.aprog 98 [.agg (Tr.mk k n v l).cs,.int .i64 d,.ref a 0 1,.ref b 0 1] h (fun r h'=>∃ (ok:Bool) (L':Int),r = .ret (.bool ok)∧h'=h.set a (.cells 1 1 [.int .i64 L'])∧(ok=true↔(Tr.mk k n v l).nodes≤L∧(Tr.mk k n v l).levels≤d)∧(ok=true→L'=L - (Tr.mk k n v l).nodes)):=by
  refine call_ofQ (af:=Trnx.a98) rfl rfl fun Q hQ => ?_
  simp only [Trnx.a98]
  have oa:=objCells_of ha
  have hb':=hb
  have ob:∀ x,objCells (h.set a (.cells 1 1 [.int .i64 x])) b=some (1,1,[clo98 a b]):=fun x=>by rw [objCells_ne hab]; exact objCells_of hb
  have oa':∀ x,objCells (h.set a (.cells 1 1 [.int .i64 x])) a=some (1,1,[.int .i64 x]):=fun x=>objCells_set ha _ _ _
  have hw:IntKind.i64.wrap ((L:Int) - 1)=(L:Int) - 1:=wrap64 (by omega) (by omega)
  by_cases h0:L=0
  ·subst h0
   simp [Tr.cs,hv.cell,oa,oa',storeV,hw,slotOf]
   refine hQ _ _ ⟨false,-1,rfl,rfl,?_,by simp⟩
   simp [Tr.nodes]
  have hlt0:¬ ((L:Int) - 1<0):=by omega
  by_cases h1:d=0
  ·subst h1
   simp [Tr.cs,hv.cell,oa,oa',storeV,hw,hlt0,slotOf]
   refine hQ _ _ ⟨false,L - 1,rfl,rfl,?_,by simp⟩
   simp [Tr.levels]
  have hd0:((d:Int) == 0)=false:=by simp; omega
  simp [Tr.cs,hv.cell,oa,oa',storeV,hw,hlt0,hd0,hlv,slotOf]
  refine loop_nQ l.length (fun i c=>Tr.nodesL (l.take i)+1≤L∧Tr.levelsL (l.take i)+1≤d∧∃ x y,c=⟨[.agg [.int .i64 k,.int .i64 n,v],.int .i64 d,.ref a 0 1,.ref b 0 1,.agg [.int .i64 k,.int .i64 n,v],.bool false,x,v,.int .i64 l.length,.int .i64 i],[],y,none,h.set a (.cells 1 1 [.int .i64 (L - 1 - Tr.nodesL (l.take i))])⟩) ?_ ⟨by simp [Tr.nodesL]; omega,by simp [Tr.levelsL]; omega,.undef,none,by simp [Tr.nodesL]⟩
  rintro I hI i c hi ⟨hn1,hl1,x,y,rfl⟩
  by_cases hlt:i<l.length
  ·have hlt':(i:Int)<l.length:=by omega
   have hi1:=idx_tr hv hlt
   have htn:=Tr.nodesL_take hlt
   have htl:=Tr.levelsL_take hlt
   have hle:=Tr.nodesL_take_le (l:=l) (i+1)
   have hLi:((L - 1 - Tr.nodesL (l.take i):Nat):Int)=(L:Int) - 1 - Tr.nodesL (l.take i):=by omega
   have hdi:((d - 1:Nat):Int)=(d:Int) - 1:=by omega
   have ha2:(h.set a (.cells 1 1 [.int .i64 ((L:Int) - 1 - Tr.nodesL (l.take i))]))[a]?=some (.cells 1 1 [.int .i64 ((L - 1 - Tr.nodesL (l.take i):Nat):Int)]):=by
    have:=(List.getElem?_eq_some_iff.1 ha).1
    rw [hLi]; simp [this]
   have hb2:(h.set a (.cells 1 1 [.int .i64 ((L:Int) - 1 - Tr.nodesL (l.take i))]))[b]?=some (.cells 1 1 [clo98 a b]):=by simp [hab,hb]
   obtain ⟨ok,L',hc,h2,h3⟩:=ih l[i] (List.getElem_mem hlt) (hl _ (List.getElem_mem hlt)) (L - 1 - Tr.nodesL (l.take i)) (d - 1) _ a b (by omega) (by omega) hab ha2 hb2
   rw [hdi] at hc
   have hok:=hl _ (List.getElem_mem hlt)
   have hw1:IntKind.i64.wrap ((d:Int) - 1)=(d:Int) - 1:=wrap64 (by omega) (by omega)
   have hw2:IntKind.i64.wrap ((i:Int)+1)=(i:Int)+1:=wrap64 (by omega) (by have:=Tr.nodesL_length (l.take i); rw [List.length_take] at this; omega)
   have hcc:=cells_tr hok
   have hcall:=Tr.nodesL_mem (List.getElem_mem hlt)
   have hcal2:=Tr.levelsL_mem (List.getElem_mem hlt)
   simp only [List.set_set] at hc
   generalize l[i]=u at *
   cases ok with
   | true =>
    have h3:=h3 rfl
    have h2:=h2.1 rfl
    simp [hv.cell,hlv,hlt',hi1,ob,oa',hc,hcc,hw1,hw2,slotOf,-List.all_eq_true]
    refine ⟨hlt,hI _ _ ⟨by omega,by omega,.agg u.cs,none,?_⟩⟩
    have e:L'=(L:Int) - 1 - Tr.nodesL (l.take (i+1)):=by omega
    rw [e]
    rfl
   | false =>
    simp [hv.cell,hlv,hlt',hi1,ob,oa',hc,hcc,hw1,slotOf,-List.all_eq_true]
    refine hQ _ _ ⟨false,L',rfl,rfl,?_,by simp⟩
    simp only [Bool.false_eq_true,false_iff] at h2 ⊢
    simp only [Tr.nodes,Tr.levels]
    omega
  ·obtain rfl:i=l.length:=by omega
   rw [List.take_length] at hn1 hl1
   simp [hv.cell,hlv,slotOf]
   refine hQ _ _ ⟨true,_,rfl,rfl,?_,fun _ => ?_⟩
   ·simp only [Tr.nodes,Tr.levels,true_iff]; omega
   ·simp only [Tr.nodes]; omega
 obtain ⟨r,h',e,ok,L',rfl,rfl,h1,h2⟩:=OptP.ex key
 exact ⟨ok,L',e,h1,h2⟩
theorem small_q (t:Tr) (ho:t.Ok):PC 81 [.agg t.cs] (.bool (decide (t.nodes≤60∧t.levels≤12))):=by
 obtain ⟨ok,L',hc,h1,h2⟩:=small1_q t ho 60 12 [.cells 1 1 [.int .i64 60],.cells 1 1 [clo98 0 1]] 0 1 (by omega) (by omega) (by omega) rfl rfl
 refine pc_of (by simp [pureL,pureV,pure_tr ho]) (fun h=>rfl) ?_
 refine call_ofQ (af:=Trnx.a81) rfl rfl fun Q hQ => ?_
 simp only [Trnx.a81]
 have hcc:=cells_tr ho
 have hc':(lim gl Trnx.aprog).call 98 [.agg t.cs,.int .i64 12,.ref 0 0 1,.ref 1 0 1] [.cells 1 1 [.int .i64 60],.cells 1 1 [clo98 0 1]]=some (.ret (.bool ok),_):=hc
 simp [hcc,hc',storeV,objCells,slotOf,-List.all_eq_true]
 refine hQ _ _ ?_
 have:ok=decide (t.nodes≤60∧t.levels≤12):=by
  cases ok with
  | true=>rw [decide_eq_true (h1.1 rfl)]
  | false=>rw [decide_eq_false (fun h=>by have:=h1.2 h; cases this)]
 rw [this]
theorem mem_take_succ {α:Type} {l:List α} {i:Nat} (h:i<l.length) {u:α} (hu:u∈l.take (i+1)):u∈l.take i∨u=l[i]:=by
 rw [← List.take_append_getElem h] at hu
 rcases List.mem_append.1 hu with hu | hu
 ·exact .inl hu
 ·exact .inr (List.mem_singleton.1 hu)
theorem Tr.longL_take_false {l:List Tr} {i:Nat} (h:i<l.length) (h1:longL (l.take i)=false) (h2:l[i].long=false):longL (l.take (i+1))=false:=by
 rw [← List.take_append_getElem h,Bool.eq_false_iff]
 intro hq
 rw [Bool.eq_false_iff] at h1 h2
 obtain ⟨t,hm,h3⟩:=longL_iff.1 hq
 rcases List.mem_append.1 hm with hm | hm
 ·exact h1 (longL_iff.2 ⟨t,hm,h3⟩)
 ·rw [List.mem_singleton.1 hm] at h3; exact h2 h3
abbrev clo83 (a b:Nat):V:=.func (.func 83) [] [.ref a 0 1,.ref b 0 1]
theorem size1_q:∀ t:Tr,t.Ok→t.nodes<2 ^ 60→∀ (M:Nat) (h:Heap) (a b:Nat),M≤20000→a≠b→h[a]?=some (.cells 1 1 [.int .i64 M])→h[b]?=some (.cells 1 1 [clo83 a b]) →
  ∃ (ok:Bool) (M':Int),CC 83 [.agg t.cs,.ref a 0 1,.ref b 0 1] h (.ret (.bool ok)) (h.set a (.cells 1 1 [.int .i64 M']))∧(ok=true↔M+t.nodes≤20000∧t.long=false)∧(ok=true→M'=M+t.nodes):=by
 intro t
 induction t using Tr.ind with
 | h k n v l ih =>
 intro ho hnn M h a b hM hab ha hb
 obtain ⟨_,_,hv,hl⟩:=ho.inv
 have hlv:=len_tr hv
 simp only [Tr.nodes] at hnn
 have hlen:=Tr.nodesL_length l
 have key:CallP gl Trnx.aprog 83 [.agg (Tr.mk k n v l).cs,.ref a 0 1,.ref b 0 1] h (fun r h'=>∃ (ok:Bool) (M':Int),r = .ret (.bool ok)∧h'=h.set a (.cells 1 1 [.int .i64 M'])∧(ok=true↔M+(Tr.mk k n v l).nodes≤20000∧(Tr.mk k n v l).long=false)∧(ok=true→M'=M+(Tr.mk k n v l).nodes)):=by
  refine call_ofQ (af:=Trnx.a83) rfl rfl fun Q hQ => ?_
  have oa:=objCells_of ha
  have ob:∀ x,objCells (h.set a (.cells 1 1 [.int .i64 x])) b=some (1,1,[clo83 a b]):=fun x=>by rw [objCells_ne hab]; exact objCells_of hb
  have oa':∀ x,objCells (h.set a (.cells 1 1 [.int .i64 x])) a=some (1,1,[.int .i64 x]):=fun x=>objCells_set ha _ _ _
  have hw:IntKind.i64.wrap ((M:Int)+1)=(M:Int)+1:=wrap64 (by omega) (by omega)
  simp only [Trnx.a83,WX_seq]
  refine WX_last _ _ (c':=⟨[.agg [.int .i64 k,.int .i64 n,v],.ref a 0 1,.ref b 0 1,.agg [.int .i64 k,.int .i64 n,v],.bool false,.undef,.undef,.undef,.undef],[],none,none,h⟩) ?_ ?_
  ·simp [Tr.cs,hv.cell,slotOf]
  simp only [seqQ_norm,WX_seq]
  refine WX_last _ _ (c':=⟨[.agg [.int .i64 k,.int .i64 n,v],.ref a 0 1,.ref b 0 1,.agg [.int .i64 k,.int .i64 n,v],.bool false,.undef,.undef,.undef,.undef],[],none,none,h.set a (.cells 1 1 [.int .i64 ((M:Int)+1)])⟩) ?_ ?_
  ·simp [oa,hw,storeV,slotOf]
  simp only [seqQ_norm,WX_seq]
  refine WX_last _ _ (c':=⟨[.agg [.int .i64 k,.int .i64 n,v],.ref a 0 1,.ref b 0 1,.agg [.int .i64 k,.int .i64 n,v],.bool false,.undef,.undef,.undef,.undef],[],some (21,.bool (decide ((20000:Int)<M+1)||(k == 4&&decide ((4096:Int)<l.length)))),none,h.set a (.cells 1 1 [.int .i64 ((M:Int)+1)])⟩) ?_ ?_
  ·by_cases e1:(20000:Int)<M+1
   ·simp [oa',e1,slotOf]
   ·cases e2:k == 4 <;> simp [oa',e1,e2,hv.cell,hlv,slotOf]
  simp only [seqQ_norm,WX_seq,WX_ite]
  have e:decide ((4096:Int)<l.length)=decide (4096<l.length):=decide_eq_decide.2 (by omega)
  rw [e]
  split
  ·rename_i h4
   simp [slotOf]
   refine hQ _ _ ⟨false,_,rfl,rfl,?_,by simp⟩
   simp only [Bool.false_eq_true,false_iff,Tr.nodes,Tr.long]
   rintro ⟨h5,h6⟩
   rw [Bool.or_eq_false_iff] at h6
   rw [h6.1] at h4
   simp at h4
   omega
  rename_i h4
  rw [Bool.not_eq_true,Bool.or_eq_false_iff] at h4
  have hM1:M+1≤20000:=by have:=h4.1; simp at this; omega
  simp [hv.cell,hlv,slotOf]
  refine loop_nQ l.length (fun i c=>M+1+Tr.nodesL (l.take i)≤20000∧Tr.longL (l.take i)=false∧∃ x y,c=⟨[.agg [.int .i64 k,.int .i64 n,v],.ref a 0 1,.ref b 0 1,.agg [.int .i64 k,.int .i64 n,v],.bool false,x,v,.int .i64 l.length,.int .i64 i],[],y,none,h.set a (.cells 1 1 [.int .i64 (M+1+Tr.nodesL (l.take i):Nat)])⟩) ?_ ⟨by simp [Tr.nodesL]; omega,by simp [Tr.longL],.undef,none,by simp [Tr.nodesL]⟩
  rintro I hI i c hi ⟨hn1,hl1,x,y,rfl⟩
  by_cases hlt:i<l.length
  ·have hlt':(i:Int)<l.length:=by omega
   have hi1:=idx_tr hv hlt
   have htn:=Tr.nodesL_take hlt
   have htl:=Tr.longL_take_false hlt hl1
   have hle:=Tr.nodesL_take_le (l:=l) (i+1)
   have ha2:(h.set a (.cells 1 1 [.int .i64 (M+1+Tr.nodesL (l.take i):Nat)]))[a]?=some (.cells 1 1 [.int .i64 (M+1+Tr.nodesL (l.take i):Nat)]):=by
    have:=(List.getElem?_eq_some_iff.1 ha).1
    simp [this]
   have hb2:(h.set a (.cells 1 1 [.int .i64 (M+1+Tr.nodesL (l.take i):Nat)]))[b]?=some (.cells 1 1 [clo83 a b]):=by simp [hab,hb]
   have hcall:=Tr.nodesL_mem (List.getElem_mem hlt)
   obtain ⟨ok,M',hc,h2,h3⟩:=ih l[i] (List.getElem_mem hlt) (hl _ (List.getElem_mem hlt)) (by omega) (M+1+Tr.nodesL (l.take i)) _ a b hn1 hab ha2 hb2
   have hok:=hl _ (List.getElem_mem hlt)
   have hw2:IntKind.i64.wrap ((i:Int)+1)=(i:Int)+1:=wrap64 (by omega) (by omega)
   have hcc:=cells_tr hok
   have hlm:l[i].long=true→Tr.longL l=true:=fun h=>Tr.longL_iff.2 ⟨_,List.getElem_mem hlt,h⟩
   simp only [List.set_set] at hc
   generalize l[i]=u at *
   generalize hN:M+1+Tr.nodesL (l.take i)=N at *
   cases ok with
   | true =>
    have h3:=h3 rfl
    have h2:=h2.1 rfl
    simp [hv.cell,hlv,hlt',hi1,ob,oa',hc,hcc,hw2,slotOf,-List.all_eq_true]
    refine ⟨hlt,hI _ _ ⟨by omega,htl h2.2,.agg u.cs,none,?_⟩⟩
    have e:M'=((M+1+Tr.nodesL (l.take (i+1)):Nat):Int):=by omega
    rw [e]
    rfl
   | false =>
    simp [hv.cell,hlv,hlt',hi1,ob,oa',hc,hcc,slotOf,-List.all_eq_true]
    refine hQ _ _ ⟨false,M',rfl,rfl,?_,by simp⟩
    simp only [Bool.false_eq_true,false_iff] at h2 ⊢
    simp only [Tr.nodes,Tr.long,Bool.or_eq_false_iff]
    rintro ⟨h5,h6,h7⟩
    refine h2 ⟨by omega,?_⟩
    rw [Bool.eq_false_iff]
    intro h8
    rw [hlm h8] at h7
    cases h7
  ·obtain rfl:i=l.length:=by omega
   rw [List.take_length] at hn1 hl1
   simp [hv.cell,hlv,slotOf]
   refine hQ _ _ ⟨true,_,rfl,rfl,?_,fun _ => ?_⟩
   ·simp only [Tr.nodes,Tr.long,true_iff,h4.2,hl1,Bool.or_self,and_true]; omega
   ·simp only [Tr.nodes]; omega
 obtain ⟨r,h',e,ok,L',rfl,rfl,h1,h2⟩:=OptP.ex key
 exact ⟨ok,L',e,h1,h2⟩
def Tr.sized (t:Tr):Bool:=decide (t.nodes≤20000) && !t.long
theorem size_q (t:Tr) (ho:t.Ok) (hn:t.nodes<2 ^ 60):∃ m:Int,PC 56 [.agg t.cs] (.tup [.int .i64 m,.bool t.sized])∧(t.sized=true→m=t.nodes):=by
 obtain ⟨ok,M',hc,h1,h2⟩:=size1_q t ho hn 0 [.cells 1 1 [.int .i64 0],.cells 1 1 [clo83 0 1]] 0 1 (by omega) (by omega) rfl rfl
 have hok:ok=t.sized:=by
  rw [Bool.eq_iff_iff,h1]
  simp [Tr.sized]
 subst hok
 refine ⟨M',?_,fun h=>by have:=h2 h; omega⟩
 refine pc_of (by simp [pureL,pureV,pure_tr ho]) (fun h=>rfl) ?_
 refine call_ofQ (af:=Trnx.a56) rfl rfl fun Q hQ => ?_
 simp only [Trnx.a56]
 have hcc:=cells_tr ho
 have hc':(lim gl Trnx.aprog).call 83 [.agg t.cs,.ref 0 0 1,.ref 1 0 1] [.cells 1 1 [.int .i64 0],.cells 1 1 [clo83 0 1]]=some (.ret (.bool t.sized),_):=hc
 simp [hcc,hc',storeV,objCells,slotOf,-List.all_eq_true]
 exact hQ _ _ rfl
theorem psize_q (t:Tr) (ho:t.Ok) (hn:t.nodes<2 ^ 60):PC 16 [.agg t.cs] (if t.sized then .tup [.int .i64 t.nodes,.int .i64 0] else .tup [.int .i64 0,.int .i64 3]):=by
 obtain ⟨m,hc,hm⟩:=size_q t ho hn
 rw [PC] at hc
 have hcc:=cells_tr ho
 refine pc_of (by simp [pureL,pureV,pure_tr ho]) (fun h=>by split <;> rfl) ?_
 refine call_ofQ (af:=Trnx.a16) rfl rfl fun Q hQ => ?_
 simp only [Trnx.a16]
 cases e:t.sized
 ·rw [e] at hc hQ
  simp [hcc,hc,slotOf,-pcall,-List.all_eq_true]
  exact hQ _ _ rfl
 ·rw [e] at hc hQ
  rw [hm e] at hc
  simp [hcc,hc,slotOf,-pcall,-List.all_eq_true]
  exact hQ _ _ rfl
def objs:Ty→Nat
 | .unit=>1 | .int=>1 | .pair a b=>objs a+objs b+2 | .sum a b=>objs a+objs b+2 | .seq a=>objs a+2
abbrev lobj (own data kind:Nat) (v:V):Am.Obj:=.cells 1 4 [.int .i64 own,.int .i64 data,.int .i64 kind,v]
def layL:Nat→Ty→List Am.Obj
 | b,.unit=>[lobj 0 0 0 .nils]
 | b,.int=>[lobj 1 0 1 .nils]
 | b,.pair x y=>lobj (x.own+y.own) (x.data+y.data) 2 (.sl (b+1+objs x) 0 2 2 1 false) :: (layL (b+1) x ++ .cells 2 1 [.ref (b+1) 0 1,.ref (b+2+objs x) 0 1] :: layL (b+2+objs x) y)
 | b,.sum x y=>lobj (1+x.own+y.own) (x.data+y.data) 3 (.sl (b+1+objs x) 0 2 2 1 false) :: (layL (b+1) x ++ .cells 2 1 [.ref (b+1) 0 1,.ref (b+2+objs x) 0 1] :: layL (b+2+objs x) y)
 | b,.seq x=>lobj 2 (x.own+x.data) 4 (.sl (b+1+objs x) 0 1 1 1 false) :: (layL (b+1) x++[.cells 1 1 [.ref (b+1) 0 1]])
theorem layL_length:∀ (b:Nat) (τ:Ty),(layL b τ).length=objs τ
 | b,.unit=>rfl
 | b,.int=>rfl
 | b,.pair x y=>by simp only [layL,objs,List.length_cons,List.length_append,layL_length]; omega
 | b,.sum x y=>by simp only [layL,objs,List.length_cons,List.length_append,layL_length]; omega
 | b,.seq x=>by simp only [layL,objs,List.length_cons,List.length_append,layL_length,List.length_nil]
theorem layL_head (b:Nat) (τ:Ty):∃ v,(layL b τ)[0]?=some (lobj τ.own τ.data τ.kind v):=by
 cases τ <;> exact ⟨_,rfl⟩
theorem none_q (b:Nat) (h:Heap):CC 128 [.ref b 0 1] h (.ret (.agg [.int .i64 0,.int .i64 0])) h:=by
 refine CallP.eq (call_ofQ (af:=Trnx.a128) rfl rfl fun Q hQ => ?_)
 simp only [Trnx.a128]
 simp [fill,slotOf]
 exact hQ _ _ ⟨rfl,rfl⟩
theorem one_q (b:Nat) (h:Heap):CC 129 [.ref b 0 1] h (.ret (.agg [.int .i64 1,.int .i64 0])) h:=by
 refine CallP.eq (call_ofQ (af:=Trnx.a129) rfl rfl fun Q hQ => ?_)
 simp only [Trnx.a129]
 simp [fill,slotOf]
 exact hQ _ _ ⟨rfl,rfl⟩
section
variable {h:Heap} {b pb a1 a2:Nat} {u0 u1 u2 v1 v2 w1 w2:V} {o1 d1 o2 d2:Nat}
theorem both_q (hb:h[b]?=some (.cells 1 4 [u0,u1,u2,.sl pb 0 2 2 1 false])) (hp:h[pb]?=some (.cells 2 1 [.ref a1 0 1,.ref a2 0 1]))
  (h1:h[a1]?=some (.cells 1 4 [.int .i64 o1,.int .i64 d1,v1,w1])) (h2:h[a2]?=some (.cells 1 4 [.int .i64 o2,.int .i64 d2,v2,w2])) (hs:o1+o2+d1+d2<2 ^ 60) :
  CC 130 [.ref b 0 1] h (.ret (.agg [.int .i64 (o1+o2:Nat),.int .i64 (d1+d2:Nat)])) h:=by
 have e0:=objCells_of hb
 have e1:=objCells_of hp
 have e2:=objCells_of h1
 have e3:=objCells_of h2
 have w1:IntKind.i64.wrap ((o1:Int)+o2)=(o1:Int)+o2:=wrap64 (by omega) (by omega)
 have w2:IntKind.i64.wrap ((d1:Int)+d2)=(d1:Int)+d2:=wrap64 (by omega) (by omega)
 refine CallP.eq (call_ofQ (af:=Trnx.a130) rfl rfl fun Q hQ => ?_)
 simp only [Trnx.a130]
 simp [e0,e1,e2,e3,w1,w2,fill,slotOf]
 exact hQ _ _ ⟨rfl,rfl⟩
theorem sum_q (hb:h[b]?=some (.cells 1 4 [u0,u1,u2,.sl pb 0 2 2 1 false])) (hp:h[pb]?=some (.cells 2 1 [.ref a1 0 1,.ref a2 0 1]))
  (h1:h[a1]?=some (.cells 1 4 [.int .i64 o1,.int .i64 d1,v1,w1])) (h2:h[a2]?=some (.cells 1 4 [.int .i64 o2,.int .i64 d2,v2,w2])) (hs:o1+o2+d1+d2<2 ^ 60) :
  CC 131 [.ref b 0 1] h (.ret (.agg [.int .i64 (1+o1+o2:Nat),.int .i64 (d1+d2:Nat)])) h:=by
 have hc:=ro_eq (af:=Trnx.a130) rfl (both_q hb hp h1 h2 hs)
 have w1:IntKind.i64.wrap ((o1:Int)+o2+1)=1+(o1:Int)+o2:=by rw [wrap64 (by omega) (by omega)]; omega
 refine CallP.eq (call_ofQ (af:=Trnx.a131) rfl rfl fun Q hQ => ?_)
 simp only [Trnx.a131]
 simp at hc
 simp [hc,w1,fill,slotOf]
 exact hQ _ _ ⟨rfl,rfl⟩
theorem seqc_q (hb:h[b]?=some (.cells 1 4 [u0,u1,u2,.sl pb 0 1 1 1 false])) (hp:h[pb]?=some (.cells 1 1 [.ref a1 0 1]))
  (h1:h[a1]?=some (.cells 1 4 [.int .i64 o1,.int .i64 d1,v1,w1])) (hs:o1+d1<2 ^ 60) :
  CC 132 [.ref b 0 1] h (.ret (.agg [.int .i64 2,.int .i64 (o1+d1:Nat)])) h:=by
 have e0:=objCells_of hb
 have e1:=objCells_of hp
 have e2:=objCells_of h1
 have w1:IntKind.i64.wrap ((o1:Int)+d1)=(o1:Int)+d1:=wrap64 (by omega) (by omega)
 refine CallP.eq (call_ofQ (af:=Trnx.a132) rfl rfl fun Q hQ => ?_)
 simp only [Trnx.a132]
 simp [e0,e1,e2,w1,fill,slotOf]
 exact hQ _ _ ⟨rfl,rfl⟩
end
def isWord (n:Int):Bool:=decide (-2147483648≤n∧n≤2147483647)
def isV:Ty→Tr→Bool
 | .unit,.mk k n _ l=>k == 0&&n == 0&&l.isEmpty
 | .int,.mk k n _ l=>k == 1&&isWord n&&l.isEmpty
 | .pair a b,.mk k n _ l=>k == 2&&n == 0&&(match l with | [x,y]=>isV a x&&isV b y | _=>false)
 | .sum a b,.mk k n _ l=>k == 3&&(match l with | [x]=>(n == 0&&isV a x)||(n == 1&&isV b x) | _=>false)
 | .seq a,.mk k n _ l=>k == 4&&n == 0&&l.all (isV a)
theorem ne_false {a b:Int} (h:a≠b):(a == b)=false:=by simpa using h
theorem ne_true {a b:Int} (h:a≠b):(a != b)=true:=by simpa using h
theorem of_unit (v:V) (ho:(Tr.mk 0 0 v []).Ok) (h:Heap):CC 82 [.agg (Tr.mk 0 0 v []).cs] h (.ret (.ref h.length 0 1)) (h++layL h.length .unit):=by
 obtain ⟨_,_,hv,hl⟩:=ho.inv
 have hlv:=len_tr hv
 have hm:=must_t 15
 rw [PC] at hm
 have hc:=none_q h.length (h++[lobj 0 0 0 .nils])
 refine CallP.eq (call_ofQ (af:=Trnx.a82) rfl rfl fun Q hQ => ?_)
 simp only [Trnx.a82]
 simp [Tr.cs,hv.cell,hlv,gl1,hm,fill,slotOf,-pcall]
 refine loop_nQ 0 (fun i c=>c=⟨[.agg [.int .i64 0,.int .i64 0,v],.agg [.int .i64 0,.int .i64 0,v],.nilp,.ref h.length 0 1,.undef,v,.int .i64 0,.int .i64 0],[],none,none,h++[lobj 0 0 0 .nils]⟩) ?_ rfl
 rintro I hI i c hi rfl
 simp [hv.cell,gl2,hc,objCells,storeV,slotOf,-pcall]
 exact hQ _ _ ⟨rfl,rfl⟩
theorem of_int (v:V) (ho:(Tr.mk 1 0 v []).Ok) (h:Heap):CC 82 [.agg (Tr.mk 1 0 v []).cs] h (.ret (.ref h.length 0 1)) (h++layL h.length .int):=by
 obtain ⟨_,_,hv,hl⟩:=ho.inv
 have hlv:=len_tr hv
 have hm:=must_t 15
 rw [PC] at hm
 have hc:=one_q h.length (h++[lobj 0 0 1 .nils])
 refine CallP.eq (call_ofQ (af:=Trnx.a82) rfl rfl fun Q hQ => ?_)
 simp only [Trnx.a82]
 simp [Tr.cs,hv.cell,hlv,gl1,hm,fill,slotOf,-pcall]
 refine loop_nQ 0 (fun i c=>c=⟨[.agg [.int .i64 1,.int .i64 0,v],.agg [.int .i64 1,.int .i64 0,v],.nilp,.ref h.length 0 1,.undef,v,.int .i64 0,.int .i64 0],[],none,none,h++[lobj 0 0 1 .nils]⟩) ?_ rfl
 rintro I hI i c hi rfl
 simp [hv.cell,gl2,hc,objCells,storeV,slotOf,-pcall]
 exact hQ _ _ ⟨rfl,rfl⟩
theorem of_seq (v:V) (a:Tr) (x:Ty) (ho:(Tr.mk 4 0 v [a]).Ok) (ha:IsTy a x) (hs:x.size<2 ^ 50) (ih:∀ h,CC 82 [.agg a.cs] h (.ret (.ref h.length 0 1)) (h++layL h.length x)) (h:Heap) :
  CC 82 [.agg (Tr.mk 4 0 v [a]).cs] h (.ret (.ref h.length 0 1)) (h++layL h.length (.seq x)):=by
 obtain ⟨_,_,hv,hl⟩:=ho.inv
 have hlv:=len_tr hv
 have hm:=must_t 15
 rw [PC] at hm
 have i0:=idx_tr hv (i:=0) (by simp)
 simp only [List.getElem_cons_zero,Int.natCast_zero] at i0
 have hoa:=hl a (by simp)
 have hcc:=cells_tr hoa
 -- the heaps
 have hc1:=ih (h++[lobj 0 0 4 .nils])
 have l1:(h++[lobj 0 0 4 .nils]).length=h.length+1:=by simp
 rw [l1] at hc1
 have hlen:=layL_length (h.length+1) x
 obtain ⟨w,hw⟩:=layL_head (h.length+1) x
 have:=x.both_size
 refine CallP.eq (call_ofQ (af:=Trnx.a82) rfl rfl fun Q hQ => ?_)
 have hcs:(Tr.mk 4 0 v [a]).cs=[.int .i64 4,.int .i64 0,v]:=rfl
 generalize hX:layL (h.length+1) x=X at *
 have e1:objCells (h++[lobj 0 0 4 .nils]) h.length=some (1,4,[.int .i64 0,.int .i64 0,.int .i64 4,.nils]):=by simp [objCells]
 have e2:objCells (h++[lobj 0 0 4 .nils]++X) h.length=some (1,4,[.int .i64 0,.int .i64 0,.int .i64 4,.nils]):=by simp [objCells]
 have n2:(h++[lobj 0 0 4 .nils]++X).length=h.length+1+objs x:=by simp [hlen]; omega
 have e3:objCells (h++[lobj 0 0 4 .nils]++X++[Am.Obj.cells 1 1 [.ref (h.length+1) 0 1]]) h.length=some (1,4,[.int .i64 0,.int .i64 0,.int .i64 4,.nils]):=by simp [objCells]
 have s3:(h++[lobj 0 0 4 .nils]++X++[Am.Obj.cells 1 1 [.ref (h.length+1) 0 1]]).set h.length (Am.Obj.cells 1 4 [.int .i64 0,.int .i64 0,.int .i64 4,.sl (h.length+1+objs x) 0 1 1 1 false]) =
  h++[lobj 0 0 4 (.sl (h.length+1+objs x) 0 1 1 1 false)]++X++[Am.Obj.cells 1 1 [.ref (h.length+1) 0 1]]:=by simp
 have g0:(h++[lobj 0 0 4 (.sl (h.length+1+objs x) 0 1 1 1 false)]++X++[Am.Obj.cells 1 1 [.ref (h.length+1) 0 1]])[h.length]?=some (.cells 1 4 [.int .i64 0,.int .i64 0,.int .i64 4,.sl (h.length+1+objs x) 0 1 1 1 false]):=by simp
 have g1:(h++[lobj 0 0 4 (.sl (h.length+1+objs x) 0 1 1 1 false)]++X++[Am.Obj.cells 1 1 [.ref (h.length+1) 0 1]])[h.length+1+objs x]?=some (.cells 1 1 [.ref (h.length+1) 0 1]):=by
  rw [List.getElem?_append_right (by simp [hlen]; omega)]
  simp [hlen]
  rw [show h.length+1+objs x - (h.length+(objs x+1))=0 by omega]
  rfl
 have g2:(h++[lobj 0 0 4 (.sl (h.length+1+objs x) 0 1 1 1 false)]++X++[Am.Obj.cells 1 1 [.ref (h.length+1) 0 1]])[h.length+1]?=some (lobj x.own x.data x.kind w):=by
  have hx0:0<X.length:=(List.getElem?_eq_some_iff.1 hw).1
  rw [List.getElem?_append_left (by simp; omega),List.getElem?_append_right (by simp)]
  simpa using hw
 have hq:=seqc_q g0 g1 g2 (by omega)
 have e5:=objCells_of g0
 have s5:(h++[lobj 0 0 4 (.sl (h.length+1+objs x) 0 1 1 1 false)]++X++[Am.Obj.cells 1 1 [.ref (h.length+1) 0 1]]).set h.length (Am.Obj.cells 1 4 [.int .i64 2,.int .i64 ((x.own:Int)+(x.data:Int)),.int .i64 4,.sl (h.length+1+objs x) 0 1 1 1 false]) =
  h++layL h.length (.seq x):=by simp [layL,hX]
 generalize hH1:h++[lobj 0 0 4 .nils]=H1 at *
 generalize hH2:H1++X=H2 at *
 generalize hH3:H2++[Am.Obj.cells 1 1 [V.ref (h.length+1) 0 1]]=H3 at *
 generalize hH4:h++[lobj 0 0 4 (.sl (h.length+1+objs x) 0 1 1 1 false)]++X++[Am.Obj.cells 1 1 [.ref (h.length+1) 0 1]]=H4 at *
 have room1:(8:Nat)≤room:=by simp [room]
 simp only [Trnx.a82]
 simp [hcs,hv.cell,hlv,gl1,hm,fill,slotOf,-pcall]
 refine loop_nQ 1 (fun i c=>(i=0∧c=⟨[.agg [.int .i64 4,.int .i64 0,v],.agg [.int .i64 4,.int .i64 0,v],.nilp,.ref h.length 0 1,.undef,v,.int .i64 1,.int .i64 0],[],none,none,H1⟩) ∨
  (i=1∧c=⟨[.agg [.int .i64 4,.int .i64 0,v],.agg [.int .i64 4,.int .i64 0,v],.nilp,.ref h.length 0 1,.agg a.cs,v,.int .i64 1,.int .i64 1],[],none,none,H4⟩)) ?_ (.inl ⟨rfl,by rw [← hH1]; rfl⟩)
 rintro I hI i c hi (⟨rfl,rfl⟩ | ⟨rfl,rfl⟩)
 ·have hwr:IntKind.i64.wrap 1=1:=rfl
  simp [hv.cell,i0,e1,e2,e3,n2,s3,hc1,hcc,storeV,appV,sliceLen,sliceCells,fill,room1,hH2,hH3,hwr,slotOf,-pcall,-List.all_eq_true]
  exact hI _ _ (.inr ⟨rfl,rfl⟩)
 ·simp [hv.cell,gl2,hq,e5,s5,storeV,slotOf,-pcall]
  exact hQ _ _ ⟨rfl,rfl⟩
theorem of_pair (v:V) (a b:Tr) (x y:Ty) (ho:(Tr.mk 2 0 v [a,b]).Ok) (hs:x.size+y.size<2 ^ 50) (iha:∀ h,CC 82 [.agg a.cs] h (.ret (.ref h.length 0 1)) (h++layL h.length x))
  (ihb:∀ h,CC 82 [.agg b.cs] h (.ret (.ref h.length 0 1)) (h++layL h.length y)) (h:Heap):CC 82 [.agg (Tr.mk 2 0 v [a,b]).cs] h (.ret (.ref h.length 0 1)) (h++layL h.length (.pair x y)):=by
 obtain ⟨_,_,hv,hl⟩:=ho.inv
 have hlv:=len_tr hv
 have hm:=must_t 15
 rw [PC] at hm
 have i0:=idx_tr hv (i:=0) (by simp)
 have i1:=idx_tr hv (i:=1) (by simp)
 simp only [List.getElem_cons_zero,List.getElem_cons_succ,Int.natCast_zero,Int.natCast_one] at i0 i1
 have hca:=cells_tr (hl a (by simp))
 have hcb:=cells_tr (hl b (by simp))
 have hc1:=iha (h++[lobj 0 0 2 .nils])
 have l1:(h++[lobj 0 0 2 .nils]).length=h.length+1:=by simp
 rw [l1] at hc1
 have hlen:=layL_length (h.length+1) x
 obtain ⟨w,hw⟩:=layL_head (h.length+1) x
 have hlen2:=layL_length (h.length+2+objs x) y
 obtain ⟨w',hw'⟩:=layL_head (h.length+2+objs x) y
 have:=x.both_size
 have:=y.both_size
 have hcs:(Tr.mk 2 0 v [a,b]).cs=[.int .i64 2,.int .i64 0,v]:=rfl
 refine CallP.eq (call_ofQ (af:=Trnx.a82) rfl rfl fun Q hQ => ?_)
 generalize hX:layL (h.length+1) x=X at *
 generalize hY:layL (h.length+2+objs x) y=Y at *
 have hx0:0<X.length:=(List.getElem?_eq_some_iff.1 hw).1
 have hy0:0<Y.length:=(List.getElem?_eq_some_iff.1 hw').1
 -- the heaps: H1 the layout itself; H2 with the first part; H3 with the list of parts; H4 that stored; H5 with the second part; H6 with the list grown
 have e1:objCells (h++[lobj 0 0 2 .nils]) h.length=some (1,4,[.int .i64 0,.int .i64 0,.int .i64 2,.nils]):=by simp [objCells]
 have e2:objCells (h++[lobj 0 0 2 .nils]++X) h.length=some (1,4,[.int .i64 0,.int .i64 0,.int .i64 2,.nils]):=by simp [objCells]
 have n2:(h++[lobj 0 0 2 .nils]++X).length=h.length+1+objs x:=by simp [hlen]; omega
 have e3:objCells (h++[lobj 0 0 2 .nils]++X++[Am.Obj.cells 1 1 [.ref (h.length+1) 0 1]]) h.length=some (1,4,[.int .i64 0,.int .i64 0,.int .i64 2,.nils]):=by simp [objCells]
 have s3:(h++[lobj 0 0 2 .nils]++X++[Am.Obj.cells 1 1 [.ref (h.length+1) 0 1]]).set h.length (Am.Obj.cells 1 4 [.int .i64 0,.int .i64 0,.int .i64 2,.sl (h.length+1+objs x) 0 1 1 1 false]) =
  h++[lobj 0 0 2 (.sl (h.length+1+objs x) 0 1 1 1 false)]++X++[Am.Obj.cells 1 1 [.ref (h.length+1) 0 1]]:=by simp
 have n4:(h++[lobj 0 0 2 (.sl (h.length+1+objs x) 0 1 1 1 false)]++X++[Am.Obj.cells 1 1 [.ref (h.length+1) 0 1]]).length=h.length+2+objs x:=by simp [hlen]; omega
 have e4:objCells (h++[lobj 0 0 2 (.sl (h.length+1+objs x) 0 1 1 1 false)]++X++[Am.Obj.cells 1 1 [.ref (h.length+1) 0 1]]) h.length=some (1,4,[.int .i64 0,.int .i64 0,.int .i64 2,.sl (h.length+1+objs x) 0 1 1 1 false]):=by simp [objCells]
 have hc2:=ihb (h++[lobj 0 0 2 (.sl (h.length+1+objs x) 0 1 1 1 false)]++X++[Am.Obj.cells 1 1 [.ref (h.length+1) 0 1]])
 rw [n4,hY] at hc2
 have e5:objCells (h++[lobj 0 0 2 (.sl (h.length+1+objs x) 0 1 1 1 false)]++X++[Am.Obj.cells 1 1 [.ref (h.length+1) 0 1]]++Y) h.length=some (1,4,[.int .i64 0,.int .i64 0,.int .i64 2,.sl (h.length+1+objs x) 0 1 1 1 false]):=by simp [objCells]
 have at1:∀ (A:List Am.Obj) (o:Am.Obj) (B:List Am.Obj),A.length=h.length+1+objs x→(A++[o]++B)[h.length+1+objs x]?=some o:=fun A o B hA=>by
  rw [List.getElem?_append_left (by simp; omega),List.getElem?_append_right (by omega),hA,Nat.sub_self]
  rfl
 have set1:∀ (A:List Am.Obj) (o o':Am.Obj) (B:List Am.Obj),A.length=h.length+1+objs x→(A++[o]++B).set (h.length+1+objs x) o'=A++[o']++B:=fun A o o' B hA=>by
  rw [List.append_assoc,List.set_append_right _ _ (by omega),hA,Nat.sub_self]
  simp
 have nA:(h++[lobj 0 0 2 (.sl (h.length+1+objs x) 0 1 1 1 false)]++X).length=h.length+1+objs x:=by simp [hlen]; omega
 have e6:objCells (h++[lobj 0 0 2 (.sl (h.length+1+objs x) 0 1 1 1 false)]++X++[Am.Obj.cells 1 1 [.ref (h.length+1) 0 1]]++Y) (h.length+1+objs x)=some (1,1,[.ref (h.length+1) 0 1]):=objCells_of (at1 _ _ _ nA)
 have s6:=set1 _ (Am.Obj.cells 1 1 [.ref (h.length+1) 0 1]) (.cells 2 1 [.ref (h.length+1) 0 1,.ref (h.length+2+objs x) 0 1]) Y nA
 have e7:objCells (h++[lobj 0 0 2 (.sl (h.length+1+objs x) 0 1 1 1 false)]++X++[Am.Obj.cells 2 1 [.ref (h.length+1) 0 1,.ref (h.length+2+objs x) 0 1]]++Y) h.length=some (1,4,[.int .i64 0,.int .i64 0,.int .i64 2,.sl (h.length+1+objs x) 0 1 1 1 false]):=by simp [objCells]
 have s7:(h++[lobj 0 0 2 (.sl (h.length+1+objs x) 0 1 1 1 false)]++X++[Am.Obj.cells 2 1 [.ref (h.length+1) 0 1,.ref (h.length+2+objs x) 0 1]]++Y).set h.length (Am.Obj.cells 1 4 [.int .i64 0,.int .i64 0,.int .i64 2,.sl (h.length+1+objs x) 0 2 2 1 false]) =
  h++[lobj 0 0 2 (.sl (h.length+1+objs x) 0 2 2 1 false)]++X++[Am.Obj.cells 2 1 [.ref (h.length+1) 0 1,.ref (h.length+2+objs x) 0 1]]++Y:=by simp
 have nB:(h++[lobj 0 0 2 (.sl (h.length+1+objs x) 0 2 2 1 false)]++X).length=h.length+1+objs x:=by simp [hlen]; omega
 have g0:(h++[lobj 0 0 2 (.sl (h.length+1+objs x) 0 2 2 1 false)]++X++[Am.Obj.cells 2 1 [.ref (h.length+1) 0 1,.ref (h.length+2+objs x) 0 1]]++Y)[h.length]?=some (.cells 1 4 [.int .i64 0,.int .i64 0,.int .i64 2,.sl (h.length+1+objs x) 0 2 2 1 false]):=by simp
 have g1:(h++[lobj 0 0 2 (.sl (h.length+1+objs x) 0 2 2 1 false)]++X++[Am.Obj.cells 2 1 [.ref (h.length+1) 0 1,.ref (h.length+2+objs x) 0 1]]++Y)[h.length+1+objs x]?=some (.cells 2 1 [.ref (h.length+1) 0 1,.ref (h.length+2+objs x) 0 1]):=at1 _ _ _ nB
 have g2:(h++[lobj 0 0 2 (.sl (h.length+1+objs x) 0 2 2 1 false)]++X++[Am.Obj.cells 2 1 [.ref (h.length+1) 0 1,.ref (h.length+2+objs x) 0 1]]++Y)[h.length+1]?=some (lobj x.own x.data x.kind w):=by
  rw [List.getElem?_append_left (by simp <;> omega),List.getElem?_append_left (by simp <;> omega),List.getElem?_append_right (by simp)]
  simpa using hw
 have g3:(h++[lobj 0 0 2 (.sl (h.length+1+objs x) 0 2 2 1 false)]++X++[Am.Obj.cells 2 1 [.ref (h.length+1) 0 1,.ref (h.length+2+objs x) 0 1]]++Y)[h.length+2+objs x]?=some (lobj y.own y.data y.kind w'):=by
  rw [List.getElem?_append_right (by simp [hlen]; omega)]
  rw [show h.length+2+objs x - (h++[lobj 0 0 2 (.sl (h.length+1+objs x) 0 2 2 1 false)]++X++[Am.Obj.cells 2 1 [.ref (h.length+1) 0 1,.ref (h.length+2+objs x) 0 1]]).length=0 by simp [hlen]; omega]
  exact hw'
 have hq:=both_q g0 g1 g2 g3 (by omega)
 have e8:=objCells_of g0
 have s8:(h++[lobj 0 0 2 (.sl (h.length+1+objs x) 0 2 2 1 false)]++X++[Am.Obj.cells 2 1 [.ref (h.length+1) 0 1,.ref (h.length+2+objs x) 0 1]]++Y).set h.length (Am.Obj.cells 1 4 [.int .i64 ((x.own:Int)+(y.own:Int)),.int .i64 ((x.data:Int)+(y.data:Int)),.int .i64 2,.sl (h.length+1+objs x) 0 2 2 1 false]) =
  h++layL h.length (.pair x y):=by simp [layL,hX,hY]
 generalize hH1:h++[lobj 0 0 2 .nils]=H1 at *
 generalize hH2:H1++X=H2 at *
 generalize hH3:H2++[Am.Obj.cells 1 1 [V.ref (h.length+1) 0 1]]=H3 at *
 generalize hH4:h++[lobj 0 0 2 (.sl (h.length+1+objs x) 0 1 1 1 false)]++X++[Am.Obj.cells 1 1 [.ref (h.length+1) 0 1]]=H4 at *
 generalize hH5:H4++Y=H5 at *
 generalize hH6:h++[lobj 0 0 2 (.sl (h.length+1+objs x) 0 1 1 1 false)]++X++[Am.Obj.cells 2 1 [.ref (h.length+1) 0 1,.ref (h.length+2+objs x) 0 1]]++Y=H6 at *
 generalize hH7:h++[lobj 0 0 2 (.sl (h.length+1+objs x) 0 2 2 1 false)]++X++[Am.Obj.cells 2 1 [.ref (h.length+1) 0 1,.ref (h.length+2+objs x) 0 1]]++Y=H7 at *
 have room1:(8:Nat)≤room:=by simp [room]
 have room2:(16:Nat)≤room:=by simp [room]
 simp only [Trnx.a82]
 simp [hcs,hv.cell,hlv,gl1,hm,fill,slotOf,-pcall]
 refine loop_nQ 2 (fun i c=>(i=0∧c=⟨[.agg [.int .i64 2,.int .i64 0,v],.agg [.int .i64 2,.int .i64 0,v],.nilp,.ref h.length 0 1,.undef,v,.int .i64 2,.int .i64 0],[],none,none,H1⟩) ∨
  (i=1∧c=⟨[.agg [.int .i64 2,.int .i64 0,v],.agg [.int .i64 2,.int .i64 0,v],.nilp,.ref h.length 0 1,.agg a.cs,v,.int .i64 2,.int .i64 1],[],none,none,H4⟩) ∨
  (i=2∧c=⟨[.agg [.int .i64 2,.int .i64 0,v],.agg [.int .i64 2,.int .i64 0,v],.nilp,.ref h.length 0 1,.agg b.cs,v,.int .i64 2,.int .i64 2],[],none,none,H7⟩)) ?_ (.inl ⟨rfl,by rw [← hH1]; rfl⟩)
 rintro I hI i c hi (⟨rfl,rfl⟩ | ⟨rfl,rfl⟩ | ⟨rfl,rfl⟩)
 ·have hwr:IntKind.i64.wrap 1=1:=rfl
  simp [hv.cell,i0,e1,e2,e3,n2,s3,hc1,hca,storeV,appV,sliceLen,sliceCells,fill,room1,hH2,hH3,hwr,slotOf,-pcall,-List.all_eq_true]
  exact hI _ _ (.inr (.inl ⟨rfl,rfl⟩))
 ·have hwr:IntKind.i64.wrap (1+1)=2:=rfl
  simp [hv.cell,i1,e4,e5,e6,s6,e7,s7,hc2,hcb,storeV,appV,sliceLen,sliceCells,fill,room2,hH5,hH6,hwr,slotOf,-pcall,-List.all_eq_true]
  exact hI _ _ (.inr (.inr ⟨rfl,rfl⟩))
 ·simp [hv.cell,gl2,hq,e8,s8,storeV,slotOf,-pcall]
  exact hQ _ _ ⟨rfl,rfl⟩
theorem of_sum (v:V) (a b:Tr) (x y:Ty) (ho:(Tr.mk 3 0 v [a,b]).Ok) (hs:x.size+y.size<2 ^ 50) (iha:∀ h,CC 82 [.agg a.cs] h (.ret (.ref h.length 0 1)) (h++layL h.length x))
  (ihb:∀ h,CC 82 [.agg b.cs] h (.ret (.ref h.length 0 1)) (h++layL h.length y)) (h:Heap):CC 82 [.agg (Tr.mk 3 0 v [a,b]).cs] h (.ret (.ref h.length 0 1)) (h++layL h.length (.sum x y)):=by
 obtain ⟨_,_,hv,hl⟩:=ho.inv
 have hlv:=len_tr hv
 have hm:=must_t 15
 rw [PC] at hm
 have i0:=idx_tr hv (i:=0) (by simp)
 have i1:=idx_tr hv (i:=1) (by simp)
 simp only [List.getElem_cons_zero,List.getElem_cons_succ,Int.natCast_zero,Int.natCast_one] at i0 i1
 have hca:=cells_tr (hl a (by simp))
 have hcb:=cells_tr (hl b (by simp))
 have hc1:=iha (h++[lobj 0 0 3 .nils])
 have l1:(h++[lobj 0 0 3 .nils]).length=h.length+1:=by simp
 rw [l1] at hc1
 have hlen:=layL_length (h.length+1) x
 obtain ⟨w,hw⟩:=layL_head (h.length+1) x
 have hlen2:=layL_length (h.length+2+objs x) y
 obtain ⟨w',hw'⟩:=layL_head (h.length+2+objs x) y
 have:=x.both_size
 have:=y.both_size
 have hcs:(Tr.mk 3 0 v [a,b]).cs=[.int .i64 3,.int .i64 0,v]:=rfl
 refine CallP.eq (call_ofQ (af:=Trnx.a82) rfl rfl fun Q hQ => ?_)
 generalize hX:layL (h.length+1) x=X at *
 generalize hY:layL (h.length+2+objs x) y=Y at *
 have hx0:0<X.length:=(List.getElem?_eq_some_iff.1 hw).1
 have hy0:0<Y.length:=(List.getElem?_eq_some_iff.1 hw').1
 -- the heaps: H1 the layout itself; H2 with the first part; H3 with the list of parts; H4 that stored; H5 with the second part; H6 with the list grown
 have e1:objCells (h++[lobj 0 0 3 .nils]) h.length=some (1,4,[.int .i64 0,.int .i64 0,.int .i64 3,.nils]):=by simp [objCells]
 have e2:objCells (h++[lobj 0 0 3 .nils]++X) h.length=some (1,4,[.int .i64 0,.int .i64 0,.int .i64 3,.nils]):=by simp [objCells]
 have n2:(h++[lobj 0 0 3 .nils]++X).length=h.length+1+objs x:=by simp [hlen]; omega
 have e3:objCells (h++[lobj 0 0 3 .nils]++X++[Am.Obj.cells 1 1 [.ref (h.length+1) 0 1]]) h.length=some (1,4,[.int .i64 0,.int .i64 0,.int .i64 3,.nils]):=by simp [objCells]
 have s3:(h++[lobj 0 0 3 .nils]++X++[Am.Obj.cells 1 1 [.ref (h.length+1) 0 1]]).set h.length (Am.Obj.cells 1 4 [.int .i64 0,.int .i64 0,.int .i64 3,.sl (h.length+1+objs x) 0 1 1 1 false]) =
  h++[lobj 0 0 3 (.sl (h.length+1+objs x) 0 1 1 1 false)]++X++[Am.Obj.cells 1 1 [.ref (h.length+1) 0 1]]:=by simp
 have n4:(h++[lobj 0 0 3 (.sl (h.length+1+objs x) 0 1 1 1 false)]++X++[Am.Obj.cells 1 1 [.ref (h.length+1) 0 1]]).length=h.length+2+objs x:=by simp [hlen]; omega
 have e4:objCells (h++[lobj 0 0 3 (.sl (h.length+1+objs x) 0 1 1 1 false)]++X++[Am.Obj.cells 1 1 [.ref (h.length+1) 0 1]]) h.length=some (1,4,[.int .i64 0,.int .i64 0,.int .i64 3,.sl (h.length+1+objs x) 0 1 1 1 false]):=by simp [objCells]
 have hc2:=ihb (h++[lobj 0 0 3 (.sl (h.length+1+objs x) 0 1 1 1 false)]++X++[Am.Obj.cells 1 1 [.ref (h.length+1) 0 1]])
 rw [n4,hY] at hc2
 have e5:objCells (h++[lobj 0 0 3 (.sl (h.length+1+objs x) 0 1 1 1 false)]++X++[Am.Obj.cells 1 1 [.ref (h.length+1) 0 1]]++Y) h.length=some (1,4,[.int .i64 0,.int .i64 0,.int .i64 3,.sl (h.length+1+objs x) 0 1 1 1 false]):=by simp [objCells]
 have at1:∀ (A:List Am.Obj) (o:Am.Obj) (B:List Am.Obj),A.length=h.length+1+objs x→(A++[o]++B)[h.length+1+objs x]?=some o:=fun A o B hA=>by
  rw [List.getElem?_append_left (by simp; omega),List.getElem?_append_right (by omega),hA,Nat.sub_self]
  rfl
 have set1:∀ (A:List Am.Obj) (o o':Am.Obj) (B:List Am.Obj),A.length=h.length+1+objs x→(A++[o]++B).set (h.length+1+objs x) o'=A++[o']++B:=fun A o o' B hA=>by
  rw [List.append_assoc,List.set_append_right _ _ (by omega),hA,Nat.sub_self]
  simp
 have nA:(h++[lobj 0 0 3 (.sl (h.length+1+objs x) 0 1 1 1 false)]++X).length=h.length+1+objs x:=by simp [hlen]; omega
 have e6:objCells (h++[lobj 0 0 3 (.sl (h.length+1+objs x) 0 1 1 1 false)]++X++[Am.Obj.cells 1 1 [.ref (h.length+1) 0 1]]++Y) (h.length+1+objs x)=some (1,1,[.ref (h.length+1) 0 1]):=objCells_of (at1 _ _ _ nA)
 have s6:=set1 _ (Am.Obj.cells 1 1 [.ref (h.length+1) 0 1]) (.cells 2 1 [.ref (h.length+1) 0 1,.ref (h.length+2+objs x) 0 1]) Y nA
 have e7:objCells (h++[lobj 0 0 3 (.sl (h.length+1+objs x) 0 1 1 1 false)]++X++[Am.Obj.cells 2 1 [.ref (h.length+1) 0 1,.ref (h.length+2+objs x) 0 1]]++Y) h.length=some (1,4,[.int .i64 0,.int .i64 0,.int .i64 3,.sl (h.length+1+objs x) 0 1 1 1 false]):=by simp [objCells]
 have s7:(h++[lobj 0 0 3 (.sl (h.length+1+objs x) 0 1 1 1 false)]++X++[Am.Obj.cells 2 1 [.ref (h.length+1) 0 1,.ref (h.length+2+objs x) 0 1]]++Y).set h.length (Am.Obj.cells 1 4 [.int .i64 0,.int .i64 0,.int .i64 3,.sl (h.length+1+objs x) 0 2 2 1 false]) =
  h++[lobj 0 0 3 (.sl (h.length+1+objs x) 0 2 2 1 false)]++X++[Am.Obj.cells 2 1 [.ref (h.length+1) 0 1,.ref (h.length+2+objs x) 0 1]]++Y:=by simp
 have nB:(h++[lobj 0 0 3 (.sl (h.length+1+objs x) 0 2 2 1 false)]++X).length=h.length+1+objs x:=by simp [hlen]; omega
 have g0:(h++[lobj 0 0 3 (.sl (h.length+1+objs x) 0 2 2 1 false)]++X++[Am.Obj.cells 2 1 [.ref (h.length+1) 0 1,.ref (h.length+2+objs x) 0 1]]++Y)[h.length]?=some (.cells 1 4 [.int .i64 0,.int .i64 0,.int .i64 3,.sl (h.length+1+objs x) 0 2 2 1 false]):=by simp
 have g1:(h++[lobj 0 0 3 (.sl (h.length+1+objs x) 0 2 2 1 false)]++X++[Am.Obj.cells 2 1 [.ref (h.length+1) 0 1,.ref (h.length+2+objs x) 0 1]]++Y)[h.length+1+objs x]?=some (.cells 2 1 [.ref (h.length+1) 0 1,.ref (h.length+2+objs x) 0 1]):=at1 _ _ _ nB
 have g2:(h++[lobj 0 0 3 (.sl (h.length+1+objs x) 0 2 2 1 false)]++X++[Am.Obj.cells 2 1 [.ref (h.length+1) 0 1,.ref (h.length+2+objs x) 0 1]]++Y)[h.length+1]?=some (lobj x.own x.data x.kind w):=by
  rw [List.getElem?_append_left (by simp <;> omega),List.getElem?_append_left (by simp <;> omega),List.getElem?_append_right (by simp)]
  simpa using hw
 have g3:(h++[lobj 0 0 3 (.sl (h.length+1+objs x) 0 2 2 1 false)]++X++[Am.Obj.cells 2 1 [.ref (h.length+1) 0 1,.ref (h.length+2+objs x) 0 1]]++Y)[h.length+2+objs x]?=some (lobj y.own y.data y.kind w'):=by
  rw [List.getElem?_append_right (by simp [hlen]; omega)]
  rw [show h.length+2+objs x - (h++[lobj 0 0 3 (.sl (h.length+1+objs x) 0 2 2 1 false)]++X++[Am.Obj.cells 2 1 [.ref (h.length+1) 0 1,.ref (h.length+2+objs x) 0 1]]).length=0 by simp [hlen]; omega]
  exact hw'
 have hq:=sum_q g0 g1 g2 g3 (by omega)
 have e8:=objCells_of g0
 have s8:(h++[lobj 0 0 3 (.sl (h.length+1+objs x) 0 2 2 1 false)]++X++[Am.Obj.cells 2 1 [.ref (h.length+1) 0 1,.ref (h.length+2+objs x) 0 1]]++Y).set h.length (Am.Obj.cells 1 4 [.int .i64 (1+(x.own:Int)+(y.own:Int)),.int .i64 ((x.data:Int)+(y.data:Int)),.int .i64 3,.sl (h.length+1+objs x) 0 2 2 1 false]) =
  h++layL h.length (.sum x y):=by simp [layL,hX,hY]
 generalize hH1:h++[lobj 0 0 3 .nils]=H1 at *
 generalize hH2:H1++X=H2 at *
 generalize hH3:H2++[Am.Obj.cells 1 1 [V.ref (h.length+1) 0 1]]=H3 at *
 generalize hH4:h++[lobj 0 0 3 (.sl (h.length+1+objs x) 0 1 1 1 false)]++X++[Am.Obj.cells 1 1 [.ref (h.length+1) 0 1]]=H4 at *
 generalize hH5:H4++Y=H5 at *
 generalize hH6:h++[lobj 0 0 3 (.sl (h.length+1+objs x) 0 1 1 1 false)]++X++[Am.Obj.cells 2 1 [.ref (h.length+1) 0 1,.ref (h.length+2+objs x) 0 1]]++Y=H6 at *
 generalize hH7:h++[lobj 0 0 3 (.sl (h.length+1+objs x) 0 2 2 1 false)]++X++[Am.Obj.cells 2 1 [.ref (h.length+1) 0 1,.ref (h.length+2+objs x) 0 1]]++Y=H7 at *
 have room1:(8:Nat)≤room:=by simp [room]
 have room2:(16:Nat)≤room:=by simp [room]
 simp only [Trnx.a82]
 simp [hcs,hv.cell,hlv,gl1,hm,fill,slotOf,-pcall]
 refine loop_nQ 2 (fun i c=>(i=0∧c=⟨[.agg [.int .i64 3,.int .i64 0,v],.agg [.int .i64 3,.int .i64 0,v],.nilp,.ref h.length 0 1,.undef,v,.int .i64 2,.int .i64 0],[],none,none,H1⟩) ∨
  (i=1∧c=⟨[.agg [.int .i64 3,.int .i64 0,v],.agg [.int .i64 3,.int .i64 0,v],.nilp,.ref h.length 0 1,.agg a.cs,v,.int .i64 2,.int .i64 1],[],none,none,H4⟩) ∨
  (i=2∧c=⟨[.agg [.int .i64 3,.int .i64 0,v],.agg [.int .i64 3,.int .i64 0,v],.nilp,.ref h.length 0 1,.agg b.cs,v,.int .i64 2,.int .i64 2],[],none,none,H7⟩)) ?_ (.inl ⟨rfl,by rw [← hH1]; rfl⟩)
 rintro I hI i c hi (⟨rfl,rfl⟩ | ⟨rfl,rfl⟩ | ⟨rfl,rfl⟩)
 ·have hwr:IntKind.i64.wrap 1=1:=rfl
  simp [hv.cell,i0,e1,e2,e3,n2,s3,hc1,hca,storeV,appV,sliceLen,sliceCells,fill,room1,hH2,hH3,hwr,slotOf,-pcall,-List.all_eq_true]
  exact hI _ _ (.inr (.inl ⟨rfl,rfl⟩))
 ·have hwr:IntKind.i64.wrap (1+1)=2:=rfl
  simp [hv.cell,i1,e4,e5,e6,s6,e7,s7,hc2,hcb,storeV,appV,sliceLen,sliceCells,fill,room2,hH5,hH6,hwr,slotOf,-pcall,-List.all_eq_true]
  exact hI _ _ (.inr (.inr ⟨rfl,rfl⟩))
 ·simp [hv.cell,gl2,hq,e8,s8,storeV,slotOf,-pcall]
  exact hQ _ _ ⟨rfl,rfl⟩
theorem of_q {t:Tr} {τ:Ty} (hτ:IsTy t τ):t.Ok→τ.size<2 ^ 50→∀ h:Heap,CC 82 [.agg t.cs] h (.ret (.ref h.length 0 1)) (h++layL h.length τ):=by
 induction hτ with
 | unit v=>exact fun ho _ h=>of_unit v ho h
 | int v=>exact fun ho _ h=>of_int v ho h
 | pair v a b x y _ _ iha ihb =>
  intro ho hs h
  simp only [Ty.size] at hs
  obtain ⟨_,_,_,hl⟩:=ho.inv
  exact of_pair v a b x y ho (by omega) (iha (hl a (by simp)) (by omega)) (ihb (hl b (by simp)) (by omega)) h
 | sum v a b x y _ _ iha ihb =>
  intro ho hs h
  simp only [Ty.size] at hs
  obtain ⟨_,_,_,hl⟩:=ho.inv
  exact of_sum v a b x y ho (by omega) (iha (hl a (by simp)) (by omega)) (ihb (hl b (by simp)) (by omega)) h
 | seq v a x ha iha =>
  intro ho hs h
  simp only [Ty.size] at hs
  obtain ⟨_,_,_,hl⟩:=ho.inv
  exact of_seq v a x ho ha (by omega) (iha (hl a (by simp)) (by omega)) h
inductive Lay (H:Heap):Nat→Ty→Prop
 | unit (b:Nat) (w:V) (h:H[b]?=some (lobj 0 0 0 w)):Lay H b .unit
 | int (b:Nat) (w:V) (h:H[b]?=some (lobj 1 0 1 w)):Lay H b .int
 | pair (b p a1 a2:Nat) (x y:Ty) (h:H[b]?=some (lobj (x.own+y.own) (x.data+y.data) 2 (.sl p 0 2 2 1 false))) (hp:H[p]?=some (.cells 2 1 [.ref a1 0 1,.ref a2 0 1])) (h1:Lay H a1 x) (h2:Lay H a2 y) (l1:b<a1) (l2:a1+objs x<a2) (l3:b+objs (.pair x y)=a2+objs y):Lay H b (.pair x y)
 | sum (b p a1 a2:Nat) (x y:Ty) (h:H[b]?=some (lobj (1+x.own+y.own) (x.data+y.data) 3 (.sl p 0 2 2 1 false))) (hp:H[p]?=some (.cells 2 1 [.ref a1 0 1,.ref a2 0 1])) (h1:Lay H a1 x) (h2:Lay H a2 y) (l1:b<a1) (l2:a1+objs x<a2) (l3:b+objs (.sum x y)=a2+objs y):Lay H b (.sum x y)
 | seq (b p a1:Nat) (x:Ty) (h:H[b]?=some (lobj 2 (x.own+x.data) 4 (.sl p 0 1 1 1 false))) (hp:H[p]?=some (.cells 1 1 [.ref a1 0 1])) (h1:Lay H a1 x) (l1:b<a1) (l3:a1+objs x<b+objs (.seq x)):Lay H b (.seq x)
theorem Lay.ext {H:Heap} {b:Nat} {τ:Ty} (h:Lay H b τ) {H':Heap} (he:∀ (i:Nat) o,H[i]?=some o→H'[i]?=some o):Lay H' b τ:=by
 induction h with
 | unit b w h=>exact .unit b w (he _ _ h)
 | int b w h=>exact .int b w (he _ _ h)
 | pair b p a1 a2 x y h hp _ _ l1 l2 l3 ih1 ih2=>exact .pair b p a1 a2 x y (he _ _ h) (he _ _ hp) ih1 ih2 l1 l2 l3
 | sum b p a1 a2 x y h hp _ _ l1 l2 l3 ih1 ih2=>exact .sum b p a1 a2 x y (he _ _ h) (he _ _ hp) ih1 ih2 l1 l2 l3
 | seq b p a1 x h hp _ l1 l3 ih1=>exact .seq b p a1 x (he _ _ h) (he _ _ hp) ih1 l1 l3
theorem get_app {H X:Heap} {i:Nat} {o:Am.Obj} (h:H[i]?=some o):(H++X)[i]?=some o:=by
 rw [List.getElem?_append_left (List.getElem?_eq_some_iff.1 h).1]; exact h
theorem Lay.app {H:Heap} {b:Nat} {τ:Ty} (h:Lay H b τ) (X:Heap):Lay (H++X) b τ:=h.ext fun i o=>get_app
theorem lay_of:∀ (τ:Ty) (P S:Heap),Lay (P++layL P.length τ++S) P.length τ
 | .unit,P,S => .unit _ .nils (by simp [layL])
 | .int,P,S => .int _ .nils (by simp [layL])
 | .pair x y,P,S=>by
  have h1:=lay_of x (P++[lobj (x.own+y.own) (x.data+y.data) 2 (.sl (P.length+1+objs x) 0 2 2 1 false)]) (.cells 2 1 [.ref (P.length+1) 0 1,.ref (P.length+2+objs x) 0 1] :: layL (P.length+2+objs x) y++S)
  have hl:=layL_length (P.length+1) x
  have h2:=lay_of y (P++[lobj (x.own+y.own) (x.data+y.data) 2 (.sl (P.length+1+objs x) 0 2 2 1 false)]++layL (P.length+1) x++[Am.Obj.cells 2 1 [.ref (P.length+1) 0 1,.ref (P.length+2+objs x) 0 1]]) S
  have e1:(P++[lobj (x.own+y.own) (x.data+y.data) 2 (.sl (P.length+1+objs x) 0 2 2 1 false)]).length=P.length+1:=by simp
  have e2:(P++[lobj (x.own+y.own) (x.data+y.data) 2 (.sl (P.length+1+objs x) 0 2 2 1 false)]++layL (P.length+1) x++[Am.Obj.cells 2 1 [.ref (P.length+1) 0 1,.ref (P.length+2+objs x) 0 1]]).length=P.length+2+objs x:=by simp [hl]; omega
  rw [e1] at h1
  rw [e2] at h2
  refine .pair _ (P.length+1+objs x) (P.length+1) (P.length+2+objs x) x y (by simp [layL]) ?_ (by simpa [layL] using h1) (by simpa [layL] using h2) (by omega) (by omega) (by simp only [objs]; omega)
  simp only [layL]
  rw [List.append_assoc,List.getElem?_append_right (by omega),show P.length+1+objs x - P.length=objs x+1 by omega,List.cons_append,List.getElem?_cons_succ,List.append_assoc,List.getElem?_append_right (by omega),hl]
  simp
 | .sum x y,P,S=>by
  have h1:=lay_of x (P++[lobj (1+x.own+y.own) (x.data+y.data) 3 (.sl (P.length+1+objs x) 0 2 2 1 false)]) (.cells 2 1 [.ref (P.length+1) 0 1,.ref (P.length+2+objs x) 0 1] :: layL (P.length+2+objs x) y++S)
  have hl:=layL_length (P.length+1) x
  have h2:=lay_of y (P++[lobj (1+x.own+y.own) (x.data+y.data) 3 (.sl (P.length+1+objs x) 0 2 2 1 false)]++layL (P.length+1) x++[Am.Obj.cells 2 1 [.ref (P.length+1) 0 1,.ref (P.length+2+objs x) 0 1]]) S
  have e1:(P++[lobj (1+x.own+y.own) (x.data+y.data) 3 (.sl (P.length+1+objs x) 0 2 2 1 false)]).length=P.length+1:=by simp
  have e2:(P++[lobj (1+x.own+y.own) (x.data+y.data) 3 (.sl (P.length+1+objs x) 0 2 2 1 false)]++layL (P.length+1) x++[Am.Obj.cells 2 1 [.ref (P.length+1) 0 1,.ref (P.length+2+objs x) 0 1]]).length=P.length+2+objs x:=by simp [hl]; omega
  rw [e1] at h1
  rw [e2] at h2
  refine .sum _ (P.length+1+objs x) (P.length+1) (P.length+2+objs x) x y (by simp [layL]) ?_ (by simpa [layL] using h1) (by simpa [layL] using h2) (by omega) (by omega) (by simp only [objs]; omega)
  simp only [layL]
  rw [List.append_assoc,List.getElem?_append_right (by omega),show P.length+1+objs x - P.length=objs x+1 by omega,List.cons_append,List.getElem?_cons_succ,List.append_assoc,List.getElem?_append_right (by omega),hl]
  simp
 | .seq x,P,S=>by
  have h1:=lay_of x (P++[lobj 2 (x.own+x.data) 4 (.sl (P.length+1+objs x) 0 1 1 1 false)]) (.cells 1 1 [.ref (P.length+1) 0 1] :: S)
  have hl:=layL_length (P.length+1) x
  have e1:(P++[lobj 2 (x.own+x.data) 4 (.sl (P.length+1+objs x) 0 1 1 1 false)]).length=P.length+1:=by simp
  rw [e1] at h1
  refine .seq _ (P.length+1+objs x) (P.length+1) x (by simp [layL]) ?_ (by simpa [layL] using h1) (by omega) (by simp only [objs]; omega)
  simp only [layL]
  rw [List.append_assoc,List.getElem?_append_right (by omega),show P.length+1+objs x - P.length=objs x+1 by omega,List.cons_append,List.getElem?_cons_succ,List.append_assoc,List.getElem?_append_right (by omega),hl]
  simp
theorem has_q {H:Heap} {b:Nat} {τ:Ty} (h:Lay H b τ):∀ w:Tr,w.Ok→w.nodes<2 ^ 60→CC 59 [.ref b 0 1,.agg w.cs] H (.ret (.bool (isV τ w))) H:=by
 have ecs:∀ k n u l,(Tr.mk k n u l).cs=[.int .i64 k,.int .i64 n,u]:=fun _ _ _ _=>rfl
 induction h with
 | unit b w h =>
  rintro ⟨k,n,u,l⟩ hw hn
  have hnum:=number_q _ hw
  rw [PC] at hnum
  obtain ⟨_,_,hu,hul⟩:=hw.inv
  have hlv:=len_tr hu
  have ob:=objCells_of h
  simp only [ecs,Tr.k,Tr.n,Tr.l] at hnum ⊢
  refine CallP.eq (call_ofQ (af:=Trnx.a59) rfl rfl fun Q hQ => ?_)
  simp only [Trnx.a59]
  by_cases hk:k=0
  ·subst hk
   cases e:Tr.numOk 0 n l.length
   ·rw [e] at hnum
    simp [hu.cell,ob,gl0,hnum,slotOf,-pcall]
    refine hQ _ _ ⟨?_,rfl⟩
    cases e2:n == 0
    ·simp [isV,e2]
    ·cases l with
     | nil=>simp [Tr.numOk,e2] at e
     | cons p l=>simp [isV]
   ·rw [e] at hnum
    have e3:n=0∧l=[]:=by
     simp only [Tr.numOk,if_true,Bool.and_eq_true,beq_iff_eq] at e
     exact ⟨e.1,List.length_eq_zero_iff.1 (by omega)⟩
    obtain ⟨rfl,rfl⟩:=e3
    simp [hu.cell,hlv,ob,gl0,hnum,slotOf,-pcall]
    refine loop_nQ 0 (fun i c=>c=⟨[.ref b 0 1,.agg [.int .i64 0,.int .i64 0,u],.agg [.int .i64 0,.int .i64 0,u],.bool false,.undef,.undef,.undef,u,.int .i64 0,.int .i64 0],[],none,none,H⟩) ?_ rfl
    rintro I hI i c hi rfl
    simp [slotOf]
    refine hQ _ _ ⟨?_,rfl⟩
    simp [isV]
  ·simp [hu.cell,ob,gl0,ne_true hk,slotOf,-pcall]
   refine hQ _ _ ⟨?_,rfl⟩
   simp [isV,hk]
 | int b w h =>
  rintro ⟨k,n,u,l⟩ hw hn
  have hnum:=number_q _ hw
  rw [PC] at hnum
  obtain ⟨_,_,hu,hul⟩:=hw.inv
  have hlv:=len_tr hu
  have ob:=objCells_of h
  simp only [ecs,Tr.k,Tr.n,Tr.l] at hnum ⊢
  refine CallP.eq (call_ofQ (af:=Trnx.a59) rfl rfl fun Q hQ => ?_)
  simp only [Trnx.a59]
  by_cases hk:k=1
  ·subst hk
   cases e:Tr.numOk 1 n l.length
   ·rw [e] at hnum
    simp [hu.cell,ob,gl0,hnum,slotOf,-pcall]
    refine hQ _ _ ⟨?_,rfl⟩
    cases e2:isWord n
    ·simp [isV,e2]
    ·cases l with
     | nil=>simp only [isWord] at e2; simp only [Tr.numOk,e2] at e; simp at e
     | cons p l=>simp [isV]
   ·rw [e] at hnum
    have e3:isWord n=true∧l=[]:=by
     simp only [Tr.numOk] at e
     simp only [Int.reduceEq,if_false,if_true,Bool.and_eq_true] at e
     exact ⟨e.1,by cases l with
      | nil=>rfl
      | cons p l=>have:=e.2; simp at this; omega⟩
    obtain ⟨e4,rfl⟩:=e3
    simp [hu.cell,hlv,ob,gl0,hnum,slotOf,-pcall]
    refine loop_nQ 0 (fun i c=>c=⟨[.ref b 0 1,.agg [.int .i64 1,.int .i64 n,u],.agg [.int .i64 1,.int .i64 n,u],.bool false,.undef,.undef,.undef,u,.int .i64 0,.int .i64 0],[],none,none,H⟩) ?_ rfl
    rintro I hI i c hi rfl
    simp [slotOf]
    refine hQ _ _ ⟨?_,rfl⟩
    simp [isV,e4]
  ·simp [hu.cell,ob,gl0,ne_true hk,slotOf,-pcall]
   refine hQ _ _ ⟨?_,rfl⟩
   simp [isV,hk]
 | pair b p a1 a2 x y h hp h1 h2 l1 l2 l3 ih1 ih2 =>
  rintro ⟨k,n,u,l⟩ hw hn
  have hnum:=number_q _ hw
  rw [PC] at hnum
  obtain ⟨_,_,hu,hul⟩:=hw.inv
  have hlv:=len_tr hu
  have ob:=objCells_of h
  have op:=objCells_of hp
  simp only [ecs,Tr.k,Tr.n,Tr.l] at hnum ⊢
  refine CallP.eq (call_ofQ (af:=Trnx.a59) rfl rfl fun Q hQ => ?_)
  simp only [Trnx.a59]
  by_cases hk:k=2
  ·subst hk
   cases e:Tr.numOk 2 n l.length
   ·rw [e] at hnum
    simp [hu.cell,ob,gl0,hnum,slotOf,-pcall]
    refine hQ _ _ ⟨?_,rfl⟩
    cases e2:n == 0
    ·simp [isV,e2]
    ·match l with
     | []=>simp [isV]
     | [q]=>simp [isV]
     | [q,r]=>simp [Tr.numOk,e2] at e
     | _ :: _ :: _ :: _=>simp [isV]
   ·rw [e] at hnum
    have e3:n=0∧∃ q r,l=[q,r]:=by
     simp [Tr.numOk] at e
     have e2:=e.2
     refine ⟨e.1,?_⟩
     match l,e2 with
     | [q,r],_=>exact ⟨q,r,rfl⟩
     | [],e2=>simp at e2
     | [q],e2=>simp at e2
     | _ :: _ :: _ :: _,e2=>simp at e2; omega
    obtain ⟨rfl,q,r,rfl⟩:=e3
    have j0:=idx_tr hu (i:=0) (by simp)
    have j1:=idx_tr hu (i:=1) (by simp)
    simp only [List.getElem_cons_zero,List.getElem_cons_succ,Int.natCast_zero,Int.natCast_one] at j0 j1
    simp only [Tr.nodes,Tr.nodesL] at hn
    have c1:=ih1 q (hul q (by simp)) (by omega)
    have c2:=ih2 r (hul r (by simp)) (by omega)
    have cq:=cells_tr (hul q (by simp))
    have cr:=cells_tr (hul r (by simp))
    simp [hu.cell,hlv,ob,gl0,hnum,slotOf,-pcall]
    refine loop_nQ 2 (fun i c=>(1≤i→isV x q=true)∧(2≤i→isV y r=true)∧∃ s4 s5 s6 fl,c=⟨[.ref b 0 1,.agg [.int .i64 2,.int .i64 0,u],.agg [.int .i64 2,.int .i64 0,u],.bool false,s4,s5,s6,u,.int .i64 2,.int .i64 i],[],fl,none,H⟩) ?_ ⟨by simp,by simp,_,_,_,_,rfl⟩
    rintro I hI i c hi ⟨hq1,hr1,s4,s5,s6,fl,rfl⟩
    have hi3:i=0∨i=1∨i=2:=by omega
    rcases hi3 with rfl | rfl | rfl
    ·have hwr:IntKind.i64.wrap 1=1:=rfl
     cases e:isV x q
     ·rw [e] at c1
      simp [hu.cell,hlv,ob,op,j0,cq,c1,slotOf,-pcall,-List.all_eq_true]
      refine hQ _ _ ⟨?_,rfl⟩
      simp [isV,e]
     ·rw [e] at c1
      simp [hu.cell,hlv,ob,op,j0,cq,c1,hwr,slotOf,-pcall,-List.all_eq_true]
      exact hI _ _ ⟨fun _=>e,by simp,_,_,_,_,rfl⟩
    ·have hwr:IntKind.i64.wrap (1+1)=2:=rfl
     cases e:isV y r
     ·rw [e] at c2
      simp [hu.cell,hlv,ob,op,j1,cr,c2,slotOf,-pcall,-List.all_eq_true]
      refine hQ _ _ ⟨?_,rfl⟩
      simp [isV,e]
     ·rw [e] at c2
      simp [hu.cell,hlv,ob,op,j1,cr,c2,hwr,slotOf,-pcall,-List.all_eq_true]
      exact hI _ _ ⟨fun _=>hq1 (by omega),fun _=>e,_,_,_,_,rfl⟩
    ·simp [slotOf]
     refine hQ _ _ ⟨?_,rfl⟩
     simp [isV,hq1,hr1]
  ·simp [hu.cell,ob,gl0,ne_true hk,slotOf,-pcall]
   refine hQ _ _ ⟨?_,rfl⟩
   simp [isV,hk]
 | sum b p a1 a2 x y h hp h1 h2 l1 l2 l3 ih1 ih2 =>
  rintro ⟨k,n,u,l⟩ hw hn
  have hnum:=number_q _ hw
  rw [PC] at hnum
  obtain ⟨_,_,hu,hul⟩:=hw.inv
  have hlv:=len_tr hu
  have ob:=objCells_of h
  have op:=objCells_of hp
  simp only [ecs,Tr.k,Tr.n,Tr.l] at hnum ⊢
  refine CallP.eq (call_ofQ (af:=Trnx.a59) rfl rfl fun Q hQ => ?_)
  simp only [Trnx.a59]
  by_cases hk:k=3
  ·subst hk
   cases e:Tr.numOk 3 n l.length
   ·rw [e] at hnum
    simp [hu.cell,ob,gl0,hnum,slotOf,-pcall]
    refine hQ _ _ ⟨?_,rfl⟩
    match l with
    | []=>simp [isV]
    | [q] =>
     have e1:(n == 0)=false:=by
      refine ne_false ?_
      rintro rfl
      simp [Tr.numOk] at e
     have e2:(n == 1)=false:=by
      refine ne_false ?_
      rintro rfl
      simp [Tr.numOk] at e
     simp [isV,e1,e2]
    | _ :: _ :: _=>simp [isV]
   ·rw [e] at hnum
    have e3:(n=0∨n=1)∧∃ q,l=[q]:=by
     simp [Tr.numOk] at e
     have e2:=e.2
     refine ⟨by omega,?_⟩
     match l,e2 with
     | [q],_=>exact ⟨q,rfl⟩
     | [],e2=>simp at e2
     | _ :: _ :: _,e2=>simp at e2; omega
    obtain ⟨hn1,q,rfl⟩:=e3
    have j0:=idx_tr hu (i:=0) (by simp)
    simp only [List.getElem_cons_zero,Int.natCast_zero] at j0
    simp only [Tr.nodes,Tr.nodesL] at hn
    have c1:=ih1 q (hul q (by simp)) (by omega)
    have c2:=ih2 q (hul q (by simp)) (by omega)
    have cq:=cells_tr (hul q (by simp))
    have hwr:IntKind.i64.wrap 1=1:=rfl
    simp [hu.cell,hlv,ob,gl0,hnum,slotOf,-pcall]
    refine loop_nQ 1 (fun i c=>(1≤i→isV (.sum x y) (.mk 3 n u [q])=true)∧∃ s4 s5 s6 fl,c=⟨[.ref b 0 1,.agg [.int .i64 3,.int .i64 n,u],.agg [.int .i64 3,.int .i64 n,u],.bool false,s4,s5,s6,u,.int .i64 1,.int .i64 i],[],fl,none,H⟩) ?_ ⟨by simp,_,_,_,_,rfl⟩
    rintro I hI i c hi ⟨hq1,s4,s5,s6,fl,rfl⟩
    have hi3:i=0∨i=1:=by omega
    rcases hi3 with rfl | rfl
    ·rcases hn1 with rfl | rfl
     ·cases e:isV x q
      ·rw [e] at c1
       simp [hu.cell,hlv,ob,op,j0,cq,c1,slotOf,-pcall,-List.all_eq_true]
       refine hQ _ _ ⟨?_,rfl⟩
       simp [isV,e]
      ·rw [e] at c1
       simp [hu.cell,hlv,ob,op,j0,cq,c1,hwr,slotOf,-pcall,-List.all_eq_true]
       exact hI _ _ ⟨fun _=>by simp [isV,e],_,_,_,_,rfl⟩
     ·cases e:isV y q
      ·rw [e] at c2
       simp [hu.cell,hlv,ob,op,j0,cq,c2,slotOf,-pcall,-List.all_eq_true]
       refine hQ _ _ ⟨?_,rfl⟩
       simp [isV,e]
      ·rw [e] at c2
       simp [hu.cell,hlv,ob,op,j0,cq,c2,hwr,slotOf,-pcall,-List.all_eq_true]
       exact hI _ _ ⟨fun _=>by simp [isV,e],_,_,_,_,rfl⟩
    ·simp [slotOf]
     refine hQ _ _ ⟨?_,rfl⟩
     rw [hq1 (by omega)]
  ·simp [hu.cell,ob,gl0,ne_true hk,slotOf,-pcall]
   refine hQ _ _ ⟨?_,rfl⟩
   simp [isV,hk]
 | seq b p a1 x h hp h1 l1 l3 ih1 =>
  rintro ⟨k,n,u,l⟩ hw hn
  have hnum:=number_q _ hw
  rw [PC] at hnum
  obtain ⟨_,_,hu,hul⟩:=hw.inv
  have hlv:=len_tr hu
  have ob:=objCells_of h
  have op:=objCells_of hp
  simp only [ecs,Tr.k,Tr.n,Tr.l] at hnum ⊢
  have hlen:=Tr.nodesL_length l
  simp only [Tr.nodes] at hn
  refine CallP.eq (call_ofQ (af:=Trnx.a59) rfl rfl fun Q hQ => ?_)
  simp only [Trnx.a59]
  by_cases hk:k=4
  ·subst hk
   by_cases h0:n=0
   ·subst h0
    have e:Tr.numOk 4 0 l.length=true:=by simp [Tr.numOk]
    rw [e] at hnum
    simp [hu.cell,hlv,ob,gl0,hnum,slotOf,-pcall]
    refine loop_nQ l.length (fun i c=>(∀ z∈l.take i,isV x z=true)∧∃ s4 s5 s6 fl,c=⟨[.ref b 0 1,.agg [.int .i64 4,.int .i64 0,u],.agg [.int .i64 4,.int .i64 0,u],.bool false,s4,s5,s6,u,.int .i64 l.length,.int .i64 i],[],fl,none,H⟩) ?_ ⟨by simp,_,_,_,_,rfl⟩
    rintro I hI i c hi ⟨hz,s4,s5,s6,fl,rfl⟩
    by_cases hlt:i<l.length
    ·have hlt':(i:Int)<l.length:=by omega
     have hm:=List.getElem_mem hlt
     have hi1:=idx_tr hu hlt
     have hc:=ih1 l[i] (hul _ hm) (by have:=Tr.nodesL_mem hm; omega)
     have cq:=cells_tr (hul _ hm)
     have hw2:IntKind.i64.wrap ((i:Int)+1)=(i:Int)+1:=wrap64 (by omega) (by omega)
     have htk:∀ z∈l.take (i+1),z∈l.take i∨z=l[i]:=fun z hz=>mem_take_succ hlt hz
     generalize l[i]=z at *
     cases e:isV x z
     ·rw [e] at hc
      simp [hu.cell,hlv,hlt',ob,op,hi1,cq,hc,slotOf,-pcall,-List.all_eq_true]
      refine hQ _ _ ⟨?_,rfl⟩
      have:l.all (isV x)=false:=by
       rw [Bool.eq_false_iff]
       intro h
       have:=List.all_eq_true.1 h z hm
       rw [e] at this
       cases this
      simp [isV,this]
     ·rw [e] at hc
      simp [hu.cell,hlv,hlt',ob,op,hi1,cq,hc,hw2,slotOf,-pcall,-List.all_eq_true]
      refine ⟨hlt,hI _ _ ⟨?_,_,_,_,_,rfl⟩⟩
      intro y hy
      rcases htk y hy with hy | rfl
      ·exact hz y hy
      ·exact e
    ·obtain rfl:i=l.length:=by omega
     simp [slotOf]
     refine hQ _ _ ⟨?_,rfl⟩
     rw [List.take_length] at hz
     have:l.all (isV x)=true:=List.all_eq_true.2 hz
     simp only [isV,this]
     rfl
   ·have e:Tr.numOk 4 n l.length=false:=by simp [Tr.numOk,h0]
    rw [e] at hnum
    simp [hu.cell,ob,gl0,hnum,slotOf,-pcall]
    refine hQ _ _ ⟨?_,rfl⟩
    simp [isV,h0]
  ·simp [hu.cell,ob,gl0,ne_true hk,slotOf,-pcall]
   refine hQ _ _ ⟨?_,rfl⟩
   simp [isV,hk]
inductive Fr {α β:Type} (R:α→β→Prop):List α→List β→Prop
 | nil:Fr R [] []
 | cons {a b as bs} (h:R a b) (t:Fr R as bs):Fr R (a :: as) (b :: bs)
namespace Fr
variable {α β:Type} {R:α→β→Prop}
theorem length {as:List α} {bs:List β} (h:Fr R as bs):as.length=bs.length:=by
 induction h with
 | nil=>rfl
 | cons _ _ ih=>simp [ih]
theorem append {as as':List α} {bs bs':List β} (h:Fr R as bs) (h':Fr R as' bs'):Fr R (as++as') (bs++bs'):=by
 induction h with
 | nil=>exact h'
 | cons a _ ih=>exact .cons a ih
theorem get {as:List α} {bs:List β} (h:Fr R as bs):∀ {i:Nat} (h1:i<as.length) (h2:i<bs.length),R as[i] bs[i]:=by
 induction h with
 | nil=>intro i h1; simp at h1
 | cons a _ ih =>
  intro i h1 h2
  cases i with
  | zero=>exact a
  | succ i=>exact ih (by simpa using h1) (by simpa using h2)
theorem mem {as:List α} {bs:List β} (h:Fr R as bs) {b:β} (hb:b∈bs):∃ a∈as,R a b:=by
 induction h with
 | nil=>simp at hb
 | cons r _ ih =>
  rcases List.mem_cons.1 hb with rfl | hb
  ·exact ⟨_,by simp,r⟩
  ·obtain ⟨a,h1,h2⟩:=ih hb
   exact ⟨a,by simp [h1],h2⟩
theorem take {as:List α} {bs:List β} (h:Fr R as bs):∀ n,Fr R (as.take n) (bs.take n):=by
 induction h with
 | nil=>intro n; simpa using Fr.nil
 | cons r _ ih =>
  intro n
  cases n with
  | zero=>exact .nil
  | succ n=>exact .cons r (ih n)
theorem drop {as:List α} {bs:List β} (h:Fr R as bs):∀ n,Fr R (as.drop n) (bs.drop n):=by
 induction h with
 | nil=>intro n; simpa using Fr.nil
 | cons r t ih =>
  intro n
  cases n with
  | zero=>exact .cons r t
  | succ n=>exact ih n
theorem mono {R':α→β→Prop} {as:List α} {bs:List β} (h:Fr R as bs) (hr:∀ a b,R a b→R' a b):Fr R' as bs:=by
 induction h with
 | nil=>exact .nil
 | cons r _ ih=>exact .cons (hr _ _ r) ih
end Fr
abbrev CellsV (cs:List V) (v:V):Prop:=SlV (cs.map fun x=>[x]) v
abbrev IntsV (l:List Int) (v:V):Prop:=CellsV (l.map fun n => .int .i64 n) v
def ListsV (ls:List (List Int)) (v:V):Prop:=∃ vs,CellsV vs v∧Fr IntsV ls vs
theorem chunks_single:∀ (cs:List V),chunks 1 cs.length cs=cs.map fun x=>[x]
 | []=>rfl
 | c :: cs=>by simp [chunks,chunks_single cs]
theorem CellsV.len' {cs:List V} {v:V} (h:CellsV cs v):lenV v=some (.int .i64 cs.length):=by
 have:=SlV.len h
 simpa using this
theorem CellsV.idx' {cs:List V} {v:V} (h:CellsV cs v) {i:Nat} (hi:i<cs.length):idxV v i 1=some (.pv [cs[i]]):=by
 rw [SlV.idx h]
 simp [hi]
theorem IntsV.len' {l:List Int} {v:V} (h:IntsV l v):lenV v=some (.int .i64 l.length):=by
 have:=CellsV.len' h
 simpa using this
theorem IntsV.idx' {l:List Int} {v:V} (h:IntsV l v) {i:Nat} (hi:i<l.length):idxV v i 1=some (.pv [.int .i64 l[i]]):=by
 have:=CellsV.idx' h (i:=i) (by simpa using hi)
 simpa using this
theorem pureL_all {cs:List V}:pureL cs=true↔∀ c∈cs,pureV c=true:=by
 induction cs with
 | nil=>simp [pureL]
 | cons c cs ih=>simp [pureL,ih]
theorem ListsV.pure {ls:List (List Int)} {v:V} (h:ListsV ls v):pureV v=true:=by
 obtain ⟨vs,h1,_⟩:=h
 exact SlV.pure h1
theorem ListsV.len {ls:List (List Int)} {v:V} (h:ListsV ls v):lenV v=some (.int .i64 ls.length):=by
 obtain ⟨vs,h1,h2⟩:=h
 rw [CellsV.len' h1,h2.length]
theorem ListsV.idx {ls:List (List Int)} {v:V} (h:ListsV ls v) {i:Nat} (hi:i<ls.length):∃ w,idxV v i 1=some (.pv [w])∧IntsV ls[i] w:=by
 obtain ⟨vs,h1,h2⟩:=h
 have hi':i<vs.length:=by rw [← h2.length]; exact hi
 exact ⟨vs[i],CellsV.idx' h1 hi',h2.get hi hi'⟩
theorem ListsV.cell {ls:List (List Int)} {v:V} (h:ListsV ls v):isCell v=true:=by
 obtain ⟨vs,h1,_⟩:=h
 exact SlV.cell h1
theorem ListsV.cells {ls:List (List Int)} {v:V} (h:ListsV ls v):cellsV v=[v]:=by
 obtain ⟨vs,h1,_⟩:=h
 exact SlV.cells h1
theorem view_own {H:Heap} {b n:Nat} {cs:List V} (hb:H[b]?=some (.cells n 1 cs)) (hn:n=cs.length) (hp:pureL cs=true):frzV H (.sl b 0 n n 1 false)=some (.sv (cs.map fun x=>[x]) false,H.set b .gone):=by
 subst hn
 simp [frzV,viewV,objCells_of hb,hp,chunks_single]
def partU (k:Int) (o:Option Tr):Option Tr:=match o with
 | none=>none
 | some t=>if t.n=k then t.l[0]? else none
def AllV (τ:Ty) (l:List (Option Tr)):Prop:=∀ t,some t∈l→t.Ok∧isV τ t=true
theorem isV_sum {a b:Ty} {t:Tr} (h:isV (.sum a b) t=true):∃ x,t.l=[x]∧(t.n=0∧isV a x=true∨t.n=1∧isV b x=true):=by
 obtain ⟨k,n,v,l⟩:=t
 match l with
 | [x]=>simp only [isV,Bool.and_eq_true,Bool.or_eq_true,beq_iff_eq] at h; exact ⟨x,rfl,h.2⟩
 | []=>simp [isV] at h
 | _ :: _ :: _=>simp [isV] at h
theorem Tr.Ok.kids {t:Tr} (h:t.Ok):∀ x∈t.l,x.Ok:=by
 cases h with
 | mk k n v l a b c d=>exact d
theorem AllV.left {a b:Ty} {l:List (Option Tr)} (h:AllV (.sum a b) l):AllV a (l.map (partU 0)):=by
 intro t ht
 obtain ⟨o,ho,he⟩:=List.mem_map.1 ht
 cases o with
 | none=>simp [partU] at he
 | some u =>
  obtain ⟨h1,h2⟩:=h u ho
  obtain ⟨x,e,h3⟩:=isV_sum h2
  rcases h3 with ⟨h3,h4⟩ | ⟨h3,h4⟩
  ·simp [partU,e,h3] at he
   subst he
   exact ⟨h1.kids _ (by simp [e]),h4⟩
  ·simp [partU,h3] at he
theorem AllV.right {a b:Ty} {l:List (Option Tr)} (h:AllV (.sum a b) l):AllV b (l.map (partU 1)):=by
 intro t ht
 obtain ⟨o,ho,he⟩:=List.mem_map.1 ht
 cases o with
 | none=>simp [partU] at he
 | some u =>
  obtain ⟨h1,h2⟩:=h u ho
  obtain ⟨x,e,h3⟩:=isV_sum h2
  rcases h3 with ⟨h3,h4⟩ | ⟨h3,h4⟩
  ·simp [partU,h3] at he
  ·simp [partU,e,h3] at he
   subst he
   exact ⟨h1.kids _ (by simp [e]),h4⟩
def pvO:Option Tr→V
 | none => .nilp
 | some t => .pv t.cs
inductive Ptrs (H:Heap) (l:List (Option Tr)):V→Prop
 | sv (v:V) (h:CellsV (l.map pvO) v):Ptrs H l v
 | sl (b:Nat) (h:H[b]?=some (.cells l.length 1 (l.map pvO))):Ptrs H l (.sl b 0 l.length l.length 1 false)
theorem Ptrs.len {H:Heap} {l:List (Option Tr)} {v:V} (h:Ptrs H l v):lenV v=some (.int .i64 l.length):=by
 cases h with
 | sv _ h=>have:=CellsV.len' h; simpa using this
 | sl b h=>rfl
theorem load_ref {h:Heap} {b n sz off:Nat} {cs:List V} {x:V} (ho:h[b]?=some (.cells n sz cs)) (hx:cs[off]?=some x):loadV h (.ref b off n) 1 false=some x:=by
 have hlt:=(List.getElem?_eq_some_iff.1 hx).1
 have e:(cs.drop off).take 1=[x]:=by
  rw [List.drop_eq_getElem_cons hlt,List.take_succ_cons,List.take_zero]
  have:=(List.getElem?_eq_some_iff.1 hx).2
  rw [this]
 simp only [loadV,objCells_of ho]
 rw [if_pos ⟨trivial,by omega⟩,e]
 rfl
theorem Ptrs.read {H:Heap} {l:List (Option Tr)} {v:V} (h:Ptrs H l v) {i:Nat} (hi:i<l.length):∃ a,idxV v i 1=some a∧loadV H a 1 false=some (pvO l[i]):=by
 cases h with
 | sv _ h =>
  have:=CellsV.idx' h (i:=i) (by simpa using hi)
  exact ⟨_,this,by simp⟩
 | sl b h =>
  refine ⟨.ref b ((0+i) * 1) l.length,?_,?_⟩
  ·simp only [idxV,Int.toNat_natCast]
   rw [if_pos ⟨by omega,by omega,trivial⟩]
  ·exact load_ref h (by simp [hi])
theorem Ptrs.cell {H:Heap} {l:List (Option Tr)} {v:V} (h:Ptrs H l v):isCell v=true:=by
 cases h with
 | sv _ h=>exact SlV.cell h
 | sl b h=>rfl
theorem Ptrs.cells {H:Heap} {l:List (Option Tr)} {v:V} (h:Ptrs H l v):cellsV v=[v]:=by
 cases h with
 | sv _ h=>exact SlV.cells h
 | sl b h=>rfl
theorem Ptrs.ext {H H':Heap} {l:List (Option Tr)} {v:V} (h:Ptrs H l v) (he:∀ (i:Nat) o,H[i]?=some o→H'[i]?=some o):Ptrs H' l v:=by
 cases h with
 | sv _ h=>exact .sv _ h
 | sl b h=>exact .sl b (he _ _ h)
theorem Tr.Ok.sl {t:Tr} (h:t.Ok):SlV (t.l.map Tr.cs) t.v:=by
 cases h with
 | mk k n v l a b c d=>exact c
theorem load_cell {H:Heap} {c:Nat} {x:V} (h:H[c]?=some (.cells 1 1 [x])):loadV H (.ref c 0 1) 1 false=some x:=load_ref h rfl
theorem get_set_ne {H:Heap} {i j:Nat} (h:i≠j) (o:Am.Obj):(H.set i o)[j]?=H[j]?:=List.getElem?_set_ne h
theorem set_last {H:Heap} (o o':Am.Obj):(H++[o]).set H.length o'=H++[o']:=by simp
inductive Pool (H:Heap) (p q:Nat):List (Option Tr)→Prop
 | nil (h:H[p]?=some (.cells 1 1 [.nils])):Pool H p q []
 | cons (l:List (Option Tr)) (hl:l≠[]) (h:H[p]?=some (.cells 1 1 [.sl q 0 l.length l.length 1 false])) (hq:H[q]?=some (.cells l.length 1 (l.map pvO))):Pool H p q l
theorem Pool.app {H:Heap} {p q:Nat} {l:List (Option Tr)} (h:Pool H p q l) (X:Heap):Pool (H++X) p q l:=by
 cases h with
 | nil h=>exact .nil (get_app h)
 | cons _ hl h hq=>exact .cons _ hl (get_app h) (get_app hq)
def poolV (q n:Nat):V:=if n=0 then .nils else .sl q 0 n n 1 false
theorem Pool.cell {H:Heap} {p q:Nat} {l:List (Option Tr)} (h:Pool H p q l):H[p]?=some (.cells 1 1 [poolV q l.length]):=by
 cases h with
 | nil h=>exact h
 | cons _ hl h hq =>
  rw [h,poolV,if_neg (by simpa using hl)]
theorem Pool.set {H:Heap} {p q:Nat} {l:List (Option Tr)} (h:Pool H p q l) {j:Nat} (h1:j≠p) (h2:j≠q) (o:Am.Obj):Pool (H.set j o) p q l:=by
 cases h with
 | nil h=>exact .nil (by rw [get_set_ne h1]; exact h)
 | cons _ hl h hq=>exact .cons _ hl (by rw [get_set_ne h1]; exact h) (by rw [get_set_ne h2]; exact hq)
theorem ext_of {H G:Heap} (hl:H.length≤G.length) (h:∀ j,j<H.length→G[j]?=H[j]?):∃ X,G=H++X:=by
 refine ⟨G.drop H.length,?_⟩
 have e:G.take H.length=H:=by
  apply List.ext_getElem?
  intro i
  rw [List.getElem?_take]
  by_cases hi:i<H.length
  ·rw [if_pos hi,h i hi]
  ·rw [if_neg hi]
   rw [Nat.not_lt] at hi
   exact (List.getElem?_eq_none (by omega)).symm
 have:=List.take_append_drop H.length G
 rw [e] at this
 exact this.symm
theorem ListsV.nil:ListsV [] .nils:=⟨[],.nil rfl,.nil⟩
theorem ListsV.one {l:List Int} {u:V} (h:IntsV l u):ListsV [l] (.sv [[u]] true):=⟨[u],.sv true,.cons h .nil⟩
abbrev clo61 (a:Nat):V:=.func (.func 61) [] [.ref a 0 1]
def Tr.fits (d:Nat) (t:Tr):Bool:=decide (t.levels≤d)&&t.allNum
theorem Tr.levelsL_le {l:List Tr} {d:Nat}:levelsL l≤d↔∀ u∈l,u.levels≤d:=by
 induction l with
 | nil=>simp [levelsL]
 | cons u us ih =>
  simp only [levelsL,List.mem_cons,forall_eq_or_imp,← ih]
  omega
theorem Tr.fits_iff {k n:Int} {v:V} {l:List Tr} {d:Nat}:(Tr.mk k n v l).fits d=true↔0<d∧numOk k n l.length=true∧∀ u∈l,u.fits (d - 1)=true:=by
 simp only [fits,Bool.and_eq_true,decide_eq_true_eq]
 simp only [levels,allNum,Bool.and_eq_true,allNumL_iff]
 constructor
 ·rintro ⟨h1,h2,h3⟩
  refine ⟨by omega,h2,fun u hu=>⟨?_,h3 u hu⟩⟩
  have:=levelsL_mem hu
  omega
 ·rintro ⟨h1,h2,h3⟩
  have:=levelsL_le.2 fun u hu=>(h3 u hu).1
  exact ⟨by omega,h2,fun u hu=>(h3 u hu).2⟩
theorem v64_q (u:Tr) (ho:u.Ok) (d:Nat) (hd:d<2 ^ 60) (hd0:0<d) (H:Heap) (a e:Nat) (ha:H[a]?=some (.cells 1 1 [clo61 a])) (he:H[e]?=some (.cells 1 1 [.int .i64 d]))
  (ih:∀ (h:Heap),h[a]?=some (.cells 1 1 [clo61 a])→∃ X,CC 61 [.agg u.cs,.int .i64 (d - 1:Nat),.ref a 0 1] h (.ret (.bool (u.fits (d - 1)))) (h++X)) :
  ∃ X,CC 64 [.agg u.cs,.ref a 0 1,.ref e 0 1] H (.ret (.bool (!u.fits (d - 1)))) (H++X):=by
 obtain ⟨X,hc⟩:=ih H ha
 have hdi:((d - 1:Nat):Int)=(d:Int) - 1:=by omega
 rw [hdi] at hc
 have oa:=objCells_of ha
 have oe:=objCells_of he
 have hcc:=cells_tr ho
 have hw:IntKind.i64.wrap ((d:Int) - 1)=(d:Int) - 1:=wrap64 (by omega) (by omega)
 refine ⟨X,CallP.eq (call_ofQ (af:=Trnx.a64) rfl rfl fun Q hQ => ?_)⟩
 simp only [Trnx.a64]
 simp [hcc,oa,oe,hw,hc,slotOf,-List.all_eq_true]
 exact hQ _ _ ⟨rfl,rfl⟩
theorem v86_q (l:List Tr) (v:V) (hv:SlV (l.map Tr.cs) v) (hl:∀ x∈l,x.Ok) (hlen:l.length<2 ^ 60) (d:Nat) (hd:d<2 ^ 60) (hd0:0<d) (H:Heap) (a e:Nat) (ha:H[a]?=some (.cells 1 1 [clo61 a])) (he:H[e]?=some (.cells 1 1 [.int .i64 d]))
  (ih:∀ u∈l,∀ (h:Heap),h[a]?=some (.cells 1 1 [clo61 a])→∃ X,CC 61 [.agg u.cs,.int .i64 (d - 1:Nat),.ref a 0 1] h (.ret (.bool (u.fits (d - 1)))) (h++X)) :
  ∃ X,∃ r:Int,CC 86 [v,.func (.func 64) [] [.ref a 0 1,.ref e 0 1]] H (.ret (.int .i64 r)) (H++X)∧(0≤r↔∃ u∈l,u.fits (d - 1)=false):=by
 have hlv:=len_tr hv
 have key:CallP gl Trnx.aprog 86 [v,.func (.func 64) [] [.ref a 0 1,.ref e 0 1]] H (fun r h'=>∃ X,∃ i:Int,r = .ret (.int .i64 i)∧h'=H++X∧(0≤i↔∃ u∈l,u.fits (d - 1)=false)):=by
  refine call_ofQ (af:=Trnx.a86) rfl rfl fun Q hQ => ?_
  simp only [Trnx.a86]
  simp [hlv,slotOf]
  refine loop_nQ l.length (fun i c=>(∀ u∈l.take i,u.fits (d - 1)=true)∧∃ X x y,c=⟨[v,.func (.func 64) [] [.ref a 0 1,.ref e 0 1],.int .i64 0,x,.int .i64 l.length,.int .i64 i],[],y,none,H++X⟩) ?_ ⟨by simp,[],.undef,none,by simp⟩
  rintro I hI i c hi ⟨hu,X,x,y,rfl⟩
  by_cases hlt:i<l.length
  ·have hlt':(i:Int)<l.length:=by omega
   have hi1:=idx_tr hv hlt
   have hm:=List.getElem_mem hlt
   have hw2:IntKind.i64.wrap ((i:Int)+1)=(i:Int)+1:=wrap64 (by omega) (by omega)
   have halt:a<H.length:=(List.getElem?_eq_some_iff.1 ha).1
   have helt:e<H.length:=(List.getElem?_eq_some_iff.1 he).1
   obtain ⟨Y,hc⟩:=v64_q l[i] (hl _ hm) d hd hd0 (H++X) a e (by rw [List.getElem?_append_left halt]; exact ha) (by rw [List.getElem?_append_left helt]; exact he) (ih _ hm)
   have htk:∀ u∈l.take (i+1),u∈l.take i∨u=l[i]:=fun u hu=>mem_take_succ hlt hu
   generalize l[i]=u at *
   cases hf:u.fits (d - 1)
   ·rw [hf] at hc
    simp [hlv,hlt',hi1,hc,slotOf]
    exact hQ _ _ ⟨X++Y,i,rfl,by simp,by simp only [Int.natCast_nonneg,true_iff]; exact ⟨u,hm,hf⟩⟩
   ·rw [hf] at hc
    simp [hlv,hlt',hi1,hc,hw2,slotOf]
    refine ⟨hlt,hI _ _ ⟨?_,X++Y,.int .i64 i,none,by simp⟩⟩
    intro w hw
    rcases htk w hw with hw | rfl
    ·exact hu w hw
    ·exact hf
  ·obtain rfl:i=l.length:=by omega
   simp [hlv,slotOf]
   refine hQ _ _ ⟨X,-1,rfl,rfl,?_⟩
   rw [List.take_length] at hu
   constructor
   ·intro h; omega
   ·rintro ⟨u,hm,hf⟩
    rw [hu u hm] at hf
    cases hf
 obtain ⟨r,h',e,X,i,rfl,rfl,h1⟩:=OptP.ex key
 exact ⟨X,i,e,h1⟩
theorem v61_q:∀ t:Tr,t.Ok→t.nodes<2 ^ 60→∀ (d:Nat) (h:Heap) (a:Nat),d<2 ^ 60→h[a]?=some (.cells 1 1 [clo61 a]) →
  ∃ X,CC 61 [.agg t.cs,.int .i64 d,.ref a 0 1] h (.ret (.bool (t.fits d))) (h++X):=by
 intro t
 induction t using Tr.ind with
 | h k n v l ih =>
 intro ho hnn d h a hd ha
 obtain ⟨_,_,hv,hl⟩:=ho.inv
 have hlv:=len_tr hv
 simp only [Tr.nodes] at hnn
 have hlen:=Tr.nodesL_length l
 have hnum:=number_q _ ho
 rw [PC] at hnum
 simp only [Tr.k,Tr.n,Tr.l] at hnum
 have he:∀ x:V,objCells (h++[.cells 1 1 [x]]) h.length=some (1,1,[x]):=fun x=>by simp [objCells]
 have hcs:(Tr.mk k n v l).cs=[.int .i64 k,.int .i64 n,v]:=rfl
 rw [hcs] at hnum ⊢
 by_cases hd0:d=0
 ·subst hd0
  refine ⟨[.cells 1 1 [.int .i64 0]],CallP.eq (call_ofQ (af:=Trnx.a61) rfl rfl fun Q hQ => ?_)⟩
  simp only [Trnx.a61]
  simp [hv.cell,he,slotOf]
  refine hQ _ _ ⟨?_,rfl⟩
  simp [Tr.fits,Tr.levels]
 have hdp:0<d:=by omega
 cases hnb:Tr.numOk k n l.length
 ·rw [hnb] at hnum
  refine ⟨[.cells 1 1 [.int .i64 d]],CallP.eq (call_ofQ (af:=Trnx.a61) rfl rfl fun Q hQ => ?_)⟩
  simp only [Trnx.a61]
  simp [hv.cell,he,hdp,hnum,slotOf,-pcall]
  refine hQ _ _ ⟨?_,rfl⟩
  simp [Tr.fits,Tr.allNum,hnb]
 rw [hnb] at hnum
 have halt:a<h.length:=(List.getElem?_eq_some_iff.1 ha).1
 obtain ⟨X,r,hc,hr⟩:=v86_q l v hv hl (by omega) d hd (by omega) (h++[.cells 1 1 [.int .i64 d]]) a h.length (by rw [List.getElem?_append_left halt]; exact ha) (by simp)
  (fun u hu h' ha'=>ih u hu (hl u hu) (by have:=Tr.nodesL_mem hu; omega) (d - 1) h' a (by omega) ha')
 have hc63:CC 63 [v,.func (.func 64) [] [.ref a 0 1,.ref h.length 0 1]] (h++[.cells 1 1 [.int .i64 d]]) (.ret (.bool (decide (0≤r)))) (h++[.cells 1 1 [.int .i64 d]]++X):=by
  refine CallP.eq (call_ofQ (af:=Trnx.a63) rfl rfl fun Q hQ => ?_)
  simp only [Trnx.a63]
  simp only [List.append_assoc] at hc
  simp [hc,slotOf]
  exact hQ _ _ ⟨rfl,by simp⟩
 refine ⟨[.cells 1 1 [.int .i64 d]]++X,CallP.eq (call_ofQ (af:=Trnx.a61) rfl rfl fun Q hQ => ?_)⟩
 have hfit:(Tr.mk k n v l).fits d = !decide (0≤r):=by
  rw [Bool.eq_iff_iff,Tr.fits_iff]
  simp only [Bool.not_eq_true',decide_eq_false_iff_not,hr]
  constructor
  ·rintro ⟨_,_,h1⟩ ⟨u,hu,h2⟩
   rw [h1 u hu] at h2
   cases h2
  ·intro h1
   refine ⟨by omega,hnb,fun u hu => ?_⟩
   cases h2:u.fits (d - 1)
   ·exact absurd ⟨u,hu,h2⟩ h1
   ·rfl
 simp only [Trnx.a61]
 simp only [List.append_assoc] at hc63
 simp [hv.cell,he,hdp,hnum,hc63,slotOf,-pcall]
 refine hQ _ _ ⟨?_,rfl⟩
 first
  | (rw [hfit]; done)
  | (rw [hfit]; simp)
theorem valid_q (t:Tr) (ho:t.Ok) (hn:t.nodes<2 ^ 60):PC 20 [.agg t.cs] (.bool (t.sized&&t.fits 12)):=by
 obtain ⟨m,hs,hm⟩:=size_q t ho hn
 rw [PC] at hs
 have hcc:=cells_tr ho
 refine pc_of (by simp [pureL,pureV,pure_tr ho]) (fun h=>rfl) ?_
 refine call_ofQ (af:=Trnx.a20) rfl rfl fun Q hQ => ?_
 simp only [Trnx.a20]
 cases e:t.sized
 ·rw [e] at hs hQ
  simp [hcc,hs,slotOf,-pcall,-List.all_eq_true]
  exact hQ _ _ rfl
 ·rw [e] at hs hQ
  obtain ⟨X,hc⟩:=v61_q t ho hn 12 [.cells 1 1 [clo61 0]] 0 (by omega) rfl
  have hc':(lim gl Trnx.aprog).call 61 [.agg t.cs,.int .i64 12,.ref 0 0 1] [.cells 1 1 [clo61 0]]=some (.ret (.bool (t.fits 12)),_):=hc
  simp [hcc,hs,hc',storeV,objCells,slotOf,-pcall,-List.all_eq_true]
  refine hQ _ _ ?_
  simp
abbrev wrong (e:Int):V:=.iface 104 (.agg [.int .i64 e])
theorem asked_q {t:Tr} {τ:Ty} (hτ:IsTy t τ) (ho:t.Ok) (h1:τ.size≤60) (h2:τ.deep≤12) (h:Heap):CC 53 [.agg t.cs] h (.ret (.ref h.length 0 1)) (h++layL h.length τ):=by
 have hs:=small_q t ho
 rw [PC,decide_eq_true ⟨by rw [hτ.nodes]; omega,by rw [hτ.levels]; omega⟩] at hs
 have hcc:=cells_tr ho
 have hm:=must_t 3
 rw [PC] at hm
 have hc:=of_q hτ ho (by omega) h
 refine CallP.eq (call_ofQ (af:=Trnx.a53) rfl rfl fun Q hQ => ?_)
 simp only [Trnx.a53]
 simp [hcc,hs,hm,hc,slotOf,-pcall,-List.all_eq_true]
 exact hQ _ _ ⟨rfl,rfl⟩
theorem caught_none (p:Nat) (h:Heap):(lim gl Trnx.aprog).dcall 52 [.ref p 0 1] none h=some (none,h):=by
 refine dcall_of (af:=Trnx.a52) rfl rfl ?_
 simp only [Trnx.a52]
 simp [slotOf]
theorem caught_wrong (p:Nat) (e u:Int) (h:Heap) (hp:h[p]?=some (.cells 1 1 [.int .i64 u])):(lim gl Trnx.aprog).dcall 52 [.ref p 0 1] (some (wrong e)) h=some (none,h.set p (.cells 1 1 [.int .i64 e])):=by
 have o:=objCells_of hp
 refine dcall_of (af:=Trnx.a52) rfl rfl ?_
 simp only [Trnx.a52]
 simp [o,storeV,slotOf]
end Go.Proofs.Nst
