/- A part of the law's proof: PartB. -/
import Derived.Test.YtlgehpjbhijknaaGreatDoorPartA
import Derived.Test.YtlgehpjbhijknaaGreatDoorCoreD
set_option linter.unusedVariables false
set_option linter.unusedSimpArgs false
namespace Go.Proofs.Nst
open Go Go.Am
theorem view_lists {ls:List (List Int)} {u:V} (h:ListsV ls u) (e:Int) (lo:Nat) (hp:Heap):viewW lo hp (.tup [u,.int .i64 e])=some (.tup [u,.int .i64 e]):=by
 obtain ⟨vs,h1,_⟩:=h
 have:=SlV.view h1 lo hp
 refine viewW_of ?_
 simp [viewV,viewL,this]
def slotCs:Option Tr→List V
 | none=>[.bool false,.int .i64 0,.int .i64 0,.nils]
 | some t => .bool true :: t.cs
theorem slotCs_len (o:Option Tr):(slotCs o).length=4:=by cases o <;> simp [slotCs]
abbrev SlotsV (l:List (Option Tr)) (v:V):Prop:=SlV (l.map slotCs) v
theorem SlotsV.len' {l:List (Option Tr)} {v:V} (h:SlotsV l v):lenV v=some (.int .i64 l.length):=by
 have:=SlV.len h
 simpa using this
theorem SlotsV.idx' {l:List (Option Tr)} {v:V} (h:SlotsV l v) {i:Nat} (hi:i<l.length):idxV v i 4=some (.pv (slotCs l[i])):=by
 rw [SlV.idx h]
 simp [hi,slotCs_len]
theorem chunks_map {α:Type} (f:α→List V) (n:Nat):∀ l:List α,(∀ x∈l,(f x).length=n)→chunks n l.length (l.map f).flatten=l.map f
 | [],_=>rfl
 | x :: l,h=>by
  have hx:=h x (by simp)
  simp only [List.length_cons,List.map_cons,List.flatten_cons,chunks]
  rw [List.take_append_of_le_length (by omega),List.take_of_length_le (by omega),List.drop_append_of_le_length (by omega),List.drop_of_length_le (by omega),List.nil_append,chunks_map f n l fun y hy=>h y (by simp [hy])]
inductive OwnL (n:Nat) (H:Heap):List V→V→Prop
 | nil:OwnL n H [] .nils
 | sl (vs:List V) (b:Nat) (hb:n≤b) (h:H[b]?=some (.cells vs.length 1 vs)):OwnL n H vs (.sl b 0 vs.length vs.length 1 false)
def blk:V→Option Nat
 | .sl b _ _ _ _ _=>some b
 | _=>none
namespace OwnL
variable {n:Nat} {H:Heap} {vs:List V} {v:V}
theorem slen (h:OwnL n H vs v):sliceLen v=some vs.length:=by cases h <;> rfl
theorem scells (h:OwnL n H vs v):sliceCells H v=some vs:=by
 cases h with
 | nil=>rfl
 | sl vs b hb h=>simp [sliceCells,objCells_of h]
theorem cell (h:OwnL n H vs v):isCell v=true:=by cases h <;> rfl
theorem cells (h:OwnL n H vs v):cellsV v=[v]:=by cases h <;> rfl
theorem blk_lt (h:OwnL n H vs v) {b:Nat} (hb:blk v=some b):n≤b∧b<H.length:=by
 cases h with
 | nil=>cases hb
 | sl vs c hc h=>cases hb; exact ⟨hc,(List.getElem?_eq_some_iff.1 h).1⟩
theorem frame (h:OwnL n H vs v) {H':Heap} (he:∀ b,blk v=some b→H'[b]?=H[b]?):OwnL n H' vs v:=by
 cases h with
 | nil=>exact .nil
 | sl vs b hb h=>exact .sl vs b hb (by rw [he b rfl]; exact h)
theorem view (h:OwnL n H vs v) (hp:pureL vs=true):∃ u,viewV 0 H v=some u∧CellsV vs u:=by
 cases h with
 | nil=>exact ⟨.nils,rfl,.nil rfl⟩
 | sl vs b hb h=>exact ⟨.sv (vs.map fun x=>[x]) false,by simp [viewV,objCells_of h,hp,chunks_single],.sv false⟩
theorem frz (h:OwnL n H vs v) (hp:pureL vs=true):∃ u G,frzV H v=some (u,G)∧CellsV vs u:=by
 cases h with
 | nil=>exact ⟨.nils,H,rfl,.nil rfl⟩
 | sl vs b hb h=>exact ⟨_,_,view_own h rfl hp,.sv false⟩
end OwnL
theorem take_succ_iff {α:Type} {l m:List α} {i:Nat} (h1:i<l.length) (h2:i<m.length):l.take (i+1)=m.take (i+1)↔l.take i=m.take i∧l[i]=m[i]:=by
 rw [← List.take_append_getElem h1,← List.take_append_getElem h2]
 constructor
 ·intro h
  obtain ⟨a,b⟩:=List.append_inj' h rfl
  exact ⟨a,by simpa using b⟩
 ·rintro ⟨a,b⟩
  rw [a,b]
theorem equal_q (l m:List Int) (v w:V) (hv:IntsV l v) (hw:IntsV m w) (hl:l.length<2 ^ 60):PC 45 [v,w] (.bool (decide (l=m))):=by
 have lv:=hv.len'
 have lw:=hw.len'
 refine pc_of (by simp [pureL,SlV.pure hv,SlV.pure hw]) (fun h=>rfl) ?_
 refine call_ofQ (af:=Trnz.a45) rfl rfl fun Q hQ => ?_
 simp only [Trnz.a45]
 simp [lv,lw,slotOf]
 refine loop_nQ l.length (fun i c=>∃ b fl,c=⟨[v,w,.bool false,.bool b,.int .i64 i],[],fl,none,[]⟩∧(b=true↔l.length=m.length∧l.take i=m.take i)) ?_ ⟨_,_,rfl,by simp; omega⟩
 rintro I hI i c hi ⟨b,fl,rfl,hb⟩
 cases b with
 | false =>
  simp [lv,lw,slotOf]
  refine hQ _ _ ?_
  have:decide (l=m)=false:=decide_eq_false (by
   rintro rfl
   have:=hb.2 ⟨rfl,rfl⟩
   cases this)
  rw [this]
 | true =>
  obtain ⟨h1,h2⟩:=hb.1 rfl
  by_cases hlt:i<l.length
  ·have hlt':(i:Int)<l.length:=by omega
   have hlm:i<m.length:=by omega
   have hw2:IntKind.i64.wrap ((i:Int)+1)=(i:Int)+1:=wrap64 (by omega) (by omega)
   have a1:=hv.idx' hlt
   have a2:=hw.idx' hlm
   simp [lv,lw,hlt',a1,a2,hw2,slotOf]
   refine ⟨hlt,hI _ _ ⟨_,_,rfl,?_⟩⟩
   rw [take_succ_iff hlt hlm]
   simp [h1,h2]
  ·obtain rfl:i=l.length:=by omega
   simp [lv,lw,slotOf]
   refine hQ _ _ ?_
   have:decide (l=m)=true:=decide_eq_true (by
    rw [List.take_length,h1,List.take_length] at h2
    exact h2)
   rw [this]
theorem equalLists_q (l m:List (List Int)) (v w:V) (hv:ListsV l v) (hw:ListsV m w) (hl:l.length<2 ^ 60) (hll:∀ x∈l,x.length<2 ^ 60):PC 16 [v,w] (.bool (decide (l=m))):=by
 have lv:=hv.len
 have lw:=hw.len
 refine pc_of (by simp [pureL,hv.pure,hw.pure]) (fun h=>rfl) ?_
 refine call_ofQ (af:=Trnz.a16) rfl rfl fun Q hQ => ?_
 simp only [Trnz.a16]
 simp [lv,lw,slotOf]
 refine loop_nQ l.length (fun i c=>∃ b fl,c=⟨[v,w,.bool false,.bool b,.int .i64 i],[],fl,none,[]⟩∧(b=true↔l.length=m.length∧l.take i=m.take i)) ?_ ⟨_,_,rfl,by simp; omega⟩
 rintro I hI i c hi ⟨b,fl,rfl,hb⟩
 cases b with
 | false =>
  simp [lv,lw,slotOf]
  refine hQ _ _ ?_
  have:decide (l=m)=false:=decide_eq_false (by
   rintro rfl
   have:=hb.2 ⟨rfl,rfl⟩
   cases this)
  rw [this]
 | true =>
  obtain ⟨h1,h2⟩:=hb.1 rfl
  by_cases hlt:i<l.length
  ·have hlt':(i:Int)<l.length:=by omega
   have hlm:i<m.length:=by omega
   have hw2:IntKind.i64.wrap ((i:Int)+1)=(i:Int)+1:=wrap64 (by omega) (by omega)
   obtain ⟨x1,a1,b1⟩:=hv.idx hlt
   obtain ⟨x2,a2,b2⟩:=hw.idx hlm
   have hc:=equal_q _ _ _ _ b1 b2 (hll _ (List.getElem_mem hlt))
   rw [PC] at hc
   simp [lv,lw,hlt',a1,a2,hc,hw2,slotOf,-pcall]
   refine ⟨hlt,hI _ _ ⟨_,_,rfl,?_⟩⟩
   rw [take_succ_iff hlt hlm]
   simp [h1,h2]
  ·obtain rfl:i=l.length:=by omega
   simp [lv,lw,slotOf]
   refine hQ _ _ ?_
   have:decide (l=m)=true:=decide_eq_true (by
    rw [List.take_length,h1,List.take_length] at h2
    exact h2)
   rw [this]
inductive Vl where
 | mk (k n:Int) (l:List Vl)
 deriving Inhabited
mutual
def Tr.vl:Tr→Vl
 | .mk k n _ l => .mk k n (Tr.vlL l)
def Tr.vlL:List Tr→List Vl
 | []=>[]
 | t :: ts=>t.vl :: Tr.vlL ts
end
theorem Tr.vlL_eq (l:List Tr):Tr.vlL l=l.map Tr.vl:=by
 induction l with
 | nil=>rfl
 | cons t l ih=>simp [Tr.vlL,ih]
namespace Vl
mutual
def nodes:Vl→Nat
 | .mk _ _ l=>1+nodesL l
def nodesL:List Vl→Nat
 | []=>0
 | t :: ts=>nodes t+nodesL ts
end
end Vl
mutual
theorem vl_nodes:∀ t:Tr,t.vl.nodes=t.nodes
 | .mk k n v l=>by simp only [Tr.vl,Vl.nodes,Tr.nodes,vlL_nodes l]
theorem vlL_nodes:∀ l:List Tr,Vl.nodesL (Tr.vlL l)=Tr.nodesL l
 | []=>rfl
 | t :: l=>by simp only [Tr.vlL,Vl.nodesL,Tr.nodesL,vl_nodes t,vlL_nodes l]
end
def rg (own:List (List Int)) (j i:Nat):Int:=(own.getD j []).getD i 0
def allO {α:Type}:List (Option α)→Option (List α)
 | []=>some []
 | none :: _=>none
 | some a :: l=>match allO l with
  | some l=>some (a :: l)
  | none=>none
theorem allO_some {α:Type} {l:List (Option α)} {r:List α}:allO l=some r↔l=r.map some:=by
 induction l generalizing r with
 | nil=>cases r <;> simp [allO]
 | cons a l ih =>
  cases a with
  | none=>cases r <;> simp [allO]
  | some a =>
   simp only [allO]
   cases e:allO l with
   | none =>
    simp only [reduceCtorEq,false_iff]
    cases r with
    | nil=>simp
    | cons b r =>
     simp only [List.map_cons,List.cons.injEq,not_and]
     intro _ h
     rw [ih.2 h] at e
     cases e
   | some l' =>
    rw [ih.1 e]
    cases r with
    | nil=>simp
    | cons b r =>
     simp only [Option.some.injEq,List.cons.injEq,List.map_cons]
     constructor
     ·rintro ⟨rfl,rfl⟩; exact ⟨rfl,rfl⟩
     ·rintro ⟨rfl,h⟩
      refine ⟨rfl,?_⟩
      have:∀ {a b:List α},a.map some=b.map some→a=b:=by
       intro a
       induction a with
       | nil=>intro b h; cases b <;> simp at h ⊢
       | cons x a ih=>intro b h; cases b with
        | nil=>simp at h
        | cons y b=>simp at h; rw [h.1,ih h.2]
      exact this h
theorem allO_none {α:Type} {l:List (Option α)}:allO l=none↔none∈l:=by
 induction l with
 | nil=>simp [allO]
 | cons a l ih =>
  cases a with
  | none=>simp [allO]
  | some a =>
   simp only [allO]
   cases e:allO l with
   | none=>simp [ih.1 e]
   | some l'=>simp; intro h; rw [ih.2 h] at e; cases e
def pairO:Option Vl→Option Vl→Option Vl
 | some x,some y=>some (.mk 2 0 [x,y])
 | _,_=>none
def rd:Ty→List (List Int)→List (List Int)→Nat→Option Vl
 | .unit,_,_,_=>some (.mk 0 0 [])
 | .int,own,_,i=>if isWord (rg own 0 i) then some (.mk 1 (rg own 0 i) []) else none
 | .pair a b,own,data,i=>pairO (rd a (own.take a.own) (data.take a.data) i) (rd b (own.drop a.own) (data.drop a.data) i)
 | .sum a b,own,data,i=>if rg own 0 i=0 then (rd a ((own.drop 1).take a.own) (data.take a.data) i).map fun x => .mk 3 0 [x]
  else if rg own 0 i=1 then (rd b ((own.drop 1).drop a.own) (data.drop a.data) i).map fun x => .mk 3 1 [x] else none
 | .seq a,own,data,i=>if ¬ (0≤rg own 1 i∧rg own 1 i≤4096) then none else if rg own 1 i=0 then some (.mk 4 0 []) else
  if rg own 0 i<0∨(a.own≠0∧rg own 0 i > (data.headD []).length - rg own 1 i) then none else
  (allO ((List.range (rg own 1 i).toNat).map fun k=>rd a (data.take a.own) (data.drop a.own) (if a.own=0 then 0 else (rg own 0 i).toNat+k))).map fun l => .mk 4 0 l
def shp:Ty→List (List Int)→Bool
 | .unit,_=>true
 | .int,_=>true
 | .pair a b,data=>shp a (data.take a.data)&&shp b (data.drop a.data)
 | .sum a b,data=>shp a (data.take a.data)&&shp b (data.drop a.data)
 | .seq a,data=>(data.take a.own).all (fun r=>r.length == (data.headD []).length)&&shp a (data.drop a.own)
def rdAll (τ:Ty) (own data:List (List Int)) (n:Nat):Option (List Vl):=allO ((List.range n).map fun i=>rd τ own data i)
def sumE:Option (List Vl)→Int
 | none=>8
 | some l=>if Vl.nodesL l≤20000 then 0 else 3
def bldE (τ:Ty) (n:Int) (R:List (List Int)):Int :=
 if ¬ (0≤n∧n≤20000) then 2 else
 if ¬ (R.length=τ.own+τ.data∧(R.take τ.own).all (fun r=>(r.length:Int) == n)=true∧shp τ (R.drop τ.own)=true) then 8 else
 sumE (rdAll τ (R.take τ.own) (R.drop τ.own) n.toNat)
def bldL (τ:Ty) (n:Int) (R:List (List Int)):List Vl:=(rdAll τ (R.take τ.own) (R.drop τ.own) n.toNat).getD []
def unitV:Ty→Vl
 | .pair a b => .mk 2 0 [unitV a,unitV b]
 | _ => .mk 0 0 []
theorem rd_unit:∀ (τ:Ty),τ.own=0→∀ own data i,rd τ own data i=some (unitV τ)
 | .unit,_,_,_,_=>rfl
 | .int,h,_,_,_=>by simp [Ty.own] at h
 | .pair a b,h,own,data,i=>by
  simp only [Ty.own] at h
  simp only [rd,rd_unit a (by omega),rd_unit b (by omega),unitV,pairO]
 | .sum a b,h,_,_,_=>by simp [Ty.own] at h
 | .seq a,h,_,_,_=>by simp [Ty.own] at h
theorem unitV_nodes:∀ τ:Ty,τ.own=0→(unitV τ).nodes=τ.size
 | .unit,_=>rfl
 | .int,h=>by simp [Ty.own] at h
 | .pair a b,h=>by
  simp only [Ty.own] at h
  simp only [unitV,Vl.nodes,Vl.nodesL,unitV_nodes a (by omega),unitV_nodes b (by omega),Ty.size]
  omega
 | .sum a b,h=>by simp [Ty.own] at h
 | .seq a,h=>by simp [Ty.own] at h
def LayD (H:Heap):Nat→Ty→Prop
 | b,.unit=>H[b]?=some (lobj 0 0 0 .nils)
 | b,.int=>H[b]?=some (lobj 1 0 1 .nils)
 | b,.pair x y=>H[b]?=some (lobj (x.own+y.own) (x.data+y.data) 2 (.sl (b+1+objs x) 0 2 2 1 false))∧H[b+1+objs x]?=some (.cells 2 1 [.ref (b+1) 0 1,.ref (b+2+objs x) 0 1])∧LayD H (b+1) x∧LayD H (b+2+objs x) y
 | b,.sum x y=>H[b]?=some (lobj (1+x.own+y.own) (x.data+y.data) 3 (.sl (b+1+objs x) 0 2 2 1 false))∧H[b+1+objs x]?=some (.cells 2 1 [.ref (b+1) 0 1,.ref (b+2+objs x) 0 1])∧LayD H (b+1) x∧LayD H (b+2+objs x) y
 | b,.seq x=>H[b]?=some (lobj 2 (x.own+x.data) 4 (.sl (b+1+objs x) 0 1 1 1 false))∧H[b+1+objs x]?=some (.cells 1 1 [.ref (b+1) 0 1])∧LayD H (b+1) x
theorem LayD.ext {H H':Heap}:∀ {τ:Ty} {b:Nat},LayD H b τ→(∀ i,b≤i→i<b+objs τ→H'[i]?=H[i]?)→LayD H' b τ
 | .unit,b,h,he=>show _=_ by rw [he b (by omega) (by simp [objs])]; exact h
 | .int,b,h,he=>show _=_ by rw [he b (by omega) (by simp [objs])]; exact h
 | .pair x y,b,⟨h1,h2,h3,h4⟩,he=>by
  simp only [objs] at he
  exact ⟨by rw [he b (by omega) (by omega)]; exact h1,by rw [he _ (by omega) (by omega)]; exact h2,h3.ext fun i a b=>he i (by omega) (by omega),h4.ext fun i a b=>he i (by omega) (by omega)⟩
 | .sum x y,b,⟨h1,h2,h3,h4⟩,he=>by
  simp only [objs] at he
  exact ⟨by rw [he b (by omega) (by omega)]; exact h1,by rw [he _ (by omega) (by omega)]; exact h2,h3.ext fun i a b=>he i (by omega) (by omega),h4.ext fun i a b=>he i (by omega) (by omega)⟩
 | .seq x,b,⟨h1,h2,h3⟩,he=>by
  simp only [objs] at he
  exact ⟨by rw [he b (by omega) (by omega)]; exact h1,by rw [he _ (by omega) (by omega)]; exact h2,h3.ext fun i a b=>he i (by omega) (by omega)⟩
theorem objs_pos (τ:Ty):1≤objs τ:=by cases τ <;> simp only [objs] <;> omega
theorem LayD.lay {H:Heap}:∀ {τ:Ty} {b:Nat},LayD H b τ→Lay H b τ
 | .unit,b,h => .unit b _ h
 | .int,b,h => .int b _ h
 | .pair x y,b,⟨h1,h2,h3,h4⟩ => .pair b _ _ _ x y h1 h2 h3.lay h4.lay (by omega) (by omega) (by simp only [objs]; omega)
 | .sum x y,b,⟨h1,h2,h3,h4⟩ => .sum b _ _ _ x y h1 h2 h3.lay h4.lay (by omega) (by omega) (by simp only [objs]; omega)
 | .seq x,b,⟨h1,h2,h3⟩ => .seq b _ _ x h1 h2 h3.lay (by omega) (by simp only [objs]; omega)
theorem LayD.lt {H:Heap} {τ:Ty} {b:Nat} (h:LayD H b τ):b<H.length:=by
 cases τ with
 | unit=>exact (List.getElem?_eq_some_iff.1 h).1
 | int=>exact (List.getElem?_eq_some_iff.1 h).1
 | pair x y=>exact (List.getElem?_eq_some_iff.1 h.1).1
 | sum x y=>exact (List.getElem?_eq_some_iff.1 h.1).1
 | seq x=>exact (List.getElem?_eq_some_iff.1 h.1).1
theorem LayD.head {H:Heap} {τ:Ty} {b:Nat} (h:LayD H b τ):∃ w,H[b]?=some (lobj τ.own τ.data τ.kind w):=by
 cases τ with
 | unit=>exact ⟨_,h⟩
 | int=>exact ⟨_,h⟩
 | pair x y=>exact ⟨_,h.1⟩
 | sum x y=>exact ⟨_,h.1⟩
 | seq x=>exact ⟨_,h.1⟩
theorem layD_of:∀ (τ:Ty) (P S:Heap),LayD (P++layL P.length τ++S) P.length τ
 | .unit,P,S=>show _=_ by simp [layL]
 | .int,P,S=>show _=_ by simp [layL]
 | .pair x y,P,S=>by
  have h1:=layD_of x (P++[lobj (x.own+y.own) (x.data+y.data) 2 (.sl (P.length+1+objs x) 0 2 2 1 false)]) (.cells 2 1 [.ref (P.length+1) 0 1,.ref (P.length+2+objs x) 0 1] :: layL (P.length+2+objs x) y++S)
  have hl:=layL_length (P.length+1) x
  have h2:=layD_of y (P++[lobj (x.own+y.own) (x.data+y.data) 2 (.sl (P.length+1+objs x) 0 2 2 1 false)]++layL (P.length+1) x++[Am.Obj.cells 2 1 [.ref (P.length+1) 0 1,.ref (P.length+2+objs x) 0 1]]) S
  have e1:(P++[lobj (x.own+y.own) (x.data+y.data) 2 (.sl (P.length+1+objs x) 0 2 2 1 false)]).length=P.length+1:=by simp
  have e2:(P++[lobj (x.own+y.own) (x.data+y.data) 2 (.sl (P.length+1+objs x) 0 2 2 1 false)]++layL (P.length+1) x++[Am.Obj.cells 2 1 [.ref (P.length+1) 0 1,.ref (P.length+2+objs x) 0 1]]).length=P.length+2+objs x:=by simp [hl]; omega
  rw [e1] at h1
  rw [e2] at h2
  refine ⟨by simp [layL],?_,by simpa [layL] using h1,by simpa [layL] using h2⟩
  simp only [layL]
  rw [List.append_assoc,List.getElem?_append_right (by omega),show P.length+1+objs x - P.length=objs x+1 by omega,List.cons_append,List.getElem?_cons_succ,List.append_assoc,List.getElem?_append_right (by omega),hl]
  simp
 | .sum x y,P,S=>by
  have h1:=layD_of x (P++[lobj (1+x.own+y.own) (x.data+y.data) 3 (.sl (P.length+1+objs x) 0 2 2 1 false)]) (.cells 2 1 [.ref (P.length+1) 0 1,.ref (P.length+2+objs x) 0 1] :: layL (P.length+2+objs x) y++S)
  have hl:=layL_length (P.length+1) x
  have h2:=layD_of y (P++[lobj (1+x.own+y.own) (x.data+y.data) 3 (.sl (P.length+1+objs x) 0 2 2 1 false)]++layL (P.length+1) x++[Am.Obj.cells 2 1 [.ref (P.length+1) 0 1,.ref (P.length+2+objs x) 0 1]]) S
  have e1:(P++[lobj (1+x.own+y.own) (x.data+y.data) 3 (.sl (P.length+1+objs x) 0 2 2 1 false)]).length=P.length+1:=by simp
  have e2:(P++[lobj (1+x.own+y.own) (x.data+y.data) 3 (.sl (P.length+1+objs x) 0 2 2 1 false)]++layL (P.length+1) x++[Am.Obj.cells 2 1 [.ref (P.length+1) 0 1,.ref (P.length+2+objs x) 0 1]]).length=P.length+2+objs x:=by simp [hl]; omega
  rw [e1] at h1
  rw [e2] at h2
  refine ⟨by simp [layL],?_,by simpa [layL] using h1,by simpa [layL] using h2⟩
  simp only [layL]
  rw [List.append_assoc,List.getElem?_append_right (by omega),show P.length+1+objs x - P.length=objs x+1 by omega,List.cons_append,List.getElem?_cons_succ,List.append_assoc,List.getElem?_append_right (by omega),hl]
  simp
 | .seq x,P,S=>by
  have h1:=layD_of x (P++[lobj 2 (x.own+x.data) 4 (.sl (P.length+1+objs x) 0 1 1 1 false)]) (.cells 1 1 [.ref (P.length+1) 0 1] :: S)
  have hl:=layL_length (P.length+1) x
  have e1:(P++[lobj 2 (x.own+x.data) 4 (.sl (P.length+1+objs x) 0 1 1 1 false)]).length=P.length+1:=by simp
  rw [e1] at h1
  refine ⟨by simp [layL],?_,by simpa [layL] using h1⟩
  simp only [layL]
  rw [List.append_assoc,List.getElem?_append_right (by omega),show P.length+1+objs x - P.length=objs x+1 by omega,List.cons_append,List.getElem?_cons_succ,List.append_assoc,List.getElem?_append_right (by omega),hl]
  simp
def RightP (τ:Ty) (own data:List (List Int)) (want:List Bool):Prop:=∀ i,want.getD i false=true→(rd τ own data i).isSome=true
def tagW (own:List (List Int)) (want:List Bool) (k:Int):List Bool:=(List.range want.length).map fun i=>want.getD i false&&(rg own 0 i == k)
theorem tagW_len (own:List (List Int)) (want:List Bool) (k:Int):(tagW own want k).length=want.length:=by simp [tagW]
theorem tagW_get (own:List (List Int)) (want:List Bool) (k:Int) (i:Nat):(tagW own want k).getD i false=(want.getD i false&&(rg own 0 i == k)):=by
 by_cases h:i<want.length
 ·simp [tagW,List.getD_eq_getElem?_getD,h]
 ·simp [tagW,List.getD_eq_getElem?_getD,h]
theorem RightP.unit (own data:List (List Int)) (want:List Bool):RightP .unit own data want:=fun i _=>rfl
theorem rightP_int {own data:List (List Int)} {want:List Bool}:RightP .int own data want↔∀ i,want.getD i false=true→isWord (rg own 0 i)=true:=by
 refine forall_congr' fun i=>imp_congr_right fun _ => ?_
 simp only [rd]
 split <;> simp [*]
theorem pairO_some {x y:Option Vl}:(pairO x y).isSome=true↔x.isSome=true∧y.isSome=true:=by
 cases x <;> cases y <;> simp [pairO]
theorem rightP_pair {a b:Ty} {own data:List (List Int)} {want:List Bool} :
  RightP (.pair a b) own data want↔RightP a (own.take a.own) (data.take a.data) want∧RightP b (own.drop a.own) (data.drop a.data) want:=by
 constructor
 ·intro h
  exact ⟨fun i hi=>(pairO_some.1 (h i hi)).1,fun i hi=>(pairO_some.1 (h i hi)).2⟩
 ·rintro ⟨h1,h2⟩ i hi
  exact pairO_some.2 ⟨h1 i hi,h2 i hi⟩
theorem rightP_sum {a b:Ty} {own data:List (List Int)} {want:List Bool} :
  RightP (.sum a b) own data want↔(∀ i,want.getD i false=true→rg own 0 i=0∨rg own 0 i=1)∧RightP a ((own.drop 1).take a.own) (data.take a.data) (tagW own want 0) ∧
   RightP b ((own.drop 1).drop a.own) (data.drop a.data) (tagW own want 1):=by
 constructor
 ·intro h
  refine ⟨fun i hi => ?_,fun i hi => ?_,fun i hi => ?_⟩
  ·have:=h i hi
   simp only [rd] at this
   split at this
   ·exact .inl ‹_›
   ·split at this
    ·exact .inr ‹_›
    ·cases this
  ·rw [tagW_get] at hi
   simp only [Bool.and_eq_true,beq_iff_eq] at hi
   have:=h i hi.1
   simp only [rd,hi.2,if_true] at this
   simpa using this
  ·rw [tagW_get] at hi
   simp only [Bool.and_eq_true,beq_iff_eq] at hi
   have:=h i hi.1
   simp only [rd,hi.2] at this
   simpa using this
 ·rintro ⟨h0,h1,h2⟩ i hi
  simp only [rd]
  rcases h0 i hi with e | e
  ·rw [if_pos e]
   have:=h1 i (by rw [tagW_get,hi,e]; rfl)
   simpa using this
  ·rw [if_neg (by omega),if_pos e]
   have:=h2 i (by rw [tagW_get,hi,e]; rfl)
   simpa using this
def markS (l:List Bool) (s:Nat):Nat→List Bool
 | 0=>l
 | k+1=>(markS l s k).set (s+k) true
theorem markS_len (l:List Bool) (s:Nat):∀ k,(markS l s k).length=l.length
 | 0=>rfl
 | k+1=>by simp [markS,markS_len l s k]
theorem markS_get (l:List Bool) (s:Nat):∀ (k j:Nat),s+k≤l.length→(markS l s k).getD j false=(l.getD j false||(decide (s≤j)&&decide (j<s+k)))
 | 0,j,_=>by
  have:¬ (s≤j∧j<s):=by omega
  simp only [markS,Nat.add_zero]
  by_cases h:s≤j <;> simp [h] <;> omega
 | k+1,j,h=>by
  have ih:=markS_get l s k j (by omega)
  have hlen:=markS_len l s k
  simp only [markS]
  by_cases e:s+k=j
  ·subst e
   have:(((markS l s k).set (s+k) true).getD (s+k) false)=true:=by
    rw [List.getD_eq_getElem?_getD,List.getElem?_set_self (by omega)]; rfl
   rw [this]
   simp
  ·have:(((markS l s k).set (s+k) true).getD j false)=(markS l s k).getD j false:=by simp [List.getD_eq_getElem?_getD,List.getElem?_set,e]
   rw [this,ih]
   congr 1
   rw [Bool.eq_iff_iff]
   simp
   omega
def comeS (size:Nat) (own:List (List Int)) (want:List Bool):Nat→List Bool
 | 0=>List.replicate size false
 | i+1=>if want.getD i false then markS (comeS size own want i) (rg own 0 i).toNat (rg own 1 i).toNat else comeS size own want i
theorem comeS_len (size:Nat) (own:List (List Int)) (want:List Bool):∀ i,(comeS size own want i).length=size
 | 0=>by simp [comeS]
 | i+1=>by
  simp only [comeS]
  split
  ·rw [markS_len,comeS_len size own want i]
  ·exact comeS_len size own want i
def seqOK (sz:Option Nat) (own:List (List Int)) (i:Nat):Prop :=
 0≤rg own 1 i∧rg own 1 i≤4096∧(rg own 1 i=0∨(0≤rg own 0 i∧∀ n,sz=some n→rg own 0 i≤(n:Int) - rg own 1 i))
theorem comeS_get {size:Nat} {own:List (List Int)} {want:List Bool}:∀ (n j:Nat),(∀ i,i<n→want.getD i false=true→seqOK (some size) own i) →
  ((comeS size own want n).getD j false=true↔∃ i,i<n∧want.getD i false=true∧rg own 0 i≤j∧(j:Int)<rg own 0 i+rg own 1 i)
 | 0,j,_=>by
  simp only [comeS,List.getD_eq_getElem?_getD,List.getElem?_replicate]
  split <;> simp
 | n+1,j,h=>by
  have ih:=comeS_get n j fun i hi=>h i (by omega)
  simp only [comeS]
  by_cases hw:want.getD n false=true
  ·rw [if_pos hw]
   obtain ⟨h1,h2,h3⟩:=h n (by omega) hw
   by_cases h0:rg own 1 n=0
   ·rw [h0]
    simp only [Int.toNat_zero,markS]
    rw [ih]
    constructor
    ·rintro ⟨i,a,b⟩; exact ⟨i,by omega,b⟩
    ·rintro ⟨i,a,b,c⟩
     by_cases e:i=n
     ·subst e; omega
     ·exact ⟨i,by omega,b,c⟩
   ·have h3:=h3.resolve_left h0
    have h4:=h3.2 _ rfl
    rw [markS_get _ _ _ _ (by rw [comeS_len]; omega),Bool.or_eq_true,ih]
    constructor
    ·rintro (⟨i,a,b⟩ | q)
     ·exact ⟨i,by omega,b⟩
     ·simp only [Bool.and_eq_true,decide_eq_true_eq] at q
      exact ⟨n,by omega,hw,by omega⟩
    ·rintro ⟨i,a,b,c⟩
     by_cases e:i=n
     ·subst e
      right
      simp only [Bool.and_eq_true,decide_eq_true_eq]
      omega
     ·exact .inl ⟨i,by omega,b,c⟩
  ·rw [if_neg hw,ih]
   constructor
   ·rintro ⟨i,a,b⟩; exact ⟨i,by omega,b⟩
   ·rintro ⟨i,a,b,c⟩
    by_cases e:i=n
    ·subst e; exact absurd b hw
    ·exact ⟨i,by omega,b,c⟩
def psz (a:Ty) (data:List (List Int)):Option Nat:=if a.own=0 then none else some (data.headD []).length
theorem allO_isSome {α:Type} {l:List (Option α)}:(allO l).isSome=true↔∀ x∈l,x.isSome=true:=by
 cases e:allO l with
 | none =>
  have:=allO_none.1 e
  simp only [Option.isSome_none,Bool.false_eq_true,false_iff]
  intro h
  have:=h _ this
  cases this
 | some r =>
  rw [allO_some] at e
  simp [e]
theorem rd_seq_some {a:Ty} {own data:List (List Int)} {i:Nat}:(rd (.seq a) own data i).isSome=true↔seqOK (psz a data) own i ∧
  ∀ k:Nat,(k:Int)<rg own 1 i→(rd a (data.take a.own) (data.drop a.own) (if a.own=0 then 0 else (rg own 0 i).toNat+k)).isSome=true:=by
 simp only [rd,seqOK]
 by_cases h1:0≤rg own 1 i∧rg own 1 i≤4096
 ·rw [if_neg (by simpa using h1)]
  by_cases h0:rg own 1 i=0
  ·rw [if_pos h0]
   simp only [Option.isSome_some,true_iff]
   exact ⟨⟨h1.1,h1.2,.inl h0⟩,fun k hk=>by omega⟩
  ·rw [if_neg h0]
   by_cases h2:rg own 0 i<0∨(a.own≠0∧rg own 0 i > (data.headD []).length - rg own 1 i)
   ·rw [if_pos h2]
    simp only [Option.isSome_none,Bool.false_eq_true,false_iff]
    rintro ⟨⟨_,_,h3⟩,_⟩
    rcases h3 with h3 | h3
    ·exact h0 h3
    ·rcases h2 with h2 | ⟨h2,h4⟩
     ·omega
     ·have:=h3.2 _ (by rw [psz,if_neg h2])
      omega
   ·rw [if_neg h2,Option.isSome_map,allO_isSome]
    simp only [List.mem_map,List.mem_range,forall_exists_index,and_imp,forall_apply_eq_imp_iff₂]
    constructor
    ·intro h
     refine ⟨⟨h1.1,h1.2,.inr ⟨by omega,fun n hn => ?_⟩⟩,fun k hk=>h k (by omega)⟩
     simp only [psz] at hn
     split at hn
     ·cases hn
     ·cases hn; omega
    ·rintro ⟨_,h⟩ k hk
     exact h k (by omega)
 ·rw [if_pos (by simpa using h1)]
  simp only [Option.isSome_none,Bool.false_eq_true,false_iff]
  rintro ⟨⟨h2,h3,_⟩,_⟩
  exact h1 ⟨h2,h3⟩
def comeW (a:Ty) (own data:List (List Int)) (want:List Bool):List Bool:=comeS ((psz a data).getD 0) own want want.length
theorem want_lt {want:List Bool} {i:Nat} (h:want.getD i false=true):i<want.length:=by
 rcases Nat.lt_or_ge i want.length with h1 | h1
 ·exact h1
 ·rw [List.getD_eq_getElem?_getD,List.getElem?_eq_none h1] at h; cases h
theorem rightP_seq {a:Ty} {own data:List (List Int)} {want:List Bool} :
  RightP (.seq a) own data want↔(∀ i,want.getD i false=true→seqOK (psz a data) own i)∧(a.own≠0→RightP a (data.take a.own) (data.drop a.own) (comeW a own data want)):=by
 constructor
 ·intro h
  have h0:∀ i,want.getD i false=true→seqOK (psz a data) own i:=fun i hi=>(rd_seq_some.1 (h i hi)).1
  refine ⟨h0,fun ha j hj => ?_⟩
  have hp:psz a data=some (data.headD []).length:=by rw [psz,if_neg ha]
  rw [comeW,hp] at hj
  rw [hp] at h0
  obtain ⟨i,_,h1,h2,h3⟩:=(comeS_get _ j fun i _ hi=>h0 i hi).1 hj
  have h4:=(rd_seq_some.1 (h i h1)).2 (j - (rg own 0 i).toNat) (by have:=(h0 i h1).2.2; omega)
  rw [if_neg ha] at h4
  have e:(rg own 0 i).toNat+(j - (rg own 0 i).toNat)=j:=by omega
  rwa [e] at h4
 ·rintro ⟨h0,h1⟩ i hi
  refine rd_seq_some.2 ⟨h0 i hi,fun k hk => ?_⟩
  by_cases ha:a.own=0
  ·rw [if_pos ha,rd_unit a ha]; rfl
  ·rw [if_neg ha]
   have hp:psz a data=some (data.headD []).length:=by rw [psz,if_neg ha]
   refine h1 ha _ ?_
   rw [comeW,hp]
   rw [hp] at h0
   refine (comeS_get _ _ fun i _ hi=>h0 i hi).2 ⟨i,want_lt hi,hi,?_⟩
   have:=(h0 i hi).2.2
   omega
def satO:Option Vl→Int
 | some x=>min 20001 x.nodes
 | none=>1
def szS (τ:Ty) (own data:List (List Int)) (want:List Bool):List Int:=(List.range want.length).map fun i=>if want.getD i false then satO (rd τ own data i) else 1
theorem szS_len (τ:Ty) (own data:List (List Int)) (want:List Bool):(szS τ own data want).length=want.length:=by simp [szS]
theorem szS_get {τ:Ty} {own data:List (List Int)} {want:List Bool} {i:Nat} (h:i<want.length):(szS τ own data want)[i]?=some (if want.getD i false then satO (rd τ own data i) else 1):=by
 simp [szS,h]
theorem satO_bd (o:Option Vl):0≤satO o∧satO o≤20001:=by cases o <;> simp only [satO] <;> omega
abbrev RO (f:Nat) (args:List V) (h:Heap) (v:V):Prop:=(lim gl Trnz.aprog).ro f args h=some (.ret v)
abbrev spotV (b o d:Nat):V:=.agg [.ref b 0 1,.int .i64 o,.int .i64 d]
theorem ro74_q {H:Heap} {b:Nat} {τ:Ty} (h:LayD H b τ):RO 66 [.ref b 0 1] H (.int .i64 τ.own):=by
 obtain ⟨w,hb⟩:=h.head
 have ob:=objCells_of hb
 refine ro_eq (af:=Trnz.a66) rfl (CallP.eq (call_ofQ (af:=Trnz.a66) rfl rfl fun Q hQ => ?_))
 simp only [Trnz.a66]
 simp [ob,slotOf]
 exact hQ _ _ ⟨rfl,rfl⟩
theorem ro90_q {H:Heap} {b:Nat} {τ:Ty} (h:LayD H b τ):RO 90 [.ref b 0 1] H (.int .i64 τ.data):=by
 obtain ⟨w,hb⟩:=h.head
 have ob:=objCells_of hb
 refine ro_eq (af:=Trnz.a90) rfl (CallP.eq (call_ofQ (af:=Trnz.a90) rfl rfl fun Q hQ => ?_))
 simp only [Trnz.a90]
 simp [ob,slotOf]
 exact hQ _ _ ⟨rfl,rfl⟩
theorem ro75_q {H:Heap} {b:Nat} {τ:Ty} (h:LayD H b τ):RO 72 [.ref b 0 1] H (spotV b 0 τ.own):=by
 have h1:=ro74_q h
 rw [RO] at h1
 refine ro_eq (af:=Trnz.a72) rfl (CallP.eq (call_ofQ (af:=Trnz.a72) rfl rfl fun Q hQ => ?_))
 simp only [Trnz.a72]
 simp [h1,fill,slotOf]
 exact hQ _ _ ⟨rfl,rfl⟩
section
variable {H:Heap} {b o d:Nat} {x y:Ty}
theorem part_seq (h:LayD H b (.seq x)) (k:Int) (ho:o<2 ^ 40) (hd:d<2 ^ 40) (hs:x.size<2 ^ 30):RO 71 [spotV b o d,.int .i64 k] H (spotV (b+1) d (d+x.own)):=by
 obtain ⟨h1,h2,h3⟩:=h
 have ob:=objCells_of h1
 have op:=objCells_of h2
 have hr:=ro74_q h3
 rw [RO] at hr
 have:=x.own_size
 have w1:IntKind.i64.wrap ((d:Int)+x.own)=(d:Int)+x.own:=wrap64 (by omega) (by omega)
 refine ro_eq (af:=Trnz.a71) rfl (CallP.eq (call_ofQ (af:=Trnz.a71) rfl rfl fun Q hQ => ?_))
 simp only [Trnz.a71]
 simp [ob,op,hr,w1,fill,slotOf]
 exact hQ _ _ ⟨rfl,rfl⟩
theorem part_sum0 (h:LayD H b (.sum x y)) (ho:o<2 ^ 40) (hd:d<2 ^ 40):RO 71 [spotV b o d,.int .i64 0] H (spotV (b+1) (o+1) d):=by
 obtain ⟨h1,h2,h3,h4⟩:=h
 have ob:=objCells_of h1
 have op:=objCells_of h2
 have w1:IntKind.i64.wrap ((o:Int)+1)=(o:Int)+1:=wrap64 (by omega) (by omega)
 refine ro_eq (af:=Trnz.a71) rfl (CallP.eq (call_ofQ (af:=Trnz.a71) rfl rfl fun Q hQ => ?_))
 simp only [Trnz.a71]
 simp [ob,op,w1,fill,slotOf]
 exact hQ _ _ ⟨rfl,rfl⟩
theorem part_sum1 (h:LayD H b (.sum x y)) (ho:o<2 ^ 40) (hd:d<2 ^ 40) (hs:x.size<2 ^ 30):RO 71 [spotV b o d,.int .i64 1] H (spotV (b+2+objs x) (o+1+x.own) (d+x.data)):=by
 obtain ⟨h1,h2,h3,h4⟩:=h
 have ob:=objCells_of h1
 have op:=objCells_of h2
 have hr:=ro74_q h3
 have hr2:=ro90_q h3
 rw [RO] at hr hr2
 have:=x.both_size
 have w1:IntKind.i64.wrap ((o:Int)+1)=(o:Int)+1:=wrap64 (by omega) (by omega)
 have w2:IntKind.i64.wrap ((o:Int)+1+x.own)=(o:Int)+1+x.own:=wrap64 (by omega) (by omega)
 have w3:IntKind.i64.wrap ((d:Int)+x.data)=(d:Int)+x.data:=wrap64 (by omega) (by omega)
 refine ro_eq (af:=Trnz.a71) rfl (CallP.eq (call_ofQ (af:=Trnz.a71) rfl rfl fun Q hQ => ?_))
 simp only [Trnz.a71]
 simp [ob,op,hr,hr2,w1,w2,w3,fill,slotOf]
 exact hQ _ _ ⟨rfl,rfl⟩
theorem part_pair0 (h:LayD H b (.pair x y)):RO 71 [spotV b o d,.int .i64 0] H (spotV (b+1) o d):=by
 obtain ⟨h1,h2,h3,h4⟩:=h
 have ob:=objCells_of h1
 have op:=objCells_of h2
 refine ro_eq (af:=Trnz.a71) rfl (CallP.eq (call_ofQ (af:=Trnz.a71) rfl rfl fun Q hQ => ?_))
 simp only [Trnz.a71]
 simp [ob,op,fill,slotOf]
 exact hQ _ _ ⟨rfl,rfl⟩
theorem part_pair1 (h:LayD H b (.pair x y)) (ho:o<2 ^ 40) (hd:d<2 ^ 40) (hs:x.size<2 ^ 30):RO 71 [spotV b o d,.int .i64 1] H (spotV (b+2+objs x) (o+x.own) (d+x.data)):=by
 obtain ⟨h1,h2,h3,h4⟩:=h
 have ob:=objCells_of h1
 have op:=objCells_of h2
 have hr:=ro74_q h3
 have hr2:=ro90_q h3
 rw [RO] at hr hr2
 have:=x.both_size
 have w2:IntKind.i64.wrap ((o:Int)+x.own)=(o:Int)+x.own:=wrap64 (by omega) (by omega)
 have w3:IntKind.i64.wrap ((d:Int)+x.data)=(d:Int)+x.data:=wrap64 (by omega) (by omega)
 refine ro_eq (af:=Trnz.a71) rfl (CallP.eq (call_ofQ (af:=Trnz.a71) rfl rfl fun Q hQ => ?_))
 simp only [Trnz.a71]
 simp [ob,op,hr,hr2,w2,w3,fill,slotOf]
 exact hQ _ _ ⟨rfl,rfl⟩
end
def sp:Nat→Ty→Nat→Nat→List (Nat×Ty×Nat×Nat)
 | b,.unit,o,d=>[(b,.unit,o,d)]
 | b,.int,o,d=>[(b,.int,o,d)]
 | b,.pair x y,o,d=>(b,.pair x y,o,d) :: (sp (b+1) x o d++sp (b+2+objs x) y (o+x.own) (d+x.data))
 | b,.sum x y,o,d=>(b,.sum x y,o,d) :: (sp (b+1) x (o+1) d++sp (b+2+objs x) y (o+1+x.own) (d+x.data))
 | b,.seq x,o,d=>(b,.seq x,o,d) :: sp (b+1) x d (d+x.own)
theorem sp_self (b:Nat) (τ:Ty) (o d:Nat):(b,τ,o,d)∈sp b τ o d:=by cases τ <;> simp [sp]
theorem sp_range:∀ (τ:Ty) (b o d:Nat) {b':Nat} {s:Ty×Nat×Nat},(b',s)∈sp b τ o d→b≤b'∧b'<b+objs τ
 | .unit,b,o,d,b',s,h=>by simp [sp] at h; simp [objs]; omega
 | .int,b,o,d,b',s,h=>by simp [sp] at h; simp [objs]; omega
 | .pair x y,b,o,d,b',s,h=>by
  simp only [sp,List.mem_cons,List.mem_append,Prod.mk.injEq] at h
  simp only [objs]
  rcases h with ⟨h,_⟩ | h | h
  ·omega
  ·have:=sp_range x _ _ _ h; omega
  ·have:=sp_range y _ _ _ h; omega
 | .sum x y,b,o,d,b',s,h=>by
  simp only [sp,List.mem_cons,List.mem_append,Prod.mk.injEq] at h
  simp only [objs]
  rcases h with ⟨h,_⟩ | h | h
  ·omega
  ·have:=sp_range x _ _ _ h; omega
  ·have:=sp_range y _ _ _ h; omega
 | .seq x,b,o,d,b',s,h=>by
  simp only [sp,List.mem_cons,Prod.mk.injEq] at h
  simp only [objs]
  rcases h with ⟨h,_⟩ | h
  ·omega
  ·have:=sp_range x _ _ _ h; omega
theorem sp_fun:∀ (τ:Ty) (b o d:Nat) {b':Nat} {s s':Ty×Nat×Nat},(b',s)∈sp b τ o d→(b',s')∈sp b τ o d→s=s'
 | .unit,b,o,d,b',s,s',h,h'=>by simp [sp] at h h'; rw [h.2,h'.2]
 | .int,b,o,d,b',s,s',h,h'=>by simp [sp] at h h'; rw [h.2,h'.2]
 | .pair x y,b,o,d,b',s,s',h,h'=>by
  simp only [sp,List.mem_cons,List.mem_append,Prod.mk.injEq] at h h'
  rcases h with ⟨h,h2⟩ | h | h <;> rcases h' with ⟨h',h2'⟩ | h' | h'
  ·rw [h2,h2']
  ·have:=sp_range x _ _ _ h'; omega
  ·have:=sp_range y _ _ _ h'; omega
  ·have:=sp_range x _ _ _ h; omega
  ·exact sp_fun x _ _ _ h h'
  ·have:=sp_range x _ _ _ h; have:=sp_range y _ _ _ h'; omega
  ·have:=sp_range y _ _ _ h; omega
  ·have:=sp_range y _ _ _ h; have:=sp_range x _ _ _ h'; omega
  ·exact sp_fun y _ _ _ h h'
 | .sum x y,b,o,d,b',s,s',h,h'=>by
  simp only [sp,List.mem_cons,List.mem_append,Prod.mk.injEq] at h h'
  rcases h with ⟨h,h2⟩ | h | h <;> rcases h' with ⟨h',h2'⟩ | h' | h'
  ·rw [h2,h2']
  ·have:=sp_range x _ _ _ h'; omega
  ·have:=sp_range y _ _ _ h'; omega
  ·have:=sp_range x _ _ _ h; omega
  ·exact sp_fun x _ _ _ h h'
  ·have:=sp_range x _ _ _ h; have:=sp_range y _ _ _ h'; omega
  ·have:=sp_range y _ _ _ h; omega
  ·have:=sp_range y _ _ _ h; have:=sp_range x _ _ _ h'; omega
  ·exact sp_fun y _ _ _ h h'
 | .seq x,b,o,d,b',s,s',h,h'=>by
  simp only [sp,List.mem_cons,Prod.mk.injEq] at h h'
  rcases h with ⟨h,h2⟩ | h <;> rcases h' with ⟨h',h2'⟩ | h'
  ·rw [h2,h2']
  ·have:=sp_range x _ _ _ h'; omega
  ·have:=sp_range x _ _ _ h; omega
  ·exact sp_fun x _ _ _ h h'
def rA (R:List (List Int)) (j i:Nat):Int:=(R.getD j []).getD i 0
def rdA (R:List (List Int)):Ty→Nat→Nat→Nat→Option Vl
 | .unit,_,_,_=>some (.mk 0 0 [])
 | .int,o,d,i=>if isWord (rA R o i) then some (.mk 1 (rA R o i) []) else none
 | .pair a b,o,d,i=>pairO (rdA R a o d i) (rdA R b (o+a.own) (d+a.data) i)
 | .sum a b,o,d,i=>if rA R o i=0 then (rdA R a (o+1) d i).map fun x => .mk 3 0 [x]
  else if rA R o i=1 then (rdA R b (o+1+a.own) (d+a.data) i).map fun x => .mk 3 1 [x] else none
 | .seq a,o,d,i=>if ¬ (0≤rA R (o+1) i∧rA R (o+1) i≤4096) then none else if rA R (o+1) i=0 then some (.mk 4 0 []) else
  if rA R o i<0∨(a.own≠0∧rA R o i > (R.getD d []).length - rA R (o+1) i) then none else
  (allO ((List.range (rA R (o+1) i).toNat).map fun k=>rdA R a d (d+a.own) (if a.own=0 then 0 else (rA R o i).toNat+k))).map fun l => .mk 4 0 l
theorem getD_cut (R:List (List Int)) (o n j:Nat) (hj:j<n):((R.drop o).take n).getD j []=R.getD (o+j) []:=by
 simp only [List.getD_eq_getElem?_getD]
 rw [List.getElem?_take,if_pos hj,List.getElem?_drop]
theorem headD_cut (R:List (List Int)) (o n:Nat) (h:0<n):((R.drop o).take n).headD []=R.getD o []:=by
 have:=getD_cut R o n 0 h
 rw [Nat.add_zero] at this
 rw [← this]
 cases (R.drop o).take n <;> rfl
theorem rd_cut (R:List (List Int)):∀ (τ:Ty) (o d i:Nat),rdA R τ o d i=rd τ ((R.drop o).take τ.own) ((R.drop d).take τ.data) i
 | .unit,o,d,i=>rfl
 | .int,o,d,i=>by
  have:rg ((R.drop o).take 1) 0 i=rA R o i:=by simp only [rg,rA]; rw [getD_cut R o 1 0 (by omega)]; rfl
  simp only [rdA,rd,Ty.own,this]
 | .pair a b,o,d,i=>by
  simp only [rdA,rd,Ty.own,Ty.data,rd_cut R a,rd_cut R b]
  rw [List.take_take,List.take_take,List.drop_take,List.drop_take,List.drop_drop,List.drop_drop]
  rw [show min a.own (a.own+b.own)=a.own by omega,show min a.data (a.data+b.data)=a.data by omega,show a.own+b.own - a.own=b.own by omega,show a.data+b.data - a.data=b.data by omega]
 | .sum a b,o,d,i=>by
  have e:rg ((R.drop o).take (1+a.own+b.own)) 0 i=rA R o i:=by simp only [rg,rA]; rw [getD_cut R o _ 0 (by omega)]; rfl
  simp only [rdA,rd,Ty.own,Ty.data,rd_cut R a,rd_cut R b,e]
  simp only [List.take_take,List.drop_take,List.drop_drop]
  rw [show min a.own (1+a.own+b.own - 1)=a.own by omega,show min a.data (a.data+b.data)=a.data by omega,show 1+a.own+b.own - 1 - a.own=b.own by omega,show a.data+b.data - a.data=b.data by omega]
 | .seq a,o,d,i=>by
  have e0:rg ((R.drop o).take 2) 0 i=rA R o i:=by simp only [rg,rA]; rw [getD_cut R o _ 0 (by omega)]; rfl
  have e1:rg ((R.drop o).take 2) 1 i=rA R (o+1) i:=by simp only [rg,rA]; rw [getD_cut R o _ 1 (by omega)]
  simp only [rdA,rd,Ty.own,Ty.data,e0,e1,rd_cut R a]
  have t1:((R.drop d).take (a.own+a.data)).take a.own=(R.drop d).take a.own:=by rw [List.take_take,show min a.own (a.own+a.data)=a.own by omega]
  have t2:((R.drop d).take (a.own+a.data)).drop a.own=(R.drop (d+a.own)).take a.data:=by rw [List.drop_take,List.drop_drop,show a.own+a.data - a.own=a.data by omega]
  rw [t1,t2]
  by_cases h0:a.own=0
  ·simp [h0]
  ·rw [headD_cut R d (a.own+a.data) (by omega)]
inductive Sh (H:Heap):V→List V→Prop
 | nils:Sh H .nils []
 | sv (es:List (List V)) (ex:Bool) (xs:List V) (h:es=xs.map fun x=>[x]):Sh H (.sv es ex) xs
 | sl (b off len n:Nat) (ex:Bool) (cs xs:List V) (h:H[b]?=some (.cells n 1 cs)) (hn:off+len≤n) (hc:n=cs.length) (hx:xs=(cs.drop off).take len):Sh H (.sl b off len n 1 ex) xs
def Le (H H':Heap):Prop:=∀ (j n sz:Nat) (cs:List V),H[j]?=some (Am.Obj.cells n sz cs)→H'[j]?=some (Am.Obj.cells n sz cs)
theorem Le.refl (H:Heap):Le H H:=fun _ _ _ _ h=>h
theorem Le.trans {H H' H'':Heap} (h:Le H H') (h':Le H' H''):Le H H'':=fun j n sz cs e=>h' j n sz cs (h j n sz cs e)
theorem Le.app {H H':Heap} (h:Le H H') (X:Heap):Le H (H'++X):=fun j n sz cs e=>get_app (h j n sz cs e)
theorem Le.set {H H':Heap} (h:Le H H') {b:Nat} (hb:∀ n sz cs,H[b]?≠some (Am.Obj.cells n sz cs)) (o:Am.Obj):Le H (H'.set b o):=fun j n sz cs e=>by
 rw [get_set_ne (fun e2=>hb n sz cs (by rw [e2]; exact e))]
 exact h j n sz cs e
theorem Le.set_new {H H':Heap} (h:Le H H') {b:Nat} (hb:H.length≤b) (o:Am.Obj):Le H (H'.set b o):=fun j n sz cs e=>by
 have:=(List.getElem?_eq_some_iff.1 e).1
 rw [get_set_ne (by omega)]
 exact h j n sz cs e
theorem bnds_eq {len lo hi:Nat} (h1:lo≤hi) (h2:hi≤len):bnds len (some (.int .i64 lo)) (some (.int .i64 hi)) none=some (lo,hi,false):=by
 simp only [bnds,optInt,Option.getD_some]
 rw [if_pos ⟨by omega,by omega,by omega,.inl trivial⟩]
 simp
theorem bnds_eq0 {len hi:Nat} (h2:hi≤len):bnds len none (some (.int .i64 hi)) none=some (0,hi,false):=by
 simp only [bnds,optInt,Option.getD_some,Option.getD_none]
 rw [if_pos ⟨by omega,by omega,by omega,.inl trivial⟩]
 simp
namespace Sh
variable {H:Heap} {v:V} {xs:List V}
theorem len (h:Sh H v xs):lenV v=some (.int .i64 xs.length):=by
 cases h with
 | nils=>rfl
 | sv es ex xs h=>simp [lenV,h]
 | sl b off len n ex cs xs h hn hc hx=>simp [lenV,hx]; omega
theorem cell (h:Sh H v xs):isCell v=true:=by cases h <;> rfl
theorem cells (h:Sh H v xs):cellsV v=[v]:=by cases h <;> rfl
theorem read (h:Sh H v xs) {i:Nat} (hi:i<xs.length):∃ a,idxV v i 1=some a∧loadV H a 1 false=some xs[i]:=by
 cases h with
 | nils=>simp at hi
 | sv es ex xs h =>
  subst h
  exact ⟨.pv [xs[i]],by simp [idxV,hi],by simp⟩
 | sl b off len n ex cs xs h hn hc hx =>
  subst hx
  simp at hi
  refine ⟨.ref b ((off+i) * 1) n,?_,load_ref h ?_⟩
  ·simp only [idxV,Int.toNat_natCast]
   rw [if_pos ⟨by omega,by omega,trivial⟩]
  ·rw [Nat.mul_one]
   simp [show off+i<cs.length by omega]
theorem le (h:Sh H v xs) {H':Heap} (hl:Le H H'):Sh H' v xs:=by
 cases h with
 | nils=>exact .nils
 | sv es ex xs h=>exact .sv es ex xs h
 | sl b off len n ex cs xs h hn hc hx=>exact .sl b off len n ex cs xs (hl _ _ _ _ h) hn hc hx
theorem slc (h:Sh H v xs) {lo hi:Nat} (h1:lo≤hi) (h2:hi≤xs.length):∃ w,slcV v (some (.int .i64 lo)) (some (.int .i64 hi)) none false 1=some w∧Sh H w ((xs.take hi).drop lo):=by
 cases h with
 | nils =>
  simp at h2
  obtain rfl:hi=0:=by omega
  obtain rfl:lo=0:=by omega
  exact ⟨.nils,by simp [slcV,bnds,optInt],.nils⟩
 | sv es ex xs h =>
  subst h
  have hz:headSz 1 (xs.map fun x=>[x])=true:=by cases xs <;> simp [headSz]
  have hb:=bnds_eq h1 h2
  refine ⟨.sv (((xs.map fun x=>[x]).take hi).drop lo) (ex&&hi == xs.length),?_,.sv _ _ _ (by simp [List.map_drop,List.map_take])⟩
  simp [slcV,hb,hz]
 | sl b off len n ex cs xs h hn hc hx =>
  subst hx
  have hl:hi≤len:=by simp at h2; omega
  have hb:=bnds_eq h1 hl
  refine ⟨.sl b (off+lo) (hi - lo) n 1 (ex&&hi == len),?_,.sl _ _ _ _ _ cs _ h (by omega) hc ?_⟩
  ·simp [slcV,hb]
  ·rw [List.take_take,show min hi len=hi by omega,List.drop_take,List.drop_drop]
theorem slc0 (h:Sh H v xs) {hi:Nat} (h2:hi≤xs.length):∃ w,slcV v none (some (.int .i64 hi)) none false 1=some w∧Sh H w (xs.take hi):=by
 cases h with
 | nils =>
  simp at h2
  obtain rfl:hi=0:=by omega
  exact ⟨.nils,by simp [slcV,bnds,optInt],by simpa using Sh.nils⟩
 | sv es ex xs h =>
  subst h
  have hz:headSz 1 (xs.map fun x=>[x])=true:=by cases xs <;> simp [headSz]
  have hb:=bnds_eq0 h2
  refine ⟨.sv ((xs.map fun x=>[x]).take hi) (ex&&hi == xs.length),?_,.sv _ _ _ (by simp [List.map_take])⟩
  simp [slcV,hb,hz]
 | sl b off len n ex cs xs h hn hc hx =>
  subst hx
  have hl:hi≤len:=by simp at h2; omega
  have hb:=bnds_eq0 hl
  refine ⟨.sl b off hi n 1 (ex&&hi == len),?_,.sl _ _ _ _ _ cs _ h (by omega) hc ?_⟩
  ·simp [slcV,hb]
  ·rw [List.take_take,show min hi len=hi by omega]
end Sh
abbrev icells (r:List Int):List V:=r.map fun n => .int .i64 n
def RegsH (H:Heap) (v:V) (R:List (List Int)):Prop:=∃ vs,Sh H v vs∧Fr (fun r w=>Sh H w (icells r)) R vs
theorem CellsV.sh {cs:List V} {v:V} (h:CellsV cs v) (H:Heap):Sh H v cs:=by
 cases h with
 | nil h =>
  have:cs=[]:=by simpa using h
  subst this
  exact .nils
 | sv ex=>exact .sv _ ex cs rfl
theorem ListsV.regs {R:List (List Int)} {v:V} (h:ListsV R v) (H:Heap):RegsH H v R:=by
 obtain ⟨vs,h1,h2⟩:=h
 exact ⟨vs,CellsV.sh h1 H,h2.mono fun r w hw=>CellsV.sh hw H⟩
namespace RegsH
variable {H:Heap} {v:V} {R:List (List Int)}
theorem le (h:RegsH H v R) {H':Heap} (hl:Le H H'):RegsH H' v R:=by
 obtain ⟨vs,h1,h2⟩:=h
 exact ⟨vs,h1.le hl,h2.mono fun r w hw=>hw.le hl⟩
theorem len (h:RegsH H v R):lenV v=some (.int .i64 R.length):=by
 obtain ⟨vs,h1,h2⟩:=h
 rw [h1.len,h2.length]
theorem cell (h:RegsH H v R):isCell v=true:=by
 obtain ⟨vs,h1,_⟩:=h
 exact h1.cell
theorem cells (h:RegsH H v R):cellsV v=[v]:=by
 obtain ⟨vs,h1,_⟩:=h
 exact h1.cells
theorem get (h:RegsH H v R) {j:Nat} (hj:j<R.length):∃ a w,idxV v j 1=some a∧loadV H a 1 false=some w∧Sh H w (icells R[j]):=by
 obtain ⟨vs,h1,h2⟩:=h
 have hj':j<vs.length:=by rw [← h2.length]; exact hj
 obtain ⟨a,h3,h4⟩:=h1.read hj'
 exact ⟨a,_,h3,h4,h2.get hj hj'⟩
theorem get2 (h:RegsH H v R) {j i:Nat} (hj:j<R.length) (hi:i<R[j].length):∃ a w a',idxV v j 1=some a∧loadV H a 1 false=some w∧idxV w i 1=some a'∧loadV H a' 1 false=some (.int .i64 (rA R j i)):=by
 obtain ⟨a,w,h1,h2,h3⟩:=h.get hj
 obtain ⟨a',h4,h5⟩:=h3.read (i:=i) (by simpa using hi)
 refine ⟨a,w,a',h1,h2,h4,?_⟩
 rw [h5]
 simp [rA,hj,hi]
end RegsH
theorem LayD.le {H H':Heap} {τ:Ty} {b:Nat} (h:LayD H b τ) (hl:Le H H'):LayD H' b τ:=by
 induction τ generalizing b with
 | unit=>exact hl _ _ _ _ h
 | int=>exact hl _ _ _ _ h
 | pair x y ih1 ih2=>obtain ⟨h1,h2,h3,h4⟩:=h; exact ⟨hl _ _ _ _ h1,hl _ _ _ _ h2,ih1 h3,ih2 h4⟩
 | sum x y ih1 ih2=>obtain ⟨h1,h2,h3,h4⟩:=h; exact ⟨hl _ _ _ _ h1,hl _ _ _ _ h2,ih1 h3,ih2 h4⟩
 | seq x ih=>obtain ⟨h1,h2,h3⟩:=h; exact ⟨hl _ _ _ _ h1,hl _ _ _ _ h2,ih h3⟩
def eqLen (R:List (List Int)) (d n:Nat):Bool:=((R.drop d).take n).all fun r=>r.length == (R.getD d []).length
def shpA (R:List (List Int)):Ty→Nat→Bool
 | .unit,_=>true
 | .int,_=>true
 | .pair a b,d=>shpA R a d&&shpA R b (d+a.data)
 | .sum a b,d=>shpA R a d&&shpA R b (d+a.data)
 | .seq a,d=>eqLen R d a.own&&shpA R a (d+a.own)
theorem shp_cut (R:List (List Int)):∀ (τ:Ty) (d:Nat),shpA R τ d=shp τ ((R.drop d).take τ.data)
 | .unit,_=>rfl
 | .int,_=>rfl
 | .pair a b,d=>by
  simp only [shpA,shp,Ty.data,shp_cut R a,shp_cut R b,List.take_take,List.drop_take,List.drop_drop]
  rw [show min a.data (a.data+b.data)=a.data by omega,show a.data+b.data - a.data=b.data by omega]
 | .sum a b,d=>by
  simp only [shpA,shp,Ty.data,shp_cut R a,shp_cut R b,List.take_take,List.drop_take,List.drop_drop]
  rw [show min a.data (a.data+b.data)=a.data by omega,show a.data+b.data - a.data=b.data by omega]
 | .seq a,d=>by
  simp only [shpA,shp,Ty.data,shp_cut R a,List.take_take,List.drop_take,List.drop_drop,eqLen]
  rw [show min a.own (a.own+a.data)=a.own by omega,show a.own+a.data - a.own=a.data by omega]
  by_cases h0:a.own=0
  ·simp [h0]
  ·rw [headD_cut R d (a.own+a.data) (by omega)]
theorem round_q (H:Heap) (B c4:Nat) (v:V) (R:List (List Int)) (b o d:Nat) (τ:Ty) (hB:H[B]?=some (.loop 10500 [.ref c4 0 1] .ready none)) (hc:H[c4]?=some (.cells 1 1 [v])) (hR:RegsH H v R) (hL:LayD H b τ)
  (hd:d+τ.own≤R.length) (hs:τ.size<2 ^ 30) (hlR:R.length<2 ^ 40) (hll:∀ r∈R,r.length<2 ^ 60) :
  (lim gl Trnz.aprog).round 10500 B [.ref c4 0 1,spotV b d o] H=if eqLen R d τ.own then some (.norm,H) else some (.pan (wrong 8),H.set B (.loop 10500 [.ref c4 0 1] .busy none)):=by
 have hBlt:=(List.getElem?_eq_some_iff.1 hB).1
 have hne:c4≠B:=by
  rintro rfl
  rw [hB] at hc
  cases hc
 obtain ⟨G,hG⟩:∃ G,G=H.set B (.loop 10500 [.ref c4 0 1] .busy none):=⟨_,rfl⟩
 have hLe:Le H G:=by
  rw [hG]
  exact (Le.refl H).set (fun n sz cs=>by rw [hB]; simp) _
 have hR':=hR.le hLe
 have hr:=ro74_q (hL.le hLe)
 rw [RO] at hr
 have hc':=load_cell (hLe _ _ _ _ hc)
 have hBG:G[B]?=some (.loop 10500 [.ref c4 0 1] .busy none):=by rw [hG]; simp [hBlt]
 have hback:G.set B (.loop 10500 [.ref c4 0 1] .ready none)=H:=by
  rw [hG,List.set_set]
  apply List.ext_getElem?
  intro i
  by_cases hi:B=i
  ·subst hi; rw [List.getElem?_set_self hBlt,hB]
  ·rw [List.getElem?_set_ne hi]
 have m8:=must_t 8
 have f8:=must_f 8
 rw [PC] at m8
 have ho:=τ.own_size
 have key:OptP ((lim gl Trnz.aprog).round 10500 B [.ref c4 0 1,spotV b d o] H) (fun out h'=>if eqLen R d τ.own then out = .norm∧h'=H else out = .pan (wrong 8)∧h'=G):=by
  refine round_of (af:=Trnz.a10500) (fi:=[.ref c4 0 1]) (pd:=none) rfl rfl rfl (c1:=⟨[.ref c4 0 1,spotV b d o,.undef,spotV b d o,.undef,.undef,.undef],[],none,none,H⟩) ?_ hB ?_
  ·simp only [Trnz.a10500]
   simp [find2,exec,slotOf,mkV]
  rw [← hG]
  simp only [Trnz.a10500]
  by_cases h0:τ.own=0
  ·have e:eqLen R d τ.own=true:=by rw [h0]; simp [eqLen]
   rw [e]
   simp [hr,h0,slotOf]
   simp only [roundE,hBG]
   exact ⟨trivial,hback⟩
  ·have h0':((τ.own:Int) == 0)=false:=by simp; omega
   have h0'':(τ.own == 0)=false:=by simpa using h0
   have hw1:IntKind.i64.wrap ((d:Int)+τ.own)=((d+τ.own:Nat):Int):=by rw [wrap64 (by omega) (by omega)]; rfl
   obtain ⟨vs,sh1,sh2⟩:=hR'
   have hvl:=sh2.length
   obtain ⟨w,hw,shw⟩:=sh1.slc (lo:=d) (hi:=d+τ.own) (by omega) (by omega)
   have frw:=(sh2.take (d+τ.own)).drop d
   have hwl:=shw.len
   have hwc:=shw.cell
   have lR:((R.take (d+τ.own)).drop d).length=τ.own:=by simp; omega
   have lV:((vs.take (d+τ.own)).drop d).length=τ.own:=by rw [← frw.length]; exact lR
   rw [lV] at hwl
   have edt:(R.drop d).take τ.own=(R.take (d+τ.own)).drop d:=by rw [List.drop_take,show d+τ.own - d=τ.own by omega]
   obtain ⟨a0,w0,e1,e2,e3⟩:=RegsH.get ⟨vs,sh1,sh2⟩ (j:=d) (by omega)
   have lw0:=e3.len
   simp only [icells,List.length_map] at lw0
   have gD:(R.getD d []).length=R[d].length:=by simp [show d<R.length by omega]
   simp only [Int.natCast_add] at hw hw1
   simp [hc',hr,h0',h0'',hw1,hw,hwl,slotOf,-loadV]
   refine loop_nQ τ.own (fun i c=>(∀ r∈((R.take (d+τ.own)).drop d).take i,r.length=(R.getD d []).length)∧∃ s2 fl,c=⟨[.ref c4 0 1,spotV b d o,s2,spotV b d o,w,.int .i64 τ.own,.int .i64 i],[],fl,none,G⟩) ?_ ⟨by simp,_,_,rfl⟩
   rintro I hI i c hi ⟨hall,s2,fl,rfl⟩
   by_cases hlt:i<τ.own
   ·have hw2:IntKind.i64.wrap ((i:Int)+1)=(i:Int)+1:=wrap64 (by omega) (by omega)
    obtain ⟨a1,q1,q2⟩:=shw.read (i:=i) (by omega)
    have fi:=frw.get (i:=i) (by omega) (by omega)
    have fl:=fi.len
    have hmem:((R.take (d+τ.own)).drop d)[i]'(by omega)∈(R.take (d+τ.own)).drop d:=List.getElem_mem _
    have htk:∀ r∈((R.take (d+τ.own)).drop d).take (i+1),r∈((R.take (d+τ.own)).drop d).take i∨r=((R.take (d+τ.own)).drop d)[i]'(by omega):=fun r hr=>mem_take_succ (by omega) hr
    simp only [icells,List.length_map] at fl
    generalize ((vs.take (d+τ.own)).drop d)[i]'(by omega)=x at *
    generalize ((R.take (d+τ.own)).drop d)[i]'(by omega)=r at *
    by_cases hrl:r.length=(R.getD d []).length
    ·have hrl':((r.length:Int) == (R[d].length:Int))=true:=by rw [← gD,hrl]; simp
     rw [gD] at hrl
     simp [hlt,q1,q2,hc',e1,e2,fl,lw0,hrl,hrl',m8,hw2,slotOf,-pcall,-loadV]
     refine hI _ _ ⟨?_,_,_,rfl⟩
     intro r' hr'
     rcases htk r' hr' with hr' | rfl
     ·exact hall r' hr'
     ·rw [gD]; exact hrl
    ·have hrl':((r.length:Int) == (R[d].length:Int))=false:=ne_false (by rw [gD] at hrl; omega)
     have e:eqLen R d τ.own=false:=by
      rw [Bool.eq_false_iff]
      intro h
      have:=List.all_eq_true.1 h r (by rw [edt]; exact hmem)
      exact hrl (by simpa using this)
     rw [gD] at hrl
     have hrl2:(r.length == R[d].length)=false:=by simpa using hrl
     rw [e]
     simp [hlt,q1,q2,hc',e1,e2,fl,lw0,hrl,hrl',hrl2,f8,slotOf,forget,AOper.writes,-pcall,-loadV]
     simp [roundE]
   ·obtain rfl:i=τ.own:=by omega
    have e:eqLen R d τ.own=true:=by
     refine List.all_eq_true.2 fun r hr => ?_
     rw [edt] at hr
     have:=hall r (by rw [List.take_of_length_le (by omega)]; exact hr)
     simpa using this
    rw [e]
    simp [slotOf]
    simp only [roundE,hBG]
    exact ⟨trivial,hback⟩
 obtain ⟨out,h',e,hq⟩:=OptP.ex key
 rw [e]
 split
 ·rename_i h
  rw [if_pos h] at hq
  rw [hq.1,hq.2]
 ·rename_i h
  rw [if_neg h] at hq
  rw [hq.1,hq.2,hG]
abbrev clo110 (cy cw:Nat):V:=.func (.func 120) [] [.ref cy 0 1,.ref cw 0 1]
abbrev busy (c4:Nat):Am.Obj:=.loop 10500 [.ref c4 0 1] .busy none
structure WalkH (H:Heap) (B c4 cy cw:Nat) (v:V) (R:List (List Int)):Prop where
 hB:H[B]?=some (.loop 10500 [.ref c4 0 1] .ready none)
 hc:H[c4]?=some (.cells 1 1 [v])
 hR:RegsH H v R
 hy:H[cy]?=some (.cells 1 1 [.yf B])
 hw:H[cw]?=some (.cells 1 1 [clo110 cy cw])
 lR:R.length<2 ^ 39
 ll:∀ r∈R,r.length<2 ^ 60
def wres (ok:Bool) (H:Heap) (B c4:Nat):Am.R×Heap:=if ok then (.ret (.bool true),H) else (.pan (wrong 8),H.set B (busy c4))
theorem yield_q {H:Heap} {B c4 cy cw:Nat} {v:V} {R:List (List Int)} (h:WalkH H B c4 cy cw v R) {b o d:Nat} {τ:Ty} (hL:LayD H b τ) (hd:d+τ.own≤R.length) (hs:τ.size<2 ^ 30) :
  ycall (lim gl Trnz.aprog) H B [spotV b d o]=if eqLen R d τ.own then some (.val (.bool true) H) else some (.pan (wrong 8) (H.set B (busy c4))):=by
 have:=round_q H B c4 v R b o d τ h.hB h.hc h.hR hL hd hs (by have:=h.lR; omega) h.ll
 by_cases he:eqLen R d τ.own=true
 ·rw [if_pos he] at this ⊢
  simp only [ycall,h.hB,List.singleton_append,this]
 ·rw [if_neg he] at this ⊢
  simp only [ycall,h.hB,List.singleton_append,this]
theorem walk_q {H:Heap} {B c4 cy cw:Nat} {v:V} {R:List (List Int)} (h:WalkH H B c4 cy cw v R):∀ (τ:Ty) (b o d:Nat),LayD H b τ→d+τ.data≤R.length→o+2 * τ.size<2 ^ 40→τ.size<2 ^ 20 →
  (lim gl Trnz.aprog).call 120 [spotV b o d,.ref cy 0 1,.ref cw 0 1] H=some (wres (shpA R τ d) H B c4):=by
 have hy:=objCells_of h.hy
 have hw:=objCells_of h.hw
 have fin:∀ {b o d:Nat} {r:Am.R×Heap},CallP gl Trnz.aprog 120 [spotV b o d,.ref cy 0 1,.ref cw 0 1] H (fun a c=>(a,c)=r)→(lim gl Trnz.aprog).call 120 [spotV b o d,.ref cy 0 1,.ref cw 0 1] H=some r:=by
  intro b o d r hc
  obtain ⟨a,c,e,rfl⟩:=OptP.ex hc
  exact e
 intro τ
 induction τ with
 | unit =>
  intro b o d hL hd ho hs
  have ob:=objCells_of hL
  refine fin (call_ofQ (af:=Trnz.a120) rfl rfl fun Q hQ => ?_)
  simp only [Trnz.a120]
  simp [ob,slotOf]
  refine loop_nQ 0 (fun i c=>c=⟨[spotV b o d,.ref cy 0 1,.ref cw 0 1,spotV b o d,.bool false,.undef,.int .i64 0,.int .i64 0],[],none,none,H⟩) ?_ rfl
  rintro I hI i c hi rfl
  simp [slotOf]
  exact hQ _ _ (by simp [wres,shpA])
 | int =>
  intro b o d hL hd ho hs
  have ob:=objCells_of hL
  refine fin (call_ofQ (af:=Trnz.a120) rfl rfl fun Q hQ => ?_)
  simp only [Trnz.a120]
  simp [ob,slotOf]
  refine loop_nQ 0 (fun i c=>c=⟨[spotV b o d,.ref cy 0 1,.ref cw 0 1,spotV b o d,.bool false,.undef,.int .i64 0,.int .i64 0],[],none,none,H⟩) ?_ rfl
  rintro I hI i c hi rfl
  simp [slotOf]
  exact hQ _ _ (by simp [wres,shpA])
 | pair x y ih1 ih2 =>
  intro b o d hL hd ho hs
  have hlR:=h.lR
  obtain ⟨h1,h2,h3,h4⟩:=id hL
  have ob:=objCells_of h1
  have op:=objCells_of h2
  simp only [Ty.data] at hd
  simp only [Ty.size] at hs ho
  have hbx:=x.both_size
  have hby:=y.both_size
  have p0:=part_pair0 (H:=H) (b:=b) (o:=o) (d:=d) hL
  have p1:=part_pair1 (o:=o) (d:=d) hL (by omega) (by omega) (by omega)
  rw [RO] at p0 p1
  have c1:=ih1 (b+1) o d h3 (by omega) (by omega) (by omega)
  have c2:=ih2 (b+2+objs x) (o+x.own) (d+x.data) h4 (by omega) (by omega) (by omega)
  have w1:IntKind.i64.wrap 1=1:=rfl
  have w2:IntKind.i64.wrap (1+1)=2:=rfl
  refine fin (call_ofQ (af:=Trnz.a120) rfl rfl fun Q hQ => ?_)
  simp only [Trnz.a120]
  simp [ob,slotOf]
  refine loop_nQ 2 (fun i c=>(1≤i→shpA R x d=true)∧(2≤i→shpA R y (d+x.data)=true)∧∃ s5 fl,c=⟨[spotV b o d,.ref cy 0 1,.ref cw 0 1,spotV b o d,.bool false,s5,.int .i64 2,.int .i64 i],[],fl,none,H⟩) ?_ ⟨by simp,by simp,_,_,rfl⟩
  rintro I hI i c hi ⟨k1,k2,s5,fl,rfl⟩
  have hi3:i=0∨i=1∨i=2:=by omega
  rcases hi3 with rfl | rfl | rfl
  ·cases e:shpA R x d
   ·rw [e,wres,if_neg (by simp)] at c1
    simp [hw,p0,c1,slotOf,forget,AOper.writes]
    refine hQ _ _ ?_
    simp [wres,shpA,e]
   ·rw [e,wres,if_pos rfl] at c1
    simp [hw,p0,c1,w1,slotOf]
    exact hI _ _ ⟨fun _=>e,by simp,_,_,rfl⟩
  ·cases e:shpA R y (d+x.data)
   ·rw [e,wres,if_neg (by simp)] at c2
    simp [hw,p1,c2,slotOf,forget,AOper.writes]
    refine hQ _ _ ?_
    simp [wres,shpA,e]
   ·rw [e,wres,if_pos rfl] at c2
    simp [hw,p1,c2,w2,slotOf]
    exact hI _ _ ⟨fun _=>k1 (by omega),fun _=>e,_,_,rfl⟩
  ·simp [slotOf]
   refine hQ _ _ ?_
   simp [wres,shpA,k1,k2]
 | sum x y ih1 ih2 =>
  intro b o d hL hd ho hs
  have hlR:=h.lR
  obtain ⟨h1,h2,h3,h4⟩:=id hL
  have ob:=objCells_of h1
  have op:=objCells_of h2
  simp only [Ty.data] at hd
  simp only [Ty.size] at hs ho
  have hbx:=x.both_size
  have hby:=y.both_size
  have p0:=part_sum0 (o:=o) (d:=d) hL (by omega) (by omega)
  have p1:=part_sum1 (o:=o) (d:=d) hL (by omega) (by omega) (by omega)
  rw [RO] at p0 p1
  have c1:=ih1 (b+1) (o+1) d h3 (by omega) (by omega) (by omega)
  have c2:=ih2 (b+2+objs x) (o+1+x.own) (d+x.data) h4 (by omega) (by omega) (by omega)
  have w1:IntKind.i64.wrap 1=1:=rfl
  have w2:IntKind.i64.wrap (1+1)=2:=rfl
  refine fin (call_ofQ (af:=Trnz.a120) rfl rfl fun Q hQ => ?_)
  simp only [Trnz.a120]
  simp [ob,slotOf]
  refine loop_nQ 2 (fun i c=>(1≤i→shpA R x d=true)∧(2≤i→shpA R y (d+x.data)=true)∧∃ s5 fl,c=⟨[spotV b o d,.ref cy 0 1,.ref cw 0 1,spotV b o d,.bool false,s5,.int .i64 2,.int .i64 i],[],fl,none,H⟩) ?_ ⟨by simp,by simp,_,_,rfl⟩
  rintro I hI i c hi ⟨k1,k2,s5,fl,rfl⟩
  have hi3:i=0∨i=1∨i=2:=by omega
  rcases hi3 with rfl | rfl | rfl
  ·cases e:shpA R x d
   ·rw [e,wres,if_neg (by simp)] at c1
    simp [hw,p0,c1,slotOf,forget,AOper.writes]
    refine hQ _ _ ?_
    simp [wres,shpA,e]
   ·rw [e,wres,if_pos rfl] at c1
    simp [hw,p0,c1,w1,slotOf]
    exact hI _ _ ⟨fun _=>e,by simp,_,_,rfl⟩
  ·cases e:shpA R y (d+x.data)
   ·rw [e,wres,if_neg (by simp)] at c2
    simp [hw,p1,c2,slotOf,forget,AOper.writes]
    refine hQ _ _ ?_
    simp [wres,shpA,e]
   ·rw [e,wres,if_pos rfl] at c2
    simp [hw,p1,c2,w2,slotOf]
    exact hI _ _ ⟨fun _=>k1 (by omega),fun _=>e,_,_,rfl⟩
  ·simp [slotOf]
   refine hQ _ _ ?_
   simp [wres,shpA,k1,k2]
 | seq x ih =>
  intro b o d hL hd ho hs
  have hlR:=h.lR
  obtain ⟨h1,h2,h3⟩:=id hL
  have ob:=objCells_of h1
  simp only [Ty.data] at hd
  simp only [Ty.size] at hs ho
  have hbx:=x.both_size
  have p0:=part_seq (o:=o) (d:=d) hL 0 (by omega) (by omega) (by omega)
  rw [RO] at p0
  have hyl:=yield_q h (b:=b+1) (o:=d+x.own) (d:=d) h3 (by omega) (by omega)
  have c1:=ih (b+1) d (d+x.own) h3 (by omega) (by omega) (by omega)
  have w1:IntKind.i64.wrap 1=1:=rfl
  refine fin (call_ofQ (af:=Trnz.a120) rfl rfl fun Q hQ => ?_)
  simp only [Trnz.a120]
  cases e0:eqLen R d x.own
  ·rw [e0,if_neg (by simp)] at hyl
   simp [ob,hy,p0,hyl,slotOf,forget,AOper.writes]
   refine hQ _ _ ?_
   simp [wres,shpA,e0]
  rw [e0,if_pos rfl] at hyl
  simp [ob,hy,p0,hyl,slotOf]
  refine loop_nQ 1 (fun i c=>(1≤i→shpA R x (d+x.own)=true)∧∃ s5 fl,c=⟨[spotV b o d,.ref cy 0 1,.ref cw 0 1,spotV b o d,.bool false,s5,.int .i64 1,.int .i64 i],[],fl,none,H⟩) ?_ ⟨by simp,_,_,rfl⟩
  rintro I hI i c hi ⟨k1,s5,fl,rfl⟩
  have hi3:i=0∨i=1:=by omega
  rcases hi3 with rfl | rfl
  ·cases e:shpA R x (d+x.own)
   ·rw [e,wres,if_neg (by simp)] at c1
    simp [hw,p0,c1,slotOf,forget,AOper.writes]
    refine hQ _ _ ?_
    simp [wres,shpA,e0,e]
   ·rw [e,wres,if_pos rfl] at c1
    simp [hw,p0,c1,w1,slotOf]
    exact hI _ _ ⟨fun _=>e,_,_,rfl⟩
  ·simp [slotOf]
   refine hQ _ _ ?_
   simp [wres,shpA,e0,k1]
mutual
theorem belowV_mono {n m:Nat} (h:n≤m):∀ v:V,belowV n v=true→belowV m v=true
 | .ref b _ _,e=>by simp only [belowV,decide_eq_true_eq] at e ⊢; omega
 | .sl b _ _ _ _ _,e=>by simp only [belowV,decide_eq_true_eq] at e ⊢; omega
 | .map b,e=>by simp only [belowV,decide_eq_true_eq] at e ⊢; omega
 | .yf b,e=>by simp only [belowV,decide_eq_true_eq] at e ⊢; omega
 | .func _ fi ca,e=>by
  simp only [belowV,Bool.and_eq_true] at e ⊢
  exact ⟨belowL_mono h fi e.1,belowL_mono h ca e.2⟩
 | .iface _ v,e=>by
  simp only [belowV] at e ⊢
  exact belowV_mono h v e
 | .agg cs,e=>by
  simp only [belowV] at e ⊢
  exact belowL_mono h cs e
 | .tup cs,e=>by
  simp only [belowV] at e ⊢
  exact belowL_mono h cs e
 | .vs cs _ _,e=>by
  simp only [belowV] at e ⊢
  exact belowL_mono h cs e
 | .undef,_ | .bool _,_ | .int _ _,_ | .str _,_ | .nilp,_ | .nils,_ | .nilm,_ | .nilf,_ | .nili,_ | .pv _,_ | .sv _ _,_=>rfl
theorem belowL_mono {n m:Nat} (h:n≤m):∀ l:List V,belowL n l=true→belowL m l=true
 | [],_=>rfl
 | v :: l,e=>by
  simp only [belowL,Bool.and_eq_true] at e ⊢
  exact ⟨belowV_mono h v e.1,belowL_mono h l e.2⟩
end
def okO (n:Nat) (o:Am.Obj):Bool:=match o with
 | .cells _ _ cs=>cs.all (belowV n)
 | .map es=>es.all fun (k,v)=>belowV n k&&belowV n v
 | .loop _ fi _ _=>fi.all (belowV n)
 | .gone=>true
theorem okO_mono {n m:Nat} (h:n≤m) {o:Am.Obj} (e:okO n o=true):okO m o=true:=by
 cases o with
 | cells a b cs =>
  simp only [okO,List.all_eq_true] at e ⊢
  exact fun x hx=>belowV_mono h x (e x hx)
 | map es =>
  simp only [okO,List.all_eq_true,Bool.and_eq_true] at e ⊢
  exact fun x hx=>⟨belowV_mono h _ (e x hx).1,belowV_mono h _ (e x hx).2⟩
 | loop y fi st pd =>
  simp only [okO,List.all_eq_true] at e ⊢
  exact fun x hx=>belowV_mono h x (e x hx)
 | gone=>rfl
def Closed (H:Heap):Prop:=∀ o∈H,okO H.length o=true
theorem closedTo_eq (n:Nat) (H:Heap):closedTo n H=(H.take n).all (okO n):=rfl
theorem Closed.to {H:Heap} (h:Closed H) (X:Heap):closedTo H.length (H++X)=true:=by
 rw [closedTo_eq,List.take_left]
 exact List.all_eq_true.2 h
theorem Closed.app {H:Heap} (h:Closed H) {X:Heap} (hx:∀ o∈X,okO (H++X).length o=true):Closed (H++X):=by
 intro o ho
 rcases List.mem_append.1 ho with ho | ho
 ·exact okO_mono (by simp) (h o ho)
 ·exact hx o ho
theorem Closed.set {H:Heap} (h:Closed H) (b:Nat) {o:Am.Obj} (ho:okO H.length o=true):Closed (H.set b o):=by
 intro x hx
 rw [List.length_set]
 rcases List.mem_or_eq_of_mem_set hx with hx | rfl
 ·exact h x hx
 ·exact ho
theorem okO_ints (n a b:Nat) (l:List Int):okO n (.cells a b (icells l))=true:=by
 simp only [okO,List.all_eq_true]
 intro x hx
 obtain ⟨m,_,rfl⟩:=List.mem_map.1 hx
 rfl
abbrev Spot:=Nat×Ty×Nat×Nat
abbrev keyV (b i:Nat):V:=.agg [.ref b 0 1,.int .i64 i]
def sat (x:Vl):Nat:=min 20001 x.nodes
def MemoOK (S:List Spot) (R:List (List Int)) (es:List (V×V)):Prop :=
 ∀ e∈es,∃ b τ o d i x,(b,τ,o,d)∈S∧rdA R τ o d i=some x∧e=(keyV b i,.int .i64 (sat x))
theorem liveAt_lay {H:Heap} {b:Nat} {τ:Ty} (h:LayD H b τ):liveAt H b 0 1=true:=by
 obtain ⟨w,hb⟩:=h.head
 simp [liveAt,hb]
theorem find_memo {H:Heap} {S:List Spot} {R:List (List Int)} (hS:∀ e∈S,LayD H e.1 e.2.1) (hf:∀ b s s',(b,s)∈S→(b,s')∈S→s=s') {b:Nat} {τ:Ty} {o d i:Nat} (hb:(b,τ,o,d)∈S) :
  ∀ (es:List (V×V)) (n:Nat),MemoOK S R es→findK H true [.ptr,.int] (keyV b i) es n=some none∨∃ j x,rdA R τ o d i=some x∧findK H true [.ptr,.int] (keyV b i) es n=some (some (j,.int .i64 (sat x)))
 | [],n,_ => .inl rfl
 | e :: es,n,hm=>by
  obtain ⟨b',τ',o',d',i',x,h1,h2,rfl⟩:=hm e (by simp)
  have hrest:=find_memo hS hf hb (i:=i) es (n+1) fun e he=>hm e (by simp [he])
  have l1:=liveAt_lay (hS _ hb)
  have l2:=liveAt_lay (hS _ h1)
  simp only at l1 l2
  by_cases hbb:b=b'
  ·subst hbb
   have:=hf _ _ _ hb h1
   simp only [Prod.mk.injEq] at this
   obtain ⟨rfl,rfl,rfl⟩:=this
   by_cases hi:i=i'
   ·subst hi
    exact .inr ⟨n,x,h2,by simp [findK,sameKey,sameKs,sameLK,samePtr,l1]⟩
   ·have hne:((i:Int) == (i':Int))=false:=by simp; omega
    have hne2:(i == i')=false:=by simp; omega
    have e:findK H true [.ptr,.int] (keyV b i) ((keyV b i',.int .i64 (sat x)) :: es) n=findK H true [.ptr,.int] (keyV b i) es (n+1):=by
     simp [findK,sameKey,sameKs,sameLK,samePtr,l1,hne]
    rw [e]
    exact hrest
  ·have hne2:(b == b')=false:=by simp; omega
   have e:findK H true [.ptr,.int] (keyV b i) ((keyV b' i',.int .i64 (sat x)) :: es) n=findK H true [.ptr,.int] (keyV b i) es (n+1):=by
    simp [findK,sameKey,sameKs,sameLK,samePtr,l1,l2,hne2]
   rw [e]
   exact hrest
structure HoldH (H:Heap) (hh mb:Nat) (v:V) (R:List (List Int)) (S:List Spot) (es:List (V×V)):Prop where
 hh:H[hh]?=some (.cells 1 2 [v,.map mb])
 hm:H[mb]?=some (.map es)
 hR:RegsH H v R
 hS:∀ e∈S,LayD H e.1 e.2.1
 memo:MemoOK S R es
 cl:Closed H
structure Dyn (H G:Heap) (mb:Nat) (R:List (List Int)) (S:List Spot) (es:List (V×V)):Prop where
 le:Le H G
 len:H.length≤G.length
 hm:G[mb]?=some (.map es)
 memo:MemoOK S R es
 cl:Closed G
theorem HoldH.dyn {H G:Heap} {hh mb:Nat} {v:V} {R:List (List Int)} {S:List Spot} {es es':List (V×V)} (h:HoldH H hh mb v R S es) (d:Dyn H G mb R S es'):HoldH G hh mb v R S es' :=
 ⟨d.le _ _ _ _ h.hh,d.hm,h.hR.le d.le,fun e he=>(h.hS e he).le d.le,d.memo,d.cl⟩
theorem Dyn.trans {H G K:Heap} {mb:Nat} {R:List (List Int)} {S:List Spot} {es es':List (V×V)} (d:Dyn H G mb R S es) (d':Dyn G K mb R S es'):Dyn H K mb R S es' :=
 ⟨d.le.trans d'.le,by have:=d.len; have:=d'.len; omega,d'.hm,d'.memo,d'.cl⟩
theorem HoldH.self {H:Heap} {hh mb:Nat} {v:V} {R:List (List Int)} {S:List Spot} {es:List (V×V)} (h:HoldH H hh mb v R S es):Dyn H H mb R S es:=⟨Le.refl H,Nat.le_refl _,h.hm,h.memo,h.cl⟩
theorem Dyn.setN {H G:Heap} {mb:Nat} {R:List (List Int)} {S:List Spot} {es:List (V×V)} (d:Dyn H G mb R S es) {m0:Nat} (hm:H.length≤m0) {x:Int} (hx:G[m0]?=some (.cells 1 1 [.int .i64 x])) (y:Int):Dyn H (G.set m0 (.cells 1 1 [.int .i64 y])) mb R S es :=
 ⟨d.le.set_new hm _,by simpa using d.len,by rw [get_set_ne (by rintro rfl; rw [d.hm] at hx; cases hx)]; exact d.hm,d.memo,d.cl.set _ (okO_ints _ _ _ [y])⟩
theorem Dyn.new {H:Heap} {hh mb:Nat} {v:V} {R:List (List Int)} {S:List Spot} {es:List (V×V)} (h:HoldH H hh mb v R S es) (x:Int):Dyn H (H++[.cells 1 1 [.int .i64 x]]) mb R S es :=
 ⟨(Le.refl H).app _,by simp,get_app h.hm,h.memo,h.cl.app fun o ho=>by
  simp only [List.mem_singleton] at ho
  subst ho
  exact okO_ints _ _ _ [x]⟩
theorem add111_q (n many:Int) (m0:Nat) (G:Heap) (h:G[m0]?=some (.cells 1 1 [.int .i64 many])) (hb:0≤n) (hn:n<2 ^ 40) (hm:0≤many∧many<2 ^ 40) :
  CC 121 [.int .i64 n,.ref m0 0 1] G (.ret (.tup [])) (G.set m0 (.cells 1 1 [.int .i64 (min 20001 (many+n))])):=by
 have ob:=objCells_of h
 have w1:IntKind.i64.wrap (many+n)=many+n:=wrap64 (by omega) (by omega)
 have e:(if many+n<20001 then many+n else 20001)=min 20001 (many+n):=by split <;> omega
 refine CallP.eq (call_ofQ (af:=Trnz.a121) rfl rfl fun Q hQ => ?_)
 simp only [Trnz.a121]
 simp [ob,w1,e,storeV,slotOf]
 exact hQ _ _ ⟨rfl,rfl⟩
def cL:ACode→ACode
 | .seq a _=>a
 | c=>c
def cR:ACode→ACode
 | .seq _ b=>b
 | c=>c
@[simp] theorem cL_seq (a b:ACode):cL (.seq a b)=a:=rfl
@[simp] theorem cR_seq (a b:ACode):cR (.seq a b)=b:=rfl
def blk94:ACode:=cR (cL (cR (cR (cR (cR (cR Trnz.a94.body))))))
structure Rng (R:List (List Int)) (τ:Ty) (o d i:Nat):Prop where
 own:∀ j,j<τ.own→o+j<R.length∧i<(R.getD (o+j) []).length
 data:d+τ.data≤R.length
 shp:shpA R τ d=true
 ob:o+2 * τ.size<2 ^ 40
 sz:τ.size<2 ^ 20
structure Env (R:List (List Int)) (S:List Spot):Prop where
 lR:R.length<2 ^ 39
 ll:∀ r∈R,r.length<2 ^ 39
 hf:∀ b s s',(b,s)∈S→(b,s')∈S→s=s'
abbrev st94 (hh b o d i m0:Nat) (τ:Ty) (s10 s11 s12 s13 s14 s15 s17 s18:V):List V :=
 [.ref hh 0 1,spotV b o d,.int .i64 i,spotV b o d,.int .i64 0,keyV b i,.int .i64 0,.bool false,.ref m0 0 1,.func (.func 121) [] [.ref m0 0 1],s10,s11,s12,s13,s14,s15,.int .i64 τ.kind,s17,s18]
def BlkP (H:Heap) (hh mb:Nat) (R:List (List Int)) (S:List Spot) (b o d i:Nat) (τ:Ty) (out:Out) (c:Cfg):Prop :=
 match rdA R τ o d i with
 | some x=>out = .norm∧∃ G es' s10 s11 s12 s13 s14 s15 s17 s18 fl,c=⟨st94 hh b o d i H.length τ s10 s11 s12 s13 s14 s15 s17 s18,[],fl,none,G⟩∧Dyn H G mb R S es'∧G[H.length]?=some (.cells 1 1 [.int .i64 (sat x)])
 | none=>out = .pan (wrong 8)∧Le H c.h∧c.dfs=[]
def ReachP (H:Heap) (hh mb:Nat) (R:List (List Int)) (S:List Spot) (b o d i:Nat) (τ:Ty):Prop :=
 match rdA R τ o d i with
 | some x=>∃ es' H',CC 94 [.ref hh 0 1,spotV b o d,.int .i64 i] H (.ret (.int .i64 (sat x))) H'∧Dyn H H' mb R S es'
 | none=>∃ H',CC 94 [.ref hh 0 1,spotV b o d,.int .i64 i] H (.pan (wrong 8)) H'∧Le H H'
theorem reach_gen {H:Heap} {hh mb:Nat} {v:V} {R:List (List Int)} {S:List Spot} {es:List (V×V)} (he:Env R S) (hH:HoldH H hh mb v R S es) {b o d i:Nat} {τ:Ty} (hb:(b,τ,o,d)∈S)
  (hblk:WX (lim gl Trnz.aprog) gl blk94 ⟨st94 hh b o d i H.length τ .undef .undef .undef .undef .undef .undef .undef .undef,[],none,none,H++[.cells 1 1 [.int .i64 1]]⟩ (BlkP H hh mb R S b o d i τ)) :
  ReachP H hh mb R S b o d i τ:=by
 have hL:=hH.hS _ hb
 obtain ⟨w,hbl⟩:=hL.head
 have ob:=objCells_of hbl
 have oh:=objCells_of hH.hh
 have hn1:∀ x,objCells (H++[.cells 1 1 [x]]) H.length=some (1,1,[x]):=fun x=>by simp [objCells]
 have obX:∀ X,objCells (H++X) b=some (1,4,[.int .i64 τ.own,.int .i64 τ.data,.int .i64 τ.kind,w]):=fun X=>objCells_of (get_app hbl)
 have hmap:mapEs H (.map mb)=some (mb,es):=by simp [mapEs,hH.hm]
 have key:CallP gl Trnz.aprog 94 [.ref hh 0 1,spotV b o d,.int .i64 i] H (fun r H'=>match rdA R τ o d i with
   | some x=>r = .ret (.int .i64 (sat x))∧∃ es',Dyn H H' mb R S es'
   | none=>r = .pan (wrong 8)∧Le H H'):=by
  refine call_ofQ (af:=Trnz.a94) rfl rfl fun Q hQ => ?_
  simp only [Trnz.a94,WX_seq]
  refine WX_last _ _ (c':=⟨[.ref hh 0 1,spotV b o d,.int .i64 i,spotV b o d,.int .i64 0,.undef,.undef,.undef,.undef,.undef,.undef,.undef,.undef,.undef,.undef,.undef,.undef,.undef,.undef],[],none,none,H⟩) ?_ ?_
  ·simp [slotOf]
  simp only [seqQ_norm,WX_seq]
  refine WX_last _ _ (c':=⟨[.ref hh 0 1,spotV b o d,.int .i64 i,spotV b o d,.int .i64 0,keyV b i,.undef,.undef,.undef,.undef,.undef,.undef,.undef,.undef,.undef,.undef,.undef,.undef,.undef],[],none,none,H⟩) ?_ ?_
  ·simp [fill,slotOf]
  simp only [seqQ_norm,WX_seq]
  rcases find_memo hH.hS he.hf hb (i:=i) es 0 hH.memo with hfi | ⟨j,x,hx,hfi⟩
  case inr =>
   have hlk:lookV H true [.ptr,.int] (.map mb) (keyV b i) true (.int .i64 0)=some (.tup [.int .i64 (sat x),.bool true]):=by
    simp only [lookV,hmap,hfi]
    rfl
   rw [hx] at hQ
   simp [oh,hlk,slotOf]
   exact hQ _ _ ⟨rfl,es,hH.self⟩
  have hlk:lookV H true [.ptr,.int] (.map mb) (keyV b i) true (.int .i64 0)=some (.tup [.int .i64 0,.bool false]):=by
   simp only [lookV,hmap,hfi]
   rfl
  refine WX_last _ _ (c':=⟨[.ref hh 0 1,spotV b o d,.int .i64 i,spotV b o d,.int .i64 0,keyV b i,.int .i64 0,.bool false,.undef,.undef,.undef,.undef,.undef,.undef,.undef,.undef,.undef,.undef,.undef],[],none,none,H⟩) ?_ ?_
  ·simp [oh,hlk,slotOf]
  simp only [seqQ_norm,WX_seq]
  refine WX_last _ _ (c':=⟨[.ref hh 0 1,spotV b o d,.int .i64 i,spotV b o d,.int .i64 0,keyV b i,.int .i64 0,.bool false,.undef,.undef,.undef,.undef,.undef,.undef,.undef,.undef,.undef,.undef,.undef],[],some (31,.bool false),none,H⟩) ?_ ?_
  ·simp [slotOf]
  simp only [seqQ_norm,WX_seq,WX_ite,WX_skip,Bool.false_eq_true,if_false]
  refine WX_last _ _ (c':=⟨[.ref hh 0 1,spotV b o d,.int .i64 i,spotV b o d,.int .i64 0,keyV b i,.int .i64 0,.bool false,.ref H.length 0 1,.undef,.undef,.undef,.undef,.undef,.undef,.undef,.undef,.undef,.undef],[],none,none,H++[.cells 1 1 [.int .i64 1]]⟩) ?_ ?_
  ·simp [hn1,storeV,slotOf]
  simp only [seqQ_norm,WX_seq]
  refine WX_last _ _ (c':=⟨[.ref hh 0 1,spotV b o d,.int .i64 i,spotV b o d,.int .i64 0,keyV b i,.int .i64 0,.bool false,.ref H.length 0 1,.func (.func 121) [] [.ref H.length 0 1],.undef,.undef,.undef,.undef,.undef,.undef,.undef,.undef,.undef],[],none,none,H++[.cells 1 1 [.int .i64 1]]⟩) ?_ ?_
  ·simp [slotOf]
  simp only [seqQ_norm,WX_seq]
  refine WX_last _ _ (c':=⟨st94 hh b o d i H.length τ .undef .undef .undef .undef .undef .undef .undef .undef,[],none,none,H++[.cells 1 1 [.int .i64 1]]⟩) ?_ ?_
  ·simp [obX,slotOf]
  simp only [seqQ_norm]
  refine WX.mono (Q:=BlkP H hh mb R S b o d i τ) hblk ?_
  intro out c hP
  unfold BlkP at hP
  cases hr:rdA R τ o d i with
  | none =>
   rw [hr] at hP hQ
   obtain ⟨rfl,h2,h3⟩:=hP
   obtain ⟨sl,ds,fl,pn,G⟩:=c
   simp only at h2 h3
   subst h3
   simp
   exact hQ _ _ ⟨rfl,h2⟩
  | some x =>
   rw [hr] at hP hQ
   obtain ⟨rfl,G,es',s10,s11,s12,s13,s14,s15,s17,s18,fl,rfl,hD,hm0⟩:=hP
   have hH':=hH.dyn hD
   have oh':=objCells_of hH'.hh
   have om:=objCells_of hm0
   have hmap':mapEs G (.map mb)=some (mb,es'):=by simp [mapEs,hD.hm]
   have hmblt:=(List.getElem?_eq_some_iff.1 hD.hm).1
   obtain ⟨es2,hms,hD2,hom⟩:∃ es2,msetV G true [.ptr,.int] (.map mb) (keyV b i) (.int .i64 (sat x))=some (G.set mb (.map es2))∧Dyn H (G.set mb (.map es2)) mb R S es2∧objCells (G.set mb (.map es2)) H.length=some (1,1,[.int .i64 (sat x)]):=by
    have hnew:∃ b' τ' o' d' i' x',(b',τ',o',d')∈S∧rdA R τ' o' d' i'=some x'∧((keyV b i,V.int .i64 (sat x)):V×V)=(keyV b' i',.int .i64 (sat x')):=⟨b,τ,o,d,i,x,hb,hr,rfl⟩
    have hok2:∀ es2,MemoOK S R es2→Dyn H (G.set mb (.map es2)) mb R S es2∧objCells (G.set mb (.map es2)) H.length=some (1,1,[.int .i64 (sat x)]):=fun es2 hm2=>by
     refine ⟨⟨?_,by simpa using hD.len,by simp [hmblt],hm2,hD.cl.set _ ?_⟩,?_⟩
     ·exact hD.le.set (fun n sz cs h=>by have:=hD.le _ _ _ _ h; rw [hD.hm] at this; cases this) _
     ·simp only [okO,List.all_eq_true,Bool.and_eq_true]
      intro e he'
      obtain ⟨b',τ',o',d',i',x',h1,h2,rfl⟩:=hm2 e he'
      have:=(hH'.hS _ h1).lt
      simp [belowV,belowL,this]
     ·have:mb≠H.length:=by rintro rfl; rw [hD.hm] at hm0; cases hm0
      rw [objCells_ne this]
      exact om
    rcases find_memo hH'.hS he.hf hb (i:=i) es' 0 hD.memo with hfi | ⟨j,x',hx',hfi⟩
    ·refine ⟨es'++[(keyV b i,.int .i64 (sat x))],?_,hok2 _ ?_⟩
     ·simp only [msetV,hmap',hfi,keyShape,okVal]
      rfl
     ·intro e he'
      rcases List.mem_append.1 he' with he' | he'
      ·exact hD.memo e he'
      ·rw [List.mem_singleton.1 he']; exact hnew
    ·refine ⟨es'.set j (keyV b i,.int .i64 (sat x)),?_,hok2 _ ?_⟩
     ·simp only [msetV,hmap',hfi,keyShape,okVal]
      rfl
     ·intro e he'
      rcases List.mem_or_eq_of_mem_set he' with he' | rfl
      ·exact hD.memo e he'
      ·exact hnew
   simp [oh',om,hms,hom,slotOf]
   exact hQ _ _ ⟨rfl,es2,hD2⟩
 unfold ReachP
 obtain ⟨r,H',e,hq⟩:=OptP.ex key
 cases hr:rdA R τ o d i with
 | none=>rw [hr] at hq; obtain ⟨rfl,h⟩:=hq; exact ⟨H',e,h⟩
 | some x=>rw [hr] at hq; obtain ⟨rfl,es',h⟩:=hq; exact ⟨es',H',e,h⟩
section
variable {H:Heap} {hh mb:Nat} {v:V} {R:List (List Int)} {S:List Spot} {es:List (V×V)}
abbrev BlkOK (H:Heap) (hh mb:Nat) (R:List (List Int)) (S:List Spot) (b o d i:Nat) (τ:Ty):Prop :=
 WX (lim gl Trnz.aprog) gl blk94 ⟨st94 hh b o d i H.length τ .undef .undef .undef .undef .undef .undef .undef .undef,[],none,none,H++[.cells 1 1 [.int .i64 1]]⟩ (BlkP H hh mb R S b o d i τ)
theorem BlkP.none {b o d i:Nat} {τ:Ty} (h:rdA R τ o d i = .none) {c:Cfg} (h2:Le H c.h) (h3:c.dfs=[]):BlkP H hh mb R S b o d i τ (.pan (wrong 8)) c:=by
 unfold BlkP
 rw [h]
 exact ⟨rfl,h2,h3⟩
theorem BlkP.some {b o d i:Nat} {τ:Ty} {x:Vl} (h:rdA R τ o d i = .some x) {G:Heap} {es':List (V×V)} {s10 s11 s12 s13 s14 s15 s17 s18:V} {fl:Option (Nat×V)} (hD:Dyn H G mb R S es') {n:Int} (hm:G[H.length]?=Option.some (.cells 1 1 [.int .i64 n])) (hn:n=(sat x:Nat)) :
  BlkP H hh mb R S b o d i τ .norm ⟨st94 hh b o d i H.length τ s10 s11 s12 s13 s14 s15 s17 s18,[],fl,.none,G⟩:=by
 unfold BlkP
 rw [h]
 exact ⟨rfl,G,es',_,_,_,_,_,_,_,_,_,rfl,hD,by rw [hm,hn]⟩
theorem sat_le (x:Vl):sat x≤20001:=by unfold sat; omega
theorem blk_unit (hH:HoldH H hh mb v R S es) {b o d i:Nat}:BlkOK H hh mb R S b o d i .unit:=by
 simp only [BlkOK,blk94,Trnz.a94,cL_seq,cR_seq]
 simp [Ty.kind,slotOf]
 exact BlkP.some (by simp only [rdA]; rfl) (Dyn.new hH 1) (n:=1) (by simp) (by simp [sat,Vl.nodes,Vl.nodesL])
theorem blk_int (he:Env R S) (hH:HoldH H hh mb v R S es) {b o d i:Nat} (hr:Rng R .int o d i):BlkOK H hh mb R S b o d i .int:=by
 have hD:=Dyn.new hH 1
 have hH0:=hH.dyn hD
 obtain ⟨h1,h2⟩:=hr.own 0 (by simp [Ty.own])
 rw [Nat.add_zero] at h1 h2
 have h2':i<R[o].length:=by simpa [h1] using h2
 obtain ⟨a,w,a',e1,e2,e3,e4⟩:=hH0.hR.get2 h1 h2'
 have oh:=objCells_of hH0.hh
 have m8:=must_t 8
 have f8:=must_f 8
 rw [PC] at m8
 have hl0:loadV (H++[.cells 1 1 [.int .i64 1]]) (.ref hh 0 1) 1 false=some v:=load_ref hH0.hh rfl
 have hm0:(H++[Am.Obj.cells 1 1 [V.int .i64 1]])[H.length]?=some (.cells 1 1 [.int .i64 1]):=by simp
 simp only [BlkOK,blk94,Trnz.a94,cL_seq,cR_seq]
 generalize H++[Am.Obj.cells 1 1 [V.int .i64 1]]=G at *
 by_cases q1 : -2147483648≤rA R o i
 ·by_cases q2:rA R o i≤2147483647
  ·have hw:isWord (rA R o i)=true:=by simp [isWord,q1,q2]
   simp [Ty.kind,hl0,e1,e2,e3,e4,q1,q2,m8,slotOf,-pcall,-loadV]
   exact BlkP.some (by simp only [rdA,hw,if_true]; rfl) hD hm0 (by simp [sat,Vl.nodes,Vl.nodesL])
  ·have hw:isWord (rA R o i)=false:=by simp [isWord,q2]
   simp [Ty.kind,hl0,e1,e2,e3,e4,q1,q2,f8,slotOf,forget,AOper.writes,-pcall,-loadV]
   exact BlkP.none (by simp [rdA,hw]) hD.le rfl
 ·have hw:isWord (rA R o i)=false:=by simp [isWord,q1]
  simp [Ty.kind,hl0,e1,e2,e3,e4,q1,f8,slotOf,forget,AOper.writes,-pcall,-loadV]
  exact BlkP.none (by simp [rdA,hw]) hD.le rfl
theorem child_add {m0 many:Nat} {b o d i:Nat} {τ:Ty} {x:Vl} {G:Heap} (hx:rdA R τ o d i=some x) (hr:ReachP G hh mb R S b o d i τ) (hG:HoldH G hh mb v R S es) (hm:G[m0]?=some (.cells 1 1 [.int .i64 many])) (hmb:many≤20001) (hD:Dyn H G mb R S es) (hlt:H.length≤m0) :
  ∃ es' G1 G2,CC 94 [.ref hh 0 1,spotV b o d,.int .i64 i] G (.ret (.int .i64 (sat x))) G1∧CC 121 [.int .i64 (sat x),.ref m0 0 1] G1 (.ret (.tup [])) G2∧Dyn H G2 mb R S es'∧G2[m0]?=some (.cells 1 1 [.int .i64 (min 20001 (many+sat x):Nat)])∧G1[m0]?=some (.cells 1 1 [.int .i64 many])∧Dyn H G1 mb R S es':=by
 unfold ReachP at hr
 rw [hx] at hr
 obtain ⟨es',G1,c1,d1⟩:=hr
 have hm1:=d1.le _ _ _ _ hm
 have:=sat_le x
 have c2:=add111_q (sat x) many m0 G1 hm1 (by omega) (by omega) (by omega)
 have hlt2:=(List.getElem?_eq_some_iff.1 hm1).1
 refine ⟨es',G1,_,c1,c2,(hD.trans d1).setN hlt hm1 _,?_,hm1,hD.trans d1⟩
 rw [List.getElem?_set_self hlt2]
 congr 4
 omega
theorem child_pan {b o d i:Nat} {τ:Ty} {G:Heap} (hx:rdA R τ o d i=none) (hr:ReachP G hh mb R S b o d i τ) (hD:Le H G) :
  ∃ G1,CC 94 [.ref hh 0 1,spotV b o d,.int .i64 i] G (.pan (wrong 8)) G1∧Le H G1:=by
 unfold ReachP at hr
 rw [hx] at hr
 obtain ⟨G1,c1,d1⟩:=hr
 exact ⟨G1,c1,hD.trans d1⟩
theorem blk_pair (he:Env R S) (hH:HoldH H hh mb v R S es) {b o d i:Nat} {x y:Ty} (hb:(b,.pair x y,o,d)∈S) (hr:Rng R (.pair x y) o d i)
  (ih1:∀ {G:Heap} {es:List (V×V)},HoldH G hh mb v R S es→ReachP G hh mb R S (b+1) o d i x)
  (ih2:∀ {G:Heap} {es:List (V×V)},HoldH G hh mb v R S es→ReachP G hh mb R S (b+2+objs x) (o+x.own) (d+x.data) i y):BlkOK H hh mb R S b o d i (.pair x y):=by
 have hD:=Dyn.new hH 1
 have hH0:=hH.dyn hD
 have hm0:(H++[Am.Obj.cells 1 1 [V.int .i64 1]])[H.length]?=some (.cells 1 1 [.int .i64 (1:Nat)]):=by simp
 have hlR:=he.lR
 have hdd:=hr.data
 have hob:=hr.ob
 have hsz:=hr.sz
 simp only [Ty.data] at hdd
 simp only [Ty.size] at hob hsz
 have p0:=part_pair0 (o:=o) (d:=d) (hH0.hS _ hb)
 rw [RO] at p0
 simp only [BlkOK,blk94,Trnz.a94,cL_seq,cR_seq]
 generalize H++[Am.Obj.cells 1 1 [V.int .i64 1]]=G at *
 cases hx:rdA R x o d i with
 | none =>
  obtain ⟨G1,c1,l1⟩:=child_pan hx (ih1 hH0) hD.le
  simp [Ty.kind,p0,c1,slotOf]
  exact BlkP.none (by simp [rdA,hx,pairO]) l1 rfl
 | some v1 =>
  obtain ⟨es1,G1,G2,c1,c2,d2,m2,_,_⟩:=child_add hx (ih1 hH0) hH0 hm0 (by omega) hD (Nat.le_refl _)
  have hH2:=hH.dyn d2
  have p1:=part_pair1 (o:=o) (d:=d) (hH2.hS _ hb) (by omega) (by omega) (by omega)
  rw [RO] at p1
  cases hy:rdA R y (o+x.own) (d+x.data) i with
  | none =>
   obtain ⟨G3,c3,l3⟩:=child_pan hy (ih2 hH2) d2.le
   simp [Ty.kind,p0,c1,c2,p1,c3,slotOf]
   exact BlkP.none (by simp [rdA,hx,hy,pairO]) l3 rfl
  | some v2 =>
   obtain ⟨es3,G3,G4,c3,c4,d4,m4,_,_⟩:=child_add hy (ih2 hH2) hH2 m2 (by omega) d2 (Nat.le_refl _)
   simp [Ty.kind,p0,c1,c2,p1,c3,c4,slotOf]
   refine BlkP.some (by simp only [rdA,hx,hy,pairO]; rfl) d4 m4 ?_
   simp only [sat,Vl.nodes,Vl.nodesL]
   omega
theorem blk_sum (he:Env R S) (hH:HoldH H hh mb v R S es) {b o d i:Nat} {x y:Ty} (hb:(b,.sum x y,o,d)∈S) (hr:Rng R (.sum x y) o d i)
  (ih1:∀ {G:Heap} {es:List (V×V)},HoldH G hh mb v R S es→ReachP G hh mb R S (b+1) (o+1) d i x)
  (ih2:∀ {G:Heap} {es:List (V×V)},HoldH G hh mb v R S es→ReachP G hh mb R S (b+2+objs x) (o+1+x.own) (d+x.data) i y):BlkOK H hh mb R S b o d i (.sum x y):=by
 have hD:=Dyn.new hH 1
 have hH0:=hH.dyn hD
 have hm0:(H++[Am.Obj.cells 1 1 [V.int .i64 1]])[H.length]?=some (.cells 1 1 [.int .i64 (1:Nat)]):=by simp
 have hlR:=he.lR
 have hdd:=hr.data
 have hob:=hr.ob
 have hsz:=hr.sz
 simp only [Ty.data] at hdd
 simp only [Ty.size] at hob hsz
 obtain ⟨h1,h2⟩:=hr.own 0 (by simp [Ty.own]; omega)
 rw [Nat.add_zero] at h1 h2
 have h2':i<R[o].length:=by simpa [h1] using h2
 obtain ⟨a,w,a',e1,e2,e3,e4⟩:=hH0.hR.get2 h1 h2'
 have hl0:loadV (H++[.cells 1 1 [.int .i64 1]]) (.ref hh 0 1) 1 false=some v:=load_ref hH0.hh rfl
 have p0:=part_sum0 (o:=o) (d:=d) (hH0.hS _ hb) (by omega) (by omega)
 have p1:=part_sum1 (o:=o) (d:=d) (hH0.hS _ hb) (by omega) (by omega) (by omega)
 have m8:=must_t 8
 have f8:=must_f 8
 rw [PC] at m8
 rw [RO] at p0 p1
 simp only [BlkOK,blk94,Trnz.a94,cL_seq,cR_seq]
 generalize H++[Am.Obj.cells 1 1 [V.int .i64 1]]=G at *
 by_cases t0:rA R o i=0
 ·rw [t0] at e4
  cases hx:rdA R x (o+1) d i with
  | none =>
   obtain ⟨G1,c1,l1⟩:=child_pan hx (ih1 hH0) hD.le
   simp [Ty.kind,hl0,e1,e2,e3,e4,m8,p0,c1,slotOf,-pcall,-loadV]
   exact BlkP.none (by simp [rdA,t0,hx]) l1 rfl
  | some v1 =>
   obtain ⟨es1,G1,G2,c1,c2,d2,m2,_,_⟩:=child_add hx (ih1 hH0) hH0 hm0 (by omega) hD (Nat.le_refl _)
   simp [Ty.kind,hl0,e1,e2,e3,e4,m8,p0,c1,c2,slotOf,-pcall,-loadV]
   refine BlkP.some (by simp only [rdA,t0,if_true,hx,Option.map_some]; rfl) d2 m2 ?_
   simp only [sat,Vl.nodes,Vl.nodesL]
   omega
 ·by_cases t1:rA R o i=1
  ·rw [t1] at e4
   cases hx:rdA R y (o+1+x.own) (d+x.data) i with
   | none =>
    obtain ⟨G1,c1,l1⟩:=child_pan hx (ih2 hH0) hD.le
    simp [Ty.kind,hl0,e1,e2,e3,e4,m8,p1,c1,slotOf,-pcall,-loadV]
    exact BlkP.none (by simp [rdA,t1,hx]) l1 rfl
   | some v1 =>
    obtain ⟨es1,G1,G2,c1,c2,d2,m2,_,_⟩:=child_add hx (ih2 hH0) hH0 hm0 (by omega) hD (Nat.le_refl _)
    simp [Ty.kind,hl0,e1,e2,e3,e4,m8,p1,c1,c2,slotOf,-pcall,-loadV]
    refine BlkP.some (by simp only [rdA,t1,hx,Option.map_some,Int.reduceEq,if_false,if_true]; rfl) d2 m2 ?_
    simp only [sat,Vl.nodes,Vl.nodesL]
    omega
  ·have t0':=ne_false t0
   have t1':=ne_false t1
   simp [Ty.kind,hl0,e1,e2,e3,e4,t0',t1',f8,slotOf,forget,AOper.writes,-pcall,-loadV]
   exact BlkP.none (by simp [rdA,t0,t1]) hD.le rfl
end
theorem Vl.nodesL_append (a b:List Vl):nodesL (a++b)=nodesL a+nodesL b:=by
 induction a with
 | nil=>simp [nodesL]
 | cons t ts ih=>simp only [List.cons_append,nodesL,ih]; omega
theorem Vl.nodesL_replicate (n:Nat) (x:Vl):nodesL (List.replicate n x)=n * x.nodes:=by
 induction n with
 | zero=>simp [nodesL]
 | succ n ih=>rw [List.replicate_succ,nodesL,ih,Nat.succ_mul]; omega
theorem eqLen_get {R:List (List Int)} {d n j:Nat} (h:eqLen R d n=true) (hj:j<n) (hl:d+j<R.length):(R.getD (d+j) []).length=(R.getD d []).length:=by
 have hm:R[d+j]∈(R.drop d).take n:=by
  rw [List.mem_iff_getElem?]
  refine ⟨j,?_⟩
  rw [List.getElem?_take,if_pos hj,List.getElem?_drop]
  simp [hl]
 have:=List.all_eq_true.1 h _ hm
 simp [hl] at this
 simpa [hl] using this
section
variable {H:Heap} {hh mb:Nat} {v:V} {R:List (List Int)} {S:List Spot} {es:List (V×V)}
theorem blk_seq (he:Env R S) (hH:HoldH H hh mb v R S es) {b o d i:Nat} {x:Ty} (hb:(b,.seq x,o,d)∈S) (hr:Rng R (.seq x) o d i)
  (ih:∀ {G:Heap} {es:List (V×V)} {k:Nat},HoldH G hh mb v R S es→(x.own≠0→k<(R.getD d []).length)→ReachP G hh mb R S (b+1) d (d+x.own) k x):BlkOK H hh mb R S b o d i (.seq x):=by
 have hD:=Dyn.new hH 1
 have hH0:=hH.dyn hD
 have hm0:(H++[Am.Obj.cells 1 1 [V.int .i64 1]])[H.length]?=some (.cells 1 1 [.int .i64 (1:Nat)]):=by simp
 have hlR:=he.lR
 have hdd:=hr.data
 have hob:=hr.ob
 have hsz:=hr.sz
 simp only [Ty.data] at hdd
 simp only [Ty.size] at hob hsz
 obtain ⟨h1,h2⟩:=hr.own 0 (by simp [Ty.own])
 obtain ⟨h3,h4⟩:=hr.own 1 (by simp [Ty.own])
 rw [Nat.add_zero] at h1 h2
 have h2':i<R[o].length:=by simpa [h1] using h2
 have h4':i<R[o+1].length:=by simpa [h3] using h4
 obtain ⟨a,w,a',e1,e2,e3,e4⟩:=hH0.hR.get2 h1 h2'
 obtain ⟨c,w',c',f1,f2,f3,f4⟩:=hH0.hR.get2 h3 h4'
 have hl0:loadV (H++[.cells 1 1 [.int .i64 1]]) (.ref hh 0 1) 1 false=some v:=load_ref hH0.hh rfl
 have hL0:=hH0.hS _ hb
 have p0:=part_seq (o:=o) (d:=d) hL0 0 (by omega) (by omega) (by omega)
 have ro:=ro74_q hL0.2.2
 have m8:=must_t 8
 have g8:=must_f 8
 rw [PC] at m8
 rw [RO] at p0 ro
 have hbs:=x.both_size
 have w1:IntKind.i64.wrap ((o:Int)+1)=((o+1:Nat):Int):=by rw [wrap64 (by omega) (by omega)]; rfl
 simp only [BlkOK,blk94,Trnz.a94,cL_seq,cR_seq]
 generalize H++[Am.Obj.cells 1 1 [V.int .i64 1]]=G at *
 have hshp:=hr.shp
 simp only [shpA,Bool.and_eq_true] at hshp
 by_cases q1:0≤rA R (o+1) i
 case neg =>
  simp [Ty.kind,hl0,e1,e2,e3,e4,w1,f1,f2,f3,f4,q1,g8,slotOf,forget,AOper.writes,-pcall,-loadV,-Int.natCast_add]
  exact BlkP.none (by simp [rdA,q1]) hD.le rfl
 by_cases q2:rA R (o+1) i≤4096
 case neg =>
  simp [Ty.kind,hl0,e1,e2,e3,e4,w1,f1,f2,f3,f4,q1,q2,g8,slotOf,forget,AOper.writes,-pcall,-loadV,-Int.natCast_add]
  exact BlkP.none (by simp [rdA,q2]) hD.le rfl
 have hq12:¬ ¬ (0≤rA R (o+1) i∧rA R (o+1) i≤4096):=by omega
 by_cases q3:rA R (o+1) i=0
 case pos =>
  rw [q3] at f4
  simp [Ty.kind,hl0,e1,e2,e3,e4,w1,f1,f2,f3,f4,m8,p0,slotOf,-pcall,-loadV,-Int.natCast_add]
  exact BlkP.some (x:=.mk 4 0 []) (by simp only [rdA,if_neg hq12,if_pos q3]) hD hm0 (by simp [sat,Vl.nodes,Vl.nodesL])
 have q3':=ne_false q3
 by_cases q4:0≤rA R o i
 case neg =>
  simp [Ty.kind,hl0,e1,e2,e3,e4,w1,f1,f2,f3,f4,q1,q2,q3',q4,m8,g8,p0,slotOf,forget,AOper.writes,-pcall,-loadV,-Int.natCast_add]
  refine BlkP.none ?_ hD.le rfl
  simp only [rdA,if_neg hq12,if_neg q3]
  rw [if_pos (.inl (by omega))]
 obtain ⟨m,hm⟩:∃ m:Nat,rA R (o+1) i=m:=⟨(rA R (o+1) i).toNat,by omega⟩
 obtain ⟨s,hs⟩:∃ s:Nat,rA R o i=s:=⟨(rA R o i).toNat,by omega⟩
 have hm1:m≠0:=by omega
 have hm4:m≤4096:=by omega
 rw [hm] at f4 q1 q2 q3'
 rw [hs] at e4 q4
 have hm4':(m:Int)≤4096:=by omega
 by_cases q5:x.own=0
 case pos =>
  have q5':((x.own:Int) == 0)=true:=by simp [q5]
  have c0:=ih (k:=0) hH0 (fun h=>absurd q5 h)
  have hx:=rd_unit x q5 ((R.drop d).take x.own) ((R.drop (d+x.own)).take x.data) 0
  rw [← rd_cut] at hx
  have hxn:=unitV_nodes x q5
  obtain ⟨es',G1,G2,c1,c2,d2,k2,k3,d3⟩:=child_add hx c0 hH0 hm0 (by omega) hD (Nat.le_refl _)
  have hsl:=sat_le (unitV x)
  have hprod:m * sat (unitV x)≤4096 * 20001:=Nat.mul_le_mul hm4 hsl
  have wm:IntKind.i64.wrap ((m:Int) * (sat (unitV x):Nat))=((m * sat (unitV x):Nat):Int):=by rw [wrap64 (by rw [← Int.natCast_mul]; omega) (by rw [← Int.natCast_mul]; omega),Int.natCast_mul]
  have c3:=add111_q ((m * sat (unitV x):Nat):Int) 1 H.length G1 k3 (by omega) (by omega) (by omega)
  have hlt2:=(List.getElem?_eq_some_iff.1 k3).1
  have c1':(lim gl Trnz.aprog).call 94 [.ref hh 0 1,spotV (b+1) d (d+x.own),.int .i64 0] G=some (.ret (.int .i64 (sat (unitV x))),G1):=c1
  have q50:((0:Int) == 0)=true:=rfl
  rw [q5] at ro
  simp only [Int.natCast_zero] at ro
  simp [Ty.kind,hl0,e1,e2,e3,e4,w1,f1,f2,f3,f4,q3',q4,hm4',m8,p0,ro,c1',wm,c3,slotOf,-pcall,-loadV,-Int.natCast_add,-Int.natCast_mul]
  have hall:allO ((List.range m).map fun k=>rdA R x d (d+x.own) (if x.own=0 then 0 else s+k))=some (List.replicate m (unitV x)):=by
   rw [allO_some]
   apply List.ext_getElem?
   intro j
   simp only [List.getElem?_map,List.getElem?_range,List.getElem?_replicate]
   by_cases hj:j<m
   ·simp [hj,q5]
    rw [q5] at hx
    simpa using hx
   ·simp [hj]
  refine BlkP.some (x:=.mk 4 0 (List.replicate m (unitV x))) ?_ (d3.setN (Nat.le_refl _) k3 _) (by rw [List.getElem?_set_self hlt2]) ?_
  ·simp only [rdA,if_neg hq12,if_neg q3]
   rw [if_neg (by omega),hm,hs,Int.toNat_natCast,Int.toNat_natCast,hall]
   rfl
  ·simp only [sat,Vl.nodes,Vl.nodesL_replicate]
   have:(unitV x).nodes≤20001∨20001<(unitV x).nodes:=by omega
   rcases this with h | h
   ·rw [Nat.min_eq_right h]
    omega
   ·rw [Nat.min_eq_left (by omega)]
    have h5:m * 20001 ≥ 20001:=by have:=Nat.mul_le_mul (show 1≤m by omega) (Nat.le_refl 20001); omega
    have h6:m * (unitV x).nodes ≥ 20001:=by have:=Nat.mul_le_mul (show 1≤m by omega) (show 20001≤(unitV x).nodes by omega); omega
    omega
 have q5':((x.own:Int) == 0)=false:=ne_false (by omega)
 have hdR:d<R.length:=by omega
 obtain ⟨a0,w0,g1,g2,g3⟩:=hH0.hR.get hdR
 have lw0:=g3.len
 simp only [icells,List.length_map] at lw0
 have gD:(R.getD d []).length=R[d].length:=by simp [hdR]
 have hll:=he.ll R[d] (List.getElem_mem hdR)
 have wsub:IntKind.i64.wrap ((R[d].length:Int) - m)=(R[d].length:Int) - m:=wrap64 (by omega) (by omega)
 by_cases q6:(s:Int)≤(R[d].length:Int) - m
 case neg =>
  simp [Ty.kind,hl0,e1,e2,e3,e4,w1,f1,f2,f3,f4,q3',q4,hm4',m8,g8,p0,ro,q5,q5',g1,g2,lw0,wsub,q6,slotOf,forget,AOper.writes,-pcall,-loadV,-Int.natCast_add]
  refine BlkP.none ?_ hD.le rfl
  simp only [rdA,if_neg hq12,if_neg q3]
  rw [if_pos (.inr ⟨q5,by rw [hs,hm,gD]; omega⟩)]
 simp [Ty.kind,hl0,e1,e2,e3,e4,w1,f1,f2,f3,f4,q3',q4,hm4',m8,p0,ro,q5,q5',g1,g2,lw0,wsub,q6,slotOf,-pcall,-loadV,-Int.natCast_add]
 have hrd:rdA R (.seq x) o d i=(allO ((List.range m).map fun k=>rdA R x d (d+x.own) (s+k))).map fun l => .mk 4 0 l:=by
  simp only [rdA,if_neg hq12,if_neg q3]
  rw [if_neg (by rw [hs,hm,gD]; omega),hm,hs,Int.toNat_natCast,Int.toNat_natCast]
  simp only [q5,if_false]
 refine loop_nQ m (fun k c=>∃ l G' es' s15 fl,c=⟨st94 hh b o d i H.length (.seq x) .undef .undef (.int .i64 s) (.int .i64 m) (spotV (b+1) d (d+x.own)) s15 (.int .i64 m) (.int .i64 k),[],fl,none,G'⟩ ∧
  (List.range k).map (fun k=>rdA R x d (d+x.own) (s+k))=l.map some∧Dyn H G' mb R S es'∧G'[H.length]?=some (.cells 1 1 [.int .i64 (min 20001 (1+Vl.nodesL l):Nat)])) ?_ ⟨[],G,es,_,_,rfl,rfl,hD,by rw [hm0]; simp [Vl.nodesL]⟩
 rintro I hI k c hk ⟨l,G',es',s15,fl,rfl,hl,hD',hmk⟩
 by_cases hlt:k<m
 ·have wk:IntKind.i64.wrap ((s:Int)+k)=((s+k:Nat):Int):=by rw [wrap64 (by omega) (by omega)]; rfl
  have wk1:IntKind.i64.wrap ((k:Int)+1)=(k:Int)+1:=wrap64 (by omega) (by omega)
  have hH':=hH.dyn hD'
  have c0:=ih (k:=s+k) hH' (fun _=>by rw [gD]; omega)
  cases hx:rdA R x d (d+x.own) (s+k) with
  | none =>
   obtain ⟨G1,c1,l1⟩:=child_pan hx c0 hD'.le
   simp [hlt,wk,c1,slotOf,-Int.natCast_add]
   refine BlkP.none ?_ l1 rfl
   rw [hrd,Option.map_eq_none_iff,allO_none,List.mem_map]
   exact ⟨k,List.mem_range.2 hlt,hx⟩
  | some v1 =>
   obtain ⟨es1,G1,G2,c1,c2,d2,m2,_,_⟩:=child_add hx c0 hH' hmk (by omega) hD' (Nat.le_refl _)
   simp [hlt,wk,c1,c2,wk1,slotOf,-Int.natCast_add]
   refine hI _ _ ⟨l++[v1],G2,es1,_,_,rfl,?_,d2,?_⟩
   ·rw [List.range_succ,List.map_append,hl,List.map_append,List.map_cons,List.map_nil,hx]
    rfl
   ·rw [m2,Vl.nodesL_append]
    congr 4
    simp only [sat,Vl.nodesL]
    omega
 ·obtain rfl:k=m:=by omega
  simp [slotOf]
  refine BlkP.some (x:=.mk 4 0 l) ?_ hD' hmk ?_
  ·rw [hrd,allO_some.2 hl]
   rfl
  ·simp only [sat,Vl.nodes]
theorem reach_q (he:Env R S):∀ (τ:Ty) (b o d i:Nat) {H:Heap} {es:List (V×V)},HoldH H hh mb v R S es→(∀ e∈sp b τ o d,e∈S)→Rng R τ o d i→ReachP H hh mb R S b o d i τ:=by
 intro τ
 induction τ with
 | unit =>
  intro b o d i H es hH hsub hr
  exact reach_gen he hH (hsub _ (sp_self b _ o d)) (blk_unit hH)
 | int =>
  intro b o d i H es hH hsub hr
  exact reach_gen he hH (hsub _ (sp_self b _ o d)) (blk_int he hH hr)
 | pair x y ih1 ih2 =>
  intro b o d i H es hH hsub hr
  have hdd:=hr.data
  have hob:=hr.ob
  have hsz:=hr.sz
  have hsh:=hr.shp
  have hbx:=x.both_size
  simp only [Ty.data] at hdd
  simp only [Ty.size] at hob hsz
  simp only [shpA,Bool.and_eq_true] at hsh
  refine reach_gen he hH (hsub _ (sp_self b _ o d)) (blk_pair he hH (hsub _ (sp_self b _ o d)) hr ?_ ?_)
  ·intro G es hG
   exact ih1 _ _ _ _ hG (fun e h=>hsub e (by simp only [sp,List.mem_cons,List.mem_append]; exact .inr (.inl h))) ⟨fun j hj=>hr.own j (by simp only [Ty.own]; omega),by omega,hsh.1,by omega,by omega⟩
  ·intro G es hG
   exact ih2 _ _ _ _ hG (fun e h=>hsub e (by simp only [sp,List.mem_cons,List.mem_append]; exact .inr (.inr h)))
    ⟨fun j hj=>by have:=hr.own (x.own+j) (by simp only [Ty.own]; omega); rwa [← Nat.add_assoc] at this,by omega,hsh.2,by omega,by omega⟩
 | sum x y ih1 ih2 =>
  intro b o d i H es hH hsub hr
  have hdd:=hr.data
  have hob:=hr.ob
  have hsz:=hr.sz
  have hsh:=hr.shp
  have hbx:=x.both_size
  simp only [Ty.data] at hdd
  simp only [Ty.size] at hob hsz
  simp only [shpA,Bool.and_eq_true] at hsh
  refine reach_gen he hH (hsub _ (sp_self b _ o d)) (blk_sum he hH (hsub _ (sp_self b _ o d)) hr ?_ ?_)
  ·intro G es hG
   exact ih1 _ _ _ _ hG (fun e h=>hsub e (by simp only [sp,List.mem_cons,List.mem_append]; exact .inr (.inl h)))
    ⟨fun j hj=>by have:=hr.own (1+j) (by simp only [Ty.own]; omega); rwa [← Nat.add_assoc] at this,by omega,hsh.1,by omega,by omega⟩
  ·intro G es hG
   exact ih2 _ _ _ _ hG (fun e h=>hsub e (by simp only [sp,List.mem_cons,List.mem_append]; exact .inr (.inr h)))
    ⟨fun j hj=>by have:=hr.own (1+x.own+j) (by simp only [Ty.own]; omega); rwa [← Nat.add_assoc,← Nat.add_assoc] at this,by omega,hsh.2,by omega,by omega⟩
 | seq x ih =>
  intro b o d i H es hH hsub hr
  have hdd:=hr.data
  have hob:=hr.ob
  have hsz:=hr.sz
  have hsh:=hr.shp
  have hbx:=x.both_size
  have hlR:=he.lR
  simp only [Ty.data] at hdd
  simp only [Ty.size] at hob hsz
  simp only [shpA,Bool.and_eq_true] at hsh
  refine reach_gen he hH (hsub _ (sp_self b _ o d)) (blk_seq he hH (hsub _ (sp_self b _ o d)) hr ?_)
  intro G es k hG hk
  exact ih _ _ _ _ hG (fun e h=>hsub e (by simp only [sp,List.mem_cons]; exact .inr h))
   ⟨fun j hj=>⟨by omega,by rw [eqLen_get hsh.1 hj (by omega)]; exact hk (by omega)⟩,by omega,hsh.2,by omega,by omega⟩
end
mutual
theorem below_pure (n:Nat):∀ v:V,pureV v=true→belowV n v=true
 | .ref ..,h=>by simp [pureV] at h
 | .sl ..,h=>by simp [pureV] at h
 | .map _,h=>by simp [pureV] at h
 | .yf _,h=>by simp [pureV] at h
 | .vs ..,h=>by simp [pureV] at h
 | .func _ fi ca,h=>by
  simp only [pureV,Bool.and_eq_true] at h
  simp only [belowV,Bool.and_eq_true]
  exact ⟨below_pureL n fi h.1,below_pureL n ca h.2⟩
 | .iface _ v,h=>by
  simp only [pureV] at h
  simp only [belowV]
  exact below_pure n v h
 | .agg cs,h=>by
  simp only [pureV] at h
  simp only [belowV]
  exact below_pureL n cs h
 | .tup cs,h=>by
  simp only [pureV] at h
  simp only [belowV]
  exact below_pureL n cs h
 | .undef,_ | .bool _,_ | .int _ _,_ | .str _,_ | .nilp,_ | .nils,_ | .nilm,_ | .nilf,_ | .nili,_ | .pv _,_ | .sv _ _,_=>rfl
theorem below_pureL (n:Nat):∀ l:List V,pureL l=true→belowL n l=true
 | [],_=>rfl
 | v :: l,h=>by
  simp only [pureL,Bool.and_eq_true] at h
  simp only [belowL,Bool.and_eq_true]
  exact ⟨below_pure n v h.1,below_pureL n l h.2⟩
end
theorem okO_pure (n a b:Nat) {cs:List V} (h:pureL cs=true):okO n (.cells a b cs)=true:=by
 simp only [okO,List.all_eq_true]
 exact fun c hc=>below_pure n c (pureL_all.1 h c hc)
theorem pure_cells (l:List Tr) (h:∀ t∈l,t.Ok):pureL (l.map Tr.cs).flatten=true:=by
 rw [pureL_all]
 intro c hc
 obtain ⟨cs,h1,h2⟩:=List.mem_flatten.1 hc
 obtain ⟨t,ht,rfl⟩:=List.mem_map.1 h1
 exact pureL_all.1 (pure_tr (h t ht)) c h2
theorem view_tr (k n:Int) (l:List Tr) (hl:∀ t∈l,t.Ok) (H:Heap) (b lo:Nat) (hb:H[b]?=some (.cells l.length 3 (l.map Tr.cs).flatten)) (hlo:lo≤b) :
  viewW lo H (.agg [.int .i64 k,.int .i64 n,.sl b 0 l.length l.length 3 false])=some (.agg (Tr.mk k n (.sv (l.map Tr.cs) false) l).cs):=by
 refine viewW_of ?_
 have hp:=pure_cells l hl
 simp [viewV,viewL,objCells_of hb,hp,hlo,chunks_map Tr.cs 3 l fun x _=>x.cs_length,Tr.cs]
section
variable {hh mb:Nat} {v:V} {R:List (List Int)}
structure HoldR (H:Heap) (hh mb:Nat) (v:V) (R:List (List Int)):Prop where
 hh:H[hh]?=some (.cells 1 2 [v,.map mb])
 hR:RegsH H v R
 cl:Closed H
theorem HoldR.app {H:Heap} (h:HoldR H hh mb v R) (n sz:Nat) {cs:List V} (hp:pureL cs=true):HoldR (H++[.cells n sz cs]) hh mb v R :=
 ⟨get_app h.hh,h.hR.le ((Le.refl H).app _),h.cl.app fun o ho=>by rw [List.mem_singleton.1 ho]; exact okO_pure _ _ _ hp⟩
abbrev ValP (H:Heap) (hh:Nat) (b o d i:Nat) (x:Vl):Prop :=
 ∃ (X:Heap) (u:V) (t:Tr),CC 95 [.ref hh 0 1,spotV b o d,.int .i64 i] H (.ret u) (H++X)∧viewW H.length (H++X) u=some (.agg t.cs)∧t.Ok∧t.vl=x
theorem ValP.use {H:Heap} {hh b o d i:Nat} {x:Vl} (hc:Closed H) (h:ValP H hh b o d i x) :
  ∃ t:Tr,t.Ok∧t.vl=x∧ecallF (lim gl Trnz.aprog) H true (.func (.func 95) [] []) [.ref hh 0 1,spotV b o d,.int .i64 i]=some (.val (.agg t.cs) H):=by
 obtain ⟨X,u,t,h1,h2,h3,h4⟩:=h
 refine ⟨t,h3,h4,?_⟩
 simp only [ecallF,callee_func,List.nil_append,List.append_nil,h1,if_true,hc.to X,h2]
 simp
theorem value_q (he:R.length<2 ^ 39) (hl9:∀ r∈R,r.length<2 ^ 39):∀ (τ:Ty) (b o d i:Nat) (x:Vl) {H:Heap},HoldR H hh mb v R→LayD H b τ→Rng R τ o d i→rdA R τ o d i=some x→ValP H hh b o d i x:=by
 intro τ
 induction τ with
 | unit =>
  intro b o d i x H hH hL hr hx
  simp only [rdA,Option.some.injEq] at hx
  subst hx
  obtain ⟨w,hbl⟩:=hL.head
  have ob:=objCells_of hbl
  refine ⟨[],.agg [.int .i64 0,.int .i64 0,.nils],.mk 0 0 .nils [],CallP.eq (call_ofQ (af:=Trnz.a95) rfl rfl fun Q hQ => ?_),rfl,.mk _ _ _ _ ⟨by omega,by omega⟩ ⟨by omega,by omega⟩ (.nil rfl) (by simp),rfl⟩
  simp only [Trnz.a95]
  simp [ob,gl0,Ty.kind,fill,slotOf]
  exact hQ _ _ ⟨rfl,by simp⟩
 | int =>
  intro b o d i x H hH hL hr hx
  simp only [rdA] at hx
  have hw:isWord (rA R o i)=true:=by
   cases e:isWord (rA R o i)
   ·rw [e] at hx; simp at hx
   ·rfl
  rw [if_pos hw] at hx
  simp only [Option.some.injEq] at hx
  subst hx
  obtain ⟨w,hbl⟩:=hL.head
  have ob:loadV H (.ref b 2 1) 1 false=some (.int .i64 Ty.int.kind):=load_ref hbl rfl
  obtain ⟨h1,h2⟩:=hr.own 0 (by simp [Ty.own])
  rw [Nat.add_zero] at h1 h2
  have h2':i<R[o].length:=by simpa [h1] using h2
  obtain ⟨a,w,a',e1,e2,e3,e4⟩:=hH.hR.get2 h1 h2'
  have hl0:loadV H (.ref hh 0 1) 1 false=some v:=load_ref hH.hh rfl
  have hg:∀ a b c d e,loadV H (.pv [a,b,c,d,e]) 1 false=some a:=fun _ _ _ _ _=>rfl
  have hg1:loadV H (.pv [.int .i64 1,.int .i64 2,.int .i64 3,.int .i64 4]) 1 false=some (.int .i64 1):=rfl
  simp only [isWord,decide_eq_true_eq] at hw
  refine ⟨[],.agg [.int .i64 1,.int .i64 (rA R o i),.nils],.mk 1 (rA R o i) .nils [],CallP.eq (call_ofQ (af:=Trnz.a95) rfl rfl fun Q hQ => ?_),rfl,.mk _ _ _ _ ⟨by omega,by omega⟩ ⟨by omega,by omega⟩ (.nil rfl) (by simp),rfl⟩
  simp only [Trnz.a95]
  simp only [Ty.kind] at ob
  simp [ob,gl0,hg1,hl0,e1,e2,e3,e4,Ty.kind,fill,slotOf,-loadV]
  exact hQ _ _ ⟨rfl,by simp⟩
 | pair x y ih1 ih2 =>
  intro b o d i z H hH hL hr hx
  have hdd:=hr.data
  have hob:=hr.ob
  have hsz:=hr.sz
  have hsh:=hr.shp
  have hbx:=x.both_size
  simp only [Ty.data] at hdd
  simp only [Ty.size] at hob hsz
  simp only [shpA,Bool.and_eq_true] at hsh
  simp only [rdA] at hx
  cases hx1:rdA R x o d i with
  | none=>rw [hx1] at hx; simp [pairO] at hx
  | some x1 =>
  cases hx2:rdA R y (o+x.own) (d+x.data) i with
  | none=>rw [hx1,hx2] at hx; simp [pairO] at hx
  | some x2 =>
  rw [hx1,hx2] at hx
  simp only [pairO,Option.some.injEq] at hx
  subst hx
  obtain ⟨l1,l2,l3,l4⟩:=id hL
  have ob:=objCells_of l1
  have p0:=part_pair0 (o:=o) (d:=d) hL
  have p1:=part_pair1 (o:=o) (d:=d) hL (by omega) (by omega) (by omega)
  rw [RO] at p0 p1
  obtain ⟨t1,o1,v1,c1⟩:=(ih1 _ _ _ _ _ hH l3 ⟨fun j hj=>hr.own j (by simp only [Ty.own]; omega),by omega,hsh.1,by omega,by omega⟩ hx1).use hH.cl
  obtain ⟨t2,o2,v2,c2⟩:=(ih2 _ _ _ _ _ hH l4 ⟨fun j hj=>by have:=hr.own (x.own+j) (by simp only [Ty.own]; omega); rwa [← Nat.add_assoc] at this,by omega,hsh.2,by omega,by omega⟩ hx2).use hH.cl
  have hok:∀ t∈[t1,t2],t.Ok:=by simp [o1,o2]
  have cc1:=cells_tr o1
  have cc2:=cells_tr o2
  have k1:=t1.cs_length
  have k2:=t2.cs_length
  refine ⟨[.cells 2 3 (t1.cs++t2.cs)],_,.mk 2 0 (.sv [t1.cs,t2.cs] false) [t1,t2],CallP.eq (call_ofQ (af:=Trnz.a95) rfl rfl fun Q hQ => ?_),view_tr 2 0 [t1,t2] hok _ H.length H.length (by simp) (Nat.le_refl _),.mk _ _ _ _ ⟨by omega,by omega⟩ ⟨by omega,by omega⟩ (.sv false) hok,by simp [Tr.vl,Tr.vlL,v1,v2]⟩
  simp only [Trnz.a95]
  have hfill:fill [.int .i64 0,.int .i64 0,.nils,.int .i64 0,.int .i64 0,.nils] [(0,3,.agg t1.cs),(3,3,.agg t2.cs)]=some (t1.cs++t2.cs):=by
   have e1:=t1.cs_eq
   have e2:=t2.cs_eq
   have q1:=SlV.cell o1.sl
   have q2:=SlV.cell o2.sl
   rw [e1,e2]
   simp [fill,q1,q2]
  have hall:(t1.cs++t2.cs).all isCell=true:=by rw [List.all_append,cc1,cc2]; rfl
  simp [ob,gl0,p0,p1,c1,c2,hfill,hall,fill,slotOf,-ecallF,-List.all_eq_true]
  exact hQ _ _ ⟨rfl,rfl⟩
 | sum x y ih1 ih2 =>
  intro b o d i z H hH hL hr hx
  have hdd:=hr.data
  have hob:=hr.ob
  have hsz:=hr.sz
  have hsh:=hr.shp
  have hbx:=x.both_size
  simp only [Ty.data] at hdd
  simp only [Ty.size] at hob hsz
  simp only [shpA,Bool.and_eq_true] at hsh
  obtain ⟨l1,l2,l3,l4⟩:=id hL
  have ob:loadV H (.ref b 2 1) 1 false=some (.int .i64 3):=load_ref l1 rfl
  have p0:=part_sum0 (o:=o) (d:=d) hL (by omega) (by omega)
  have p1:=part_sum1 (o:=o) (d:=d) hL (by omega) (by omega) (by omega)
  rw [RO] at p0 p1
  obtain ⟨h1,h2⟩:=hr.own 0 (by simp [Ty.own]; omega)
  rw [Nat.add_zero] at h1 h2
  have h2':i<R[o].length:=by simpa [h1] using h2
  obtain ⟨a,w,a',e1,e2,e3,e4⟩:=hH.hR.get2 h1 h2'
  have hl0:loadV H (.ref hh 0 1) 1 false=some v:=load_ref hH.hh rfl
  have hg3:loadV H (.pv [.int .i64 3,.int .i64 4]) 1 false=some (.int .i64 3):=rfl
  have key:∀ (n:Int) (t:Tr),(n=0∨n=1)→rA R o i=n→t.Ok→z = .mk 3 n [t.vl] →
    ((n=0→ecallF (lim gl Trnz.aprog) H true (.func (.func 95) [] []) [.ref hh 0 1,spotV (b+1) (o+1) d,.int .i64 i]=some (.val (.agg t.cs) H)) ∧
     (n=1→ecallF (lim gl Trnz.aprog) H true (.func (.func 95) [] []) [.ref hh 0 1,spotV (b+2+objs x) (o+1+x.own) (d+x.data),.int .i64 i]=some (.val (.agg t.cs) H)))→ValP H hh b o d i z:=by
   intro n t hn hrn ot hz hcc
   subst hz
   rw [hrn] at e4
   have hok:∀ u∈[t],u.Ok:=by simp [ot]
   have cc1:=cells_tr ot
   have k1:=t.cs_length
   have hfill:fill [.int .i64 0,.int .i64 0,.nils] [(0,3,.agg t.cs)]=some t.cs:=by
    rw [t.cs_eq]
    simp [fill,SlV.cell ot.sl]
   refine ⟨[.cells 1 3 t.cs],.agg [.int .i64 3,.int .i64 n,.sl H.length 0 1 1 3 false],.mk 3 n (.sv [t.cs] false) [t],CallP.eq (call_ofQ (af:=Trnz.a95) rfl rfl fun Q hQ => ?_),view_tr 3 n [t] hok _ H.length H.length (by simp) (Nat.le_refl _),.mk _ _ _ _ ⟨by omega,by omega⟩ (by rcases hn with rfl | rfl <;> exact ⟨by omega,by omega⟩) (.sv false) hok,by simp [Tr.vl,Tr.vlL]⟩
   simp only [Trnz.a95]
   rcases hn with rfl | rfl
   ·have c1:=hcc.1 rfl
    simp [ob,gl0,hg3,hl0,e1,e2,e3,e4,p0,c1,hfill,cc1,fill,slotOf,-loadV,-ecallF,-List.all_eq_true]
    exact hQ _ _ ⟨rfl,rfl⟩
   ·have c1:=hcc.2 rfl
    simp [ob,gl0,hg3,hl0,e1,e2,e3,e4,p1,c1,hfill,cc1,fill,slotOf,-loadV,-ecallF,-List.all_eq_true]
    exact hQ _ _ ⟨rfl,rfl⟩
  simp only [rdA] at hx
  by_cases t0:rA R o i=0
  ·rw [if_pos t0,Option.map_eq_some_iff] at hx
   obtain ⟨x1,hx1,rfl⟩:=hx
   obtain ⟨t1,o1,v1,c1⟩:=(ih1 _ _ _ _ _ hH l3 ⟨fun j hj=>by have:=hr.own (1+j) (by simp only [Ty.own]; omega); rwa [← Nat.add_assoc] at this,by omega,hsh.1,by omega,by omega⟩ hx1).use hH.cl
   exact key 0 t1 (.inl rfl) t0 o1 (by rw [v1]) ⟨fun _=>c1,fun h=>absurd h (by omega)⟩
  ·rw [if_neg t0] at hx
   by_cases t1:rA R o i=1
   ·rw [if_pos t1,Option.map_eq_some_iff] at hx
    obtain ⟨x1,hx1,rfl⟩:=hx
    obtain ⟨t2,o1,v1,c1⟩:=(ih2 _ _ _ _ _ hH l4 ⟨fun j hj=>by have:=hr.own (1+x.own+j) (by simp only [Ty.own]; omega); rwa [← Nat.add_assoc,← Nat.add_assoc] at this,by omega,hsh.2,by omega,by omega⟩ hx1).use hH.cl
    exact key 1 t2 (.inr rfl) t1 o1 (by rw [v1]) ⟨fun h=>absurd h (by omega),fun _=>c1⟩
   ·rw [if_neg t1] at hx
    cases hx
 | seq x ih =>
  intro b o d i z H hH hL hr hx
  have hdd:=hr.data
  have hob:=hr.ob
  have hsz:=hr.sz
  have hsh:=hr.shp
  have hbx:=x.both_size
  simp only [Ty.data] at hdd
  simp only [Ty.size] at hob hsz
  simp only [shpA,Bool.and_eq_true] at hsh
  obtain ⟨l1,l2,l3⟩:=id hL
  obtain ⟨h1,h2⟩:=hr.own 0 (by simp [Ty.own])
  obtain ⟨h3,h4⟩:=hr.own 1 (by simp [Ty.own])
  rw [Nat.add_zero] at h1 h2
  have h2':i<R[o].length:=by simpa [h1] using h2
  have h4':i<R[o+1].length:=by simpa [h3] using h4
  have w1:IntKind.i64.wrap ((o:Int)+1)=((o+1:Nat):Int):=by rw [wrap64 (by omega) (by omega)]; rfl
  have hg4:∀ G,loadV G (.pv [.int .i64 4]) 1 false=some (.int .i64 4):=fun _=>rfl
  simp only [rdA] at hx
  have q12:0≤rA R (o+1) i∧rA R (o+1) i≤4096:=by
   by_cases h:0≤rA R (o+1) i∧rA R (o+1) i≤4096
   ·exact h
   ·rw [if_pos h] at hx; cases hx
  rw [if_neg (by omega)] at hx
  obtain ⟨m,hm⟩:∃ m:Nat,rA R (o+1) i=m:=⟨(rA R (o+1) i).toNat,by omega⟩
  -- the parts
  obtain ⟨l,s,hz,hs,hl⟩:∃ (l:List Vl) (s:Nat),z = .mk 4 0 l∧((m≠0∧x.own≠0)→rA R o i=s∧(s:Int)≤(R.getD d []).length - (m:Int))∧(List.range m).map (fun k=>rdA R x d (d+x.own) (if x.own=0 then 0 else s+k))=l.map some:=by
   by_cases hm0:rA R (o+1) i=0
   ·rw [if_pos hm0] at hx
    simp only [Option.some.injEq] at hx
    have:m=0:=by omega
    subst this
    exact ⟨[],0,hx.symm,fun h=>absurd rfl h.1,rfl⟩
   ·rw [if_neg hm0] at hx
    split at hx
    ·cases hx
    ·rename_i hc
     rw [Option.map_eq_some_iff] at hx
     obtain ⟨l,hl,rfl⟩:=hx
     refine ⟨l,(rA R o i).toNat,rfl,fun h=>⟨by omega,by omega⟩,?_⟩
     rw [hm,Int.toNat_natCast] at hl
     exact allO_some.1 hl
  subst hz
  have hll:l.length=m:=by
   have:=congrArg List.length hl
   simpa using this.symm
  have hpart:∀ (k:Nat) (hk:k<m),rdA R x d (d+x.own) (if x.own=0 then 0 else s+k)=some (l[k]'(by omega)):=fun k hk=>by
   have:=congrArg (·[k]?) hl
   simpa [hk,show k<l.length by omega] using this
  have hroom:room=140737488355328:=by simp [room]
  have key:CallP gl Trnz.aprog 95 [.ref hh 0 1,spotV b o d,.int .i64 i] H (fun r H'=>∃ (X:Heap) (u:V) (t:Tr),r = .ret u∧H'=H++X∧viewW H.length (H++X) u=some (.agg t.cs)∧t.Ok∧t.vl = .mk 4 0 l):=by
   obtain ⟨c,w',c',f1,f2,f3,f4⟩:=hH.hR.get2 h3 h4'
   have hl0:loadV H (.ref hh 0 1) 1 false=some v:=load_ref hH.hh rfl
   have ob:loadV H (.ref b 2 1) 1 false=some (.int .i64 4):=load_ref l1 rfl
   rw [hm] at f4
   refine call_ofQ (af:=Trnz.a95) rfl rfl fun Q hQ => ?_
   simp only [Trnz.a95]
   simp [ob,gl0,hg4,hl0,w1,f1,f2,f3,f4,fill,slotOf,-loadV,-Int.natCast_add]
   refine loop_nQ m (fun k c=>∃ (ts:List Tr) (s6 s7 s8:V) (fl:Option (Nat×V)),c=⟨[.ref hh 0 1,spotV b o d,.int .i64 i,spotV b o d,.agg [.int .i64 0,.int .i64 0,.nils],.agg [.int .i64 4,.int .i64 0,if k=0 then .nils else .sl H.length 0 k k 3 false],s6,s7,s8,.int .i64 4,.int .i64 m,.int .i64 k],[],fl,none,if k=0 then H else H++[.cells k 3 (ts.map Tr.cs).flatten]⟩ ∧
    (∀ t∈ts,t.Ok)∧ts.map Tr.vl=l.take k∧ts.length=k) ?_ ⟨([]:List Tr),_,_,_,_,rfl,by simp,by simp,rfl⟩
   rintro I hI k c hk ⟨ts,s6,s7,s8,fl,rfl,hok,hvl,hlen⟩
   obtain ⟨G,hG⟩:∃ G,G=if k=0 then H else H++[Am.Obj.cells k 3 (ts.map Tr.cs).flatten]:=⟨_,rfl⟩
   have hGH:HoldR G hh mb v R∧LayD G b (.seq x):=by
    rw [hG]
    split
    ·exact ⟨hH,hL⟩
    ·exact ⟨hH.app _ _ (pure_cells ts hok),hL.le ((Le.refl H).app _)⟩
   rw [← hG]
   by_cases hlt:k<m
   ·have wk1:IntKind.i64.wrap ((k:Int)+1)=(k:Int)+1:=wrap64 (by omega) (by omega)
    have hl0G:loadV G (.ref hh 0 1) 1 false=some v:=load_ref hGH.1.hh rfl
    have p0:=part_seq (o:=o) (d:=d) hGH.2 0 (by omega) (by omega) (by omega)
    have ro:=ro74_q hGH.2.2.2
    rw [RO] at p0 ro
    -- the part
    have hx1:=hpart k hlt
    obtain ⟨t1,o1,v1,c1⟩:=(ih _ _ _ _ _ hGH.1 hGH.2.2.2 ⟨fun j hj=>⟨by omega,by
     have:=hs ⟨by omega,by omega⟩
     rw [eqLen_get hsh.1 hj (by omega),if_neg (by omega)]
     omega⟩,by omega,hsh.2,by omega,by omega⟩ hx1).use hGH.1.cl
    have hap:∃ G',appV G (if k=0 then .nils else .sl H.length 0 k k 3 false) (.sv [[.int .i64 t1.k,.int .i64 t1.n,t1.v]] true) 3 40=some (.sl H.length 0 (k+1) (k+1) 3 false,G')∧G'=H++[.cells (k+1) 3 ((ts++[t1]).map Tr.cs).flatten]:=by
     have e9:=t1.cs_eq
     by_cases hk0:k=0
     ·subst hk0
      have:ts=[]:=List.length_eq_zero_iff.1 hlen
      subst this
      rw [if_pos rfl] at hG
      subst hG
      refine ⟨_,?_,rfl⟩
      simp [appV,sliceLen,sliceCells,hroom,e9]
     ·rw [if_neg hk0] at hG ⊢
      have:=appV_own (h:=G) (o:=H.length) (n:=k) (sz:=3) (bytes:=40) (cs:=(ts.map Tr.cs).flatten) (y:=.sv [[.int .i64 t1.k,.int .i64 t1.n,t1.v]] true) (k:=1) (ys:=[.int .i64 t1.k,.int .i64 t1.n,t1.v]) (by rw [hG]; simp) rfl rfl rfl (by omega)
      refine ⟨_,this,?_⟩
      rw [hG,set_last]
      congr 3
      simp [e9]
    obtain ⟨G',hap,hG'⟩:=hap
    have hI:=hI (k+1) ⟨[.ref hh 0 1,spotV b o d,.int .i64 i,spotV b o d,.agg [.int .i64 0,.int .i64 0,.nils],.agg [.int .i64 4,.int .i64 0,.sl H.length 0 (k+1) (k+1) 3 false],.int .i64 k,.int .i64 (if x.own=0 then 0 else s+k:Nat),spotV (b+1) d (d+x.own),.int .i64 4,.int .i64 m,.int .i64 ((k:Int)+1)],[],none,none,G'⟩
     ⟨ts++[t1],_,_,_,_,by rw [hG']; rfl,by
      intro t ht
      rcases List.mem_append.1 ht with ht | ht
      ·exact hok t ht
      ·rw [List.mem_singleton.1 ht]; exact o1,by
      rw [List.map_append,hvl,← List.take_append_getElem (show k<l.length by omega),List.map_cons,List.map_nil,v1],by simp [hlen]⟩
    have cc1:=SlV.cell o1.sl
    have pc1:=SlV.pure o1.sl
    have e9:=t1.cs_eq
    rw [e9] at c1
    have hcl:isCell (if k=0 then V.nils else .sl H.length 0 k k 3 false)=true:=by split <;> rfl
    have hcs:cellsV (if k=0 then V.nils else .sl H.length 0 k k 3 false)=[if k=0 then V.nils else .sl H.length 0 k k 3 false]:=by split <;> rfl
    generalize (if k=0 then V.nils else .sl H.length 0 k k 3 false)=L at *
    clear hG'
    by_cases q5:x.own=0
    ·have q50:¬ ((0:Int)<x.own):=by omega
     rw [if_pos q5] at c1 hI
     simp only [q5,Nat.add_zero,Int.natCast_zero] at p0 ro c1 hI
     simp [hlt,p0,ro,q5,c1,hap,wk1,cc1,pc1,hcl,hcs,fill,chunks,slotOf,-loadV,-ecallF,-Int.natCast_add]
     exact hI
    ·have q50:(0:Int)<x.own:=by omega
     rw [if_neg q5] at c1 hI
     obtain ⟨a,w,a',e1,e2,e3,e4⟩:=hGH.1.hR.get2 h1 h2'
     have hs':=hs ⟨by omega,q5⟩
     rw [hs'.1] at e4
     have hdR:d<R.length:=by omega
     have hl9':=hl9 R[d] (List.getElem_mem hdR)
     have gD:(R.getD d []).length=R[d].length:=by simp [hdR]
     have wk:IntKind.i64.wrap ((s:Int)+k)=((s+k:Nat):Int):=by rw [wrap64 (by omega) (by omega)]; rfl
     have q51:0<x.own:=by omega
     simp [hlt,p0,ro,q50,q51,hl0G,e1,e2,e3,e4,wk,c1,hap,wk1,cc1,pc1,hcl,hcs,fill,chunks,slotOf,-loadV,-ecallF,-Int.natCast_add]
     exact hI
   ·obtain rfl:k=m:=by omega
    by_cases hk0:k=0
    ·rw [if_pos hk0] at hG ⊢
     have:ts=[]:=List.length_eq_zero_iff.1 (by omega)
     subst this
     have:l=[]:=List.length_eq_zero_iff.1 (by omega)
     subst this
     rw [hG]
     simp [slotOf]
     exact hQ _ _ ⟨[],_,.mk 4 0 .nils [],rfl,by simp,rfl,.mk _ _ _ _ ⟨by omega,by omega⟩ ⟨by omega,by omega⟩ (.nil rfl) (by simp),rfl⟩
    ·rw [if_neg hk0] at hG ⊢
     have hvt:=view_tr 4 0 ts hok (H++[.cells k 3 (ts.map Tr.cs).flatten]) H.length H.length (by rw [hlen]; simp) (Nat.le_refl _)
     rw [hlen] at hvt
     rw [hG]
     simp [slotOf]
     refine hQ _ _ ⟨_,_,.mk 4 0 (.sv (ts.map Tr.cs) false) ts,rfl,rfl,hvt,.mk _ _ _ _ ⟨by omega,by omega⟩ ⟨by omega,by omega⟩ (.sv false) hok,?_⟩
     rw [Tr.vl,Tr.vlL_eq,hvl,List.take_of_length_le (by omega)]
  obtain ⟨r,H',e,X,u,t,rfl,rfl,k1,k2,k3⟩:=OptP.ex key
  exact ⟨X,u,t,e,k1,k2,k3⟩
end
end Go.Proofs.Nst
namespace Go.Am
theorem WX_range (rec:Rec) (gl:Nat→List V) (f:Opd) (y:Nat) (cap:List Nat) (p:List Bool) (sl:List V) (ds:List (V×List V)) (fl:Option (Nat×V)) (h:Heap) (Q:Out→Cfg→Prop) :
  WX rec gl (.range f y cap p) ⟨sl,ds,fl,none,h⟩ Q=match callee (ev gl [] sl f) [.yf h.length] with
   | some (n,as)=>match rec.call n as (h++[.loop y (cap.map fun s=>nthV sl s) .ready none]) with
    | some (.pan v,h')=>Q (.pan v) ⟨sl,(.undef,[]) :: ds,none,none,h'⟩
    | some (.ret _,h')=>match h'[h.length]? with
     | some (.loop y' fi st pd)=>if st = .busy then False else Q (match pd with | none => .norm | some none => .ret | some (some i) => .exit i) ⟨sl,(.undef,[]) :: ds,none,none,h'.set h.length (.loop y' fi .exhausted pd)⟩
     | _=>False
    | none=>False
   | none=>False:=by
 have e:(cap.map fun s=>sl.getD s .undef)=cap.map fun s=>nthV sl s:=List.map_congr_left fun s _=>nthV_eq _ _
 simp only [WX,exec,Option.isSome_none,Bool.false_eq_true,if_false,e]
 cases callee (ev gl [] sl f) [.yf h.length] with
 | none=>rfl
 | some q =>
  obtain ⟨n,as⟩:=q
  simp only
  cases rec.call n as (h++[.loop y (cap.map fun s=>nthV sl s) .ready none]) with
  | none=>rfl
  | some r =>
   obtain ⟨r,h'⟩:=r
   cases r with
   | pan v=>rfl
   | ret v =>
    simp only
    cases h'[h.length]? with
    | none=>rfl
    | some o =>
     cases o with
     | loop y' fi st pd =>
      simp only
      by_cases hb:st = .busy
      ·simp [hb]
      ·simp only [hb,if_false]
       cases pd with
       | none=>rfl
       | some j=>cases j <;> rfl
     | _=>rfl
end Go.Am
namespace Go.Proofs.Nst
open Go Go.Am
theorem p92_q {H:Heap} {w:V} {r:List V} {c:Nat} {n:Int} (hw:Sh H w r) (hc:H[c]?=some (.cells 1 1 [.int .i64 n])):CC 92 [w,.ref c 0 1] H (.ret (.bool ((r.length:Int) != n))) H:=by
 have hl:=hw.len
 have oc:=objCells_of hc
 refine CallP.eq (call_ofQ (af:=Trnz.a92) rfl rfl fun Q hQ => ?_)
 simp only [Trnz.a92]
 simp [hl,oc,slotOf]
 exact hQ _ _ ⟨rfl,rfl⟩
theorem any91_q {H:Heap} {v:V} {R:List (List Int)} {c:Nat} {n:Int} (hv:RegsH H v R) (hc:H[c]?=some (.cells 1 1 [.int .i64 n])) (hl:R.length<2 ^ 40) :
  CC 91 [v,.func (.func 92) [] [.ref c 0 1]] H (.ret (.bool (!R.all fun r=>(r.length:Int) == n))) H:=by
 have hlv:=hv.len
 have key:CallP gl Trnz.aprog 118 [v,.func (.func 92) [] [.ref c 0 1]] H (fun r h'=>∃ i:Int,r = .ret (.int .i64 i)∧h'=H∧(0≤i↔(R.all fun r=>(r.length:Int) == n)=false)):=by
  refine call_ofQ (af:=Trnz.a118) rfl rfl fun Q hQ => ?_
  simp only [Trnz.a118]
  simp [hlv,slotOf]
  refine loop_nQ R.length (fun i c'=>(∀ r∈R.take i,(r.length:Int)=n)∧∃ x fl,c'=⟨[v,.func (.func 92) [] [.ref c 0 1],.int .i64 0,x,.int .i64 R.length,.int .i64 i],[],fl,none,H⟩) ?_ ⟨by simp,_,_,rfl⟩
  rintro I hI i c' hi ⟨hall,x,fl,rfl⟩
  by_cases hlt:i<R.length
  ·have hlt':(i:Int)<R.length:=by omega
   have hw2:IntKind.i64.wrap ((i:Int)+1)=(i:Int)+1:=wrap64 (by omega) (by omega)
   obtain ⟨a,w,e1,e2,e3⟩:=hv.get hlt
   have hc9:=p92_q e3 hc
   have hm:=List.getElem_mem hlt
   have htk:∀ r∈R.take (i+1),r∈R.take i∨r=R[i]:=fun r hr=>mem_take_succ hlt hr
   rw [List.length_map] at hc9
   generalize R[i]=r at *
   by_cases hr:(r.length:Int)=n
   ·have hne:((r.length:Int) != n)=false:=by simp [hr]
    rw [hne] at hc9
    simp [hlt',e1,e2,hc9,hw2,slotOf,-loadV]
    refine ⟨hlt,hI _ _ ⟨?_,_,_,rfl⟩⟩
    intro r' hr'
    rcases htk r' hr' with hr' | rfl
    ·exact hall r' hr'
    ·exact hr
   ·rw [ne_true hr] at hc9
    simp [hlt',e1,e2,hc9,slotOf,-loadV]
    refine hQ _ _ ⟨i,rfl,rfl,?_⟩
    simp only [Int.natCast_nonneg,true_iff]
    rw [Bool.eq_false_iff]
    intro h
    have:=List.all_eq_true.1 h r hm
    exact hr (by simpa using this)
  ·obtain rfl:i=R.length:=by omega
   simp [slotOf]
   refine hQ _ _ ⟨-1,rfl,rfl,?_⟩
   rw [List.take_length] at hall
   have:(R.all fun r=>(r.length:Int) == n)=true:=List.all_eq_true.2 fun r hr=>by simpa using hall r hr
   simp [this]
 obtain ⟨r,h',e,i,rfl,rfl,hi⟩:=OptP.ex key
 refine CallP.eq (call_ofQ (af:=Trnz.a91) rfl rfl fun Q hQ => ?_)
 simp only [Trnz.a91]
 simp [e,slotOf]
 refine hQ _ _ ⟨?_,rfl⟩
 have:decide (0≤i) = !R.all fun r=>(r.length:Int) == n:=by
  rw [Bool.eq_iff_iff]
  simp only [decide_eq_true_eq,hi,Bool.not_eq_true']
 rw [this]
theorem pools109_q {H:Heap} {B c4 cs:Nat} {v:V} {R:List (List Int)} {b o d:Nat} {τ:Ty} (hB:H[B]?=some (.loop 10500 [.ref c4 0 1] .ready none)) (hc:H[c4]?=some (.cells 1 1 [v])) (hR:RegsH H v R) (hs:H[cs]?=some (.cells 1 3 [.ref b 0 1,.int .i64 o,.int .i64 d]))
  (hL:LayD H b τ) (lR:R.length<2 ^ 39) (ll:∀ r∈R,r.length<2 ^ 60) (hd:d+τ.data≤R.length) (ho:o+2 * τ.size<2 ^ 40) (hz:τ.size<2 ^ 20) :
  ∃ u X,(lim gl Trnz.aprog).call 119 [.yf B,.ref cs 0 1] H=some (if shpA R τ d then (.ret u,H++X) else (.pan (wrong 8),(H++X).set B (busy c4)))∧X=[.cells 1 1 [.yf B],.cells 1 1 [clo110 H.length (H.length+1)]]:=by
 obtain ⟨G,hG⟩:∃ G,G=H++[.cells 1 1 [.yf B],.cells 1 1 [clo110 H.length (H.length+1)]]:=⟨_,rfl⟩
 have hLe:Le H G:=by rw [hG]; exact (Le.refl H).app _
 have hW:WalkH G B c4 H.length (H.length+1) v R:=⟨by rw [hG]; exact get_app hB,hLe _ _ _ _ hc,hR.le hLe,by rw [hG]; simp,by rw [hG]; simp,lR,ll⟩
 have hw:=walk_q hW τ b o d (hL.le hLe) hd ho hz
 have os:=objCells_of (hLe _ _ _ _ hs)
 have ow:=objCells_of hW.hw
 have hst:storeV (H++[.cells 1 1 [.yf B],.cells 1 1 [.nilf]]) (.ref (H.length+1) 0 1) (clo110 H.length (H.length+1)) 1=some G:=by
  have:objCells (H++[.cells 1 1 [.yf B],.cells 1 1 [.nilf]]) (H.length+1)=some (1,1,[.nilf]):=by simp [objCells]
  rw [hG]
  simp [storeV,this]
 have key:CallP gl Trnz.aprog 119 [.yf B,.ref cs 0 1] H (fun r h'=>if shpA R τ d then r = .ret (.tup [])∧h'=G else r = .pan (wrong 8)∧h'=G.set B (busy c4)):=by
  refine call_ofQ (af:=Trnz.a119) rfl rfl fun Q hQ => ?_
  simp only [Trnz.a119]
  cases e:shpA R τ d
  ·rw [e,wres,if_neg (by simp)] at hw
   simp [hst,slotOf]
   simp [ow,os,hw,slotOf]
   exact hQ _ _ (by simp [e])
  ·rw [e,wres,if_pos rfl] at hw
   simp [hst,slotOf]
   simp [ow,os,hw,slotOf]
   exact hQ _ _ (by simp [e])
 obtain ⟨r,h',e,hq⟩:=OptP.ex key
 refine ⟨.tup [],_,?_,rfl⟩
 rw [e,← hG]
 split
 ·rename_i h; rw [if_pos h] at hq; rw [hq.1,hq.2]
 ·rename_i h; rw [if_neg h] at hq; rw [hq.1,hq.2]
theorem pools93_q (H:Heap) (b o d:Nat):CC 93 [spotV b o d] H (.ret (.func (.func 119) [] [.ref H.length 0 1])) (H++[.cells 1 3 [.ref b 0 1,.int .i64 o,.int .i64 d]]):=by
 refine CallP.eq (call_ofQ (af:=Trnz.a93) rfl rfl fun Q hQ => ?_)
 simp only [Trnz.a93]
 simp [slotOf]
 exact hQ _ _ ⟨rfl,rfl⟩
def AllC (H:Heap):Prop:=∀ o∈H,∃ n sz cs,o=Am.Obj.cells n sz cs
theorem AllC.ext {H G:Heap} (h:AllC H) (hl:Le H G) (hn:H.length≤G.length):∃ X,G=H++X:=ext_of hn fun j hj=>by
 obtain ⟨n,sz,cs,e⟩:=h H[j] (List.getElem_mem hj)
 have:H[j]?=some (.cells n sz cs):=by rw [List.getElem?_eq_getElem hj,e]
 rw [this]
 exact hl _ _ _ _ this
theorem okO_one (n:Nat) {v:V} (h:belowV n v=true) (a b:Nat):okO n (.cells a b [v])=true:=by simp [okO,h]
theorem rdAll_get {τ:Ty} {own data:List (List Int)} {n:Nat} {l:List Vl} (h:rdAll τ own data n=some l):l.length=n∧∀ (i:Nat) (hi:i<n),∃ x,rd τ own data i=some x∧l[i]?=some x:=by
 have h1:=allO_some.1 h
 have hlen:l.length=n:=by
  have:=congrArg List.length h1
  simpa using this.symm
 refine ⟨hlen,fun i hi => ?_⟩
 have:=congrArg (·[i]?) h1
 simp [hi,show i<l.length by omega] at this
 exact ⟨_,this,by simp [show i<l.length by omega]⟩
theorem rdAll_none {τ:Ty} {own data:List (List Int)} {n i:Nat} (hi:i<n) (h:rd τ own data i=none):rdAll τ own data n=none:=by
 rw [rdAll,allO_none,List.mem_map]
 exact ⟨i,List.mem_range.2 hi,h⟩
theorem rdAll_of {τ:Ty} {own data:List (List Int)} {n:Nat} {l:List Vl} (h:(List.range n).map (fun i=>rd τ own data i)=l.map some):rdAll τ own data n=some l:=allO_some.2 h
def BldP (H:Heap) (b:Nat) (n:Int) (v:V) (R:List (List Int)) (τ:Ty):Prop :=
 (bldE τ n R=0∧∃ (w:V) (ts:List Tr) (X:Heap),CC 50 [.ref b 0 1,.int .i64 n,v] H (.ret w) (H++X)∧SlV (ts.map Tr.cs) w∧(∀ t∈ts,t.Ok)∧ts.map Tr.vl=bldL τ n R) ∨
 (bldE τ n R≠0∧∃ G,CC 50 [.ref b 0 1,.int .i64 n,v] H (.pan (wrong (bldE τ n R))) G∧Le H G)
theorem built_q {H:Heap} {b:Nat} {n:Int} {v:V} {R:List (List Int)} {τ:Ty} (hA:AllC H) (hC:Closed H) (hv:belowV H.length v=true) (hR:RegsH H v R) (hL:LayD H b τ) (hz:τ.size<2 ^ 20) (lR:R.length<2 ^ 39) (ll:∀ r∈R,r.length<2 ^ 39) (hn64:is64 n):BldP H b n v R τ:=by
 obtain ⟨H0,hH0⟩:∃ H0,H0=H++[.cells 1 1 [.int .i64 n],.cells 1 1 [v]]:=⟨_,rfl⟩
 have le0:Le H H0:=by rw [hH0]; exact (Le.refl H).app _
 have len0:H0.length=H.length+2:=by simp [hH0]
 have g3:H0[H.length]?=some (.cells 1 1 [.int .i64 n]):=by simp [hH0]
 have g4:H0[H.length+1]?=some (.cells 1 1 [v]):=by simp [hH0]
 have o3:=objCells_of g3
 have o4:=objCells_of g4
 have hR0:=hR.le le0
 have hL0:=hL.le le0
 have r74:=ro74_q hL0
 have r90:=ro90_q hL0
 have r75:=ro75_q hL0
 rw [RO] at r74 r90 r75
 have m2:=must_t 2
 have m3:=must_t 3
 have m8:=must_t 8
 have f2:=must_f 2
 have f3:=must_f 3
 have f8:=must_f 8
 rw [PC] at m2 m3 m8
 have hbs:=τ.both_size
 have hlv:=hR0.len
 have wod:IntKind.i64.wrap ((τ.own:Int)+τ.data)=((τ.own+τ.data:Nat):Int):=by rw [wrap64 (by omega) (by omega)]; rfl
 have key:CallP gl Trnz.aprog 50 [.ref b 0 1,.int .i64 n,v] H (fun r H'=>(bldE τ n R=0∧∃ (w:V) (ts:List Tr) (X:Heap),r = .ret w∧H'=H++X∧SlV (ts.map Tr.cs) w∧(∀ t∈ts,t.Ok)∧ts.map Tr.vl=bldL τ n R)∨(bldE τ n R≠0∧r = .pan (wrong (bldE τ n R))∧Le H H')):=by
  refine call_ofQ (af:=Trnz.a50) rfl rfl fun Q hQ => ?_
  have hpan:∀ (e:Int) (G:Heap),bldE τ n R=e→e≠0→Le H G→Q (.pan (wrong e)) G:=fun e G h1 h2 h3=>hQ _ _ (.inr ⟨by rw [h1]; exact h2,by rw [h1],h3⟩)
  simp only [Trnz.a50,WX_seq]
  refine WX_last _ _ (c':=⟨[.ref b 0 1,.int .i64 n,v,.ref H.length 0 1,.ref (H.length+1) 0 1,.nils,.undef,.undef,.undef,.undef,.undef,.undef,.undef,.undef,.undef,.undef],[],none,none,H0⟩) ?_ ?_
  ·rw [hH0]; simp [hR.cell,hR.cells,slotOf]
  simp only [seqQ_norm,WX_seq,WX_scope]
  by_cases n1:0≤n∧n≤20000
  case neg =>
   have he:bldE τ n R=2:=by simp only [bldE]; rw [if_pos n1]
   by_cases n2:0≤n
   ·have n3:¬ n≤20000:=by omega
    simp [o3,n2,n3,f2,slotOf,-pcall]
    exact hpan 2 _ he (by omega) le0
   ·simp [o3,n2,f2,slotOf,-pcall]
    exact hpan 2 _ he (by omega) le0
  obtain ⟨n2,n3⟩:=n1
  obtain ⟨m,rfl⟩:∃ m:Nat,n=m:=⟨n.toNat,by omega⟩
  refine WX_last _ _ (c':=⟨[.ref b 0 1,.int .i64 m,v,.ref H.length 0 1,.ref (H.length+1) 0 1,.nils,.undef,.undef,.undef,.undef,.undef,.undef,.undef,.undef,.undef,.undef],[],none,none,H0⟩) ?_ ?_
  ·simp [o3,n3,m2,slotOf,-pcall]
  simp only [seqQ_norm,WX_seq]
  by_cases c1:R.length=τ.own+τ.data
  case neg =>
   have he:bldE τ m R=8:=by simp only [bldE]; rw [if_neg (by omega),if_pos (fun h=>c1 h.1)]
   have hne:((R.length:Int) == ((τ.own+τ.data:Nat):Int))=false:=ne_false (by omega)
   simp [o4,hlv,r74,r90,wod,hne,f8,slotOf,forget,AOper.writes,-pcall,-Int.natCast_add]
   exact hpan 8 _ he (by omega) le0
  have heq:((R.length:Int) == ((τ.own+τ.data:Nat):Int))=true:=by rw [c1]; simp
  refine WX_last _ _ (c':=⟨[.ref b 0 1,.int .i64 m,v,.ref H.length 0 1,.ref (H.length+1) 0 1,.nils,.undef,.undef,.undef,.undef,.undef,.undef,.undef,.undef,.undef,.undef],[],none,none,H0⟩) ?_ ?_
  ·simp [o4,hlv,r74,r90,wod,heq,m8,slotOf,-pcall,-Int.natCast_add]
  simp only [seqQ_norm,WX_seq]
  obtain ⟨vs,sh1,sh2⟩:=id hR0
  obtain ⟨w0,hw0,shw⟩:=sh1.slc0 (hi:=τ.own) (by rw [← sh2.length]; omega)
  have hany:=any91_q (v:=w0) (R:=R.take τ.own) (n:=(m:Int)) ⟨_,shw,sh2.take τ.own⟩ g3 (by simp; omega)
  cases c2:(R.take τ.own).all (fun r=>(r.length:Int) == (m:Int))
  case false =>
   have he:bldE τ m R=8:=by simp only [bldE]; rw [if_neg (by omega),if_pos (fun h=>by rw [c2] at h; cases h.2.1)]
   rw [c2] at hany
   simp [o4,r74,hw0,hany,f8,slotOf,forget,AOper.writes,-pcall]
   exact hpan 8 _ he (by omega) le0
  rw [c2] at hany
  refine WX_last _ _ (c':=⟨[.ref b 0 1,.int .i64 m,v,.ref H.length 0 1,.ref (H.length+1) 0 1,.nils,.undef,.undef,.undef,.undef,.undef,.undef,.undef,.undef,.undef,.undef],[],none,none,H0⟩) ?_ ?_
  ·simp [o4,r74,hw0,hany,m8,slotOf,-pcall]
  simp only [seqQ_norm,WX_seq,WX_skip]
  have ownl:∀ j,j<τ.own→(R.getD j []).length=m:=fun j hj=>by
   have hjR:j<R.length:=by omega
   have hm:R[j]∈R.take τ.own:=by
    rw [List.mem_iff_getElem?]
    exact ⟨j,by rw [List.getElem?_take,if_pos hj]; simp [hjR]⟩
   have:=List.all_eq_true.1 c2 _ hm
   simp at this
   simp [hjR]
   omega
  -- the function of the pools
  obtain ⟨H1,hH1⟩:∃ H1,H1=H0++[.cells 1 3 [.ref b 0 1,.int .i64 (0:Nat),.int .i64 τ.own]]:=⟨_,rfl⟩
  have c93:=pools93_q H0 b 0 τ.own
  rw [← hH1] at c93
  have len1:H1.length=H.length+3:=by simp [hH1,len0]
  have le1:Le H0 H1:=by rw [hH1]; exact (Le.refl H0).app _
  refine WX_last _ _ (c':=⟨[.ref b 0 1,.int .i64 m,v,.ref H.length 0 1,.ref (H.length+1) 0 1,.nils,.undef,.undef,.undef,.undef,.undef,.func (.func 119) [] [.ref H0.length 0 1],.undef,.undef,.undef,.undef],[],none,none,H1⟩) ?_ ?_
  ·simp [r75,c93,slotOf]
  simp only [seqQ_norm,WX_seq,WX_block]
  obtain ⟨H2,hH2⟩:∃ H2,H2=H1++[.loop 10500 [.ref (H.length+1) 0 1] .ready none]:=⟨_,rfl⟩
  have le2:Le H1 H2:=by rw [hH2]; exact (Le.refl H1).app _
  have len2:H2.length=H.length+4:=by simp [hH2,len1]
  have gB:H2[H1.length]?=some (.loop 10500 [.ref (H.length+1) 0 1] .ready none):=by simp [hH2]
  obtain ⟨ur,X3,c109,hX3⟩:=pools109_q (H:=H2) (B:=H1.length) (c4:=H.length+1) (cs:=H0.length) (v:=v) (R:=R) (b:=b) (o:=0) (d:=τ.own) (τ:=τ) gB (le2 _ _ _ _ (le1 _ _ _ _ g4)) (hR0.le (le1.trans le2)) (le2 _ _ _ _ (by simp [hH1])) (hL0.le (le1.trans le2)) lR (fun r hr=>by have:=ll r hr; omega) (by omega) (by omega) hz
  obtain ⟨G3,hG3⟩:∃ G3,G3=H2++X3:=⟨_,rfl⟩
  rw [← hG3] at c109
  rw [hH2] at c109
  have le02:=(le0.trans le1).trans le2
  cases c3:shpA R τ τ.own
  case false =>
   have hsc:shp τ (R.drop τ.own)=false:=by
    rw [shp_cut] at c3
    rw [← c3]
    congr 1
    rw [List.take_of_length_le (by simp; omega)]
   have he:bldE τ m R=8:=by simp only [bldE]; rw [if_neg (by omega),if_pos (fun h=>by rw [hsc] at h; cases h.2.2)]
   rw [c3,if_neg (by simp)] at c109
   simp only [WX_range]
   simp [c109]
   refine hpan 8 _ he (by omega) ?_
   rw [hG3]
   refine (le02.app X3).set (fun a b c h => ?_) _
   have:=le02 _ _ _ _ h
   rw [gB] at this
   cases this
  have hsc:shp τ (R.drop τ.own)=true:=by
   rw [shp_cut] at c3
   rw [← c3]
   congr 1
   rw [List.take_of_length_le (by simp; omega)]
  rw [c3,if_pos rfl] at c109
  have hbld:bldE τ m R=sumE (rdAll τ (R.take τ.own) (R.drop τ.own) m):=by
   simp only [bldE]
   rw [if_neg (by omega),if_neg (fun h=>h ⟨c1,c2,hsc⟩),Int.toNat_natCast]
  have hrdA:∀ i,rdA R τ 0 τ.own i=rd τ (R.take τ.own) (R.drop τ.own) i:=fun i=>by
   rw [rd_cut,List.drop_zero]
   congr 1
   rw [List.take_of_length_le (by simp; omega)]
  -- behind the range
  obtain ⟨H4,hH4⟩:∃ H4,H4=G3.set H1.length (.loop 10500 [.ref (H.length+1) 0 1] .exhausted none):=⟨_,rfl⟩
  have gB3:G3[H1.length]?=some (.loop 10500 [.ref (H.length+1) 0 1] .ready none):=by rw [hG3]; exact get_app gB
  have len4:H4.length=H.length+6:=by simp [hH4,hG3,hX3,len2]
  have le4:Le H0 H4:=by
   rw [hH4,hG3]
   refine ((le1.trans le2).app X3).set (fun a b c h => ?_) _
   have:=(le1.trans le2) _ _ _ _ h
   rw [gB] at this
   cases this
  have cl4:Closed H4:=by
   have cl0:Closed H0:=by
    rw [hH0]
    refine hC.app fun o ho => ?_
    simp only [List.mem_cons,List.not_mem_nil,or_false] at ho
    rcases ho with rfl | rfl
    ·exact okO_ints _ _ _ [_]
    ·exact okO_one _ (belowV_mono (by simp) v hv) _ _
   have cl1:Closed H1:=by
    rw [hH1]
    refine cl0.app fun o ho => ?_
    rw [List.mem_singleton.1 ho]
    have:=hL0.lt
    simp [okO,belowV]
    omega
   have cl2:Closed H2:=by
    rw [hH2]
    refine cl1.app fun o ho => ?_
    rw [List.mem_singleton.1 ho]
    simp [okO,belowV]
    omega
   have cl3:Closed (H2++X3):=by
    refine cl2.app fun o ho => ?_
    rw [hX3] at ho ⊢
    simp only [List.mem_cons,List.not_mem_nil,or_false] at ho
    rcases ho with rfl | rfl
    ·simp [okO,belowV]; omega
    ·simp [okO,belowV,belowL]
   rw [hH4,hG3]
   refine cl3.set _ ?_
   simp [okO,belowV,hX3]
   omega
  simp only [WX_range]
  simp [c109,gB3]
  rw [← hH4]
  -- the holder
  obtain ⟨H6,hH6⟩:∃ H6,H6=H4++[.map [],.cells 1 2 [v,.map H4.length]]:=⟨_,rfl⟩
  have le6:Le H0 H6:=by rw [hH6]; exact le4.app _
  have o44:=objCells_of (le4 _ _ _ _ g4)
  have hHold:HoldH H6 (H4.length+1) H4.length v R (sp b τ 0 τ.own) []:=by
   refine ⟨by simp [hH6],by simp [hH6],hR0.le le6,?_,by simp [MemoOK],?_⟩
   ·intro e he
    have hLb:=hL0.le le6
    clear hQ hpan
    have gen:∀ (τ:Ty) (b o d:Nat),LayD H6 b τ→∀ e∈sp b τ o d,LayD H6 e.1 e.2.1:=by
     intro τ
     induction τ with
     | unit=>intro b o d h e he; simp [sp] at he; subst he; exact h
     | int=>intro b o d h e he; simp [sp] at he; subst he; exact h
     | pair x y ih1 ih2 =>
      intro b o d h e he
      simp only [sp,List.mem_cons,List.mem_append] at he
      rcases he with rfl | he | he
      ·exact h
      ·exact ih1 _ _ _ h.2.2.1 e he
      ·exact ih2 _ _ _ h.2.2.2 e he
     | sum x y ih1 ih2 =>
      intro b o d h e he
      simp only [sp,List.mem_cons,List.mem_append] at he
      rcases he with rfl | he | he
      ·exact h
      ·exact ih1 _ _ _ h.2.2.1 e he
      ·exact ih2 _ _ _ h.2.2.2 e he
     | seq x ih =>
      intro b o d h e he
      simp only [sp,List.mem_cons] at he
      rcases he with rfl | he
      ·exact h
      ·exact ih _ _ _ h.2.2 e he
    exact gen τ b 0 τ.own hLb e he
   ·rw [hH6]
    refine cl4.app fun o ho => ?_
    simp only [List.mem_cons,List.not_mem_nil,or_false] at ho
    rcases ho with rfl | rfl
    ·rfl
    ·have:belowV (H4++[Am.Obj.map [],.cells 1 2 [v,.map H4.length]]).length v=true:=belowV_mono (by simp; omega) v hv
     simp only [okO,List.all_cons,List.all_nil,Bool.and_true,this,Bool.true_and]
     simp [belowV]
  have henv:Env R (sp b τ 0 τ.own):=⟨lR,ll,fun b' s s' h1 h2=>sp_fun τ b 0 τ.own h1 h2⟩
  have hrng:∀ i,i<m→Rng R τ 0 τ.own i:=fun i hi=>⟨fun j hj=>⟨by omega,by rw [Nat.zero_add,ownl j hj]; exact hi⟩,by omega,c3,by omega,hz⟩
  have hroom:room=140737488355328:=by simp [room]
  have o63:objCells (H4++[.map [],.cells 1 2 [v,.map H4.length]]) H.length=some (1,1,[.int .i64 m]):=by rw [← hH6]; exact objCells_of (le6 _ _ _ _ g3)
  have hvc:=hR.cell
  have hvcs:=hR.cells
  simp [o44,o63,hvc,hvcs,fill,slotOf]
  rw [← hH6]
  have hpanic:∀ (e:Int) (G:Heap),bldE τ m R=e→e≠0→Le H6 G→Q (.pan (wrong e)) G:=fun e G h1 h2 h3=>hpan e G h1 h2 ((le0.trans le6).trans h3)
  refine loop_nQ m (fun i c=>∃ (l:List Vl) (G:Heap) (es:List (V×V)) (s8:V) (fl:Option (Nat×V)),c=⟨[.ref b 0 1,.int .i64 m,v,.ref H.length 0 1,.ref (H.length+1) 0 1,.nils,.ref (H4.length+1) 0 1,.int .i64 (min 20001 (Vl.nodesL l):Nat),s8,.undef,.undef,.func (.func 119) [] [.ref H0.length 0 1],.int .i64 m,.int .i64 i,.undef,.undef],[(.undef,[])],fl,none,G⟩ ∧
   (List.range i).map (fun i=>rd τ (R.take τ.own) (R.drop τ.own) i)=l.map some∧Dyn H6 G H4.length R (sp b τ 0 τ.own) es) ?_ ⟨[],H6,[],.undef,none,rfl,rfl,hHold.self⟩
  rintro I hI i c hi ⟨l,G,es,s8,fl,rfl,hl,hD⟩
  have hHG:=hHold.dyn hD
  have hLG:=hHG.hS _ (sp_self b τ 0 τ.own)
  have r75G:=ro75_q hLG
  rw [RO] at r75G
  by_cases hlt:i<m
  ·have wk1:IntKind.i64.wrap ((i:Int)+1)=(i:Int)+1:=wrap64 (by omega) (by omega)
   have hr:=reach_q henv τ b 0 τ.own i hHG (fun e he=>he) (hrng i hlt)
   unfold ReachP at hr
   rw [hrdA] at hr
   cases hx:rd τ (R.take τ.own) (R.drop τ.own) i with
   | none =>
    rw [hx] at hr
    obtain ⟨G1,c1,l1⟩:=hr
    simp [hlt,r75G,c1,slotOf]
    exact hpanic 8 _ (by rw [hbld,rdAll_none hlt hx]; rfl) (by omega) (hD.le.trans l1)
   | some x =>
    rw [hx] at hr
    obtain ⟨es1,G1,c1,d1⟩:=hr
    have hsx:=sat_le x
    have wm:IntKind.i64.wrap (((min 20001 (Vl.nodesL l):Nat):Int)+(sat x:Nat))=((min 20001 (Vl.nodesL l)+sat x:Nat):Int):=by rw [wrap64 (by omega) (by omega)]; rfl
    have emin:(if ((min 20001 (Vl.nodesL l)+sat x:Nat):Int)<20001 then ((min 20001 (Vl.nodesL l)+sat x:Nat):Int) else 20001)=((min 20001 (Vl.nodesL (l++[x])):Nat):Int):=by
     rw [Vl.nodesL_append]
     simp only [Vl.nodesL]
     have hs:sat x=min 20001 x.nodes:=rfl
     by_cases hh:((min 20001 (Vl.nodesL l)+sat x:Nat):Int)<20001
     ·rw [if_pos hh]; omega
     ·rw [if_neg hh]; omega
    have hI:=hI (i+1) ⟨[.ref b 0 1,.int .i64 m,v,.ref H.length 0 1,.ref (H.length+1) 0 1,.nils,.ref (H4.length+1) 0 1,.int .i64 (min 20001 (Vl.nodesL (l++[x])):Nat),.int .i64 i,.undef,.undef,.func (.func 119) [] [.ref H0.length 0 1],.int .i64 m,.int .i64 ((i:Int)+1),.undef,.undef],[(.undef,[])],none,none,G1⟩
     ⟨l++[x],G1,es1,_,_,rfl,by rw [List.range_succ,List.map_append,hl,List.map_append,List.map_cons,List.map_nil,hx]; rfl,hD.trans d1⟩
    generalize min 20001 (Vl.nodesL l)=q at *
    generalize min 20001 (Vl.nodesL (l++[x]))=q2 at *
    simp [hlt,r75G,c1,wm,emin,wk1,slotOf,-Int.natCast_add]
    exact hI
  ·obtain rfl:i=m:=by omega
   have hall:=rdAll_of hl
   by_cases hle:Vl.nodesL l≤20000
   case neg =>
    have hq:¬ ((min 20001 (Vl.nodesL l):Nat):Int)≤20000:=by omega
    generalize min 20001 (Vl.nodesL l)=q at *
    have hq':¬ q≤20000:=by omega
    simp [hq,hq',f3,slotOf,-pcall]
    exact hpanic 3 _ (by rw [hbld,hall]; simp only [sumE]; rw [if_neg hle]) (by omega) hD.le
   have hE:bldE τ i R=0:=by rw [hbld,hall]; simp only [sumE]; rw [if_pos hle]
   have hL:bldL τ i R=l:=by simp only [bldL]; rw [Int.toNat_natCast,hall]; rfl
   have hq:((min 20001 (Vl.nodesL l):Nat):Int)≤20000:=by omega
   have hlen:l.length=i:=by
    have:=congrArg List.length hl
    simpa using this.symm
   have oG3:=objCells_of (hD.le _ _ _ _ (le6 _ _ _ _ g3))
   have oG3':∀ X,objCells (G++X) H.length=some (1,1,[.int .i64 i]):=fun X=>objCells_of (get_app (hD.le _ _ _ _ (le6 _ _ _ _ g3)))
   generalize min 20001 (Vl.nodesL l)=q at *
   have hq':q≤20000:=by omega
   simp [hq,hq',m3,oG3',slotOf,-pcall]
   refine loop_nQ i (fun k c=>∃ (ts:List Tr) (s10:V) (fl:Option (Nat×V)),c=⟨[.ref b 0 1,.int .i64 i,v,.ref H.length 0 1,.ref (H.length+1) 0 1,.nils,.ref (H4.length+1) 0 1,.int .i64 q,s8,.sl G.length 0 k k 3 false,s10,.func (.func 119) [] [.ref H0.length 0 1],.int .i64 i,.int .i64 i,.int .i64 i,.int .i64 k],[(.undef,[])],fl,none,G++[.cells k 3 (ts.map Tr.cs).flatten]⟩ ∧
    (∀ t∈ts,t.Ok)∧ts.map Tr.vl=l.take k∧ts.length=k) ?_ ⟨[],_,_,rfl,by simp,by simp,rfl⟩
   rintro J hJ k c hk ⟨ts,s10,fl,rfl,hok,hvl,htl⟩
   by_cases hkt:k<i
   ·have wk1:IntKind.i64.wrap ((k:Int)+1)=(k:Int)+1:=wrap64 (by omega) (by omega)
    have hHR:HoldR (G++[.cells k 3 (ts.map Tr.cs).flatten]) (H4.length+1) H4.length v R:=HoldR.app ⟨hHG.hh,hHG.hR,hHG.cl⟩ _ _ (pure_cells ts hok)
    have hLG':=hLG.le ((Le.refl G).app [.cells k 3 (ts.map Tr.cs).flatten])
    simp only at hLG'
    have r75':=ro75_q hLG'
    rw [RO] at r75'
    have hxk:rd τ (R.take τ.own) (R.drop τ.own) k=some (l[k]'(by omega)):=by
     have:=congrArg (·[k]?) hl
     simpa [hkt,show k<l.length by omega] using this
    obtain ⟨t1,o1,v1,c1⟩:=(value_q lR ll τ b 0 τ.own k _ hHR hLG' (hrng k hkt) (by rw [hrdA]; exact hxk)).use hHR.cl
    have hap:=appV_own (h:=G++[.cells k 3 (ts.map Tr.cs).flatten]) (o:=G.length) (n:=k) (sz:=3) (bytes:=40) (cs:=(ts.map Tr.cs).flatten) (y:=.sv [[.int .i64 t1.k,.int .i64 t1.n,t1.v]] true) (k:=1) (ys:=[.int .i64 t1.k,.int .i64 t1.n,t1.v]) (by simp) rfl rfl rfl (by omega)
    rw [set_last] at hap
    have hJ:=hJ (k+1) ⟨[.ref b 0 1,.int .i64 i,v,.ref H.length 0 1,.ref (H.length+1) 0 1,.nils,.ref (H4.length+1) 0 1,.int .i64 q,s8,.sl G.length 0 (k+1) (k+1) 3 false,.int .i64 k,.func (.func 119) [] [.ref H0.length 0 1],.int .i64 i,.int .i64 i,.int .i64 i,.int .i64 ((k:Int)+1)],[(.undef,[])],none,none,G++[.cells (k+1) 3 ((ts.map Tr.cs).flatten++[.int .i64 t1.k,.int .i64 t1.n,t1.v])]⟩
     ⟨ts++[t1],.int .i64 k,none,by simp [t1.cs_eq],by
      intro t ht
      rcases List.mem_append.1 ht with ht | ht
      ·exact hok t ht
      ·rw [List.mem_singleton.1 ht]; exact o1,by
      rw [List.map_append,hvl,← List.take_append_getElem (show k<l.length by omega),List.map_cons,List.map_nil,v1],by simp [htl]⟩
    have cc1:=SlV.cell o1.sl
    have pc1:=SlV.pure o1.sl
    rw [t1.cs_eq] at c1
    generalize (ts.map Tr.cs).flatten=C at *
    simp [hkt,r75',c1,hap,wk1,cc1,pc1,fill,chunks,slotOf,-ecallF]
    exact hJ
   ·obtain rfl:k=i:=by omega
    have hfz:frzV (G++[.cells k 3 (ts.map Tr.cs).flatten]) (.sl G.length 0 k k 3 false)=some (.sv (ts.map Tr.cs) false,G++[.gone]):=by
     have hp:=pure_cells ts hok
     have hch:=chunks_map Tr.cs 3 ts fun x _=>x.cs_length
     rw [htl] at hch
     have ho:objCells (G++[.cells k 3 (ts.map Tr.cs).flatten]) G.length=some (k,3,(ts.map Tr.cs).flatten):=by simp [objCells]
     simp [frzV,viewV,ho,hp,hch]
    obtain ⟨Y,hY⟩:=hA.ext (((le0.trans le6).trans hD.le).app [.gone]) (by
     have:=hD.len
     simp [hH6,len4] at this ⊢
     omega)
    generalize (ts.map Tr.cs).flatten=C at *
    simp [hfz,slotOf]
    refine hQ _ _ (.inl ⟨hE,.sv (ts.map Tr.cs) false,ts,Y,rfl,hY,.sv false,hok,?_⟩)
    rw [hvl,hL,List.take_of_length_le (by omega)]
 obtain ⟨r,H',e,hq⟩:=OptP.ex key
 rcases hq with ⟨h0,w,ts,X,rfl,rfl,h1,h2,h3⟩ | ⟨h0,rfl,h1⟩
 ·exact .inl ⟨h0,w,ts,X,e,h1,h2,h3⟩
 ·exact .inr ⟨h0,H',e,h1⟩
end Go.Proofs.Nst
