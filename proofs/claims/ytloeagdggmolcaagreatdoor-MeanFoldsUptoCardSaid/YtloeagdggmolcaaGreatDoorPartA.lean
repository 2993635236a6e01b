/- A part of the law's proof: PartA. -/
import Derived.Test.YtloeagdggmolcaaGreatDoorCoreD
import Derived.Test.YtloeagdggmolcaaGreatDoorFn
set_option linter.unusedVariables false
set_option linter.unusedSimpArgs false
set_option linter.unusedVariables false
namespace Go.Proofs.Mn
open Go Go.Am
def gI (n:Int):V:=.int .i64 n
def gB (n:Bool):V:=.bool n
def gF (n:Nat):V:=.func (.func n) [] []
def gl:Nat→List V
 | 0=>[313,326,327,328,329,330,331,332,333,334,335,336].map gF
 | 1=>[0,0,1,0,0,0,0,2147483647,-2147483648,-1,0,0].map gI
 | 2=>[true,true,false,false,false,false,true,true,false,false,false,false,false,false,false,false,false,false,false,true,false,true,true,true,true,true,true,true,true,true,true,true,true,true,true,false].map gB
 | 3=>(List.range 256).map fun n => .int .u8 (if n=9∨n=10∨n=11∨n=12∨n=13∨n=32 then 1 else 0)
 | _=>[]
inductive NT where
 | mk (id:Nat) (op n m:Int) (l:List NT)
 deriving Inhabited
namespace NT
def id:NT→Nat | mk i _ _ _ _=>i
def op:NT→Int | mk _ o _ _ _=>o
def n:NT→Int | mk _ _ n _ _=>n
def m:NT→Int | mk _ _ _ m _=>m
def l:NT→List NT | mk _ _ _ _ l=>l
def kid (t:NT) (i:Nat):NT:=t.l.getD i default
theorem ind {P:NT→Prop} (h:∀ i o n m l,(∀ x∈l,P x)→P (.mk i o n m l)):∀ t,P t
 | .mk i o n m l=>h i o n m l fun x hx=>ind h x
termination_by t=>SizeOf.sizeOf t
decreasing_by
 have:=List.sizeOf_lt_of_mem hx
 simp only [mk.sizeOf_spec]
 omega
end NT
inductive Val where
 | num (n:Int)
 | unit
 | many (kind tag:Int) (l:List Val)
 | fn (b:NT) (p:Int) (env:List (Int×Val))
 deriving Inhabited
abbrev Env:=List (Int×Val)
theorem Val.ind {P:Val→Prop} (hn:∀ n,P (.num n)) (hu:P .unit) (hm:∀ k t l,(∀ x∈l,P x)→P (.many k t l)) (hf:∀ b p env,(∀ x∈env,P x.2)→P (.fn b p env)):∀ v,P v
 | .num n=>hn n
 | .unit=>hu
 | .many k t l=>hm k t l fun x hx=>ind hn hu hm hf x
 | .fn b p env=>hf b p env fun x hx=>ind hn hu hm hf x.2
termination_by v=>SizeOf.sizeOf v
decreasing_by
 ·have:=List.sizeOf_lt_of_mem hx
  simp only [many.sizeOf_spec]
  omega
 ·have:=List.sizeOf_lt_of_mem hx
  obtain ⟨a,b⟩:=x
  simp only [fn.sizeOf_spec,Prod.mk.sizeOf_spec] at *
  omega
abbrev Pg:=List (Int×NT)
def w64 (n:Int):Int:=(n+9223372036854775808) % 18446744073709551616 - 9223372036854775808
structure St where
 steps:Nat
 vis:Nat→Int
 len:Nat→Int
def upd (f:Nat→Int) (i:Nat) (k:Int):Nat→Int:=fun j=>if j=i then w64 (f j+k) else f j
def St.begin (s:St) (i:Nat):St:=⟨s.steps+1,upd s.vis i 1,s.len⟩
def St.add (s:St) (i:Nat) (k:Int):St:=⟨s.steps,s.vis,upd s.len i k⟩
inductive Res (α:Type) where
 | ok (a:α) (s:St)
 | err (e:Int) (id:Nat)
def Res.bind {α β:Type}:Res α→(α→St→Res β)→Res β
 | .ok a s,f=>f a s
 | .err e i,_ => .err e i
@[simp] theorem Res.bind_ok {α β:Type} (a:α) (s:St) (f:α→St→Res β):(Res.ok a s).bind f=f a s:=rfl
@[simp] theorem Res.bind_err {α β:Type} (e:Int) (i:Nat) (f:α→St→Res β):(Res.err e i:Res α).bind f = .err e i:=rfl
def find:Env→Int→Val
 | [],_ => .unit
 | (k,v) :: r,n=>if k=n then v else find r n
def isWord (n:Int):Bool:=decide (-2147483648≤n∧n≤2147483647)
def wrap32 (n:Int):Int:=(n+2147483648) % 4294967296 - 2147483648
def bits (f:BitVec 64→BitVec 64→BitVec 64) (a b:Int):Int:=(f (BitVec.ofInt 64 a) (BitVec.ofInt 64 b)).toInt
def b2i (b:Bool):Int:=if b then 1 else 0
def doW (op a b:Int):Option Int :=
 if op=0 then some (wrap32 (a+b)) else if op=1 then some (wrap32 (a - b)) else if op=2 then some (wrap32 (a * b))
 else if op=3 then (if b=0 then none else some (wrap32 (a.fdiv b))) else if op=4 then (if b=0 then none else some (a.fmod b))
 else if op=5 then some (b2i (decide (a<b))) else if op=6 then some (b2i (a == b)) else if op=7 then some (min a b) else if op=8 then some (max a b)
 else if op=9 then some (bits (· &&& ·) a b) else if op=10 then some (bits (· ||| ·) a b) else some (bits (· ^^^ ·) a b)
def neutral (op:Int):Int:=if op=2 then 1 else if op=7 then 2147483647 else if op=8 then -2147483648 else if op=9 then -1 else 0
def joinW (op a b:Int):Int:=(doW op a b).getD 0
def isJoin (op:Int):Bool:=op == 0||op == 2||op == 7||op == 8||op == 9||op == 10||op == 11
def asNum:Val→Option Int
 | .num n=>some n
 | _=>none
def asMany (k:Int):Val→Option (List Val)
 | .many k' _ l=>if k'=k then some l else none
 | _=>none
def asNums:List Val→Option (List Int)
 | []=>some []
 | v :: vs=>match asNum v with
  | some n=>(asNums vs).map (n :: ·)
  | none=>none
def asWords (v:Val):Option (List Int):=match asMany 4 v with
 | some l=>asNums l
 | none=>none
def asSeqs:List Val→Option (List (List Val))
 | []=>some []
 | v :: vs=>match asMany 4 v with
  | some l=>(asSeqs vs).map (l :: ·)
  | none=>none
def seqV (l:List Val):Val:=.many 4 0 l
def nums (l:List Int):List Val:=l.map .num
def scanW (op:Int):Int→List Int→List Int
 | _,[]=>[]
 | a,x :: xs=>a :: scanW op (joinW op a x) xs
def foldW (op:Int) (a:Int) (l:List Int):Int:=l.foldl (joinW op) a
def cutL:List Int→List Val→List Val
 | [],_=>[]
 | k :: ks,l=>seqV (l.take k.toNat) :: cutL ks (l.drop k.toNat)
def putL:List Int→List Val→List (Option Val)→Option (List (Option Val))
 | k :: ks,v :: vs,out=>if 0≤k∧k<out.length∧out.getD k.toNat none=none then putL ks vs (out.set k.toNat (some v)) else none
 | _,_,out=>some out
abbrev ET:Int:=15
abbrev TR:Int:=14
def opA (op n:Int) (l:List Val) (a b:Val):Except Int Val :=
 if op=1 then .ok (.num n)
 else if op=2 then .ok .unit
 else if op=8 then .ok (.many 2 0 l)
 else if op=9 then match asMany 2 a with
  | some x => .ok (x.getD 0 .unit)
  | none => .error ET
 else if op=10 then match asMany 2 a with
  | some x => .ok (x.getD 1 .unit)
  | none => .error ET
 else if op=11 then .ok (.many 3 0 l)
 else if op=12 then .ok (.many 3 1 l)
 else if op=15 then match asNum a with
  | none => .error ET
  | some x=>match asNum b with
   | none => .error ET
   | some y=>match doW n x y with
    | some z => .ok (.num z)
    | none => .error TR
 else if op=16 then .ok (seqV l)
 else if op=19 then match asNum a with
  | none => .error ET
  | some x=>if 0≤x∧x≤4096 then .ok (seqV (nums ((List.range x.toNat).map Int.ofNat))) else .error TR
 else if op=20 then match asMany 4 a with
  | some x => .ok (.num x.length)
  | none => .error ET
 else if op=21 then match asMany 4 a with
  | none => .error ET
  | some x=>match asNum b with
   | none => .error ET
   | some i=>if 0≤i∧i<x.length then .ok (x.getD i.toNat .unit) else .error TR
 else if op=22 then match asWords a with
  | none => .error ET
  | some x => .ok (.num (foldW n (neutral n) x))
 else if op=23 then match asWords a with
  | none => .error ET
  | some x => .ok (seqV (nums (scanW n (neutral n) x)))
 else if op=24 then match asMany 4 a with
  | none => .error ET
  | some x=>match asSeqs x with
   | none => .error ET
   | some y=>if y.flatten.length≤4096 then .ok (seqV y.flatten) else .error TR
 else if op=25 then match asMany 4 a with
  | none => .error ET
  | some x=>match asWords b with
   | none => .error ET
   | some ks=>if (ks.all fun k=>decide (0≤k))=true∧ks.sum=x.length then .ok (seqV (cutL ks x)) else .error TR
 else match asMany 4 a with
  | none => .error ET
  | some x=>match asWords b with
   | none => .error ET
   | some ks=>if ks.length=x.length then match putL ks x (List.replicate x.length none) with
     | some out => .ok (seqV (out.map (·.getD .unit)))
     | none => .error TR
    else .error TR
def opV (op n:Int) (l:List Val):Except Int Val:=opA op n l (l.getD 0 .unit) (l.getD 1 .unit)
def counts (op:Int):Bool:=op == 17||op == 18||op == 16||op == 19||op == 23||op == 24||op == 25||op == 26
def note (t:NT) (v:Val) (s:St):St:=match v with
 | .many k _ l=>if k=4∧counts t.op=true then s.add t.id l.length else s
 | _=>s
def evalL (ev:NT→Env→St→Res Val) (env:Env):List NT→St→Res (List Val)
 | [],s => .ok [] s
 | t :: ts,s=>(ev t env s).bind fun v s=>(evalL ev env ts s).bind fun vs s => .ok (v :: vs) s
def eachD (ev:Env→St→Res Val) (t:NT) (env:Env):List Val→St→Res (List Val)
 | [],s => .ok [] s
 | x :: xs,s=>(ev ((t.n,x) :: env) s).bind fun v s =>
  if t.op=17 then (eachD ev t env xs s).bind fun vs s => .ok (v :: vs) s
  else match asNum v with
   | none => .err ET t.id
   | some n=>(eachD ev t env xs s).bind fun vs s => .ok (if n=0 then vs else x :: vs) s
def stepD (P:Pg) (ev:NT→Env→St→Res Val) (t:NT) (env:Env) (s:St):Res Val :=
  if t.op=0 then .ok (find env t.n) s
  else if t.op=3 then (ev (t.kid 0) env s).bind fun v s=>ev (t.kid 1) ((t.n,v) :: env) s
  else if t.op=4 then .ok (.fn (t.kid 0) t.n env) s
  else if t.op=6 then .ok (.fn (P.getD t.n.toNat default).2 (P.getD t.n.toNat default).1 []) s
  else if t.op=7 then (ev (t.kid 0) env s).bind fun v s=>ev (P.getD t.n.toNat default).2 [((P.getD t.n.toNat default).1,v)] s
  else if t.op=5 then (ev (t.kid 0) env s).bind fun f s=>(ev (t.kid 1) env s).bind fun x s=>match f with
   | .fn b p e=>ev b ((p,x) :: e) s
   | _ => .err ET t.id
  else if t.op=13 then (ev (t.kid 0) env s).bind fun x s=>match x with
   | .many k tag l=>if k=3 then (if tag=0 then ev (t.kid 1) ((t.n,l.getD 0 .unit) :: env) s else ev (t.kid 2) ((t.m,l.getD 0 .unit) :: env) s) else .err ET t.id
   | _ => .err ET t.id
  else if t.op=14 then (ev (t.kid 0) env s).bind fun x s=>match asNum x with
   | some n=>if n=0 then ev (t.kid 2) env s else ev (t.kid 1) env s
   | none => .err ET t.id
  else if t.op=17∨t.op=18 then (ev (t.kid 0) env s).bind fun x s=>match asMany 4 x with
   | some l=>(eachD (ev (t.kid 1)) t env l s).bind fun out s => .ok (seqV out) (note t (seqV out) s)
   | none => .err ET t.id
  else (evalL ev env t.l s).bind fun l s=>match opV t.op t.n l with
   | .error e => .err e t.id
   | .ok v => .ok v (note t v s)
def evalD (P:Pg) (left:Nat):Nat→NT→Env→St→Res Val
 | 0,t,_,_ => .err 12 t.id
 | d+1,t,env,s=>if left≤s.steps then .err 12 t.id else stepD P (evalD P left d) t env (s.begin t.id)
def arity (op:Int):Int :=
 if op=0∨op=1∨op=2∨op=6 then 0
 else if op=4∨op=7∨op=9∨op=10∨op=11∨op=12∨op=19∨op=20∨op=22∨op=23∨op=24 then 1
 else if op=3∨op=5∨op=8∨op=15∨op=17∨op=18∨op=21∨op=25∨op=26 then 2
 else if op=13∨op=14 then 3 else if op=16 then -2 else -1
def bnd (op n m:Int) (i:Nat) (vars:List Int):List Int :=
 if op=4∨((op=3∨op=17∨op=18∨op=13)∧i=1) then n :: vars
 else if op=13∧i=2 then m :: vars else vars
def numsOk (nf:Nat) (vars:List Int) (op n m:Int):Prop :=
 (op=0→n∈vars)∧(op=1→isWord n=true)∧((op=6∨op=7)→0≤n∧n<nf)∧(op=15→0≤n∧n≤11)∧((op=22∨op=23)→isJoin n=true)
def shape (op:Int) (k:Nat):Prop:=if op=16 then k≤8 else 0≤op∧op≤26∧(k:Int)=arity op
inductive Wf (nf:Nat):List Int→NT→Prop
 | mk (vars:List Int) (i:Nat) (op n m:Int) (l:List NT) (hs:shape op l.length) (hn:numsOk nf vars op n m) (hl:∀ k,∀ h:k<l.length,Wf nf (bnd op n m k vars) l[k]):Wf nf vars (.mk i op n m l)
def manyOk (k t:Int) (n:Nat):Prop:=(k=2∧t=0∧n=2)∨(k=3∧(t=0∨t=1)∧n=1)∨(k=4∧t=0∧n≤4096)
inductive VOk (nf:Nat):Val→Prop
 | num (n:Int) (h:isWord n=true):VOk nf (.num n)
 | unit:VOk nf .unit
 | many (k t:Int) (l:List Val) (h:manyOk k t l.length) (hl:∀ x∈l,VOk nf x):VOk nf (.many k t l)
 | fn (b:NT) (p:Int) (env:Env) (hb:Wf nf (p :: env.map (·.1)) b) (he:∀ x∈env,VOk nf x.2):VOk nf (.fn b p env)
def PgOk (P:Pg):Prop:=∀ f∈P,Wf P.length [f.1] f.2
def EnvOk (nf:Nat) (env:Env):Prop:=∀ x∈env,VOk nf x.2
theorem isWord_iff {n:Int}:isWord n=true ↔ -2147483648≤n∧n≤2147483647:=by simp [isWord]
theorem wrap32_word (n:Int):isWord (wrap32 n)=true:=by rw [isWord_iff]; unfold wrap32; omega
theorem b2i_word (b:Bool):isWord (b2i b)=true:=by cases b <;> rfl
theorem word_bv {a:Int} (h:isWord a=true):BitVec.ofInt 64 a=(BitVec.ofInt 32 a).signExtend 64:=by
 rw [isWord_iff] at h
 apply BitVec.eq_of_toInt_eq
 rw [BitVec.toInt_signExtend_of_le (by decide),BitVec.toInt_ofInt,BitVec.toInt_ofInt]
 simp only [Int.bmod]
 split <;> split <;> omega
theorem bits_word {f:BitVec 64→BitVec 64→BitVec 64} {g:BitVec 32→BitVec 32→BitVec 32} (hf:∀ x y:BitVec 32,f (x.signExtend 64) (y.signExtend 64)=(g x y).signExtend 64) {a b:Int} (ha:isWord a=true) (hb:isWord b=true) :
  isWord (bits f a b)=true:=by
 unfold bits
 rw [word_bv ha,word_bv hb,hf,BitVec.toInt_signExtend_of_le (by decide),isWord_iff]
 have:=BitVec.le_toInt (g (BitVec.ofInt 32 a) (BitVec.ofInt 32 b))
 have:=BitVec.toInt_lt (x:=g (BitVec.ofInt 32 a) (BitVec.ofInt 32 b))
 omega
theorem fmod_word {a b:Int} (ha:isWord a=true) (hb:isWord b=true) (h0:b≠0):isWord (a.fmod b)=true:=by
 rw [isWord_iff] at *
 by_cases h:0<b
 ·have h1:=Int.fmod_nonneg_of_pos a h
  have h2:=Int.fmod_lt_of_pos a h
  omega
 ·have e:=Int.fmod_def a b
  have h1:a.fmod b≤0:=by
   have:=Int.fmod_nonneg_of_pos (-a) (b:=-b) (by omega)
   rw [Int.neg_fmod_neg] at this
   omega
  have h2:b<a.fmod b:=by
   have:=Int.fmod_lt_of_pos (-a) (b:=-b) (by omega)
   rw [Int.neg_fmod_neg] at this
   omega
  omega
theorem doW_word {op a b z:Int} (ha:isWord a=true) (hb:isWord b=true) (h:doW op a b=some z):isWord z=true:=by
 unfold doW at h
 have h9:=bits_word (f:=(· &&& ·)) (g:=(· &&& ·)) (fun x y=>BitVec.signExtend_and.symm) ha hb
 have h10:=bits_word (f:=(· ||| ·)) (g:=(· ||| ·)) (fun x y=>BitVec.signExtend_or.symm) ha hb
 have h11:=bits_word (f:=(· ^^^ ·)) (g:=(· ^^^ ·)) (fun x y=>BitVec.signExtend_xor.symm) ha hb
 split at h
 ·cases h; exact wrap32_word _
 split at h
 ·cases h; exact wrap32_word _
 split at h
 ·cases h; exact wrap32_word _
 split at h
 ·split at h <;> cases h; exact wrap32_word _
 split at h
 ·split at h <;> cases h; exact fmod_word ha hb ‹_›
 split at h
 ·cases h; exact b2i_word _
 split at h
 ·cases h; exact b2i_word _
 split at h
 ·cases h; rw [isWord_iff] at *; omega
 split at h
 ·cases h; rw [isWord_iff] at *; omega
 split at h
 ·cases h; exact h9
 split at h
 ·cases h; exact h10
 ·cases h; exact h11
theorem joinW_word {op a b:Int} (ha:isWord a=true) (hb:isWord b=true):isWord (joinW op a b)=true:=by
 unfold joinW
 cases h:doW op a b with
 | none=>rfl
 | some z=>exact doW_word ha hb h
theorem neutral_word (op:Int):isWord (neutral op)=true:=by
 unfold neutral
 split; · rfl
 split; · rfl
 split; · rfl
 split <;> rfl
theorem foldW_word {op:Int}:∀ {l:List Int} {a:Int},isWord a=true→(∀ x∈l,isWord x=true)→isWord (foldW op a l)=true
 | [],a,ha,_=>ha
 | x :: xs,a,ha,hl=>foldW_word (l:=xs) (joinW_word ha (hl x (by simp))) fun y hy=>hl y (by simp [hy])
theorem scanW_word {op:Int}:∀ {l:List Int} {a:Int},isWord a=true→(∀ x∈l,isWord x=true)→∀ y∈scanW op a l,isWord y=true
 | [],a,ha,_,y,hy=>by simp [scanW] at hy
 | x :: xs,a,ha,hl,y,hy=>by
  simp only [scanW,List.mem_cons] at hy
  rcases hy with rfl | hy
  ·exact ha
  ·exact scanW_word (joinW_word ha (hl x (by simp))) (fun z hz=>hl z (by simp [hz])) y hy
theorem scanW_length {op:Int}:∀ {l:List Int} {a:Int},(scanW op a l).length=l.length
 | [],a=>rfl
 | x :: xs,a=>by simp only [scanW,List.length_cons,scanW_length]
section
variable {nf:Nat}
theorem VOk.seq {l:List Val} (hn:l.length≤4096) (hl:∀ x∈l,VOk nf x):VOk nf (seqV l):=.many 4 0 l (.inr (.inr ⟨rfl,rfl,hn⟩)) hl
theorem VOk.nums {l:List Int} (hl:∀ x∈l,isWord x=true):∀ x∈nums l,VOk nf x:=by
 intro x hx
 obtain ⟨y,hy,rfl⟩:=List.mem_map.1 hx
 exact .num y (hl y hy)
theorem asNum_some {v:Val} {n:Int} (h:asNum v=some n):v = .num n:=by cases v <;> simp_all [asNum]
theorem asNum_word {v:Val} {n:Int} (hv:VOk nf v) (h:asNum v=some n):isWord n=true:=by
 rw [asNum_some h] at hv
 cases hv; assumption
theorem asMany_some {k:Int} {v:Val} {l:List Val} (h:asMany k v=some l):∃ t,v = .many k t l:=by
 cases v <;> simp only [asMany] at h <;> try cases h
 split at h
 ·cases h; subst_vars; exact ⟨_,rfl⟩
 ·cases h
theorem asMany_ok {k:Int} {v:Val} {l:List Val} (hv:VOk nf v) (h:asMany k v=some l):(∀ x∈l,VOk nf x)∧∃ t,manyOk k t l.length:=by
 obtain ⟨t,rfl⟩:=asMany_some h
 cases hv with
 | many _ _ _ h1 h2=>exact ⟨h2,t,h1⟩
theorem asSeq_ok {v:Val} {l:List Val} (hv:VOk nf v) (h:asMany 4 v=some l):(∀ x∈l,VOk nf x)∧l.length≤4096:=by
 obtain ⟨h1,t,h2⟩:=asMany_ok hv h
 refine ⟨h1,?_⟩
 rcases h2 with h2 | h2 | h2
 ·exact absurd h2.1 (by omega)
 ·exact absurd h2.1 (by omega)
 ·exact h2.2.2
theorem asNums_ok:∀ {l:List Val} {x:List Int},(∀ v∈l,VOk nf v)→asNums l=some x→l=nums x∧∀ n∈x,isWord n=true
 | [],x,_,h=>by cases h; exact ⟨rfl,by simp⟩
 | v :: vs,x,hl,h=>by
  simp only [asNums] at h
  cases hv:asNum v with
  | none=>rw [hv] at h; cases h
  | some n =>
   rw [hv] at h
   simp only [Option.map_eq_some_iff] at h
   obtain ⟨y,hy,rfl⟩:=h
   obtain ⟨h1,h2⟩:=asNums_ok (fun w hw=>hl w (by simp [hw])) hy
   refine ⟨by rw [asNum_some hv,h1]; rfl,?_⟩
   intro m hm
   rcases List.mem_cons.1 hm with rfl | hm
   ·exact asNum_word (hl v (by simp)) hv
   ·exact h2 m hm
theorem asWords_ok {v:Val} {x:List Int} (hv:VOk nf v) (h:asWords v=some x):v = .many 4 0 (nums x)∧(∀ n∈x,isWord n=true)∧x.length≤4096:=by
 unfold asWords at h
 cases h1:asMany 4 v with
 | none=>rw [h1] at h; cases h
 | some l =>
  rw [h1] at h
  obtain ⟨h2,h3⟩:=asSeq_ok hv h1
  obtain ⟨rfl,h5⟩:=asNums_ok h2 h
  obtain ⟨t,rfl⟩:=asMany_some h1
  have:t=0:=by
   cases hv with
   | many _ _ _ h1 _=>rcases h1 with h | h | h <;> omega
  subst this
  exact ⟨rfl,h5,by simpa [Mn.nums] using h3⟩
theorem asSeqs_ok:∀ {l:List Val} {y:List (List Val)},(∀ v∈l,VOk nf v)→asSeqs l=some y→y.length=l.length∧∀ m∈y,(∀ x∈m,VOk nf x)∧m.length≤4096
 | [],y,_,h=>by cases h; exact ⟨rfl,by simp⟩
 | v :: vs,y,hl,h=>by
  simp only [asSeqs] at h
  cases hv:asMany 4 v with
  | none=>rw [hv] at h; cases h
  | some n =>
   rw [hv] at h
   simp only [Option.map_eq_some_iff] at h
   obtain ⟨z,hz,rfl⟩:=h
   obtain ⟨h1,h2⟩:=asSeqs_ok (fun w hw=>hl w (by simp [hw])) hz
   refine ⟨by simp [h1],?_⟩
   intro m hm
   rcases List.mem_cons.1 hm with rfl | hm
   ·exact asSeq_ok (hl v (by simp)) hv
   ·exact h2 m hm
theorem cutL_ok:∀ {ks:List Int} {l:List Val},(∀ x∈l,VOk nf x)→l.length≤4096→(cutL ks l).length=ks.length∧∀ x∈cutL ks l,VOk nf x
 | [],l,_,_=>by simp [cutL]
 | k :: ks,l,hl,hn=>by
  obtain ⟨h1,h2⟩:=cutL_ok (ks:=ks) (l:=l.drop k.toNat) (fun x hx=>hl x (List.mem_of_mem_drop hx)) (by simp; omega)
  refine ⟨by simp [cutL,h1],?_⟩
  intro x hx
  simp only [cutL,List.mem_cons] at hx
  rcases hx with rfl | hx
  ·exact VOk.seq (by simp; omega) fun x hx=>hl x (List.mem_of_mem_take hx)
  ·exact h2 x hx
def OptOk (nf:Nat) (o:Option Val):Prop:=∀ v,o=some v→VOk nf v
theorem putL_ok:∀ {ks:List Int} {l:List Val} {out out':List (Option Val)},(∀ x∈l,VOk nf x)→(∀ o∈out,OptOk nf o)→putL ks l out=some out'→out'.length=out.length∧∀ o∈out',OptOk nf o
 | [],l,out,out',_,ho,h=>by cases l <;> cases h <;> exact ⟨rfl,ho⟩
 | k :: ks,[],out,out',_,ho,h=>by cases h; exact ⟨rfl,ho⟩
 | k :: ks,v :: vs,out,out',hl,ho,h=>by
  simp only [putL] at h
  split at h
  ·obtain ⟨h1,h2⟩:=putL_ok (fun x hx=>hl x (by simp [hx])) (fun o hm=>by
    rcases List.mem_or_eq_of_mem_set hm with hm | rfl
    ·exact ho o hm
    ·intro w hw; cases hw; exact hl v (by simp)) h
   exact ⟨by simpa using h1,h2⟩
  ·cases h
theorem getD_ok {l:List Val} (hl:∀ x∈l,VOk nf x) (i:Nat):VOk nf (l.getD i .unit):=by
 rw [List.getD_eq_getElem?_getD]
 cases h:l[i]? with
 | none=>exact .unit
 | some v=>exact hl v (List.mem_of_getElem? h)
theorem find_ok {env:Env} (he:EnvOk nf env):∀ n,VOk nf (find env n):=by
 intro n
 induction env with
 | nil=>exact .unit
 | cons x xs ih =>
  obtain ⟨k,v⟩:=x
  simp only [find]
  split
  ·exact he (k,v) (by simp)
  ·exact ih fun y hy=>he y (by simp [hy])
theorem opV_ok {vars:List Int} {op n m:Int} {l:List Val} {v:Val} (hs:shape op l.length) (hn:numsOk nf vars op n m) (hl:∀ x∈l,VOk nf x) (h:opV op n l = .ok v):VOk nf v:=by
 have ha:VOk nf (l.getD 0 .unit):=getD_ok hl 0
 have hb:VOk nf (l.getD 1 .unit):=getD_ok hl 1
 unfold opV at h
 generalize l.getD 0 .unit=a at *
 generalize l.getD 1 .unit=b at *
 unfold opA at h
 by_cases o1:op=1
 ·rw [if_pos o1] at h
  subst_vars; cases h; exact .num _ (hn.2.1 rfl)
 rw [if_neg o1] at h
 by_cases o2:op=2
 ·rw [if_pos o2] at h
  cases h; exact .unit
 rw [if_neg o2] at h
 by_cases o8:op=8
 ·rw [if_pos o8] at h
  subst_vars; cases h
  refine .many 2 0 l (.inl ⟨rfl,rfl,?_⟩) hl
  simp [shape,arity] at hs; omega
 rw [if_neg o8] at h
 by_cases o9:op=9
 ·rw [if_pos o9] at h
  split at h <;> cases h
  rename_i x hx
  exact getD_ok (asMany_ok ha hx).1 _
 rw [if_neg o9] at h
 by_cases o10:op=10
 ·rw [if_pos o10] at h
  split at h <;> cases h
  rename_i x hx
  exact getD_ok (asMany_ok ha hx).1 _
 rw [if_neg o10] at h
 by_cases o11:op=11
 ·rw [if_pos o11] at h
  subst_vars; cases h
  refine .many 3 0 l (.inr (.inl ⟨rfl,.inl rfl,?_⟩)) hl
  simp [shape,arity] at hs; omega
 rw [if_neg o11] at h
 by_cases o12:op=12
 ·rw [if_pos o12] at h
  subst_vars; cases h
  refine .many 3 1 l (.inr (.inl ⟨rfl,.inr rfl,?_⟩)) hl
  simp [shape,arity] at hs; omega
 rw [if_neg o12] at h
 by_cases o15:op=15
 ·rw [if_pos o15] at h
  split at h
  ·cases h
  split at h
  ·cases h
  split at h <;> cases h
  rename_i x hx _ y hy _ z hz
  exact .num _ (doW_word (asNum_word ha hx) (asNum_word hb hy) hz)
 rw [if_neg o15] at h
 by_cases o16:op=16
 ·rw [if_pos o16] at h
  subst_vars; cases h
  simp [shape] at hs
  exact VOk.seq (by omega) hl
 rw [if_neg o16] at h
 by_cases o19:op=19
 ·rw [if_pos o19] at h
  split at h
  ·cases h
  split at h <;> cases h
  rename_i x hx hq
  refine VOk.seq (by simp [nums]; omega) (VOk.nums fun y hy => ?_)
  obtain ⟨i,hi,rfl⟩:=List.mem_map.1 hy
  have:=List.mem_range.1 hi
  rw [isWord_iff]; simp; omega
 rw [if_neg o19] at h
 by_cases o20:op=20
 ·rw [if_pos o20] at h
  split at h <;> cases h
  rename_i x hx
  have:=(asSeq_ok ha hx).2
  exact .num _ (by rw [isWord_iff]; omega)
 rw [if_neg o20] at h
 by_cases o21:op=21
 ·rw [if_pos o21] at h
  split at h
  ·cases h
  split at h
  ·cases h
  split at h <;> cases h
  rename_i x hx _ _ _ _
  exact getD_ok (asMany_ok ha hx).1 _
 rw [if_neg o21] at h
 by_cases o22:op=22
 ·rw [if_pos o22] at h
  split at h <;> cases h
  rename_i x hx
  exact .num _ (foldW_word (neutral_word _) (asWords_ok ha hx).2.1)
 rw [if_neg o22] at h
 by_cases o23:op=23
 ·rw [if_pos o23] at h
  split at h <;> cases h
  rename_i x hx
  obtain ⟨h1,h2,h3⟩:=asWords_ok ha hx
  exact VOk.seq (by simp [nums,scanW_length]; omega) (VOk.nums (scanW_word (neutral_word _) h2))
 rw [if_neg o23] at h
 by_cases o24:op=24
 ·rw [if_pos o24] at h
  split at h
  ·cases h
  split at h
  ·cases h
  split at h <;> cases h
  rename_i x hx _ y hy hq
  refine VOk.seq hq fun w hw => ?_
  obtain ⟨m,hm,hw⟩:=List.mem_flatten.1 hw
  exact ((asSeqs_ok (asSeq_ok ha hx).1 hy).2 m hm).1 w hw
 rw [if_neg o24] at h
 by_cases o25:op=25
 ·rw [if_pos o25] at h
  split at h
  ·cases h
  split at h
  ·cases h
  split at h <;> cases h
  rename_i x hx _ ks hk hq
  obtain ⟨h1,h2⟩:=asSeq_ok ha hx
  obtain ⟨h3,h4⟩:=cutL_ok (ks:=ks) h1 h2
  exact VOk.seq (by rw [h3]; exact (asWords_ok hb hk).2.2) h4
 rw [if_neg o25] at h
 ·split at h
  ·cases h
  split at h
  ·cases h
  split at h
  ·split at h <;> cases h
   rename_i x hx _ ks hk hq _ out ho
   obtain ⟨h1,h2⟩:=asSeq_ok ha hx
   obtain ⟨h3,h4⟩:=putL_ok h1 (by intro o ho; rw [(List.mem_replicate.1 ho).2]; intro v hv; cases hv) ho
   refine VOk.seq (by simp [h3]; omega) fun w hw => ?_
   obtain ⟨o,hm,rfl⟩:=List.mem_map.1 hw
   cases o with
   | none=>exact .unit
   | some v=>exact h4 _ hm v rfl
  ·cases h
end
def Res.All {α:Type} (r:Res α) (Q:α→St→Prop):Prop:=∀ a s,r = .ok a s→Q a s
theorem Res.All.bind {α β:Type} {r:Res α} {f:α→St→Res β} {Q:α→St→Prop} {Q':β→St→Prop} (h:r.All Q) (hf:∀ a s,Q a s→(f a s).All Q'):(r.bind f).All Q':=by
 intro b s e
 cases r with
 | ok a s'=>exact hf a s' (h a s' rfl) b s e
 | err=>cases e
theorem Res.All.ok {α:Type} {a:α} {s:St} {Q:α→St→Prop} (h:Q a s):(Res.ok a s).All Q:=by
 intro b s' e; cases e; exact h
theorem Res.All.err {α:Type} {e:Int} {i:Nat} {Q:α→St→Prop}:(Res.err e i:Res α).All Q:=by
 intro b s' h; cases h
theorem note_steps (t:NT) (v:Val) (s:St):(note t v s).steps=s.steps:=by
 unfold note
 split
 ·split <;> rfl
 ·rfl
theorem Wf.kid {nf:Nat} {vars:List Int} {t:NT} (h:Wf nf vars t) {k:Nat} (hk:k<t.l.length):Wf nf (bnd t.op t.n t.m k vars) (t.kid k):=by
 cases h with
 | mk _ i op n m l hs hn hl =>
  have e:NT.kid (.mk i op n m l) k=l[k]'hk:=by
   show l.getD k default=_
   rw [List.getD_eq_getElem?_getD,List.getElem?_eq_getElem (show k<l.length from hk)]
   rfl
  rw [e]
  exact hl k hk
theorem Wf.shape {nf:Nat} {vars:List Int} {t:NT} (h:Wf nf vars t):Mn.shape t.op t.l.length:=by cases h; assumption
theorem Wf.nums {nf:Nat} {vars:List Int} {t:NT} (h:Wf nf vars t):numsOk nf vars t.op t.n t.m:=by cases h; assumption
theorem evalL_ok {nf:Nat} {left:Nat} {ev:NT→Env→St→Res Val} {env:Env}:∀ {l:List NT} {s:St},s.steps≤left →
  (∀ t∈l,∀ s:St,s.steps≤left→(ev t env s).All fun v s'=>VOk nf v∧s.steps≤s'.steps∧s'.steps≤left) →
  (evalL ev env l s).All fun vs s'=>(∀ v∈vs,VOk nf v)∧vs.length=l.length∧s.steps≤s'.steps∧s'.steps≤left
 | [],s,hs,h=>Res.All.ok ⟨by simp,rfl,by omega,hs⟩
 | t :: ts,s,hs,h=>by
  refine (h t (by simp) s hs).bind fun v s1 h1 => ?_
  refine (evalL_ok h1.2.2 fun u hu=>h u (by simp [hu])).bind fun vs s2 h2 => ?_
  refine .ok ⟨?_,by simp [h2.2.1],by omega,h2.2.2.2⟩
  intro w hw
  rcases List.mem_cons.1 hw with rfl | hw
  ·exact h1.1
  ·exact h2.1 w hw
theorem eachD_ok {nf:Nat} {left:Nat} {ev:Env→St→Res Val} {t:NT} {env:Env}:∀ {l:List Val} {s:St},s.steps≤left→(∀ x∈l,VOk nf x) →
  (∀ x∈l,∀ s:St,s.steps≤left→(ev ((t.n,x) :: env) s).All fun v s'=>VOk nf v∧s.steps≤s'.steps∧s'.steps≤left) →
  (eachD ev t env l s).All fun vs s'=>(∀ v∈vs,VOk nf v)∧vs.length≤l.length∧s.steps≤s'.steps∧s'.steps≤left
 | [],s,hs,hl,h=>Res.All.ok ⟨by simp,by simp,by omega,hs⟩
 | x :: xs,s,hs,hl,h=>by
  refine (h x (by simp) s hs).bind fun v s1 h1 => ?_
  have ih:=eachD_ok (l:=xs) h1.2.2 (fun u hu=>hl u (by simp [hu])) fun u hu=>h u (by simp [hu])
  split
  ·refine ih.bind fun vs s2 h2 => ?_
   refine .ok ⟨?_,by simp; omega,by omega,h2.2.2.2⟩
   intro w hw
   rcases List.mem_cons.1 hw with rfl | hw
   ·exact h1.1
   ·exact h2.1 w hw
  ·split
   ·exact .err
   ·refine ih.bind fun vs s2 h2 => .ok ?_
    split
    ·exact ⟨h2.1,by simp; omega,by omega,h2.2.2.2⟩
    ·refine ⟨?_,by simp; omega,by omega,h2.2.2.2⟩
     intro w hw
     rcases List.mem_cons.1 hw with rfl | hw
     ·exact hl _ (by simp)
     ·exact h2.1 w hw
theorem evalD_ok {P:Pg} {left:Nat} (hP:PgOk P):∀ (d:Nat) (t:NT) (env:Env) (s:St),Wf P.length (env.map (·.1)) t→EnvOk P.length env→s.steps≤left →
  (evalD P left d t env s).All fun v s'=>VOk P.length v∧s.steps+1≤s'.steps∧s'.steps≤left
 | 0,t,env,s,hw,he,hs => .err
 | d+1,t,env,s,hw,he,hs=>by
  unfold evalD
  split
  ·exact .err
  rename_i hlt
  have hs1:(s.begin t.id).steps≤left:=by simp only [St.begin]; omega
  have e1:(s.begin t.id).steps=s.steps+1:=rfl
  have hsh:=hw.shape
  have hnm:=hw.nums
  have weak:∀ {t env s},Wf P.length (env.map (·.1)) t→EnvOk P.length env→s.steps≤left→(evalD P left d t env s).All fun v s'=>VOk P.length v∧s.steps≤s'.steps∧s'.steps≤left :=
   fun {t env s} a b c v s' e=>by have:=evalD_ok hP d t env s a b c v s' e; exact ⟨this.1,by omega,this.2.2⟩
  generalize s.begin t.id=s1 at *
  have kidL:∀ k,k<t.l.length→Wf P.length (bnd t.op t.n t.m k (env.map (·.1))) (t.kid k):=fun k hk=>hw.kid hk
  have cons:∀ {k v},VOk P.length v→EnvOk P.length ((k,v) :: env):=fun {k v} hv x hx=>by
   rcases List.mem_cons.1 hx with rfl | hx
   ·exact hv
   ·exact he x hx
  have hfun:∀ {i:Int},0≤i∧i<P.length→Wf P.length [(P.getD i.toNat default).1] (P.getD i.toNat default).2:=fun {i} hi=>by
   rw [List.getD_eq_getElem?_getD,List.getElem?_eq_getElem (show i.toNat<P.length by omega)]
   exact hP _ (List.getElem_mem _)
  unfold stepD
  by_cases o0:t.op=0
  ·rw [if_pos o0]
   exact .ok ⟨find_ok he _,by omega,hs1⟩
  rw [if_neg o0]
  by_cases o3:t.op=3
  ·rw [if_pos o3]
   have ho:=o3
   simp only [Mn.shape,ho,arity] at hsh
   have k0:=kidL 0 (by simp at hsh; omega)
   have k1:=kidL 1 (by simp at hsh; omega)
   simp [bnd,ho] at k0 k1
   refine (weak k0 he hs1).bind fun v s2 h2 => ?_
   intro w s3 e
   have:=weak (env:=(t.n,v) :: env) (by simpa using k1) (cons h2.1) h2.2.2 w s3 e
   exact ⟨this.1,by omega,this.2.2⟩
  rw [if_neg o3]
  by_cases o4:t.op=4
  ·rw [if_pos o4]
   have ho:=o4
   simp only [Mn.shape,ho,arity] at hsh
   have k0:=kidL 0 (by simp at hsh; omega)
   simp [bnd,ho] at k0
   exact .ok ⟨.fn _ _ _ k0 he,by omega,hs1⟩
  rw [if_neg o4]
  by_cases o6:t.op=6
  ·rw [if_pos o6]
   have ho:=o6
   exact .ok ⟨.fn _ _ _ (by simpa using hfun (hnm.2.2.1 (.inl ho))) (by simp),by omega,hs1⟩
  rw [if_neg o6]
  by_cases o7:t.op=7
  ·rw [if_pos o7]
   have ho:=o7
   simp only [Mn.shape,ho,arity] at hsh
   have k0:=kidL 0 (by simp at hsh; omega)
   simp [bnd,ho] at k0
   refine (weak k0 he hs1).bind fun v s2 h2 => ?_
   intro w s3 e
   have:=weak (env:=[((P.getD t.n.toNat default).1,v)]) (by simpa using hfun (hnm.2.2.1 (.inr ho))) (by intro x hx; rw [List.mem_singleton.1 hx]; exact h2.1) h2.2.2 w s3 e
   exact ⟨this.1,by omega,this.2.2⟩
  rw [if_neg o7]
  by_cases o5:t.op=5
  ·rw [if_pos o5]
   have ho:=o5
   simp only [Mn.shape,ho,arity] at hsh
   have k0:=kidL 0 (by simp at hsh; omega)
   have k1:=kidL 1 (by simp at hsh; omega)
   simp [bnd,ho] at k0 k1
   refine (weak k0 he hs1).bind fun f s2 h2 => ?_
   refine (weak k1 he h2.2.2).bind fun x s3 h3 => ?_
   split
   ·rename_i b p e
    obtain ⟨hb,hee⟩:Wf P.length (p :: e.map (·.1)) b∧∀ x∈e,VOk P.length x.2:=by
     cases h2.1; exact ⟨by assumption,by assumption⟩
    intro w s4 e'
    have:=weak (env:=(p,x) :: e) (by simpa using hb) (by
     intro y hy
     rcases List.mem_cons.1 hy with rfl | hy
     ·exact h3.1
     ·exact hee y hy) h3.2.2 w s4 e'
    exact ⟨this.1,by omega,this.2.2⟩
   ·exact .err
  rw [if_neg o5]
  by_cases o13:t.op=13
  ·rw [if_pos o13]
   have ho:=o13
   simp only [Mn.shape,ho,arity] at hsh
   have k0:=kidL 0 (by simp at hsh; omega)
   have k1:=kidL 1 (by simp at hsh; omega)
   have k2:=kidL 2 (by simp at hsh; omega)
   simp [bnd,ho] at k0 k1 k2
   refine (weak k0 he hs1).bind fun x s2 h2 => ?_
   split
   ·rename_i k tag l
    split
    ·have hx:VOk P.length (l.getD 0 .unit):=by
      cases h2.1 with
      | many _ _ _ _ hl=>exact getD_ok hl _
     split
     ·intro w s3 e
      have:=weak (env:=(t.n,l.getD 0 .unit) :: env) (by simpa using k1) (cons hx) h2.2.2 w s3 e
      exact ⟨this.1,by omega,this.2.2⟩
     ·intro w s3 e
      have:=weak (env:=(t.m,l.getD 0 .unit) :: env) (by simpa using k2) (cons hx) h2.2.2 w s3 e
      exact ⟨this.1,by omega,this.2.2⟩
    ·exact .err
   ·exact .err
  rw [if_neg o13]
  by_cases o14:t.op=14
  ·rw [if_pos o14]
   have ho:=o14
   simp only [Mn.shape,ho,arity] at hsh
   have k0:=kidL 0 (by simp at hsh; omega)
   have k1:=kidL 1 (by simp at hsh; omega)
   have k2:=kidL 2 (by simp at hsh; omega)
   simp [bnd,ho] at k0 k1 k2
   refine (weak k0 he hs1).bind fun x s2 h2 => ?_
   split
   ·split
    ·intro w s3 e
     have:=weak k2 he h2.2.2 w s3 e
     exact ⟨this.1,by omega,this.2.2⟩
    ·intro w s3 e
     have:=weak k1 he h2.2.2 w s3 e
     exact ⟨this.1,by omega,this.2.2⟩
   ·exact .err
  rw [if_neg o14]
  by_cases o17:t.op=17∨t.op=18
  ·rw [if_pos o17]
   have ho:=o17
   have hl2:t.l.length=2:=by
    rcases ho with ho | ho <;> · simp [Mn.shape,ho,arity] at hsh; omega
   have k0:=kidL 0 (by omega)
   have k1:=kidL 1 (by omega)
   have e0:bnd t.op t.n t.m 0 (env.map (·.1))=env.map (·.1):=by rcases ho with ho | ho <;> simp [bnd,ho]
   have e2:bnd t.op t.n t.m 1 (env.map (·.1))=t.n :: env.map (·.1):=by rcases ho with ho | ho <;> simp [bnd,ho]
   rw [e0] at k0
   rw [e2] at k1
   refine (weak k0 he hs1).bind fun x s2 h2 => ?_
   split
   ·rename_i l hl
    obtain ⟨hl1,hl4⟩:=asSeq_ok h2.1 hl
    refine (eachD_ok h2.2.2 hl1 fun x hx s hs=>weak (env:=(t.n,x) :: env) (by simpa using k1) (cons (hl1 x hx)) hs).bind fun out s3 h3 => .ok ?_
    exact ⟨VOk.seq (by omega) h3.1,by rw [note_steps]; omega,by rw [note_steps]; exact h3.2.2.2⟩
   ·exact .err
  rw [if_neg o17]
  refine (evalL_ok hs1 fun u hu s hs=>weak (env:=env) ?_ he hs).bind fun l s2 h2 => ?_
  ·obtain ⟨k,hk,rfl⟩:=List.mem_iff_getElem.1 hu
   have:=kidL k hk
   have e:bnd t.op t.n t.m k (env.map (·.1))=env.map (·.1):=by
    simp only [not_or] at o17
    simp [bnd,o4,o3,o17.1,o17.2,o13]
   rw [e] at this
   simpa [NT.kid,List.getD_eq_getElem?_getD,List.getElem?_eq_getElem hk] using this
  ·split
   ·exact .err
   ·rename_i v hv
    refine .ok ⟨opV_ok (by rw [h2.2.1]; exact hsh) hnm h2.1 hv,by rw [note_steps]; omega,by rw [note_steps]; exact h2.2.2.2⟩
abbrev Adr:=Nat→Prop
structure Grow (E S:Adr) (h:Heap) (S':Adr) (h':Heap):Prop where
 sub:∀ b,S b→S' b
 new:∀ b,S' b→S b∨h.length≤b
 len:h.length≤h'.length
 same:∀ b,b<h.length→¬ E b→h'[b]?=h[b]?
structure Stab (E S:Adr) (h:Heap):Prop where
 lt:∀ b,S b→b<h.length
 ne:∀ b,S b→¬ E b
abbrev No:Adr:=fun _=>False
theorem objCells_same {h h':Heap} {b:Nat} (e:h'[b]?=h[b]?):objCells h' b=objCells h b:=by simp only [objCells,e]
section
variable {E E' S S1 S2:Adr} {h h1 h2:Heap}
theorem Grow.refl:Grow E S h S h:=⟨fun _ hb=>hb,fun _ hb => .inl hb,Nat.le_refl _,fun _ _ _=>rfl⟩
theorem Grow.trans (a:Grow E S h S1 h1) (b:Grow E S1 h1 S2 h2):Grow E S h S2 h2 :=
 ⟨fun x hx=>b.sub x (a.sub x hx),fun x hx=>by
  rcases b.new x hx with hx | hx
  ·exact a.new x hx
  ·exact .inr (Nat.le_trans a.len hx),Nat.le_trans a.len b.len,fun x hx he=>by rw [b.same x (Nat.lt_of_lt_of_le hx a.len) he,a.same x hx he]⟩
theorem Grow.weak (a:Grow E S h S1 h1) (he:∀ b,E b→E' b):Grow E' S h S1 h1:=⟨a.sub,a.new,a.len,fun b hb hn=>a.same b hb fun h=>hn (he b h)⟩
theorem Grow.any (a:Grow No S h S1 h1):Grow E S h S1 h1:=a.weak fun _ h=>h.elim
theorem Grow.back (a:Grow E S h S1 h1):Grow E S h S h1:=⟨fun _ h=>h,fun _ h => .inl h,a.len,a.same⟩
theorem Grow.cells (g:Grow E S h S1 h1) {b:Nat} (hb:b<h.length) (hr:¬ E b):objCells h1 b=objCells h b:=objCells_same (g.same b hb hr)
theorem Grow.at (g:Grow E S h S1 h1) (hs:Stab E S h) {b:Nat} (hb:S b):objCells h1 b=objCells h b:=g.cells (hs.lt b hb) (hs.ne b hb)
theorem Grow.notS (g:Grow E S h S1 h1) {b:Nat} (hb:b<h.length) (hn:¬ S b):¬ S1 b:=fun hx=>by
 rcases g.new b hx with hx | hx
 ·exact hn hx
 ·omega
theorem Grow.app (X:Heap):Grow E S h S (h++X):=⟨fun _ hb=>hb,fun _ hb => .inl hb,by simp,fun b hb _=>List.getElem?_append_left hb⟩
theorem Grow.push (g:Grow E S h S1 h1) {b:Nat} (hb:h.length≤b):Grow E S h (fun x=>S1 x∨x=b) h1 :=
 ⟨fun x hx => .inl (g.sub x hx),fun x hx=>by
  rcases hx with hx | rfl
  ·exact g.new x hx
  ·exact .inr hb,g.len,g.same⟩
theorem Grow.set (g:Grow E S h S1 h1) {b:Nat} (hb:h.length≤b∨E b) (o:Am.Obj):Grow E S h S1 (h1.set b o) :=
 ⟨g.sub,g.new,by simpa using g.len,fun x hx he=>by
  have:b≠x:=by
   rintro rfl
   rcases hb with hb | hb
   ·omega
   ·exact he hb
  rw [List.getElem?_set_ne this]; exact g.same x hx he⟩
theorem Stab.push (s:Stab E S h) {b:Nat} (hb:b<h.length) (he:¬ E b):Stab E (fun x=>S x∨x=b) h :=
 ⟨fun x hx=>by rcases hx with hx | rfl; exact s.lt x hx; exact hb,fun x hx=>by rcases hx with hx | rfl; exact s.ne x hx; exact he⟩
theorem Stab.len (s:Stab E S h) (hl:h.length≤h1.length):Stab E S h1:=⟨fun b hb=>Nat.lt_of_lt_of_le (s.lt b hb) hl,s.ne⟩
theorem Stab.no (s:Stab E S h):Stab No S h:=⟨s.lt,fun _ _ h=>h⟩
theorem Stab.grow (s:Stab E S h) (g:Grow No S h S1 h1) (s1:Stab No S1 h1) (he:∀ b,E b→b<h.length):Stab E S1 h1 :=
 ⟨s1.lt,fun b hb hE=>by
  rcases g.new b hb with h | h
  ·exact s.ne b h hE
  ·have:=he b hE; omega⟩
end
inductive RSl (S:Adr) (h:Heap):V→List V→Prop
 | nil:RSl S h .nils []
 | sv (l:List V) (ex:Bool):RSl S h (.sv (l.map fun x=>[x]) ex) l
 | sl (b off len g:Nat) (ex:Bool) (cs:List V) (hS:S b) (ho:objCells h b=some (g,1,cs)) (hc:cs.length=g) (hl:off+len≤g):RSl S h (.sl b off len g 1 ex) ((cs.drop off).take len)
def Agr (S:Adr) (h h':Heap):Prop:=∀ b,S b→objCells h' b=objCells h b
theorem Grow.agr {E S S1:Adr} {h h1:Heap} (g:Grow E S h S1 h1) (hs:Stab E S h):Agr S h h1:=fun b hb=>g.at hs hb
theorem Agr.set {S:Adr} {h:Heap} {b:Nat} (hb:¬ S b) (o:Am.Obj):Agr S h (h.set b o):=fun x hx=>by
 have:b≠x:=fun e=>hb (e ▸ hx)
 simp only [objCells,List.getElem?_set_ne this]
theorem Agr.app {S:Adr} {h:Heap} (hs:∀ b,S b→b<h.length) (X:Heap):Agr S h (h++X):=fun x hx=>by
 simp only [objCells,List.getElem?_append_left (hs x hx)]
theorem Agr.trans {S:Adr} {h h1 h2:Heap} (a:Agr S h h1) (b:Agr S h1 h2):Agr S h h2:=fun x hx=>(b x hx).trans (a x hx)
section
variable {S S':Adr} {h h':Heap} {v:V} {l:List V}
theorem RSl.mono (hr:RSl S h v l) (hS:∀ b,S b→S' b) (ha:Agr S h h'):RSl S' h' v l:=by
 cases hr with
 | nil=>exact .nil
 | sv l ex=>exact .sv l ex
 | sl b off len g ex cs hs ho hc hl=>exact .sl b off len g ex cs (hS b hs) ((ha b hs).trans ho) hc hl
theorem RSl.lenS (hr:RSl S h v l):lenV v=some (.int .i64 l.length):=by
 cases hr with
 | nil=>rfl
 | sv l ex=>simp
 | sl b off len g ex cs hs ho hc hl=>simp only [lenV_sl,List.length_take,List.length_drop]; congr 2; omega
theorem RSl.slen (hr:RSl S h v l):sliceLen v=some l.length:=by
 cases hr with
 | nil=>rfl
 | sv l ex=>simp [sliceLen]
 | sl b off len g ex cs hs ho hc hl=>simp only [sliceLen,List.length_take,List.length_drop]; congr 1; omega
theorem RSl.cells (hr:RSl S h v l):sliceCells h v=some l:=by
 cases hr with
 | nil=>rfl
 | sv l ex=>simp only [sliceCells]; congr 1; induction l with
  | nil=>rfl
  | cons x xs ih=>simp only [List.map_cons,List.flatten_cons,ih]; rfl
 | sl b off len g ex cs hs ho hc hl=>simp [sliceCells,ho,hl]
theorem RSl.cell (hr:RSl S h v l):isCell v=true:=by cases hr <;> rfl
theorem cellsV_cell {v:V} (hc:isCell v=true):cellsV v=[v]:=by cases v <;> simp_all [isCell]
theorem RSl.cellsV (hr:RSl S h v l):cellsV v=[v]:=cellsV_cell hr.cell
theorem RSl.idx (hr:RSl S h v l) {i:Nat} (hi:i<l.length):∃ r,idxV v i 1=some r∧(isCell l[i]=true→∀ h',Agr S h h'→loadV h' r 1 false=some l[i]):=by
 cases hr with
 | nil=>simp at hi
 | sv l ex =>
  refine ⟨.pv [l[i]],?_,fun hc h' _ => ?_⟩
  ·simp [idxV,hi]
  ·simp [loadV,mkV]
 | sl b off len g ex cs hs ho hc hl =>
  simp only [List.length_take,List.length_drop] at hi
  have hlt:off+i<cs.length:=by omega
  have hlen:i<len:=by omega
  have e:((cs.drop off).take len)[i]'(by simp; omega)=cs[off+i]:=by simp
  refine ⟨.ref b ((off+i) * 1) g,?_,fun _ h' ha => ?_⟩
  ·have h1:(i:Int)<len:=by omega
   simp [idxV,h1]
  ·have ho':=(ha b hs).trans ho
   have:(cs.drop (off+i)).take 1=[cs[off+i]]:=by rw [List.drop_eq_getElem_cons hlt]; rfl
   simp only [loadV,ho',Nat.mul_one,true_and]
   rw [if_pos (by omega),this,e]
   rfl
theorem Agr.refl:Agr S h h:=fun _ _=>rfl
end
mutual
def szN:Val→Nat
 | .many _ _ l=>szNL 1 l
 | _=>1
def szNL (a:Nat):List Val→Nat
 | []=>a
 | x :: xs=>szNL (min 20001 (a+szN x)) xs
end
mutual
def szD:Val→Nat
 | .many _ _ l=>szDL 1 l
 | _=>1
def szDL (a:Nat):List Val→Nat
 | []=>a
 | x :: xs=>szDL (max a (min 12 (szD x)+1)) xs
end
mutual
def szF:Val→Bool
 | .many _ _ l=>szFL false l
 | .fn .. => true
 | _=>false
def szFL (a:Bool):List Val→Bool
 | []=>a
 | x :: xs=>szFL (a||szF x) xs
end
inductive RN (S:Adr) (h:Heap):NT→Nat→Prop
 | mk (b id:Nat) (op n m:Int) (l:List NT) (lv kv:V) (rs:List V) (bs:Nat→Nat) (hS:S b) (ho:objCells h b=some (1,6,[.int .i64 op,.int .i64 n,.int .i64 m,lv,.int .i64 id,kv]))
   (hk:RSl S h kv rs) (hl:rs.length=l.length) (hr:∀ i,i<l.length→rs[i]?=some (.ref (bs i) 0 1)) (hq:∀ i,∀ hi:i<l.length,RN S h l[i] (bs i)):RN S h (.mk id op n m l) b
mutual
inductive RV (S:Adr) (h:Heap):Val→V→Prop
 | num (n:Int):RV S h (.num n) (.iface 254 (.int .i64 n))
 | unit:RV S h .unit (.iface 256 (.agg []))
 | many (k t:Int) (l:List Val) (lv:V) (vs:List V) (hs:RSl S h lv vs) (hl:vs.length=l.length) (hq:∀ i,∀ h1:i<l.length,∀ h2:i<vs.length,RV S h l[i] vs[i]) :
   RV S h (.many k t l) (.iface 293 (.agg [.int .i64 (szNL 1 l),.int .i64 (szDL 1 l),.bool (szFL false l),.int .i64 k,.int .i64 t,lv]))
 | fn (b:NT) (p:Int) (env:Env) (nb:Nat) (sv:V) (hn:RN S h b nb) (he:RE S h env sv):RV S h (.fn b p env) (.iface 290 (.agg [.ref nb 0 1,.int .i64 p,sv]))
inductive RE (S:Adr) (h:Heap):Env→V→Prop
 | nil:RE S h [] .nilp
 | cons (b:Nat) (n:Int) (v:Val) (x up:V) (r:Env) (hS:S b) (ho:objCells h b=some (1,3,[.int .i64 n,x,up])) (hv:RV S h v x) (hr:RE S h r up):RE S h ((n,v) :: r) (.ref b 0 1)
end
section
variable {S S':Adr} {h h':Heap}
theorem RN.mono (hS:∀ b,S b→S' b) (ha:Agr S h h'):∀ {t:NT} {b:Nat},RN S h t b→RN S' h' t b:=by
 intro t b hr
 induction hr with
 | mk b id op n m l lv kv rs bs hs ho hk hl hr hq ih=>exact .mk b id op n m l lv kv rs bs (hS b hs) ((ha b hs).trans ho) (hk.mono hS ha) hl hr ih
mutual
theorem RV.mono (hS:∀ b,S b→S' b) (ha:Agr S h h'):∀ {v:Val} {x:V},RV S h v x→RV S' h' v x
 | _,_,.num n => .num n
 | _,_,.unit => .unit
 | _,_,.many k t l lv vs hs hl hq => .many k t l lv vs (hs.mono hS ha) hl fun i h1 h2=>RV.mono hS ha (hq i h1 h2)
 | _,_,.fn b p env nb sv hn he => .fn b p env nb sv (hn.mono hS ha) (RE.mono hS ha he)
theorem RE.mono (hS:∀ b,S b→S' b) (ha:Agr S h h'):∀ {e:Env} {x:V},RE S h e x→RE S' h' e x
 | _,_,.nil => .nil
 | _,_,.cons b n v x up r hs ho hv hr => .cons b n v x up r (hS b hs) ((ha b hs).trans ho) (RV.mono hS ha hv) (RE.mono hS ha hr)
end
theorem RV.cell {v:Val} {x:V} (hr:RV S h v x):isCell x=true:=by cases hr <;> rfl
theorem RE.cell {v:Env} {x:V} (hr:RE S h v x):isCell x=true:=by cases hr <;> rfl
structure RVs (S:Adr) (h:Heap) (l:List Val) (vs:List V):Prop where
 len:vs.length=l.length
 at_:∀ i,∀ h1:i<l.length,∀ h2:i<vs.length,RV S h l[i] vs[i]
theorem RVs.mono {l:List Val} {vs:List V} (hr:RVs S h l vs) (hS:∀ b,S b→S' b) (ha:Agr S h h'):RVs S' h' l vs:=⟨hr.len,fun i h1 h2=>(hr.at_ i h1 h2).mono hS ha⟩
theorem RVs.nil:RVs S h [] []:=⟨rfl,fun i h1=>by simp at h1⟩
theorem RVs.snoc {l:List Val} {vs:List V} {v:Val} {x:V} (hr:RVs S h l vs) (hv:RV S h v x):RVs S h (l++[v]) (vs++[x]):=by
 refine ⟨by simp [hr.len],fun i h1 h2 => ?_⟩
 have hl:=hr.len
 simp only [List.length_append,List.length_singleton] at h1 h2
 by_cases hi:i<l.length
 ·rw [List.getElem_append_left hi,List.getElem_append_left (by omega)]
  exact hr.at_ i hi (by omega)
 ·obtain rfl:i=l.length:=by omega
  simp only [List.getElem_append_right (Nat.le_refl _),Nat.sub_self,List.getElem_singleton]
  rw [List.getElem_append_right (by omega)]
  simpa [hl] using hv
theorem RVs.append {l l2:List Val} {vs vs2:List V} (hr:RVs S h l vs) (hv:RVs S h l2 vs2):RVs S h (l++l2) (vs++vs2):=by
 have h1:=hr.len
 have h2:=hv.len
 refine ⟨by simp [h1,h2],fun i g1 g2 => ?_⟩
 simp only [List.length_append] at g1 g2
 by_cases hi:i<l.length
 ·rw [List.getElem_append_left hi,List.getElem_append_left (by omega)]
  exact hr.at_ i hi (by omega)
 ·rw [List.getElem_append_right (by omega),List.getElem_append_right (by omega)]
  have:=hv.at_ (i - l.length) (by omega) (by omega)
  simpa [h1] using this
theorem RVs.take {l:List Val} {vs:List V} (hr:RVs S h l vs) (k:Nat):RVs S h (l.take k) (vs.take k):=by
 have h1:=hr.len
 refine ⟨by simp [h1],fun i g1 g2 => ?_⟩
 simp only [List.length_take] at g1 g2
 rw [List.getElem_take,List.getElem_take]
 exact hr.at_ i (by omega) (by omega)
theorem RVs.drop {l:List Val} {vs:List V} (hr:RVs S h l vs) (k:Nat):RVs S h (l.drop k) (vs.drop k):=by
 have h1:=hr.len
 refine ⟨by simp [h1],fun i g1 g2 => ?_⟩
 simp only [List.length_drop] at g1 g2
 rw [List.getElem_drop,List.getElem_drop]
 exact hr.at_ (k+i) (by omega) (by omega)
theorem RVs.cell {l:List Val} {vs:List V} (hr:RVs S h l vs):∀ x∈vs,isCell x=true:=by
 intro x hx
 obtain ⟨i,hi,rfl⟩:=List.mem_iff_getElem.1 hx
 exact (hr.at_ i (by have:=hr.len; omega) hi).cell
theorem RV.manyI {k t:Int} {l:List Val} {x:V} (hr:RV S h (.many k t l) x):∃ lv vs,x = .iface 293 (.agg [.int .i64 (szNL 1 l),.int .i64 (szDL 1 l),.bool (szFL false l),.int .i64 k,.int .i64 t,lv])∧RSl S h lv vs∧RVs S h l vs:=by
 cases hr with
 | many _ _ _ lv vs hs hl hq=>exact ⟨lv,vs,rfl,hs,hl,hq⟩
theorem RV.ofMany {k t:Int} {l:List Val} {lv:V} {vs:List V} (hs:RSl S h lv vs) (hq:RVs S h l vs) :
  RV S h (.many k t l) (.iface 293 (.agg [.int .i64 (szNL 1 l),.int .i64 (szDL 1 l),.bool (szFL false l),.int .i64 k,.int .i64 t,lv])):=.many k t l lv vs hs hq.len hq.at_
end
theorem szN_le (v:Val):szN v≤20001:=by
 have key:∀ (l:List Val) (a:Nat),a≤20001→szNL a l≤20001:=by
  intro l
  induction l with
  | nil=>intro a ha; exact ha
  | cons x xs ih=>intro a ha; rw [szNL]; exact ih _ (by omega)
 cases v <;> simp [szN]
 exact key _ _ (by omega)
theorem szD_le (v:Val):szD v≤13:=by
 have key:∀ (l:List Val) (a:Nat),a≤13→szDL a l≤13:=by
  intro l
  induction l with
  | nil=>intro a ha; exact ha
  | cons x xs ih=>intro a ha; rw [szDL]; exact ih _ (by omega)
 cases v <;> simp [szD]
 exact key _ _ (by omega)
theorem szNL_snoc (l:List Val) (x:Val) (a:Nat):szNL a (l++[x])=min 20001 (szNL a l+szN x):=by
 induction l generalizing a with
 | nil=>simp [szNL]
 | cons y ys ih=>simp only [List.cons_append,szNL,ih]
theorem szDL_snoc (l:List Val) (x:Val) (a:Nat):szDL a (l++[x])=max (szDL a l) (min 12 (szD x)+1):=by
 induction l generalizing a with
 | nil=>simp [szDL]
 | cons y ys ih=>simp only [List.cons_append,szDL,ih]
theorem szFL_snoc (l:List Val) (x:Val) (a:Bool):szFL a (l++[x])=(szFL a l||szF x):=by
 induction l generalizing a with
 | nil=>simp [szFL]
 | cons y ys ih=>simp only [List.cons_append,szFL,ih]
theorem szNL_le (l:List Val):szNL 1 l≤20001:=szN_le (.many 0 0 l)
theorem szDL_le (l:List Val):szDL 1 l≤13:=szD_le (.many 0 0 l)
abbrev PC (f:Nat) (args:List V) (v:V):Prop:=pcall (lim gl Trmn.aprog) (.func (.func f) [] []) args=some (.val v)
abbrev CC (f:Nat) (args:List V) (h:Heap) (r:R) (h':Heap):Prop:=(lim gl Trmn.aprog).call f args h=some (r,h')
abbrev RO (f:Nat) (args:List V) (h:Heap) (r:R):Prop:=(lim gl Trmn.aprog).ro f args h=some r
theorem pc_ofW {f:Nat} {args:List V} {v:V} (hp:pureL args=true) (hc:CallP gl Trmn.aprog f args [] (fun r h'=>∃ u,r = .ret u∧viewW 0 h' u=some v)):PC f args v:=by
 obtain ⟨r,h',e,u,rfl,hv⟩:=OptP.ex hc
 simp [PC,pcall,callee,hp,e,hv]
theorem pc_of {f:Nat} {args:List V} {v:V} (hp:pureL args=true) (hv:∀ h,viewW 0 h v=some v) (hc:CallP gl Trmn.aprog f args [] (fun r h'=>r = .ret v)):PC f args v :=
 pc_ofW hp (CallP.mono hc fun r h' e=>⟨v,e,hv h'⟩)
abbrev stopV (e:Int) (i:Nat):V:=.iface 85 (.agg [.int .i64 e,.int .i64 i])
section
variable {S:Adr} {h:Heap}
theorem RN.node {t:NT} {b:Nat} (hr:RN S h t b):∃ lv kv rs,S b∧objCells h b=some (1,6,[.int .i64 t.op,.int .i64 t.n,.int .i64 t.m,lv,.int .i64 t.id,kv])∧RSl S h kv rs∧rs.length=t.l.length ∧
  ∀ i,i<t.l.length→∃ b',rs[i]?=some (.ref b' 0 1)∧RN S h (t.kid i) b':=by
 cases hr with
 | mk b id op n m l lv kv rs bs hS ho hk hl hr hq =>
  refine ⟨lv,kv,rs,hS,ho,hk,hl,fun i hi=>⟨bs i,hr i hi,?_⟩⟩
  have e:NT.kid (.mk id op n m l) i=l[i]'hi:=by
   show l.getD i default=_
   rw [List.getD_eq_getElem?_getD,List.getElem?_eq_getElem (show i<l.length from hi)]
   rfl
  rw [e]
  exact hq i hi
theorem need_q {t:NT} {b:Nat} (hr:RN S h t b) (c:Bool) (e:Int):RO 122 [.bool c,.ref b 0 1,.int .i64 e] h (if c then .ret (.tup []) else .pan (stopV e t.id)):=by
 obtain ⟨lv,kv,rs,_,ho,_,_,_⟩:=hr.node
 refine ro_eq (af:=Trmn.a122) rfl (CallP.eq (call_ofQ (af:=Trmn.a122) rfl rfl fun Q hQ => ?_))
 simp only [Trmn.a122]
 cases c
 ·simp [ho,slotOf]
  exact hQ _ _ ⟨rfl,rfl⟩
 ·simp [ho,slotOf]
  exact hQ _ _ ⟨rfl,rfl⟩
theorem word_q {t:NT} {b:Nat} (hr:RN S h t b) {v:Val} {x:V} (hv:RV S h v x):RO 213 [.ref b 0 1,x] h (match asNum v with | some n => .ret (.int .i64 n) | none => .pan (stopV 15 t.id)):=by
 have hn1:=need_q hr true 15
 have hn0:=need_q hr false 15
 rw [RO] at hn1 hn0
 refine ro_eq (af:=Trmn.a213) rfl (CallP.eq (call_ofQ (af:=Trmn.a213) rfl rfl fun Q hQ => ?_))
 simp only [Trmn.a213]
 cases hv with
 | num n =>
  simp [hn1,rocall,callee,asNum,slotOf]
  exact hQ _ _ ⟨rfl,rfl⟩
 | unit =>
  simp [hn0,rocall,callee,asNum,slotOf]
  exact hQ _ _ ⟨rfl,rfl⟩
 | many k tt l lv vs hs hl hq =>
  simp [hn0,rocall,callee,asNum,slotOf]
  exact hQ _ _ ⟨rfl,rfl⟩
 | fn bb p env nb sv hn he =>
  simp [hn0,rocall,callee,asNum,slotOf]
  exact hQ _ _ ⟨rfl,rfl⟩
theorem many_q {t:NT} {b:Nat} (hr:RN S h t b) (k:Int) {v:Val} {x:V} (hv:RV S h v x) :
  match asMany k v with
  | some l=>∃ a b' c tt lv vs,RO 212 [.ref b 0 1,.int .i64 k,x] h (.ret (.agg [a,b',c,.int .i64 k,.int .i64 tt,lv]))∧RSl S h lv vs∧RVs S h l vs∧v = .many k tt l∧isCell a=true∧isCell b'=true∧isCell c=true
  | none=>RO 212 [.ref b 0 1,.int .i64 k,x] h (.pan (stopV 15 t.id)):=by
 have hn1:=need_q hr true 15
 have hn0:=need_q hr false 15
 rw [RO] at hn1 hn0
 have key:∀ r,(∀ Q:R→Heap→Prop,Q r h→WX (lim gl Trmn.aprog) gl Trmn.a212.body ⟨initSlots Trmn.a212.slots [.ref b 0 1,.int .i64 k,x],[],none,none,h⟩ (leaveQ gl Trmn.aprog Trmn.a212.results Q))→RO 212 [.ref b 0 1,.int .i64 k,x] h r :=
  fun r hw=>ro_eq (af:=Trmn.a212) rfl (CallP.eq (call_ofQ (af:=Trmn.a212) rfl rfl fun Q hQ=>hw Q (hQ _ _ ⟨rfl,rfl⟩)))
 cases hv with
 | num n =>
  refine key _ fun Q hQ => ?_
  simp only [Trmn.a212]
  simp [hn0,rocall,callee,slotOf]
  exact hQ
 | unit =>
  refine key _ fun Q hQ => ?_
  simp only [Trmn.a212]
  simp [hn0,rocall,callee,slotOf]
  exact hQ
 | fn bb p env nb sv hn he =>
  refine key _ fun Q hQ => ?_
  simp only [Trmn.a212]
  simp [hn0,rocall,callee,slotOf]
  exact hQ
 | many k' tt l lv vs hs hl hq =>
  by_cases hk:k'=k
  ·subst hk
   simp only [asMany,if_true]
   refine ⟨.int .i64 (szNL 1 l),.int .i64 (szDL 1 l),.bool (szFL false l),tt,lv,vs,key _ fun Q hQ => ?_,hs,⟨hl,hq⟩,rfl,rfl,rfl,rfl⟩
   simp only [Trmn.a212]
   have hcell:=hs.cell
   simp [hn1,rocall,callee,slotOf,hcell]
   exact hQ
  ·simp only [asMany,hk,if_false]
   refine key _ fun Q hQ => ?_
   simp only [Trmn.a212]
   have hcell:=hs.cell
   have hk':(k' == k)=false:=by simpa using hk
   simp [hn0,rocall,callee,slotOf,hcell,hk']
   exact hQ
theorem list_q {t:NT} {b:Nat} (hr:RN S h t b) {v:Val} {x:V} (hv:RV S h v x) :
  match asMany 4 v with
  | some l=>∃ lv vs,RO 215 [.ref b 0 1,x] h (.ret lv)∧RSl S h lv vs∧RVs S h l vs
  | none=>RO 215 [.ref b 0 1,x] h (.pan (stopV 15 t.id)):=by
 have key:∀ r,(∀ Q:R→Heap→Prop,Q r h→WX (lim gl Trmn.aprog) gl Trmn.a215.body ⟨initSlots Trmn.a215.slots [.ref b 0 1,x],[],none,none,h⟩ (leaveQ gl Trmn.aprog Trmn.a215.results Q))→RO 215 [.ref b 0 1,x] h r :=
  fun r hw=>ro_eq (af:=Trmn.a215) rfl (CallP.eq (call_ofQ (af:=Trmn.a215) rfl rfl fun Q hQ=>hw Q (hQ _ _ ⟨rfl,rfl⟩)))
 have hm:=many_q hr 4 hv
 split at hm
 ·obtain ⟨a,b',c,tt,lv,vs,h1,h2,h3,rfl,_⟩:=hm
  rename_i l hl
  refine ⟨lv,vs,key _ fun Q hQ => ?_,h2,h3⟩
  rw [RO] at h1
  simp only [Trmn.a215]
  simp [h1,rocall,callee,slotOf,partV,mkV]
  exact hQ
 ·refine key _ fun Q hQ => ?_
  rw [RO] at hm
  simp only [Trmn.a215]
  simp [hm,rocall,callee,slotOf]
  exact hQ
end
theorem cc_of {f:Nat} {af:AFunc} {args:List V} {h h':Heap} {r:R} (hA:Trmn.aprog f=some af) (hn:args.length=af.nparams)
  (hw:∀ Q:R→Heap→Prop,Q r h'→WX (lim gl Trmn.aprog) gl af.body ⟨initSlots af.slots args,[],none,none,h⟩ (leaveQ gl Trmn.aprog af.results Q)) (hi:af.ins.isEmpty=true:=by rfl):CC f args h r h' :=
 CallP.eq (call_ofQ hA hn (fun Q hQ=>hw Q (hQ _ _ ⟨rfl,rfl⟩)) hi)
theorem ro_of {f:Nat} {af:AFunc} {args:List V} {h:Heap} {r:R} (hA:Trmn.aprog f=some af) (hn:args.length=af.nparams)
  (hw:∀ Q:R→Heap→Prop,Q r h→WX (lim gl Trmn.aprog) gl af.body ⟨initSlots af.slots args,[],none,none,h⟩ (leaveQ gl Trmn.aprog af.results Q)) (hi:af.ins.isEmpty=true:=by rfl) (hr:roC af.body=true:=by rfl):RO f args h r :=
 ro_eq hA (cc_of hA hn hw hi) hr
section
variable {S:Adr} {h:Heap}
theorem find_q {env:Env} {sv:V} (hr:RE S h env sv) (n:Int) (hn:n∈env.map (·.1)):∃ x,RO 211 [sv,.int .i64 n] h (.ret x)∧RV S h (find env n) x:=by
 have key:CallP gl Trmn.aprog 211 [sv,.int .i64 n] h (fun r h'=>h'=h∧∃ x,r = .ret x∧RV S h (find env n) x):=by
  refine call_ofQ (af:=Trmn.a211) rfl rfl fun Q hQ => ?_
  simp only [Trmn.a211]
  simp [slotOf]
  refine loop_nQ env.length (fun i c=>∃ env' sv' fl,RE S h env' sv'∧find env' n=find env n∧n∈env'.map (·.1)∧env'.length+i=env.length∧c=⟨[sv',.int .i64 n,.nili],[],fl,none,h⟩) ?_ ⟨env,sv,none,hr,rfl,hn,by omega,rfl⟩
  rintro I hI i c hi ⟨env',sv',fl,hr',hf,hn',hl,rfl⟩
  cases hr' with
  | nil=>simp at hn'
  | cons b k v x up r hS ho hv hr' =>
   by_cases hk:k=n
   ·subst hk
    simp only [find,if_true] at hf
    simp [ho,slotOf]
    exact hQ _ _ ⟨rfl,x,rfl,hf ▸ hv⟩
   ·have hn2:n∈r.map (·.1):=by
     simp only [List.map_cons,List.mem_cons] at hn'
     exact hn'.resolve_left (Ne.symm hk)
    simp only [find,hk,if_false] at hf
    simp only [List.length_cons] at hl
    have hk':(k != n)=true:=by simpa using hk
    simp [ho,hk',slotOf]
    exact ⟨by omega,hI _ _ ⟨r,up,_,hr',hf,hn2,by omega,rfl⟩⟩
 obtain ⟨r,h',e,rfl,x,rfl,hx⟩:=OptP.ex key
 exact ⟨x,ro_eq (af:=Trmn.a211) rfl e,hx⟩
theorem with_q (up x:V) (n:Int) (hu:isCell up=true) (hx:isCell x=true):CC 174 [up,.int .i64 n,x] h (.ret (.ref h.length 0 1)) (h++[.cells 1 3 [.int .i64 n,x,up]]):=by
 refine cc_of (af:=Trmn.a174) rfl rfl fun Q hQ => ?_
 simp only [Trmn.a174]
 have h1:=hx
 have h2:=hu
 have e1:cellsV x=[x]:=by cases x <;> simp_all [isCell]
 have e2:cellsV up=[up]:=by cases up <;> simp_all [isCell]
 simp [slotOf,fill,h1,h2,e1,e2]
 exact hQ
theorem size_q {v:Val} {x:V} (hv:RV S h v x) (c:Cfg) (rest:List AOper):∃ f y,methV [(254,314),(256,316),(290,318),(293,320)] x=some (.func (.func f) [y] [])∧CC f [y] h (.ret (.agg [.int .i64 (szN v),.int .i64 (szD v),.bool (szF v)])) h:=by
 cases hv with
 | num n =>
  refine ⟨314,.int .i64 n,rfl,cc_of (af:=Trmn.a314) rfl rfl fun Q hQ => ?_⟩
  simp only [Trmn.a314]
  simp [slotOf,fill]
  exact hQ
 | unit =>
  refine ⟨316,.agg [],rfl,cc_of (af:=Trmn.a316) rfl rfl fun Q hQ => ?_⟩
  simp only [Trmn.a316]
  simp [slotOf,fill]
  exact hQ
 | fn b p env nb sv hn he =>
  refine ⟨318,_,rfl,cc_of (af:=Trmn.a318) rfl rfl fun Q hQ => ?_⟩
  simp only [Trmn.a318]
  have hc:=he.cell
  simp [slotOf,fill,hc]
  exact hQ
 | many k t l lv vs hs hl hq =>
  refine ⟨320,_,rfl,cc_of (af:=Trmn.a320) rfl rfl fun Q hQ => ?_⟩
  simp only [Trmn.a320]
  have hc:=hs.cell
  simp [slotOf,fill,hc,mkV]
  exact hQ
theorem made_q {l:List Val} {lv:V} {vs:List V} (hs:RSl S h lv vs) (hq:RVs S h l vs) (hlen:l.length<2 ^ 60) (k t:Int) :
  CC 175 [.int .i64 k,.int .i64 t,lv] h (.ret (.iface 293 (.agg [.int .i64 (szNL 1 l),.int .i64 (szDL 1 l),.bool (szFL false l),.int .i64 k,.int .i64 t,lv]))) h:=by
 have hlv:=hs.lenS
 have hlc:=hs.cell
 have hvl:=hq.len
 refine cc_of (af:=Trmn.a175) rfl rfl fun Q hQ => ?_
 simp only [Trmn.a175]
 simp [slotOf,fill,hlv,hvl]
 refine loop_nQ l.length (fun i c=>∃ s5 s6 fl,c=⟨[.int .i64 k,.int .i64 t,lv,.nili,.agg [.int .i64 (szNL 1 (l.take i)),.int .i64 (szDL 1 (l.take i)),.bool (szFL false (l.take i))],s5,s6,lv,.int .i64 l.length,.int .i64 i],[],fl,none,h⟩) ?_ ⟨.undef,.undef,none,by simp [szNL,szDL,szFL]⟩
 rintro I hI i c hi ⟨s5,s6,fl,rfl⟩
 by_cases hlt:i<l.length
 ·have hlt':(i:Int)<l.length:=by omega
  obtain ⟨r,hr1,hr2⟩:=hs.idx (i:=i) (by omega)
  have hv:=hq.at_ i hlt (by omega)
  have hr3:=hr2 hv.cell h Agr.refl
  obtain ⟨f,y,hm,hc⟩:=size_q hv ⟨[],[],none,none,h⟩ []
  have ht:l.take (i+1)=l.take i++[l[i]]:=(List.take_append_getElem hlt).symm
  have b1:=szNL_le (l.take i)
  have b2:=szDL_le (l.take i)
  have b3:=szN_le l[i]
  have b4:=szD_le l[i]
  have n1:=szNL_snoc (l.take i) l[i] 1
  have n2:=szDL_snoc (l.take i) l[i] 1
  have n3:=szFL_snoc (l.take i) l[i] false
  rw [← ht] at n1 n2 n3
  rw [CC] at hc
  generalize vs[i]=x at *
  generalize l[i]=v at *
  generalize szNL 1 (l.take i)=A at *
  generalize szDL 1 (l.take i)=B at *
  generalize szFL false (l.take i)=D at *
  have w1:IntKind.i64.wrap ((A:Int)+(szN v:Int))=(A:Int)+szN v:=wrap64 (by omega) (by omega)
  have w2:(if (A:Int)+(szN v:Int)<20001 then (A:Int)+szN v else 20001)=((szNL 1 (l.take (i+1)):Nat):Int):=by rw [n1]; split <;> omega
  have w3:IntKind.i64.wrap ((if (szD v:Int)<12 then (szD v:Int) else 12)+1)=(if (szD v:Int)<12 then (szD v:Int) else 12)+1:=wrap64 (by split <;> omega) (by split <;> omega)
  have w4:(if (B:Int)<(if (szD v:Int)<12 then (szD v:Int) else 12)+1 then (if (szD v:Int)<12 then (szD v:Int) else 12)+1 else (B:Int))=((szDL 1 (l.take (i+1)):Nat):Int):=by rw [n2]; split <;> split at * <;> omega
  have w5:IntKind.i64.wrap ((i:Int)+1)=(i:Int)+1:=wrap64 (by omega) (by omega)
  cases D
  ·simp [hlt',hr1,hr3,hm,hc,callee,ecallF,slotOf,w1,w2,w3,w4,w5,mkV,-pcall,AOper.writes]
   exact ⟨hlt,hI _ _ ⟨x,.agg [.int .i64 (szN v),.int .i64 (szD v),.bool (szF v)],none,by simp [n3]⟩⟩
  ·simp [hlt',hr1,hr3,hm,hc,callee,ecallF,slotOf,w1,w2,w3,w4,w5,mkV,-pcall,AOper.writes]
   exact ⟨hlt,hI _ _ ⟨x,.agg [.int .i64 (szN v),.int .i64 (szD v),.bool (szF v)],none,by simp [n3]⟩⟩
 ·obtain rfl:i=l.length:=by omega
  have hl1:=hs.cellsV
  simp [slotOf,fill,hlc,hl1,mkV]
  exact hQ
theorem seq_q {l:List Val} {lv:V} {vs:List V} (hst:Stab No S h) (hs:RSl S h lv vs) (hq:RVs S h l vs) (hlen:l.length≤20000) :
  ∃ x S' h',CC 246 [lv] h (.ret x) h'∧Grow No S h S' h'∧Stab No S' h'∧RV S' h' (seqV l) x:=by
 have hlv:=hs.lenS
 have hsl:=hs.slen
 have hsc:=hs.cells
 have hlc:=hs.cell
 have hvl:=hq.len
 -- the new object
 have ha:Agr S h (h++[.cells l.length 1 vs]):=Agr.app hst.lt _
 have g:Grow No S h (fun x=>S x∨x=h.length) (h++[.cells l.length 1 vs]):=(Grow.app _).push (Nat.le_refl _)
 have st:Stab No (fun x=>S x∨x=h.length) (h++[.cells l.length 1 vs]):=(hst.len (by simp)).push (by simp) (fun h=>h)
 have hs':RSl (fun x=>S x∨x=h.length) (h++[.cells l.length 1 vs]) (.sl h.length 0 l.length l.length 1 false) vs:=by
  have:=RSl.sl (S:=fun x=>S x∨x=h.length) (h:=h++[.cells l.length 1 vs]) h.length 0 l.length l.length false vs (.inr rfl) (by simp [objCells]) hvl (by omega)
  simpa [List.take_of_length_le (Nat.le_of_eq hvl)] using this
 have hq':=hq.mono (S':=fun x=>S x∨x=h.length) (fun _ h => .inl h) ha
 have hm:=made_q hs' hq' (by omega) 4 0
 refine ⟨_,_,_,cc_of (af:=Trmn.a246) rfl rfl fun Q hQ => ?_,g,st,RV.ofMany hs' hq'⟩
 rw [CC] at hm
 simp only [Trmn.a246]
 have e:objCells (h++[.cells l.length 1 (List.replicate l.length V.nili)]) h.length=some (l.length,1,List.replicate l.length V.nili):=by simp [objCells]
 have e2:sliceCells (h++[.cells l.length 1 (List.replicate l.length V.nili)]) lv=some vs:=((hs.mono (fun _ h=>h) (Agr.app hst.lt _)).cells)
 have b1:(l.length:Int) * 16≤140737488355328:=by omega
 have b2:(l.length:Int)≤9223372036854775807:=by omega
 have fl:(List.replicate l.length [V.nili]).flatten=List.replicate l.length V.nili:=by
  generalize l.length=n
  induction n with
  | zero=>rfl
  | succ n ih=>simp only [List.replicate_succ,List.flatten_cons,ih]; rfl
 by_cases h0:l.length=0
 ·have:vs=[]:=List.length_eq_zero_iff.1 (by omega)
  subst this
  have:l=[]:=List.length_eq_zero_iff.1 h0
  subst this
  have e3:sliceCells (h++[.cells 0 1 []]) lv=some []:=(hs.mono (fun _ h=>h) (Agr.app hst.lt _)).cells
  simp only [List.length_nil] at hm hlv hsl
  simp [slotOf,hlv,room,copyV,hsl,e3,hm]
  exact hQ
 ·have h0':¬ vs.length=0:=by omega
  simp [slotOf,hlv,room,hvl,b1,b2,fl,copyV,hsl,e,e2,h0,show 0<l.length by omega,hm]
  exact hQ
end
theorem pc_ro {f:Nat} {args:List V} {v:V} (hp:pureL args=true) (hv:∀ h,viewW 0 h v=some v) (hc:CC f args [] (.ret v) []):PC f args v:=by
 simp [PC,pcall,callee,hp,show (lim gl Trmn.aprog).call f args []=_ from hc,hv]
theorem view_int (k:IntKind) (n:Int) (h:Heap):viewW 0 h (.int k n)=some (.int k n):=rfl
theorem view_bool (b:Bool) (h:Heap):viewW 0 h (.bool b)=some (.bool b):=rfl
theorem view_int2 (k k':IntKind) (n m:Int) (h:Heap):viewW 0 h (.tup [.int k n,.int k' m])=some (.tup [.int k n,.int k' m]):=rfl
theorem wrap_i32 (n:Int):IntKind.i32.wrap n=wrap32 n:=by
 simp only [IntKind.wrap,IntKind.bits,IntKind.signed,Bool.true_and,wrap32]
 split <;> rename_i h <;> simp at h <;> omega
theorem bits_eq (x:BitVec 64):IntKind.i64.wrap (x.toNat:Int)=x.toInt:=by
 simp only [IntKind.wrap,IntKind.bits,IntKind.signed,Bool.true_and]
 have:=BitVec.toInt_eq_toNat_cond x
 have hx:=x.isLt
 rw [this]
 split <;> split <;> rename_i h1 h2 <;> simp at h1 <;> omega
theorem quo_floor {a b:Int} (hb:b≠0):(if a.tmod b≠0∧(decide (a<0)≠decide (b<0)) then a.tdiv b - 1 else a.tdiv b)=a.fdiv b:=by
 have h1:=Int.tmod_add_mul_tdiv a b
 have h2:=Int.fmod_add_mul_fdiv a b
 by_cases h:0<b
 ·have h3:=Int.fmod_nonneg_of_pos a h
  have h4:=Int.fmod_lt_of_pos a h
  by_cases ha:0≤a
  ·have h5:=Int.tmod_nonneg b ha
   have h6:=Int.tmod_lt_of_pos a h
   have:a.tdiv b=a.fdiv b:=by
    rw [Int.tdiv_eq_ediv_of_nonneg ha,Int.fdiv_eq_ediv_of_nonneg _ (by omega)]
   rw [if_neg,this]
   simp; intro; omega
  ·rw [Int.fdiv_eq_ediv_of_nonneg _ (by omega),Int.tdiv_eq_ediv]
   have hs:b.sign=1:=Int.sign_eq_one_of_pos h
   have hd:(b ∣ a)↔a.tmod b=0:=Int.dvd_iff_tmod_eq_zero
   by_cases hm:a.tmod b=0
   ·have:=hd.2 hm
    simp [hm,this]
   ·have:¬ b ∣ a:=fun h=>hm (hd.1 h)
    rw [if_pos ⟨hm,by simp; omega⟩,if_neg (by simp [this]; omega),hs]
    omega
 ·have hb':0 < -b:=by omega
  by_cases ha:0<a
  ·have e1:a.tdiv b = - (a.tdiv (-b)):=by rw [Int.tdiv_neg]; omega
   have e2:a.fdiv b=(-a).fdiv (-b):=by rw [Int.neg_fdiv_neg]
   have hd:(b ∣ a)↔a.tmod b=0:=Int.dvd_iff_tmod_eq_zero
   rw [e2,Int.fdiv_eq_ediv_of_nonneg _ (by omega),e1,Int.tdiv_eq_ediv_of_nonneg (by omega)]
   by_cases hm:a.tmod b=0
   ·have hdv:(-b) ∣ a:=Int.neg_dvd.2 (hd.2 hm)
    simp [hm]
    obtain ⟨k,hk⟩:=hdv
    have e3:a / (-b)=k:=by rw [hk]; exact Int.mul_ediv_cancel_left k (by omega)
    have e4:(-a) / (-b) = -k:=by rw [hk,← Int.mul_neg]; exact Int.mul_ediv_cancel_left (-k) (by omega)
    rw [Int.ediv_neg] at e3 e4
    omega
   ·rw [if_pos ⟨hm,by simp; omega⟩]
    have h5:=Int.emod_add_mul_ediv a (-b)
    have h6:=Int.emod_add_mul_ediv (-a) (-b)
    have h7:=Int.emod_nonneg a (show -b≠0 by omega)
    have h8:=Int.emod_lt_of_pos a hb'
    have h9:=Int.emod_nonneg (-a) (show -b≠0 by omega)
    have h10:=Int.emod_lt_of_pos (-a) hb'
    have hne:a % (-b)≠0:=fun h0=>hm (hd.1 (Int.neg_dvd.1 (Int.dvd_of_emod_eq_zero h0)))
    have hsum:(-b) * (a / (-b)+(-a) / (-b))+(a % (-b)+(-a) % (-b))=0:=by rw [Int.mul_add]; omega
    have hq:a / (-b)+(-a) / (-b) = -1:=by
     generalize a / (-b)+(-a) / (-b)=q at hsum
     have hp:0<a % (-b)+(-a) % (-b):=by omega
     have hp2:a % (-b)+(-a) % (-b)<2 * (-b):=by omega
     by_cases hq1:q ≤ -2
     ·have:(-b) * q≤(-b) * (-2):=Int.mul_le_mul_of_nonneg_left hq1 (by omega)
      omega
     ·by_cases hq2:0≤q
      ·have:0≤(-b) * q:=Int.mul_nonneg (by omega) hq2
       omega
      ·omega
    omega
  ·have e2:a.fdiv b=(-a).fdiv (-b):=by rw [Int.neg_fdiv_neg]
   have e1:a.tdiv b=(-a).tdiv (-b):=by rw [Int.neg_tdiv_neg]
   have:a.tdiv b=a.fdiv b:=by
    rw [e1,e2,Int.tdiv_eq_ediv_of_nonneg (by omega),Int.fdiv_eq_ediv_of_nonneg _ (by omega)]
   rw [if_neg,this]
   simp only [not_and,ne_eq]
   intro hm
   by_cases h0:a=0
   ·subst h0; simp at hm
   ·simp; omega
abbrev pairV (a b:Int):V:=.agg [.int .i64 a,.int .i64 b]
section
variable {a b:Int} {h:Heap}
theorem wrap_q (n:Int):PC 337 [.int .i64 n] (.int .i64 (wrap32 n)):=by
 refine pc_ro rfl (view_int _ _) (cc_of (af:=Trmn.a337) rfl rfl fun Q hQ => ?_)
 simp only [Trmn.a337]
 have h1:=isWord_iff.1 (wrap32_word n)
 have e:IntKind.i64.wrap (wrap32 n)=wrap32 n:=wrap64 (by omega) (by omega)
 simp [slotOf,wrap_i32,e]
 exact hQ
theorem truth_q (t:Bool):PC 339 [.bool t] (.int .i64 (b2i t)):=by
 refine pc_ro rfl (view_int _ _) (cc_of (af:=Trmn.a339) rfl rfl fun Q hQ => ?_)
 simp only [Trmn.a339]
 cases t <;> simp [slotOf] <;> exact hQ
theorem isW_q (n:Int):PC 66 [.int .i64 n] (.bool (isWord n)):=by
 refine pc_ro rfl (view_bool _) (cc_of (af:=Trmn.a66) rfl rfl fun Q hQ => ?_)
 simp only [Trmn.a66]
 by_cases h1 : -2147483648≤n
 ·by_cases h2:n≤2147483647
  ·simp [slotOf,h1,h2]; rw [show isWord n=true from isWord_iff.2 ⟨h1,h2⟩] at hQ; exact hQ
  ·simp [slotOf,h1,h2]; rw [show isWord n=false by simp [isWord,h2]] at hQ; exact hQ
 ·simp [slotOf,h1]; rw [show isWord n=false by simp [isWord,h1]] at hQ; exact hQ
theorem isOp_q (n:Int):PC 65 [.int .i64 n] (.bool (decide (0≤n∧n<12))):=by
 refine pc_ro rfl (view_bool _) (cc_of (af:=Trmn.a65) rfl rfl fun Q hQ => ?_)
 simp only [Trmn.a65]
 by_cases h1:0≤n
 ·by_cases h2:n<12
  ·simp [slotOf,h1,h2]; simp only [h1,h2,and_self,decide_true] at hQ; exact hQ
  ·simp [slotOf,h1,h2]; simp only [h1,h2,and_false,decide_false] at hQ; exact hQ
 ·simp [slotOf,h1]; simp only [h1,false_and,decide_false] at hQ; exact hQ
theorem quo_q (ha:isWord a=true) (hb:isWord b=true) (h0:b≠0):PC 338 [pairV a b] (.int .i64 (a.fdiv b)):=by
 rw [isWord_iff] at ha hb
 have hq:=quo_floor (a:=a) h0
 have b1:(a.tdiv b).natAbs≤a.natAbs:=Int.natAbs_tdiv_le_natAbs a b
 have w1:IntKind.i64.wrap (a.tdiv b)=a.tdiv b:=wrap64 (by omega) (by omega)
 have w2:IntKind.i64.wrap (a.tdiv b - 1)=a.tdiv b - 1:=wrap64 (by omega) (by omega)
 refine pc_ro rfl (view_int _ _) (cc_of (af:=Trmn.a338) rfl rfl fun Q hQ => ?_)
 simp only [Trmn.a338]
 by_cases hm:a.tmod b=0
 ·rw [if_neg (by simp [hm])] at hq
  rw [← hq] at hQ
  simp [slotOf,h0,hm,w1,mkV]
  exact hQ
 ·have hm':(a.tmod b != 0)=true:=by simpa using hm
  by_cases hs:decide (a<0)=decide (b<0)
  ·rw [if_neg (by simp [hs])] at hq
   rw [← hq] at hQ
   have hs':(decide (a<0) != decide (b<0))=false:=by simp [hs]
   have hs2:((decide (a<0) == decide (b<0)) != true)=false:=by simp [hs]
   simp [slotOf,h0,hm',hs',hs2,hs,w1,mkV]
   exact hQ
  ·rw [if_pos ⟨hm,hs⟩] at hq
   rw [← hq] at hQ
   have hs2:((decide (a<0) == decide (b<0)) != true)=true:=by simp [hs]
   simp [slotOf,h0,hm',hs2,hs,w1,w2,mkV]
   exact hQ
theorem deeds_q (op:Nat) (hop:op<12) (ha:isWord a=true) (hb:isWord b=true) {z:Int} (hz:doW op a b=some z) :
  ∃ f,(gl 0)[op]?=some (.func (.func f) [] [])∧CC f [pairV a b] h (.ret (.int .i64 z)) h:=by
 have ia:=isWord_iff.1 ha
 have ib:=isWord_iff.1 hb
 have w1:IntKind.i64.wrap (a+b)=a+b:=wrap64 (by omega) (by omega)
 have w2:IntKind.i64.wrap (a - b)=a - b:=wrap64 (by omega) (by omega)
 have hmul : -4611686018427387904≤a * b∧a * b≤4611686018427387904:=by
  have h1:(a * b).natAbs=a.natAbs * b.natAbs:=Int.natAbs_mul a b
  have h2:a.natAbs * b.natAbs≤2147483648 * 2147483648:=Nat.mul_le_mul (by omega) (by omega)
  omega
 have w3:IntKind.i64.wrap (a * b)=a * b:=wrap64 (by omega) (by omega)
 have q1:=wrap_q (a+b)
 have q2:=wrap_q (a - b)
 have q3:=wrap_q (a * b)
 have t1:=truth_q (decide (a<b))
 have t2:=truth_q (a == b)
 rw [PC] at q1 q2 q3 t1 t2
 match op,hop with
 | 0,_ =>
  simp only [doW,Int.natCast_zero,if_true,Option.some.injEq] at hz
  subst hz
  refine ⟨313,rfl,cc_of (af:=Trmn.a313) rfl rfl fun Q hQ => ?_⟩
  simp only [Trmn.a313]
  simp [slotOf,w1,q1,mkV,-pcall]
  exact hQ
 | 1,_ =>
  simp [doW] at hz
  subst hz
  refine ⟨326,rfl,cc_of (af:=Trmn.a326) rfl rfl fun Q hQ => ?_⟩
  simp only [Trmn.a326]
  simp [slotOf,w2,q2,mkV,-pcall]
  exact hQ
 | 2,_ =>
  simp [doW] at hz
  subst hz
  refine ⟨327,rfl,cc_of (af:=Trmn.a327) rfl rfl fun Q hQ => ?_⟩
  simp only [Trmn.a327]
  simp [slotOf,w3,q3,mkV,-pcall]
  exact hQ
 | 3,_ =>
  by_cases h0:b=0
  ·simp [doW,h0] at hz
  have q4:=quo_q ha hb h0
  have q5:=wrap_q (a.fdiv b)
  rw [PC] at q4 q5
  simp [doW,h0] at hz
  subst hz
  refine ⟨328,rfl,cc_of (af:=Trmn.a328) rfl rfl fun Q hQ => ?_⟩
  simp only [Trmn.a328]
  simp [slotOf,q4,q5,mkV,-pcall]
  exact hQ
 | 4,_ =>
  by_cases h0:b=0
  ·simp [doW,h0] at hz
  have q4:=quo_q ha hb h0
  rw [PC] at q4
  simp [doW,h0] at hz
  have e0:=Int.fmod_add_mul_fdiv a b
  have e1:=isWord_iff.1 (fmod_word ha hb h0)
  subst hz
  have w4:IntKind.i64.wrap (b * a.fdiv b)=b * a.fdiv b:=wrap64 (by omega) (by omega)
  have w5:IntKind.i64.wrap (a - b * a.fdiv b)=a.fmod b:=by rw [wrap64 (by omega) (by omega)]; omega
  refine ⟨329,rfl,cc_of (af:=Trmn.a329) rfl rfl fun Q hQ => ?_⟩
  simp only [Trmn.a329]
  simp [slotOf,q4,w4,w5,mkV,-pcall]
  exact hQ
 | 5,_ =>
  simp [doW] at hz
  subst hz
  refine ⟨330,rfl,cc_of (af:=Trmn.a330) rfl rfl fun Q hQ => ?_⟩
  simp only [Trmn.a330]
  simp [slotOf,t1,mkV,-pcall]
  exact hQ
 | 6,_ =>
  simp [doW] at hz
  subst hz
  refine ⟨331,rfl,cc_of (af:=Trmn.a331) rfl rfl fun Q hQ => ?_⟩
  simp only [Trmn.a331]
  simp [slotOf,t2,mkV,-pcall]
  exact hQ
 | 7,_ =>
  simp [doW] at hz
  have e:(if b<a then b else a)=z:=by rw [← hz]; split <;> omega
  refine ⟨332,rfl,cc_of (af:=Trmn.a332) rfl rfl fun Q hQ => ?_⟩
  simp only [Trmn.a332]
  simp [slotOf,e,mkV]
  exact hQ
 | 8,_ =>
  simp [doW] at hz
  have e:(if a<b then b else a)=z:=by rw [← hz]; split <;> omega
  refine ⟨333,rfl,cc_of (af:=Trmn.a333) rfl rfl fun Q hQ => ?_⟩
  simp only [Trmn.a333]
  simp [slotOf,e,mkV]
  exact hQ
 | 9,_ =>
  have hz':bits (· &&& ·) a b=z:=by simpa [doW] using hz
  have e:intBin .and .i64 a b=some (.int .i64 z):=by
   show some (V.int .i64 (IntKind.i64.wrap ((BitVec.ofInt 64 a &&& BitVec.ofInt 64 b).toNat:Int)))=_
   rw [bits_eq,← hz']
   rfl
  refine ⟨334,rfl,cc_of (af:=Trmn.a334) rfl rfl fun Q hQ => ?_⟩
  simp only [Trmn.a334]
  simp [slotOf,mkV,-intBin,binV,e]
  exact hQ
 | 10,_ =>
  have hz':bits (· ||| ·) a b=z:=by simpa [doW] using hz
  have e:intBin .or .i64 a b=some (.int .i64 z):=by
   show some (V.int .i64 (IntKind.i64.wrap ((BitVec.ofInt 64 a ||| BitVec.ofInt 64 b).toNat:Int)))=_
   rw [bits_eq,← hz']
   rfl
  refine ⟨335,rfl,cc_of (af:=Trmn.a335) rfl rfl fun Q hQ => ?_⟩
  simp only [Trmn.a335]
  simp [slotOf,mkV,-intBin,binV,e]
  exact hQ
 | 11,_ =>
  have hz':bits (· ^^^ ·) a b=z:=by simpa [doW] using hz
  have e:intBin .xor .i64 a b=some (.int .i64 z):=by
   show some (V.int .i64 (IntKind.i64.wrap ((BitVec.ofInt 64 a ^^^ BitVec.ofInt 64 b).toNat:Int)))=_
   rw [bits_eq,← hz']
   rfl
  refine ⟨336,rfl,cc_of (af:=Trmn.a336) rfl rfl fun Q hQ => ?_⟩
  simp only [Trmn.a336]
  simp [slotOf,mkV,-intBin,binV,e]
  exact hQ
set_option maxHeartbeats 1000000 in
theorem do_q (op:Int) (h0:0≤op) (h1:op≤11) (ha:isWord a=true) (hb:isWord b=true) :
  PC 29 [.int .i64 op,.int .i64 a,.int .i64 b] (match doW op a b with | some z => .tup [.int .i64 z,.int .i64 0] | none => .tup [.int .i64 0,.int .i64 14]):=by
 have c1:=isOp_q op
 have c2:=isW_q a
 have c3:=isW_q b
 rw [PC,show decide (0≤op∧op<12)=true by simp; omega] at c1
 rw [PC,ha] at c2
 rw [PC,hb] at c3
 obtain ⟨n,rfl⟩:=Int.eq_ofNat_of_zero_le h0
 cases hz:doW n a b with
 | none =>
  have hb0:b=0∧((n:Int)=3∨(n:Int)=4):=by
   unfold doW at hz
   split at hz; · cases hz
   split at hz; · cases hz
   split at hz; · cases hz
   split at hz
   ·split at hz
    ·exact ⟨‹_›,.inl ‹_›⟩
    ·cases hz
   split at hz
   ·split at hz
    ·exact ⟨‹_›,.inr ‹_›⟩
    ·cases hz
   split at hz; · cases hz
   split at hz; · cases hz
   split at hz; · cases hz
   split at hz; · cases hz
   split at hz; · cases hz
   split at hz <;> cases hz
  obtain ⟨rfl,hn⟩:=hb0
  refine pc_ro rfl (view_int2 _ _ _ _) (cc_of (af:=Trmn.a29) rfl rfl fun Q hQ => ?_)
  simp only [Trmn.a29]
  have c0:((0:Int) == 0)=true:=rfl
  rcases hn with hn | hn
  ·have h3:((n:Int) == 3)=true:=by simpa using hn
   simp [slotOf,c1,c2,c3,h3,-pcall]
   exact hQ
  ·have h3:((n:Int) == 3)=false:=by simp; omega
   have h4:((n:Int) == 4)=true:=by simpa using hn
   simp [slotOf,c1,c2,c3,h3,h4,-pcall]
   exact hQ
 | some z =>
  obtain ⟨f,hf,hc⟩:=deeds_q (h:=[]) n (by omega) ha hb hz
  have hlt:n<12:=by omega
  have hld:loadV [] (.pv ((gl 0).drop (n * 1))) 1 false=some (.func (.func f) [] []):=by
   have hl:(gl 0).length=12:=rfl
   have:(gl 0).drop (n * 1) = .func (.func f) [] [] :: (gl 0).drop (n+1):=by
    rw [Nat.mul_one,List.drop_eq_getElem_cons (by omega)]
    congr 1
    rw [List.getElem?_eq_getElem (by omega)] at hf
    exact Option.some.inj hf
   rw [this]
   simp [mkV]
  have hn0:¬ (b=0∧((n:Int)=3∨(n:Int)=4)):=by
   rintro ⟨rfl,hn | hn⟩ <;> · rw [hn] at hz; simp [doW] at hz
  rw [CC] at hc
  refine pc_ro rfl (view_int2 _ _ _ _) (cc_of (af:=Trmn.a29) rfl rfl fun Q hQ => ?_)
  simp only [Trmn.a29]
  have hg:(gl 0).length=12:=rfl
  have hle:n≤12:=by omega
  have hnl:(n:Int)<12:=by omega
  rw [Nat.mul_one] at hld
  by_cases hb0:b=0
  ·have h3:((n:Int) == 3)=false:=by simp; intro h; exact hn0 ⟨hb0,.inl h⟩
   have h4:((n:Int) == 4)=false:=by simp; intro h; exact hn0 ⟨hb0,.inr h⟩
   subst hb0
   simp [slotOf,c1,c2,c3,h3,h4,hg,hle,hnl,hc,fill,hld,callee,-pcall,-loadV_pv]
   exact hQ
  ·have hb0':(b == 0)=false:=by simpa using hb0
   simp [slotOf,c1,c2,c3,hb0',hg,hle,hnl,hc,fill,hld,callee,-pcall,-loadV_pv]
   exact hQ
end
theorem set_last (h:Heap) (o o':Am.Obj):(h++[o]).set h.length o'=h++[o']:=by simp
theorem obj_last (h:Heap) (n sz:Nat) (cs:List V):objCells (h++[.cells n sz cs]) h.length=some (n,sz,cs):=by simp [objCells]
theorem chunks_one:∀ cs:List V,chunks 1 cs.length cs=cs.map fun x=>[x]
 | []=>rfl
 | x :: xs=>by
  simp only [List.length_cons,chunks,List.map_cons,List.drop_succ_cons,List.drop_zero,chunks_one xs]
  rfl
theorem app_last (h:Heap) (n bytes:Nat) (cs:List V) (x y:V) (hy:sliceLen y=some 1) (hy2:sliceCells (h++[.cells n 1 cs]) y=some [x]) (hr:(n+1) * bytes≤room) :
  appV (h++[.cells n 1 cs]) (.sl h.length 0 n n 1 false) y 1 bytes=some (.sl h.length 0 (n+1) (n+1) 1 false,h++[.cells (n+1) 1 (cs++[x])]):=by
 rw [appV_own (cs:=cs) (ho:=by simp) hy hy2 (by simp) hr,set_last]
theorem frz_last (h:Heap) (n:Nat) (cs:List V) (hn:cs.length=n) (hp:pureL cs=true) (ex:Bool):frzV (h++[.cells n 1 cs]) (.sl h.length 0 n n 1 ex)=some (.sv (cs.map fun x=>[x]) ex,h++[.gone]):=by
 subst hn
 simp [frzV,viewV,obj_last,hp,chunks_one]
abbrev numV (n:Int):V:=.iface 254 (.int .i64 n)
section
variable {S:Adr} {h:Heap}
theorem num1_q (n:Int):CC 277 [.int .i64 n] h (.ret (numV n)) h:=by
 refine cc_of (af:=Trmn.a277) rfl rfl fun Q hQ => ?_
 simp only [Trmn.a277]
 simp [slotOf]
 exact hQ
theorem pureL_nums (xs:List Int):pureL (xs.map numV)=true:=by
 induction xs with
 | nil=>rfl
 | cons x xs ih=>simp [pureL,pureV,ih]
theorem each_q {S0:Adr} {v:V} {xs:List Int} (hs0:∀ b,S0 b→b<h.length) (hs:RSl S0 h v (xs.map (.int .i64))) (hlen:xs.length≤2 ^ 40) :
  CC 276 [v,.func (.func 277) [] []] h (.ret (.sv ((xs.map numV).map fun x=>[x]) false)) (h++[.gone]):=by
 have hlv:=hs.lenS
 simp only [List.length_map] at hlv
 refine cc_of (af:=Trmn.a276) rfl rfl fun Q hQ => ?_
 simp only [Trmn.a276]
 simp [slotOf,hlv]
 refine loop_nQ xs.length (fun i c=>∃ s4 fl,c=⟨[v,.func (.func 277) [] [],.nils,.sl h.length 0 i i 1 false,s4,v,.int .i64 xs.length,.int .i64 i],[],fl,none,h++[.cells i 1 ((xs.take i).map numV)]⟩) ?_ ⟨.undef,none,by simp⟩
 rintro I hI i c hi ⟨s4,fl,rfl⟩
 by_cases hlt:i<xs.length
 ·have hlt':(i:Int)<xs.length:=by omega
  obtain ⟨r,hr1,hr2⟩:=hs.idx (i:=i) (by simpa using hlt)
  have hr3:=hr2 (by simp [isCell]) (h++[.cells i 1 ((xs.take i).map numV)]) (Agr.app hs0 _)
  have hc:=num1_q (h:=h++[.cells i 1 ((xs.take i).map numV)]) xs[i]
  have ht:(xs.take (i+1)).map numV=(xs.take i).map numV++[numV xs[i]]:=by rw [← List.take_append_getElem hlt,List.map_append]; rfl
  have ha:=app_last h i 16 ((xs.take i).map numV) (numV xs[i]) (.vs [numV xs[i]] 1 1) rfl rfl (by simp only [room]; omega)
  have w5:IntKind.i64.wrap ((i:Int)+1)=(i:Int)+1:=wrap64 (by omega) (by omega)
  rw [CC] at hc
  rw [← ht] at ha
  simp only [List.getElem_map] at hr3
  generalize xs[i]=x at *
  generalize (xs.take i).map numV=cs at *
  simp [hlt',hr1,hr3,hc,ha,callee,ecallF,slotOf,w5,fill,-List.map_take]
  exact ⟨hlt,hI _ _ ⟨.int .i64 x,none,by simp⟩⟩
 ·obtain rfl:i=xs.length:=by omega
  have hf:=frz_last h xs.length (xs.map numV) (by simp) (pureL_nums xs) false
  rw [List.take_length]
  simp only [List.map_map] at hQ hf
  simp [slotOf,hf]
  exact hQ
theorem numbers_q {S0:Adr} {v:V} {xs:List Int} (hs0:∀ b,S0 b→b<h.length) (hs:RSl S0 h v (xs.map (.int .i64))) (hlen:xs.length≤2 ^ 40) :
  CC 267 [v] h (.ret (.sv ((xs.map numV).map fun x=>[x]) false)) (h++[.gone]):=by
 have hc:=each_q hs0 hs hlen
 refine cc_of (af:=Trmn.a267) rfl rfl fun Q hQ => ?_
 rw [CC] at hc
 simp only [Trmn.a267]
 simp only [List.map_map] at hQ hc
 simp [slotOf,hc,callee,ecallF]
 exact hQ
end
theorem asNums_none {l:List Val} (h:asNums l=none):∃ i,∃ hi:i<l.length,asNum l[i]=none∧∃ ns,asNums (l.take i)=some ns:=by
 induction l with
 | nil=>cases h
 | cons v vs ih =>
  simp only [asNums] at h
  cases hv:asNum v with
  | none=>exact ⟨0,by simp,by simpa using hv,[],rfl⟩
  | some n =>
   rw [hv] at h
   simp only [Option.map_eq_none_iff] at h
   obtain ⟨i,hi,h1,ns,h2⟩:=ih h
   exact ⟨i+1,by simp; omega,by simpa using h1,n :: ns,by simp [asNums,hv,h2]⟩
theorem asNums_length:∀ {l:List Val} {ns:List Int},asNums l=some ns→ns.length=l.length
 | [],ns,h=>by cases h; rfl
 | v :: vs,ns,h=>by
  simp only [asNums] at h
  cases hv:asNum v with
  | none=>rw [hv] at h; cases h
  | some n =>
   rw [hv] at h
   simp only [Option.map_eq_some_iff] at h
   obtain ⟨y,hy,rfl⟩:=h
   simp [asNums_length hy]
theorem asNums_at:∀ {l:List Val} {ns:List Int},asNums l=some ns→∀ i,∀ hi:i<l.length,∀ hj:i<ns.length,asNum l[i]=some ns[i]
 | [],ns,h,i,hi,hj=>by simp at hi
 | v :: vs,ns,h,i,hi,hj=>by
  simp only [asNums] at h
  cases hv:asNum v with
  | none=>rw [hv] at h; cases h
  | some n =>
   rw [hv] at h
   simp only [Option.map_eq_some_iff] at h
   obtain ⟨y,hy,rfl⟩:=h
   cases i with
   | zero=>simpa using hv
   | succ i=>simpa using asNums_at hy i (by simpa using hi) (by simpa using hj)
section
variable {S:Adr} {h:Heap}
theorem words_q {t:NT} {b:Nat} (hst:Stab No S h) (hr:RN S h t b) {v:Val} {x:V} (hv:RV S h v x) (hlen:∀ l,asMany 4 v=some l→l.length≤4096) :
  match asWords v with
  | some ns=>CC 268 [.ref b 0 1,x] h (.ret (.sl h.length 0 ns.length ns.length 1 false)) (h++[.cells ns.length 1 (ns.map (.int .i64))])
  | none=>∃ X,CC 268 [.ref b 0 1,x] h (.pan (stopV 15 t.id)) (h++X):=by
 have ha0:Agr S h (h++[.cells 0 1 []]):=Agr.app hst.lt _
 have hl:=list_q (hr.mono (fun _ h=>h) ha0) (hv.mono (fun _ h=>h) ha0)
 unfold asWords
 cases hm:asMany 4 v with
 | none =>
  rw [hm] at hl
  rw [RO] at hl
  refine ⟨[.cells 0 1 []],cc_of (af:=Trmn.a268) rfl rfl fun Q hQ => ?_⟩
  simp only [Trmn.a268]
  simp [slotOf,rocall,callee,hl]
  exact hQ
 | some l =>
  have hn:=hlen l hm
  rw [hm] at hl
  obtain ⟨lv,vs,hl,hs,hq⟩:=hl
  rw [RO] at hl
  have hvl:=hq.len
  have hlv:=hs.lenS
  rw [hvl] at hlv
  -- a round
  have rnd:∀ (i:Nat) (cs:List V),i<l.length→∃ r,idxV lv i 1=some r∧∃ y,loadV (h++[.cells i 1 cs]) r 1 false=some y∧RO 213 [.ref b 0 1,y] (h++[.cells i 1 cs]) (match asNum (l.getD i .unit) with | some n => .ret (.int .i64 n) | none => .pan (stopV 15 t.id)):=by
   intro i cs hi
   obtain ⟨r,hr1,hr2⟩:=hs.idx (i:=i) (by omega)
   have hv':=hq.at_ i hi (by omega)
   have hag:Agr S (h++[.cells 0 1 []]) (h++[.cells i 1 cs]):=fun a ha=>by
    have:=hst.lt a ha
    simp only [objCells,List.getElem?_append_left this]
   refine ⟨r,hr1,vs[i]'(by omega),hr2 hv'.cell _ hag,?_⟩
   have:=word_q (hr.mono (fun _ h=>h) (ha0.trans hag)) (hv'.mono (fun _ h=>h) hag)
   rw [List.getD_eq_getElem?_getD,List.getElem?_eq_getElem hi]
   exact this
  simp only
  cases hns:asNums l with
  | some ns =>
   have hnl:=asNums_length hns
   refine cc_of (af:=Trmn.a268) rfl rfl fun Q hQ => ?_
   simp only [Trmn.a268]
   simp [slotOf,rocall,callee,hl,hlv]
   refine loop_nQ l.length (fun i c=>∃ s3 fl,c=⟨[.ref b 0 1,x,.sl h.length 0 i i 1 false,s3,lv,.int .i64 l.length,.int .i64 i],[],fl,none,h++[.cells i 1 ((ns.take i).map (.int .i64))]⟩) ?_ ⟨.undef,none,by simp⟩
   rintro I hI i c hi ⟨s3,fl,rfl⟩
   by_cases hlt:i<l.length
   ·have hlt':(i:Int)<l.length:=by omega
    obtain ⟨r,hr1,y,hr2,hw⟩:=rnd i ((ns.take i).map (.int .i64)) hlt
    have hat:=asNums_at hns i hlt (by omega)
    rw [RO,List.getD_eq_getElem?_getD,List.getElem?_eq_getElem hlt] at hw
    simp only [Option.getD_some,hat] at hw
    have ht:(ns.take (i+1)).map (V.int .i64)=(ns.take i).map (V.int .i64)++[.int .i64 (ns[i]'(by omega))]:=by rw [← List.take_append_getElem (by omega),List.map_append]; rfl
    have ha:=app_last h i 8 ((ns.take i).map (V.int .i64)) (.int .i64 (ns[i]'(by omega))) (.sv [[.int .i64 (ns[i]'(by omega))]] true) rfl rfl (by simp only [room]; omega)
    have w5:IntKind.i64.wrap ((i:Int)+1)=(i:Int)+1:=wrap64 (by omega) (by omega)
    rw [← ht] at ha
    generalize ns[i]'(by omega)=z at *
    generalize (ns.take i).map (V.int .i64)=cs at *
    simp [hlt',hr1,hr2,hw,ha,rocall,callee,slotOf,w5,fill,chunks,-List.map_take]
    exact ⟨hlt,hI _ _ ⟨y,none,by simp⟩⟩
   ·obtain rfl:i=l.length:=by omega
    simp [slotOf]
    rw [← hnl,List.take_of_length_le (by simp)]
    exact hQ
  | none =>
   obtain ⟨k,hk,hkn,ns,hns'⟩:=asNums_none hns
   have hnl:=asNums_length hns'
   simp only [List.length_take] at hnl
   refine ⟨[.cells k 1 (ns.map (.int .i64))],cc_of (af:=Trmn.a268) rfl rfl fun Q hQ => ?_⟩
   simp only [Trmn.a268]
   simp [slotOf,rocall,callee,hl,hlv]
   refine loop_nQ l.length (fun i c=>i≤k∧∃ s3 fl,c=⟨[.ref b 0 1,x,.sl h.length 0 i i 1 false,s3,lv,.int .i64 l.length,.int .i64 i],[],fl,none,h++[.cells i 1 ((ns.take i).map (.int .i64))]⟩) ?_ ⟨by omega,.undef,none,by simp⟩
   rintro I hI i c hi ⟨hik,s3,fl,rfl⟩
   have hlt:i<l.length:=by omega
   have hlt':(i:Int)<l.length:=by omega
   obtain ⟨r,hr1,y,hr2,hw⟩:=rnd i ((ns.take i).map (.int .i64)) hlt
   rw [RO,List.getD_eq_getElem?_getD,List.getElem?_eq_getElem hlt] at hw
   by_cases hek:i=k
   ·subst hek
    simp only [Option.getD_some,hkn] at hw
    simp [hlt',hr1,hr2,hw,rocall,callee,slotOf,fill,chunks,-List.map_take]
    have e:ns.take i=ns:=List.take_of_length_le (by omega)
    rw [e]
    exact hQ
   ·have hat:=asNums_at hns' i (by simp; omega) (by omega)
    simp only [List.getElem_take] at hat
    simp only [Option.getD_some,hat] at hw
    have ht:(ns.take (i+1)).map (V.int .i64)=(ns.take i).map (V.int .i64)++[.int .i64 (ns[i]'(by omega))]:=by rw [← List.take_append_getElem (by omega),List.map_append]; rfl
    have ha:=app_last h i 8 ((ns.take i).map (V.int .i64)) (.int .i64 (ns[i]'(by omega))) (.sv [[.int .i64 (ns[i]'(by omega))]] true) rfl rfl (by simp only [room]; omega)
    have w5:IntKind.i64.wrap ((i:Int)+1)=(i:Int)+1:=wrap64 (by omega) (by omega)
    rw [← ht] at ha
    generalize ns[i]'(by omega)=z at *
    generalize (ns.take i).map (V.int .i64)=cs at *
    simp [hlt',hr1,hr2,hw,ha,rocall,callee,slotOf,w5,fill,chunks,-List.map_take]
    exact ⟨hlt,hI _ _ ⟨by omega,y,none,by simp⟩⟩
end
structure OpIn (nf:Nat) (S:Adr) (h:Heap) (t:NT) (nb:Nat) (lv:V) (l:List Val) (vs:List V):Prop where
 st:Stab No S h
 rn:RN S h t nb
 sl:RSl S h lv vs
 vl:RVs S h l vs
 ok:∀ x∈l,VOk nf x
 sh:shape t.op l.length
 nm:∃ vars,numsOk nf vars t.op t.n t.m
def OpG (S:Adr) (h:Heap) (f:Nat) (t:NT) (nb:Nat) (lv:V):Except Int Val→Prop
 | .ok v=>∃ x S' h',CC f [.ref nb 0 1,lv] h (.ret x) h'∧Grow No S h S' h'∧Stab No S' h'∧RV S' h' v x
 | .error e=>∃ h',CC f [.ref nb 0 1,lv] h (.pan (stopV e t.id)) h'∧Grow No S h S h'
section
variable {nf:Nat} {S:Adr} {h:Heap} {t:NT} {nb:Nat} {lv:V} {l:List Val} {vs:List V}
theorem OpIn.arg (hi:OpIn nf S h t nb lv l vs) {i:Nat} (hl:i<l.length):∃ r x,idxV lv i 1=some r∧loadV h r 1 false=some x∧RV S h (l.getD i .unit) x∧VOk nf (l.getD i .unit):=by
 have h1:=hi.vl.len
 obtain ⟨r,hr1,hr2⟩:=hi.sl.idx (i:=i) (by omega)
 have hv:=hi.vl.at_ i hl (by omega)
 refine ⟨r,_,hr1,hr2 hv.cell h Agr.refl,?_,getD_ok hi.ok i⟩
 rw [List.getD_eq_getElem?_getD,List.getElem?_eq_getElem hl]
 exact hv
theorem OpIn.len (hi:OpIn nf S h t nb lv l vs) {k:Int} (ha:t.op≠16) (hk:arity t.op=k):(l.length:Int)=k:=by
 have:=hi.sh
 simp only [shape,ha,if_false] at this
 omega
theorem OpIn.small (hi:OpIn nf S h t nb lv l vs):l.length≤8:=by
 have:=hi.sh
 unfold shape at this
 split at this
 ·exact this
 ·obtain ⟨h1,h2,h3⟩:=this
  unfold arity at h3
  repeat' split at h3
  all_goals omega
theorem op1 (hi:OpIn nf S h t nb lv l vs) (ho:t.op=1):OpG S h 237 t nb lv (opV t.op t.n l):=by
 obtain ⟨lv',kv,rs,_,hn,_⟩:=hi.rn.node
 rw [ho,show opV 1 t.n l = .ok (.num t.n) from rfl]
 refine ⟨_,S,h,cc_of (af:=Trmn.a237) rfl rfl fun Q hQ => ?_,.refl,hi.st,.num _⟩
 simp only [Trmn.a237]
 simp [slotOf,hn,mkV]
 exact hQ
theorem op2 (hi:OpIn nf S h t nb lv l vs) (ho:t.op=2):OpG S h 238 t nb lv (opV t.op t.n l):=by
 rw [ho,show opV 2 t.n l = .ok .unit from rfl]
 refine ⟨_,S,h,cc_of (af:=Trmn.a238) rfl rfl fun Q hQ => ?_,.refl,hi.st,.unit⟩
 simp only [Trmn.a238]
 simp [slotOf,fill]
 exact hQ
theorem op8 (hi:OpIn nf S h t nb lv l vs) (ho:t.op=8):OpG S h 239 t nb lv (opV t.op t.n l):=by
 have hm:=made_q hi.sl hi.vl (by have:=hi.small; omega) 2 0
 rw [CC] at hm
 rw [ho,show opV 8 t.n l = .ok (.many 2 0 l) from rfl]
 refine ⟨_,S,h,cc_of (af:=Trmn.a239) rfl rfl fun Q hQ => ?_,.refl,hi.st,RV.ofMany hi.sl hi.vl⟩
 simp only [Trmn.a239]
 simp [slotOf,hm,callee,ecallF]
 exact hQ
theorem op11 (hi:OpIn nf S h t nb lv l vs) (ho:t.op=11):OpG S h 242 t nb lv (opV t.op t.n l):=by
 have hm:=made_q hi.sl hi.vl (by have:=hi.small; omega) 3 0
 rw [CC] at hm
 rw [ho,show opV 11 t.n l = .ok (.many 3 0 l) from rfl]
 refine ⟨_,S,h,cc_of (af:=Trmn.a242) rfl rfl fun Q hQ => ?_,.refl,hi.st,RV.ofMany hi.sl hi.vl⟩
 simp only [Trmn.a242]
 simp [slotOf,hm,callee,ecallF]
 exact hQ
theorem op12 (hi:OpIn nf S h t nb lv l vs) (ho:t.op=12):OpG S h 243 t nb lv (opV t.op t.n l):=by
 have hm:=made_q hi.sl hi.vl (by have:=hi.small; omega) 3 1
 rw [CC] at hm
 rw [ho,show opV 12 t.n l = .ok (.many 3 1 l) from rfl]
 refine ⟨_,S,h,cc_of (af:=Trmn.a243) rfl rfl fun Q hQ => ?_,.refl,hi.st,RV.ofMany hi.sl hi.vl⟩
 simp only [Trmn.a243]
 simp [slotOf,hm,callee,ecallF]
 exact hQ
theorem op16 (hi:OpIn nf S h t nb lv l vs) (ho:t.op=16):OpG S h 245 t nb lv (opV t.op t.n l):=by
 obtain ⟨x,S',h',hm,hg,hst,hv⟩:=seq_q hi.st hi.sl hi.vl (by have:=hi.small; omega)
 rw [CC] at hm
 rw [ho,show opV 16 t.n l = .ok (seqV l) from rfl]
 refine ⟨x,S',h',cc_of (af:=Trmn.a245) rfl rfl fun Q hQ => ?_,hg,hst,hv⟩
 simp only [Trmn.a245]
 simp [slotOf,hm,callee,ecallF]
 exact hQ
theorem op9 (hi:OpIn nf S h t nb lv l vs) (ho:t.op=9):OpG S h 240 t nb lv (opV t.op t.n l):=by
 have hl:=hi.len (by rw [ho]; decide) (k:=1) (by rw [ho]; rfl)
 obtain ⟨r,x,h1,h2,h3,h4⟩:=hi.arg (i:=0) (by omega)
 have hm:=many_q hi.rn 2 h3
 rw [ho,show opV 9 t.n l=match asMany 2 (l.getD 0 .unit) with | some x => .ok (x.getD 0 .unit) | none => .error ET from rfl]
 cases hc:asMany 2 (l.getD 0 .unit) with
 | none =>
  simp only [hc,RO] at hm
  refine ⟨h,cc_of (af:=Trmn.a240) rfl rfl fun Q hQ => ?_,.refl⟩
  simp only [Trmn.a240]
  simp only [Int.natCast_zero] at h1
  simp [slotOf,h1,h2,hm,rocall,callee]
  exact hQ
 | some p =>
  simp only [hc,RO] at hm
  obtain ⟨a,b',c,tt,lv',vs',hm,hs,hq,hv,_⟩:=hm
  have hp:p.length=2:=by
   rw [hv] at h4
   cases h4 with
   | many _ _ _ hk _=>rcases hk with h | h | h <;> omega
  have hvl:=hq.len
  obtain ⟨r',hr1,hr2⟩:=hs.idx (i:=0) (by omega)
  have hv':=hq.at_ 0 (by omega) (by omega)
  have hr3:=hr2 hv'.cell h Agr.refl
  have e0:p.getD 0 .unit=p[0]:=by rw [List.getD_eq_getElem?_getD,List.getElem?_eq_getElem (by omega)]; rfl
  refine ⟨_,S,h,cc_of (af:=Trmn.a240) rfl rfl fun Q hQ => ?_,.refl,hi.st,e0 ▸ hv'⟩
  simp only [Trmn.a240]
  simp only [Int.natCast_zero] at h1 hr1
  simp [slotOf,h1,h2,hm,hr1,hr3,rocall,callee,partV,mkV]
  exact hQ
theorem op10 (hi:OpIn nf S h t nb lv l vs) (ho:t.op=10):OpG S h 241 t nb lv (opV t.op t.n l):=by
 have hl:=hi.len (by rw [ho]; decide) (k:=1) (by rw [ho]; rfl)
 obtain ⟨r,x,h1,h2,h3,h4⟩:=hi.arg (i:=0) (by omega)
 have hm:=many_q hi.rn 2 h3
 rw [ho,show opV 10 t.n l=match asMany 2 (l.getD 0 .unit) with | some x => .ok (x.getD 1 .unit) | none => .error ET from rfl]
 cases hc:asMany 2 (l.getD 0 .unit) with
 | none =>
  simp only [hc,RO] at hm
  refine ⟨h,cc_of (af:=Trmn.a241) rfl rfl fun Q hQ => ?_,.refl⟩
  simp only [Trmn.a241]
  simp only [Int.natCast_zero] at h1
  simp [slotOf,h1,h2,hm,rocall,callee]
  exact hQ
 | some p =>
  simp only [hc,RO] at hm
  obtain ⟨a,b',c,tt,lv',vs',hm,hs,hq,hv,_⟩:=hm
  have hp:p.length=2:=by
   rw [hv] at h4
   cases h4 with
   | many _ _ _ hk _=>rcases hk with h | h | h <;> omega
  have hvl:=hq.len
  obtain ⟨r',hr1,hr2⟩:=hs.idx (i:=1) (by omega)
  have hv':=hq.at_ 1 (by omega) (by omega)
  have hr3:=hr2 hv'.cell h Agr.refl
  have e0:p.getD 1 .unit=p[1]:=by rw [List.getD_eq_getElem?_getD,List.getElem?_eq_getElem (by omega)]; rfl
  refine ⟨_,S,h,cc_of (af:=Trmn.a241) rfl rfl fun Q hQ => ?_,.refl,hi.st,e0 ▸ hv'⟩
  simp only [Trmn.a241]
  simp only [Int.natCast_zero,Int.natCast_one] at h1 hr1
  simp [slotOf,h1,h2,hm,hr1,hr3,rocall,callee,partV,mkV]
  exact hQ
theorem op20 (hi:OpIn nf S h t nb lv l vs) (ho:t.op=20):OpG S h 248 t nb lv (opV t.op t.n l):=by
 have hl:=hi.len (by rw [ho]; decide) (k:=1) (by rw [ho]; rfl)
 obtain ⟨r,x,h1,h2,h3,h4⟩:=hi.arg (i:=0) (by omega)
 have hm:=list_q hi.rn h3
 rw [ho,show opV 20 t.n l=match asMany 4 (l.getD 0 .unit) with | some x => .ok (.num x.length) | none => .error ET from rfl]
 simp only [Int.natCast_zero] at h1
 cases hc:asMany 4 (l.getD 0 .unit) with
 | none =>
  simp only [hc,RO] at hm
  refine ⟨h,cc_of (af:=Trmn.a248) rfl rfl fun Q hQ => ?_,.refl⟩
  simp only [Trmn.a248]
  simp [slotOf,h1,h2,hm,rocall,callee]
  exact hQ
 | some p =>
  simp only [hc,RO] at hm
  obtain ⟨lv',vs',hm,hs,hq⟩:=hm
  have hlv:=hs.lenS
  rw [hq.len] at hlv
  refine ⟨_,S,h,cc_of (af:=Trmn.a248) rfl rfl fun Q hQ => ?_,.refl,hi.st,.num _⟩
  simp only [Trmn.a248]
  simp [slotOf,h1,h2,hm,hlv,rocall,callee]
  exact hQ
theorem op15 (hi:OpIn nf S h t nb lv l vs) (ho:t.op=15):OpG S h 244 t nb lv (opV t.op t.n l):=by
 have hl:=hi.len (by rw [ho]; decide) (k:=2) (by rw [ho]; rfl)
 obtain ⟨r,x,h1,h2,h3,h4⟩:=hi.arg (i:=0) (by omega)
 obtain ⟨r',y,g1,g2,g3,g4⟩:=hi.arg (i:=1) (by omega)
 obtain ⟨lv',kv,rs,_,hn,_⟩:=hi.rn.node
 obtain ⟨vars,hnm⟩:=hi.nm
 have hop:=hnm.2.2.2.1 ho
 have w1:=word_q hi.rn h3
 have w2:=word_q hi.rn g3
 have n1:=need_q hi.rn true 14
 have n0:=need_q hi.rn false 14
 simp only [RO] at w1 w2 n1 n0
 simp only [Int.natCast_zero,Int.natCast_one] at h1 g1
 rw [ho,show opV 15 t.n l=match asNum (l.getD 0 .unit) with
  | none => .error ET
  | some x=>match asNum (l.getD 1 .unit) with
   | none => .error ET
   | some y=>match doW t.n x y with
    | some z => .ok (.num z)
    | none => .error TR from rfl]
 cases hc:asNum (l.getD 0 .unit) with
 | none =>
  simp only [hc] at w1
  show OpG S h 244 t nb lv (.error ET)
  refine ⟨h,cc_of (af:=Trmn.a244) rfl rfl fun Q hQ => ?_,.refl⟩
  simp only [Trmn.a244]
  simp [slotOf,h1,h2,w1,rocall,callee]
  exact hQ
 | some a =>
  simp only [hc] at w1
  cases hd:asNum (l.getD 1 .unit) with
  | none =>
   simp only [hd] at w2
   show OpG S h 244 t nb lv (.error ET)
   refine ⟨h,cc_of (af:=Trmn.a244) rfl rfl fun Q hQ => ?_,.refl⟩
   simp only [Trmn.a244]
   simp [slotOf,h1,h2,g1,g2,w1,w2,hn,mkV,rocall,callee,tailOK,tailAt,tailOps,liveIn,lzT,forget,AOper.writes]
   exact hQ
  | some b =>
   simp only [hd] at w2
   have hdo:=do_q t.n hop.1 hop.2 (asNum_word h4 hc) (asNum_word g4 hd)
   rw [PC] at hdo
   show OpG S h 244 t nb lv (match doW t.n a b with | some z => .ok (.num z) | none => .error TR)
   cases hz:doW t.n a b with
   | none =>
    simp only [hz] at hdo
    show OpG S h 244 t nb lv (.error TR)
    refine ⟨h,cc_of (af:=Trmn.a244) rfl rfl fun Q hQ => ?_,.refl⟩
    simp only [Trmn.a244]
    simp [slotOf,h1,h2,g1,g2,w1,w2,hn,hdo,n0,mkV,rocall,callee,-pcall]
    exact hQ
   | some z =>
    simp only [hz] at hdo
    show OpG S h 244 t nb lv (.ok (.num z))
    refine ⟨_,S,h,cc_of (af:=Trmn.a244) rfl rfl fun Q hQ => ?_,.refl,hi.st,.num z⟩
    simp only [Trmn.a244]
    simp [slotOf,h1,h2,g1,g2,w1,w2,hn,hdo,n1,mkV,rocall,callee,-pcall]
    exact hQ
theorem op21 (hi:OpIn nf S h t nb lv l vs) (ho:t.op=21):OpG S h 249 t nb lv (opV t.op t.n l):=by
 have hl:=hi.len (by rw [ho]; decide) (k:=2) (by rw [ho]; rfl)
 obtain ⟨r,x,h1,h2,h3,h4⟩:=hi.arg (i:=0) (by omega)
 obtain ⟨r',y,g1,g2,g3,g4⟩:=hi.arg (i:=1) (by omega)
 have w1:=list_q hi.rn h3
 have w2:=word_q hi.rn g3
 have n1:=need_q hi.rn true 14
 have n0:=need_q hi.rn false 14
 simp only [RO] at w1 w2 n1 n0
 simp only [Int.natCast_zero,Int.natCast_one] at h1 g1
 rw [ho,show opV 21 t.n l=match asMany 4 (l.getD 0 .unit) with
  | none => .error ET
  | some x=>match asNum (l.getD 1 .unit) with
   | none => .error ET
   | some i=>if 0≤i∧i<x.length then .ok (x.getD i.toNat .unit) else .error TR from rfl]
 cases hc:asMany 4 (l.getD 0 .unit) with
 | none =>
  simp only [hc] at w1
  show OpG S h 249 t nb lv (.error ET)
  refine ⟨h,cc_of (af:=Trmn.a249) rfl rfl fun Q hQ => ?_,.refl⟩
  simp only [Trmn.a249]
  simp [slotOf,h1,h2,g1,g2,w1,rocall,callee,tailOK,tailAt,tailOps,liveIn,lzT,forget,AOper.writes]
  exact hQ
 | some p =>
  simp only [hc] at w1
  obtain ⟨lv',vs',w1,hs,hq⟩:=w1
  have hlv:=hs.lenS
  have hvl:=hq.len
  rw [hvl] at hlv
  cases hd:asNum (l.getD 1 .unit) with
  | none =>
   simp only [hd] at w2
   show OpG S h 249 t nb lv (.error ET)
   refine ⟨h,cc_of (af:=Trmn.a249) rfl rfl fun Q hQ => ?_,.refl⟩
   simp only [Trmn.a249]
   simp [slotOf,h1,h2,g1,g2,w1,w2,rocall,callee,tailOK,tailAt,tailOps,liveIn,lzT,forget,AOper.writes]
   exact hQ
  | some i =>
   simp only [hd] at w2
   show OpG S h 249 t nb lv (if 0≤i∧i<p.length then .ok (p.getD i.toNat .unit) else .error TR)
   by_cases c1:0≤i
   ·by_cases c2:i<p.length
    ·simp only [c1,c2,and_self,if_true]
     obtain ⟨n,rfl⟩:=Int.eq_ofNat_of_zero_le c1
     have c2':n<p.length:=by omega
     obtain ⟨q,hq1,hq2⟩:=hs.idx (i:=n) (by omega)
     have hv':=hq.at_ n c2' (by omega)
     have hq3:=hq2 hv'.cell h Agr.refl
     have e0:p.getD (n:Int).toNat .unit=p[n]:=by rw [List.getD_eq_getElem?_getD,Int.toNat_natCast,List.getElem?_eq_getElem c2']; rfl
     refine ⟨_,S,h,cc_of (af:=Trmn.a249) rfl rfl fun Q hQ => ?_,.refl,hi.st,e0 ▸ hv'⟩
     simp only [Trmn.a249]
     simp [slotOf,h1,h2,g1,g2,w1,w2,hlv,c2,n1,hq1,hq3,rocall,callee]
     exact hQ
    ·simp only [c2,and_false,if_false]
     show OpG S h 249 t nb lv (.error TR)
     refine ⟨h,cc_of (af:=Trmn.a249) rfl rfl fun Q hQ => ?_,.refl⟩
     simp only [Trmn.a249]
     simp [slotOf,h1,h2,g1,g2,w1,w2,hlv,c1,c2,n0,rocall,callee]
     exact hQ
   ·simp only [c1,false_and,if_false]
    show OpG S h 249 t nb lv (.error TR)
    refine ⟨h,cc_of (af:=Trmn.a249) rfl rfl fun Q hQ => ?_,.refl⟩
    simp only [Trmn.a249]
    simp [slotOf,h1,h2,g1,g2,w1,w2,hlv,c1,n0,rocall,callee]
    exact hQ
end
inductive OwnL (base:Nat) (H:Heap):V→List V→Prop
 | nil:OwnL base H .nils []
 | sl (b:Nat) (l:List V) (hb:base≤b) (ho:objCells H b=some (l.length,1,l)):OwnL base H (.sl b 0 l.length l.length 1 false) l
structure Keep (base:Nat) (E:Adr) (H H':Heap):Prop where
 len:H.length≤H'.length
 same:∀ a,a<base→¬ E a→H'[a]?=H[a]?
theorem objCells_lt {H:Heap} {b:Nat} {x} (h:objCells H b=some x):b<H.length:=by
 simp only [objCells] at h
 split at h
 ·rename_i n sz cs e; exact (List.getElem?_eq_some_iff.1 e).1
 ·cases h
theorem objCells_at {H:Heap} {b n sz:Nat} {cs:List V} (h:objCells H b=some (n,sz,cs)):H[b]?=some (.cells n sz cs):=by
 simp only [objCells] at h
 split at h
 ·rename_i e; cases h; exact e
 ·cases h
theorem objCells_of {h:Heap} {a n sz:Nat} {cs:List V} (ho:h[a]?=some (.cells n sz cs)):objCells h a=some (n,sz,cs):=by simp [objCells,ho]
theorem objCells_set {h:Heap} {a:Nat} (ha:a<h.length) (n sz:Nat) (cs:List V):objCells (h.set a (.cells n sz cs)) a=some (n,sz,cs):=by simp [objCells,ha]
theorem objCells_ne {h:Heap} {a b:Nat} (hne:a≠b) (o:Am.Obj):objCells (h.set a o) b=objCells h b:=by simp only [objCells,List.getElem?_set_ne hne]
section
variable {base:Nat} {E E':Adr} {H H' H2:Heap}
theorem Keep.refl:Keep base E H H:=⟨Nat.le_refl _,fun _ _ _=>rfl⟩
theorem Keep.trans (a:Keep base E H H') (b:Keep base E H' H2):Keep base E H H2:=⟨Nat.le_trans a.len b.len,fun x hx he=>(b.same x hx he).trans (a.same x hx he)⟩
theorem Keep.weak (a:Keep base E H H') (h:∀ x,E x→E' x):Keep base E' H H':=⟨a.len,fun x hx he=>a.same x hx fun e=>he (h x e)⟩
theorem Keep.cells (a:Keep base E H H') {x:Nat} (hx:x<base) (he:¬ E x):objCells H' x=objCells H x:=objCells_same (a.same x hx he)
theorem Keep.set {a:Nat} (ha:E a∨base≤a) (o:Am.Obj):Keep base E H (H.set a o):=⟨by simp,fun x hx he=>by
 have:a≠x:=by
  rintro rfl
  rcases ha with ha | ha
  ·exact he ha
  ·omega
 rw [List.getElem?_set_ne this]⟩
theorem OwnL.lenV {v:V} {l:List V} (h:OwnL base H v l):Am.lenV v=some (.int .i64 l.length):=by cases h <;> rfl
theorem OwnL.cell {v:V} {l:List V} (h:OwnL base H v l):isCell v=true:=by cases h <;> rfl
theorem OwnL.rsl {v:V} {l:List V} (h:OwnL base H v l) {S:Adr} (hS:∀ b,base≤b→b<H.length→S b):RSl S H v l:=by
 cases h with
 | nil=>exact .nil
 | sl b l hb ho =>
  have:=RSl.sl (S:=S) b 0 l.length l.length false l (hS b hb (objCells_lt ho)) ho rfl (by omega)
  simpa using this
theorem OwnL.set {v:V} {l:List V} (h:OwnL base H v l) {a:Nat} (ha:a<base) (o:Am.Obj):OwnL base (H.set a o) v l:=by
 cases h with
 | nil=>exact .nil
 | sl b l hb ho=>exact .sl b l hb (by rw [objCells_ne (by omega)]; exact ho)
theorem OwnL.app {v y x:V} {l:List V} (h:OwnL base H v l) (hb:base≤H.length) {bytes:Nat} (hy:sliceLen y=some 1) (hy2:sliceCells H y=some [x]) (hr:(l.length+1) * bytes≤room) :
  ∃ v' H',appV H v y 1 bytes=some (v',H')∧OwnL base H' v' (l++[x])∧Keep base E H H':=by
 cases h with
 | nil =>
  simp only [List.length_nil,Nat.zero_add] at hr
  refine ⟨.sl H.length 0 1 1 1 false,H++[.cells 1 1 [x]],?_,OwnL.sl H.length [x] hb (obj_last H 1 1 [x]),by simp,fun a ha _ => ?_⟩
  ·simp [appV,hy,hy2]
   simpa using hr
  ·rw [List.getElem?_append_left (by omega)]
 | sl b l hb' ho =>
  have hlt:=objCells_lt ho
  refine ⟨_,_,appV_own (objCells_at ho) hy hy2 (by simp) hr,?_,Keep.set (.inr hb') _⟩
  have:=OwnL.sl (base:=base) (H:=H.set b (.cells (l.length+1) 1 (l++[x]))) b (l++[x]) hb' (by simpa using objCells_set hlt (l.length+1) 1 (l++[x]))
  simpa using this
end
theorem neutral_q {op:Int} (ho:isJoin op=true):PC 34 [.int .i64 op] (.tup [.int .i64 (neutral op),.int .i64 0]):=by
 have hl:∀ op:Int,isJoin op=true→∃ b c,PC 67 [.int .i64 op] (.tup [.agg [.bool true,.bool b,.bool c],.int .i64 0]):=by
  intro op ho
  have c0:=isOp_q op
  have hc:op=0∨op=2∨op=7∨op=8∨op=9∨op=10∨op=11:=by simpa [isJoin,or_assoc] using ho
  have hd:decide (0≤op∧op<12)=true:=by simp; omega
  rw [PC,hd] at c0
  have key:∀ (n:Nat) (b c:Bool),(gl 2).drop (n * 3) = .bool true :: .bool b :: .bool c :: (gl 2).drop (n * 3+3)→n<12→pcall (lim gl Trmn.aprog) (.func (.func 65) [] []) [.int .i64 (n:Int)]=some (.val (.bool true))→PC 67 [.int .i64 (n:Int)] (.tup [.agg [.bool true,.bool b,.bool c],.int .i64 0]):=by
   intro n b c hg hn c0
   have hl:(gl 2).length=36:=rfl
   have h1:(n:Int)<12:=by omega
   have h2:n * 3≤36:=by omega
   refine pc_ro rfl (fun h=>rfl) (cc_of (af:=Trmn.a67) rfl rfl fun Q hQ => ?_)
   simp only [Trmn.a67]
   simp [slotOf,c0,h1,hl,h2,hg,mkV,-pcall]
   exact hQ
  rcases hc with rfl | rfl | rfl | rfl | rfl | rfl | rfl
  ·exact ⟨_,_,key 0 _ _ rfl (by omega) c0⟩
  ·exact ⟨_,_,key 2 _ _ rfl (by omega) c0⟩
  ·exact ⟨_,_,key 7 _ _ rfl (by omega) c0⟩
  ·exact ⟨_,_,key 8 _ _ rfl (by omega) c0⟩
  ·exact ⟨_,_,key 9 _ _ rfl (by omega) c0⟩
  ·exact ⟨_,_,key 10 _ _ rfl (by omega) c0⟩
  ·exact ⟨_,_,key 11 _ _ rfl (by omega) c0⟩
 obtain ⟨b,c,h1⟩:=hl op ho
 rw [PC] at h1
 have key:∀ (n:Nat) (z:Int),(gl 1).drop n = .int .i64 z :: (gl 1).drop (n+1)→n<12→pcall (lim gl Trmn.aprog) (.func (.func 67) [] []) [.int .i64 (n:Int)]=some (.val (.tup [.agg [.bool true,.bool b,.bool c],.int .i64 0]))→PC 34 [.int .i64 (n:Int)] (.tup [.int .i64 z,.int .i64 0]):=by
  intro n z hg hn h1
  have hl:(gl 1).length=12:=rfl
  have h2:(n:Int)<12:=by omega
  have h3:n≤12:=by omega
  refine pc_ro rfl (view_int2 _ _ _ _) (cc_of (af:=Trmn.a34) rfl rfl fun Q hQ => ?_)
  simp only [Trmn.a34]
  simp [slotOf,h1,h2,hl,h3,hg,mkV,fill,sameKs,sameLK,-pcall]
  exact hQ
 have hc:op=0∨op=2∨op=7∨op=8∨op=9∨op=10∨op=11:=by simpa [isJoin,or_assoc] using ho
 rcases hc with rfl | rfl | rfl | rfl | rfl | rfl | rfl
 ·exact key 0 _ rfl (by omega) h1
 ·exact key 2 _ rfl (by omega) h1
 ·exact key 7 _ rfl (by omega) h1
 ·exact key 8 _ rfl (by omega) h1
 ·exact key 9 _ rfl (by omega) h1
 ·exact key 10 _ rfl (by omega) h1
 ·exact key 11 _ rfl (by omega) h1
theorem join_range {op:Int} (ho:isJoin op=true):0≤op∧op≤11∧∀ a b,(doW op a b).isSome=true:=by
 have hc:op=0∨op=2∨op=7∨op=8∨op=9∨op=10∨op=11:=by simpa [isJoin,or_assoc] using ho
 refine ⟨by omega,by omega,fun a b => ?_⟩
 rcases hc with rfl | rfl | rfl | rfl | rfl | rfl | rfl <;> rfl
section
variable {h:Heap} {op a b:Int}
theorem join_q (ho:isJoin op=true) (ha:isWord a=true) (hb:isWord b=true) (z:Int):PC 292 [.agg [.int .i64 op,.int .i64 z],.int .i64 a,.int .i64 b] (.int .i64 (joinW op a b)):=by
 obtain ⟨h0,h1,h2⟩:=join_range ho
 obtain ⟨c,hc⟩:=Option.isSome_iff_exists.1 (h2 a b)
 have hd:=do_q op h0 h1 ha hb
 rw [hc] at hd
 simp only [PC] at hd
 have e:joinW op a b=c:=by simp [joinW,hc]
 refine pc_ro rfl (view_int _ _) (cc_of (af:=Trmn.a292) rfl rfl fun Q hQ => ?_)
 simp only [Trmn.a292]
 rw [e] at hQ
 simp [slotOf,hd,mkV,-pcall]
 exact hQ
theorem by_q (ho:isJoin op=true) (ha:isWord a=true) (hb:isWord b=true) {ob:Nat} {z:Int} (hob:objCells h ob=some (1,2,[.int .i64 op,.int .i64 z])):CC 291 [.int .i64 a,.int .i64 b,.ref ob 0 1] h (.ret (.int .i64 (joinW op a b))) h:=by
 have hj:=join_q ho ha hb z
 rw [PC] at hj
 refine cc_of (af:=Trmn.a291) rfl rfl fun Q hQ => ?_
 simp only [Trmn.a291]
 simp [slotOf,hob,hj,mkV,-pcall]
 exact hQ
theorem of_q (ho:isJoin op=true):CC 286 [.int .i64 op] h (.ret (.tup [.agg [.int .i64 op,.int .i64 (neutral op),.func (.func 291) [] [.ref h.length 0 1]],.int .i64 0])) (h++[.cells 1 2 [.int .i64 op,.int .i64 (neutral op)]]):=by
 have hn:=neutral_q ho
 rw [PC] at hn
 have e:objCells (h++[.cells 1 2 [.int .i64 0,.int .i64 0]]) h.length=some (1,2,[.int .i64 0,.int .i64 0]):=by simp [objCells]
 have e2:objCells (h++[.cells 1 2 [.int .i64 op,.int .i64 (neutral op)]]) h.length=some (1,2,[.int .i64 op,.int .i64 (neutral op)]):=by simp [objCells]
 refine cc_of (af:=Trmn.a286) rfl rfl fun Q hQ => ?_
 simp only [Trmn.a286]
 simp [slotOf,hn,fill,mkV,storeV,e,e2,-pcall]
 exact hQ
theorem isw1_q (n:Int):CC 294 [.int .i64 n] h (.ret (.bool (!isWord n))) h:=by
 have hw:=isW_q n
 rw [PC] at hw
 refine cc_of (af:=Trmn.a294) rfl rfl fun Q hQ => ?_
 simp only [Trmn.a294]
 simp [slotOf,hw,-pcall]
 exact hQ
theorem idxw_q {S0:Adr} {v:V} {xs:List Int} (hs:RSl S0 h v (xs.map (.int .i64))) (hlen:xs.length≤2 ^ 40) (hw:∀ x∈xs,isWord x=true):CC 297 [v,.func (.func 294) [] []] h (.ret (.int .i64 (-1))) h:=by
 have hlv:=hs.lenS
 simp only [List.length_map] at hlv
 refine cc_of (af:=Trmn.a297) rfl rfl fun Q hQ => ?_
 simp only [Trmn.a297]
 simp [slotOf,hlv]
 refine loop_nQ xs.length (fun i c=>∃ s3 fl,c=⟨[v,.func (.func 294) [] [],.int .i64 0,s3,.int .i64 xs.length,.int .i64 i],[],fl,none,h⟩) ?_ ⟨.undef,none,by simp⟩
 rintro I hI i c hi ⟨s3,fl,rfl⟩
 by_cases hlt:i<xs.length
 ·have hlt':(i:Int)<xs.length:=by omega
  obtain ⟨r,hr1,hr2⟩:=hs.idx (i:=i) (by simpa using hlt)
  have hr3:=hr2 (by simp [isCell]) h Agr.refl
  have hc:=isw1_q (h:=h) xs[i]
  rw [CC,hw _ (List.getElem_mem hlt)] at hc
  simp only [List.getElem_map] at hr3
  have w5:IntKind.i64.wrap ((i:Int)+1)=(i:Int)+1:=wrap64 (by omega) (by omega)
  generalize xs[i]=x at *
  simp [hlt',hr1,hr3,hc,callee,ecallF,slotOf,w5]
  exact ⟨hlt,hI _ _ ⟨.int .i64 i,none,by simp⟩⟩
 ·obtain rfl:i=xs.length:=by omega
  simp [slotOf]
  exact hQ
theorem cfw_q {S0:Adr} {v:V} {xs:List Int} (hs:RSl S0 h v (xs.map (.int .i64))) (hlen:xs.length≤2 ^ 40) (hw:∀ x∈xs,isWord x=true):CC 293 [v,.func (.func 294) [] []] h (.ret (.bool false)) h:=by
 have hc:=idxw_q hs hlen hw
 rw [CC] at hc
 refine cc_of (af:=Trmn.a293) rfl rfl fun Q hQ => ?_
 simp only [Trmn.a293]
 simp [slotOf,hc,callee,ecallF]
 exact hQ
theorem scwords_q {S0:Adr} {v:V} {xs:List Int} (hs:RSl S0 h v (xs.map (.int .i64))) (hlen:xs.length≤4096) (hw:∀ x∈xs,isWord x=true):CC 287 [v] h (.ret (.int .i64 0)) h:=by
 have hc:=cfw_q hs (by omega) hw
 rw [CC] at hc
 have hlv:=hs.lenS
 simp only [List.length_map] at hlv
 have e:¬ (1048576<(xs.length:Int)):=by omega
 refine cc_of (af:=Trmn.a287) rfl rfl fun Q hQ => ?_
 simp only [Trmn.a287]
 simp [slotOf,hc,hlv,e,callee,ecallF]
 exact hQ
end
theorem objCells_loop {H:Heap} {lb y:Nat} {fi:List V} {st:LoopState} {pd:Option (Option Nat)} (hl:H[lb]?=some (.loop y fi st pd)):objCells H lb=none:=by simp [objCells,hl]
theorem objCells_setloop {H:Heap} {lb y:Nat} {fi:List V} {st:LoopState} {pd:Option (Option Nat)} (hl:H[lb]?=some (.loop y fi st pd)) (y':Nat) (fi':List V) (st':LoopState) (pd':Option (Option Nat)) (b:Nat) :
  objCells (H.set lb (.loop y' fi' st' pd')) b=objCells H b:=by
 by_cases h:lb=b
 ·subst h
  rw [objCells_loop hl]
  have hlt:lb<H.length:=(List.getElem?_eq_some_iff.1 hl).1
  simp [objCells,hlt]
 ·exact objCells_ne h _
section
variable {H:Heap} {lb wb jb ob opb base:Nat} {op:Int} {pd:Option (Option Nat)} {part:V} {S0:Adr} {xs:List Int}
abbrev tfi (wb jb ob:Nat):List V:=[.ref wb 0 1,.ref jb 0 1,.ref ob 0 1]
structure TIn (H:Heap) (lb wb jb ob opb base:Nat) (op:Int) (pd:Option (Option Nat)) (w:List V) (part:V) (S0:Adr) (xs:List Int):Prop where
 jn:isJoin op=true
 lp:H[lb]?=some (.loop 12780 (tfi wb jb ob) .ready pd)
 way:objCells H wb=some (1,2,w)
 joi:objCells H jb=some (1,3,[.int .i64 op,.int .i64 (neutral op),.func (.func 291) [] [.ref opb 0 1]])
 opo:objCells H opb=some (1,2,[.int .i64 op,.int .i64 (neutral op)])
 out:objCells H ob=some (1,1,[.nils])
 b1:wb<base
 b2:jb<base
 b3:ob<base
 b4:opb<base
 b5:lb<base
 bl:base≤H.length
 rs:RSl S0 H part (xs.map (.int .i64))
 hw:∀ x∈xs,isWord x=true
 hx:xs.length≤4096
 ps:∀ b,S0 b→b<base∧b≠ob
theorem foldW_take {op a:Int} {xs:List Int} {i:Nat} (h:i<xs.length):foldW op a (xs.take (i+1))=joinW op (foldW op a (xs.take i)) xs[i]:=by
 rw [← List.take_append_getElem h]
 simp only [foldW,List.foldl_append,List.foldl_cons,List.foldl_nil]
theorem foldW_words {op:Int} {xs:List Int} (hw:∀ x∈xs,isWord x=true) (i:Nat):isWord (foldW op (neutral op) (xs.take i))=true:=foldW_word (neutral_word op) fun x hx=>hw x (List.mem_of_mem_take hx)
theorem round_fold (hi:TIn H lb wb jb ob opb base op pd [.nilf,.bool true] part S0 xs):∃ v H',(lim gl Trmn.aprog).round 12780 lb (tfi wb jb ob++[part]) H=some (.norm,H')∧H'[lb]?=some (.loop 12780 (tfi wb jb ob) .ready none) ∧
  OwnL base H' v [.int .i64 (foldW op (neutral op) xs)]∧objCells H' ob=some (1,1,[v])∧Keep base (fun a=>a=ob∨a=lb) H H':=by
 have hlb:lb<H.length:=(List.getElem?_eq_some_iff.1 hi.lp).1
 have hne:ob≠lb:=by
  rintro rfl
  have:=objCells_loop hi.lp
  rw [hi.out] at this; cases this
 -- the heap of the body
 generalize hB:H.set lb (.loop 12780 (tfi wb jb ob) .busy pd)=B
 have hc:∀ b,objCells B b=objCells H b:=fun b=>by rw [← hB]; exact objCells_setloop hi.lp _ _ _ _ b
 have hBl:B[lb]?=some (.loop 12780 (tfi wb jb ob) .busy pd):=by rw [← hB]; simp [hlb]
 have hBn:B.length=H.length:=by rw [← hB]; simp
 have hrs:RSl S0 B part (xs.map (.int .i64)):=hi.rs.mono (fun _ h=>h) fun b _=>hc b
 have hlv:=hrs.lenS
 simp only [List.length_map] at hlv
 obtain ⟨v,H1,ha,hv,hk⟩:=OwnL.app (base:=base) (E:=fun _=>False) (H:=B) (v:=.nils) (l:=[]) .nil (by have:=hi.bl; omega) (bytes:=8) (y:=.sv [[.int .i64 (foldW op (neutral op) xs)]] true) (x:=.int .i64 (foldW op (neutral op) xs)) rfl rfl (by simp [room])
 have ho1:objCells H1 ob=some (1,1,[.nils]):=by rw [hk.cells hi.b3 (fun h=>h),hc]; exact hi.out
 have hl1:H1[lb]?=some (.loop 12780 (tfi wb jb ob) .busy pd):=by rw [hk.same lb hi.b5 (fun h=>h)]; exact hBl
 have hol:ob<H1.length:=objCells_lt ho1
 have hvc:=hv.cell
 have hv1:=cellsV_cell hvc
 have key:OptP ((lim gl Trmn.aprog).round 12780 lb (tfi wb jb ob++[part]) H) (fun o H'=>o = .norm∧H'=(H1.set ob (.cells 1 1 [v])).set lb (.loop 12780 (tfi wb jb ob) .ready none)):=by
  refine round_of (af:=Trmn.a12780) (c1:=⟨[.ref wb 0 1,.ref jb 0 1,.ref ob 0 1,part,.undef,.undef,.undef,part,.undef,.undef,.undef],[],none,none,H⟩) (fi:=tfi wb jb ob) (pd:=pd) rfl rfl rfl ?_ hi.lp ?_
  ·simp [Trmn.a12780,exec,regA,runOps,wanted,stepOp,ev,setSlot,pushD,find2,putSlot,outA]
  ·rw [hB]
   simp only [Trmn.a12780]
   simp [slotOf,hc,hi.joi,hlv,mkV]
   refine loop_nQ xs.length (fun i c=>∃ s5 s6 fl,c=⟨[.ref wb 0 1,.ref jb 0 1,.ref ob 0 1,part,.int .i64 (foldW op (neutral op) (xs.take i)),s5,s6,part,part,.int .i64 xs.length,.int .i64 i],[],fl,none,B⟩) ?_ ⟨.undef,.undef,none,by simp [foldW]⟩
   rintro I hI i c hil ⟨s5,s6,fl,rfl⟩
   by_cases hlt:i<xs.length
   ·have hlt':(i:Int)<xs.length:=by omega
    obtain ⟨r,hr1,hr2⟩:=hrs.idx (i:=i) (by simpa using hlt)
    have hr3:=hr2 (by simp [isCell]) B Agr.refl
    simp only [List.getElem_map] at hr3
    have hby:=by_q (h:=B) hi.jn (foldW_words (op:=op) hi.hw i) (hi.hw _ (List.getElem_mem hlt)) (ob:=opb) (z:=neutral op) (by rw [hc]; exact hi.opo)
    rw [CC,← foldW_take hlt] at hby
    have w5:IntKind.i64.wrap ((i:Int)+1)=(i:Int)+1:=wrap64 (by omega) (by have:=hi.hx; omega)
    generalize xs[i]=x at *
    generalize foldW op (neutral op) (xs.take i)=z at *
    simp [hlt',hr1,hr3,hby,hc,hi.joi,hi.way,callee,ecallF,slotOf,w5,mkV,isNilV]
    exact ⟨hlt,hI _ _ ⟨.int .i64 x,.int .i64 (foldW op (neutral op) (xs.take (i+1))),none,by simp⟩⟩
   ·obtain rfl:i=xs.length:=by have:=hil; omega
    have ho2:(H1.set ob (.cells 1 1 [v]))[lb]?=some (.loop 12780 (tfi wb jb ob) .busy pd):=by rw [List.getElem?_set_ne hne]; exact hl1
    rw [List.take_length]
    simp [slotOf,hc,hi.way,hi.out,mkV,fill,chunks,ha,storeV,ho1,hvc,hv1,roundE,ho2]
 obtain ⟨o,H',e,rfl,rfl⟩:=OptP.ex key
 refine ⟨v,_,e,?_,?_,?_,?_⟩
 ·have:lb<(H1.set ob (Am.Obj.cells 1 1 [v])).length:=by simp; have:=hk.len; omega
  simp at this
  simp [this]
 ·exact (hv.set hi.b3 _).set hi.b5 _
 ·rw [objCells_ne (Ne.symm hne)]; exact objCells_set hol 1 1 [v]
 ·have k1:Keep base (fun a=>a=ob∨a=lb) H B:=by rw [← hB]; exact Keep.set (.inl (.inr rfl)) _
  exact ((k1.trans (hk.weak fun _ h=>h.elim)).trans (Keep.set (.inl (.inl rfl)) _)).trans (Keep.set (.inl (.inr rfl)) _)
theorem scanW_get {op:Int}:∀ {xs:List Int} {a:Int} {i:Nat} (h:i<(scanW op a xs).length),(scanW op a xs)[i]=foldW op a (xs.take i)
 | [],a,i,h=>by simp [scanW] at h
 | x :: xs,a,0,h=>by simp [scanW,foldW]
 | x :: xs,a,i+1,h=>by
  simp only [scanW,List.getElem_cons_succ,List.take_succ_cons]
  rw [scanW_get]
  rfl
theorem scanW_take {op a:Int} {xs:List Int} {i:Nat} (h:i<xs.length):(scanW op a xs).take (i+1)=(scanW op a xs).take i++[foldW op a (xs.take i)]:=by
 have hl:i<(scanW op a xs).length:=by rw [scanW_length]; exact h
 rw [← List.take_append_getElem hl,scanW_get hl]
theorem OwnL.eqv {v:V} {l:List V} (h:OwnL base H v l):eqV v v=true:=by
 cases h with
 | nil=>rfl
 | sl b l hb ho=>simp [eqV]
theorem scan1_q {h:Heap} (a b:Int):CC 279 [.int .i64 a,.int .i64 b] h (.ret (.int .i64 a)) h:=by
 refine cc_of (af:=Trmn.a279) rfl rfl fun Q hQ => ?_
 simp only [Trmn.a279]
 simp [slotOf]
 exact hQ
theorem round_scan (hi:TIn H lb wb jb ob opb base op pd [.func (.func 279) [] [],.bool false] part S0 xs):∃ v H',(lim gl Trmn.aprog).round 12780 lb (tfi wb jb ob++[part]) H=some (.norm,H')∧H'[lb]?=some (.loop 12780 (tfi wb jb ob) .ready none) ∧
  OwnL base H' v ((scanW op (neutral op) xs).map (.int .i64))∧objCells H' ob=some (1,1,[v])∧Keep base (fun a=>a=ob∨a=lb) H H':=by
 have hlb:lb<H.length:=(List.getElem?_eq_some_iff.1 hi.lp).1
 have hne:ob≠lb:=by
  rintro rfl
  have:=objCells_loop hi.lp
  rw [hi.out] at this; cases this
 have hwo:wb≠ob:=by
  rintro rfl
  have:=hi.way
  rw [hi.out] at this; cases this
 have hjo:jb≠ob:=by
  rintro rfl
  have:=hi.joi
  rw [hi.out] at this; cases this
 have hpo:opb≠ob:=by
  rintro rfl
  have:=hi.opo
  rw [hi.out] at this; cases this
 -- the heap of the body
 generalize hB:H.set lb (.loop 12780 (tfi wb jb ob) .busy pd)=B
 have hc:∀ b,objCells B b=objCells H b:=fun b=>by rw [← hB]; exact objCells_setloop hi.lp _ _ _ _ b
 have hBl:B[lb]?=some (.loop 12780 (tfi wb jb ob) .busy pd):=by rw [← hB]; simp [hlb]
 have hBn:B.length=H.length:=by rw [← hB]; simp
 have hlv:=hi.rs.lenS
 simp only [List.length_map] at hlv
 have key:OptP ((lim gl Trmn.aprog).round 12780 lb (tfi wb jb ob++[part]) H) (fun o H'=>o = .norm∧∃ v H1,H'=H1.set lb (.loop 12780 (tfi wb jb ob) .ready none)∧OwnL base H1 v ((scanW op (neutral op) xs).map (.int .i64)) ∧
   objCells H1 ob=some (1,1,[v])∧Keep base (fun a=>a=ob) B H1):=by
  refine round_of (af:=Trmn.a12780) (c1:=⟨[.ref wb 0 1,.ref jb 0 1,.ref ob 0 1,part,.undef,.undef,.undef,part,.undef,.undef,.undef],[],none,none,H⟩) (fi:=tfi wb jb ob) (pd:=pd) rfl rfl rfl ?_ hi.lp ?_
  ·simp [Trmn.a12780,exec,regA,runOps,wanted,stepOp,ev,setSlot,pushD,find2,putSlot,outA]
  ·rw [hB]
   simp only [Trmn.a12780]
   simp [slotOf,hc,hi.joi,hlv,mkV]
   refine loop_nQ xs.length (fun i c=>∃ s5 s6 fl v H1,OwnL base H1 v (((scanW op (neutral op) xs).take i).map (.int .i64))∧objCells H1 ob=some (1,1,[v])∧Keep base (fun a=>a=ob) B H1 ∧
    c=⟨[.ref wb 0 1,.ref jb 0 1,.ref ob 0 1,part,.int .i64 (foldW op (neutral op) (xs.take i)),s5,s6,part,part,.int .i64 xs.length,.int .i64 i],[],fl,none,H1⟩) ?_ ⟨.undef,.undef,none,.nils,B,by simpa using OwnL.nil,by rw [hc]; exact hi.out,Keep.refl,by simp [foldW]⟩
   rintro I hI i c hil ⟨s5,s6,fl,v,H1,hv,ho1,hk,rfl⟩
   have hw1:objCells H1 wb=some (1,2,[.func (.func 279) [] [],.bool false]):=by rw [hk.cells hi.b1 hwo,hc]; exact hi.way
   have hj1:objCells H1 jb=some (1,3,[.int .i64 op,.int .i64 (neutral op),.func (.func 291) [] [.ref opb 0 1]]):=by rw [hk.cells hi.b2 hjo,hc]; exact hi.joi
   by_cases hlt:i<xs.length
   ·have hlt':(i:Int)<xs.length:=by omega
    obtain ⟨r,hr1,hr2⟩:=hi.rs.idx (i:=i) (by simpa using hlt)
    -- the part lies ahead
    have hr3:loadV H1 r 1 false=some (.int .i64 xs[i]):=by
     have:=hr2 (by simp [isCell]) H1 (fun b hb => ?_)
     ·simpa using this
     ·rw [hk.cells (hi.ps b hb).1 (hi.ps b hb).2,hc]
    have hby:=by_q (h:=H1) hi.jn (foldW_words (op:=op) hi.hw i) (hi.hw _ (List.getElem_mem hlt)) (ob:=opb) (z:=neutral op) (by rw [hk.cells hi.b4 hpo,hc]; exact hi.opo)
    rw [CC,← foldW_take hlt] at hby
    have hsc:=scan1_q (h:=H1) (foldW op (neutral op) (xs.take i)) (foldW op (neutral op) (xs.take (i+1)))
    rw [CC] at hsc
    have w5:IntKind.i64.wrap ((i:Int)+1)=(i:Int)+1:=wrap64 (by omega) (by have:=hi.hx; omega)
    obtain ⟨v',H2,ha,hv',hk'⟩:=hv.app (E:=fun _=>False) (by have:=hk.len; have:=hi.bl; omega) (bytes:=8) (y:=.sv [[.int .i64 (foldW op (neutral op) (xs.take i))]] true) (x:=.int .i64 (foldW op (neutral op) (xs.take i))) rfl rfl (by simp [room,scanW_length]; have:=hi.hx; omega)
    have ho2:objCells H2 ob=some (1,1,[v]):=by rw [hk'.cells hi.b3 (fun h=>h)]; exact ho1
    have hol:ob<H2.length:=objCells_lt ho2
    have hvc:=hv'.cell
    have hv1:=cellsV_cell hvc
    have hev:=hv.eqv
    have ht:((scanW op (neutral op) xs).take (i+1)).map (V.int .i64)=((scanW op (neutral op) xs).take i).map (V.int .i64)++[.int .i64 (foldW op (neutral op) (xs.take i))]:=by rw [scanW_take hlt,List.map_append]; rfl
    rw [← ht] at hv'
    generalize hz:foldW op (neutral op) (xs.take i)=z at *
    generalize xs[i]=x at *
    simp [hlt',hr1,hr3,hby,hsc,hw1,hj1,ho1,ho2,ha,hev,hvc,hv1,storeV,callee,ecallF,slotOf,w5,mkV,isNilV,fill,chunks]
    exact ⟨hlt,hI _ _ ⟨.int .i64 x,.int .i64 (foldW op (neutral op) (xs.take (i+1))),none,v',H2.set ob (.cells 1 1 [v']),hv'.set hi.b3 _,objCells_set hol _ _ _,(hk.trans (hk'.weak fun _ h=>h.elim)).trans (Keep.set (E:=fun a=>a=ob) (.inl rfl) _),by simp⟩⟩
   ·obtain rfl:i=xs.length:=by have:=hil; omega
    have hl1:H1[lb]?=some (.loop 12780 (tfi wb jb ob) .busy pd):=by rw [hk.same lb hi.b5 (Ne.symm hne)]; exact hBl
    rw [List.take_of_length_le (by rw [scanW_length]; omega)] at hv
    simp [slotOf,hw1,mkV,roundE,hl1]
    exact ⟨v,H1,rfl,hv,ho1,hk⟩
 obtain ⟨o,H',e,rfl,v,H1,rfl,hv,ho1,hk⟩:=OptP.ex key
 refine ⟨v,_,e,?_,?_,?_,?_⟩
 ·have:lb<H1.length:=by have:=hk.len; omega
  simp [this]
 ·exact hv.set hi.b5 _
 ·rw [objCells_ne (Ne.symm hne)]; exact ho1
 ·have k1:Keep base (fun a=>a=ob∨a=lb) H B:=by rw [← hB]; exact Keep.set (.inl (.inr rfl)) _
  exact (k1.trans (hk.weak fun _ h => .inl h)).trans (Keep.set (.inl (.inr rfl)) _)
end
theorem WX_range_ret {f:Opd} {y:Nat} {cap:List Nat} {path:List Bool} {sl:List V} {ds:List (V×List V)} {fl:Option (Nat×V)} {h h':Heap} {Q:Out→Cfg→Prop} {n:Nat} {as:List V} {v:V} {y':Nat} {fi:List V} {st:LoopState}
  (hc:callee (ev gl [] sl f) [.yf h.length]=some (n,as)) (hcall:(lim gl Trmn.aprog).call n as (h++[.loop y (cap.map fun s=>sl.getD s .undef) .ready none])=some (.ret v,h')) (hl:h'[h.length]?=some (.loop y' fi st none)) (hst:st ≠ .busy)
  (hq:Q .norm ⟨sl,(.undef,[]) :: ds,none,none,h'.set h.length (.loop y' fi .exhausted none)⟩):WX (lim gl Trmn.aprog) gl (.range f y cap path) ⟨sl,ds,fl,none,h⟩ Q:=by
 unfold WX
 simp only [exec,hc,hcall,hl,hst,if_false,Option.isSome_none,Bool.false_eq_true]
 exact hq
theorem WX_range_pan {f:Opd} {y:Nat} {cap:List Nat} {path:List Bool} {sl:List V} {ds:List (V×List V)} {fl:Option (Nat×V)} {h h':Heap} {Q:Out→Cfg→Prop} {n:Nat} {as:List V} {v:V}
  (hc:callee (ev gl [] sl f) [.yf h.length]=some (n,as)) (hcall:(lim gl Trmn.aprog).call n as (h++[.loop y (cap.map fun s=>sl.getD s .undef) .ready none])=some (.pan v,h'))
  (hq:Q (.pan v) ⟨sl,(.undef,[]) :: ds,none,none,h'⟩):WX (lim gl Trmn.aprog) gl (.range f y cap path) ⟨sl,ds,fl,none,h⟩ Q:=by
 unfold WX
 simp only [exec,hc,hcall,Option.isSome_none,Bool.false_eq_true,if_false]
 exact hq
theorem ycall_norm {h h':Heap} {b y:Nat} {fi args:List V} {pd:Option (Option Nat)} (hl:h[b]?=some (.loop y fi .ready pd)) (hr:(lim gl Trmn.aprog).round y b (fi++args) h=some (.norm,h')):ecall (lim gl Trmn.aprog) h false (.yf b) args=some (.val (.bool true) h'):=by
 simp [ecall,ycall,hl,hr]
theorem ycall_pan {h h':Heap} {b y:Nat} {fi args:List V} {pd:Option (Option Nat)} {v:V} (hl:h[b]?=some (.loop y fi .ready pd)) (hr:(lim gl Trmn.aprog).round y b (fi++args) h=some (.pan v,h')):ecall (lim gl Trmn.aprog) h false (.yf b) args=some (.pan v h'):=by
 simp [ecall,ycall,hl,hr]
theorem segs_q {H H':Heap} {lb lo le:Nat} {lv:V} {xs:List Int} {S0:Adr} {part:V} (hl:objCells H lo=some (1,1,[lv])) (he:objCells H le=some (1,1,[.sv [[.int .i64 xs.length]] true])) (hx:xs.length≤4096)
  (hp:slcV lv (some (.int .i64 0)) (some (.int .i64 xs.length)) (some (.int .i64 xs.length)) false 1=some part)
  {fi:List V} {pd:Option (Option Nat)} (hlp:H[lb]?=some (.loop 12780 fi .ready pd)) (hr:(lim gl Trmn.aprog).round 12780 lb (fi++[part]) H=some (.norm,H')):CC 295 [.yf lb,.ref le 0 1,.ref lo 0 1] H (.ret (.tup [])) H':=by
 have hy:=ycall_norm (args:=[part]) hlp hr
 have w1:IntKind.i64.wrap (0+(xs.length:Int))=xs.length:=by rw [wrap64 (by omega) (by omega)]; omega
 have w2:IntKind.i64.wrap (xs.length:Int)=xs.length:=wrap64 (by omega) (by omega)
 refine cc_of (af:=Trmn.a295) rfl rfl fun Q hQ => ?_
 simp only [Trmn.a295]
 simp [slotOf,hl,he,mkV]
 refine loop_nQ 1 (fun i c=>(i=0∧c=⟨[.yf lb,.ref le 0 1,.ref lo 0 1,.int .i64 0,.undef,.sv [[.int .i64 xs.length]] true,.int .i64 1,.int .i64 0],[],none,none,H⟩)∨(i=1∧∃ fl,c=⟨[.yf lb,.ref le 0 1,.ref lo 0 1,.int .i64 xs.length,.int .i64 xs.length,.sv [[.int .i64 xs.length]] true,.int .i64 1,.int .i64 1],[],fl,none,H'⟩)) ?_ (.inl ⟨rfl,rfl⟩)
 rintro I hI i c hi (⟨rfl,rfl⟩ | ⟨rfl,fl,rfl⟩)
 ·have w3:IntKind.i64.wrap (1:Int)=1:=by decide
  simp [slotOf,hl,mkV,w1,w2,w3,hp,hy,idxV]
  exact hI _ _ (.inr ⟨rfl,none,rfl⟩)
 ·simp [slotOf]
  exact hQ
theorem slc_all {S0:Adr} {h:Heap} {lv:V} {l:List V} (hs:RSl S0 h lv l):∃ part,slcV lv (some (.int .i64 0)) (some (.int .i64 l.length)) (some (.int .i64 l.length)) false 1=some part∧RSl S0 h part l:=by
 cases hs with
 | nil=>exact ⟨.nils,rfl,.nil⟩
 | sv l ex =>
  refine ⟨.sv (l.map fun x=>[x]) true,?_,.sv l true⟩
  have:headSz 1 (l.map fun x=>[x])=true:=by
   cases l <;> simp [headSz]
  simp [slcV,bnds,optInt,this]
  rw [List.take_of_length_le (by simp)]
 | sl b off len g ex cs hS ho hc hl =>
  have e:((cs.drop off).take len).length=len:=by simp; omega
  refine ⟨.sl b off len g 1 true,?_,.sl b off len g true cs hS ho hc hl⟩
  rw [e]
  simp [slcV,bnds,optInt]
theorem cut_q {S0:Adr} {h:Heap} {lv:V} {l:List V} (hs:RSl S0 h lv l):∃ v,CC 289 [lv] h (.ret v) h∧RSl S0 h v l:=by
 have hl:=hs.lenS
 have key:∀ v,slcV lv none (some (.int .i64 l.length)) (some (.int .i64 l.length)) false 1=some v→CC 289 [lv] h (.ret v) h:=by
  intro v hv
  refine cc_of (af:=Trmn.a289) rfl rfl fun Q hQ => ?_
  simp only [Trmn.a289]
  simp [slotOf,hl,hv]
  exact hQ
 cases hs with
 | nil=>exact ⟨.nils,key _ rfl,.nil⟩
 | sv l ex =>
  refine ⟨.sv (l.map fun x=>[x]) true,key _ ?_,.sv l true⟩
  have:headSz 1 (l.map fun x=>[x])=true:=by
   cases l <;> simp [headSz]
  simp [slcV,bnds,optInt,this]
  rw [List.take_of_length_le (by simp)]
 | sl b off len g ex cs hS ho hc hl' =>
  have e:((cs.drop off).take len).length=len:=by simp; omega
  refine ⟨.sl b off len g 1 true,key _ ?_,.sl b off len g true cs hS ho hc hl'⟩
  rw [e]
  simp [slcV,bnds,optInt]
section
variable {h:Heap} {op:Int} {lv:V} {S0:Adr} {xs:List Int}
theorem segf_q (v1 v2:V) (h1:isCell v1=true) (h2:isCell v2=true):CC 288 [v1,v2] h (.ret (.func (.func 295) [] [.ref (h.length+1) 0 1,.ref h.length 0 1])) (h++[.cells 1 1 [v1],.cells 1 1 [v2]]):=by
 have e1:=cellsV_cell h1
 have e2:=cellsV_cell h2
 refine cc_of (af:=Trmn.a288) rfl rfl fun Q hQ => ?_
 simp only [Trmn.a288]
 simp [slotOf,h1,h2,e1,e2]
 exact hQ
theorem told_q (hjn:isJoin op=true) (hs0:∀ b,S0 b→b<h.length) (hs:RSl S0 h lv (xs.map (.int .i64))) (hw:∀ x∈xs,isWord x=true) (hx:xs.length≤4096) (w:List V) (ys:List Int)
  (hwc:∃ a b,w=[a,b]∧isCell a=true∧isCell b=true) (hys:ys.length≤4096)
  (hround:∀ {H lb wb jb ob opb base pd part S1},TIn H lb wb jb ob opb base op pd w part S1 xs→∃ v H',(lim gl Trmn.aprog).round 12780 lb (tfi wb jb ob++[part]) H=some (.norm,H')∧H'[lb]?=some (.loop 12780 (tfi wb jb ob) .ready none) ∧
   OwnL base H' v (ys.map (.int .i64))∧objCells H' ob=some (1,1,[v])∧Keep base (fun a=>a=ob∨a=lb) H H') :
  ∃ v H',CC 278 [.int .i64 op,lv,.sv [[.int .i64 xs.length]] true,.agg w] h (.ret (.tup [v,.int .i64 0])) H'∧RSl (fun b=>h.length≤b∧b<H'.length) H' v (ys.map (.int .i64))∧h.length≤H'.length∧(∀ b,b<h.length→H'[b]?=h[b]?):=by
 obtain ⟨wa,wb',rfl,hca,hcb⟩:=hwc
 have hca1:=cellsV_cell hca
 have hcb1:=cellsV_cell hcb
 have hlv:=hs.lenS
 simp only [List.length_map] at hlv
 have hlc:=hs.cell
 have hlc1:=hs.cellsV
 obtain ⟨part,hp,hprs⟩:=slc_all hs
 simp only [List.length_map] at hp
 -- the heaps
 let A1:Heap:=h++[.cells 1 2 [wa,wb']]
 let A2:Heap:=A1++[.cells 1 2 [.int .i64 op,.int .i64 (neutral op)]]
 let J:List V:=[.int .i64 op,.int .i64 (neutral op),.func (.func 291) [] [.ref A1.length 0 1]]
 let A3:Heap:=A2++[.cells 1 3 J]
 let A4:Heap:=A3++[.cells 1 1 [.nils]]
 let A6:Heap:=A4++[.cells 1 1 [lv],.cells 1 1 [.sv [[.int .i64 xs.length]] true]]
 let A7:Heap:=A6++[.loop 12780 (tfi h.length A2.length A3.length) .ready none]
 have l1:A1.length=h.length+1:=by simp [A1]
 have l2:A2.length=h.length+2:=by simp [A2,A1]
 have l3:A3.length=h.length+3:=by simp [A3,A2,A1]
 have l4:A4.length=h.length+4:=by simp [A4,A3,A2,A1]
 have l6:A6.length=h.length+6:=by simp [A6,A4,A3,A2,A1]
 have l7:A7.length=h.length+7:=by simp [A7,A6,A4,A3,A2,A1]
 have eA7:A7=h++([.cells 1 2 [wa,wb'],.cells 1 2 [.int .i64 op,.int .i64 (neutral op)],.cells 1 3 J,.cells 1 1 [.nils],.cells 1 1 [lv],.cells 1 1 [.sv [[.int .i64 xs.length]] true],.loop 12780 (tfi h.length A2.length A3.length) .ready none]:Heap):=by
  simp [A7,A6,A4,A3,A2,A1]
 have at7:∀ k,A7[h.length+k]?=([.cells 1 2 [wa,wb'],.cells 1 2 [.int .i64 op,.int .i64 (neutral op)],.cells 1 3 J,.cells 1 1 [.nils],.cells 1 1 [lv],.cells 1 1 [.sv [[.int .i64 xs.length]] true],.loop 12780 (tfi h.length A2.length A3.length) .ready none]:Heap)[k]?:=by
  intro k
  rw [eA7,List.getElem?_append_right (by omega)]
  congr 1
  omega
 have old7:∀ b,b<h.length→A7[b]?=h[b]?:=fun b hb=>by rw [eA7,List.getElem?_append_left hb]
 have hag:Agr S0 h A7:=fun b hb=>objCells_same (old7 b (hs0 b hb))
 have tin:TIn A7 A6.length h.length A2.length A3.length A1.length A7.length op none [wa,wb'] part S0 xs:=by
  refine ⟨hjn,?_,?_,?_,?_,?_,by omega,by omega,by omega,by omega,by omega,Nat.le_refl _,hprs.mono (fun _ h=>h) hag,hw,hx,fun b hb=>⟨by have:=hs0 b hb; omega,by have:=hs0 b hb; omega⟩⟩
  ·rw [l6]; exact at7 6
  ·exact objCells_of (at7 0)
  ·rw [l2]; exact objCells_of (at7 2)
  ·rw [l1]; exact objCells_of (at7 1)
  ·rw [l3]; exact objCells_of (at7 3)
 obtain ⟨v,H',hr,hlp,hov,hob,hk⟩:=hround tin
 have hseg:=segs_q (H:=A7) (H':=H') (lb:=A6.length) (lo:=A4.length) (le:=A4.length+1) (lv:=lv) (xs:=xs) (S0:=S0) (by rw [l4]; exact objCells_of (at7 4)) (by rw [l4]; exact objCells_of (at7 5)) hx hp (fi:=tfi h.length A2.length A3.length) (pd:=none) (by rw [l6]; exact at7 6) hr
 have hofq:=of_q (h:=A1) hjn
 have hw1:=scwords_q (h:=A3) (hs.mono (fun _ h=>h) (show Agr S0 h A3 from fun b hb=>by have:=hs0 b hb; simp only [A3,A2,A1,objCells,List.append_assoc,List.getElem?_append_left this])) hx hw
 have hw2:=scwords_q (h:=A3) (v:=.sv [[.int .i64 xs.length]] true) (S0:=S0) (xs:=[(xs.length:Int)]) (.sv [.int .i64 xs.length] true) (by simp) (by simp; rw [isWord_iff]; omega)
 rw [CC] at hseg hofq hw1 hw2
 have hle:A7.length≤H'.length:=hk.len
 have hset:∀ o,objCells (H'.set A6.length o) A3.length=some (1,1,[v]):=fun o=>by rw [objCells_ne (by omega)]; exact hob
 have hsegf:=segf_q (h:=A4) lv (.sv [[.int .i64 xs.length]] true) hlc rfl
 have hvr:=hov.rsl (S:=fun b=>h.length≤b∧b<(H'.set A6.length (Am.Obj.loop 12780 (tfi h.length A2.length A3.length) .exhausted none)).length) fun b hb hb2=>⟨by omega,by simpa using hb2⟩
 have hvr2:=hvr.mono (fun _ h=>h) (h':=H'.set A6.length (Am.Obj.loop 12780 (tfi h.length A2.length A3.length) .exhausted none)) fun b _=>objCells_setloop hlp _ _ _ _ b
 obtain ⟨u,hcut,hur⟩:=cut_q hvr2
 rw [CC] at hsegf hcut
 refine ⟨u,H'.set A6.length (.loop 12780 (tfi h.length A2.length A3.length) .exhausted none),cc_of (af:=Trmn.a278) rfl rfl fun Q hQ => ?_,hur,by simp; omega,fun b hb => ?_⟩
 rotate_left 1
 ·rw [List.getElem?_set_ne (by omega),hk.same b (by omega) (by rintro (h | h) <;> omega)]
  exact old7 b hb
 have eA3:A2++[.cells 1 3 J]=A3:=rfl
 have eA4:A3++[.cells 1 1 [.nils]]=A4:=rfl
 have eA6:A4++[.cells 1 1 [lv],.cells 1 1 [.sv [[.int .i64 xs.length]] true]]=A6:=rfl
 have eA7':A6++[.loop 12780 (tfi h.length A2.length A3.length) .ready none]=A7:=rfl
 have eA1:h++[.cells 1 2 [wa,wb']]=A1:=rfl
 have eA2:A1++[.cells 1 2 [.int .i64 op,.int .i64 (neutral op)]]=A2:=rfl
 have st3:∀ x,storeV (A2++[.cells 1 3 x]) (.ref A2.length 0 1) (.agg J) 3=some (if x.length=3 then A3 else A3)∨x.length≠3:=by
  intro x
  by_cases hx3:x.length=3
  ·left
   have hJl:J.length=3:=rfl
   have hJc:J.all isCell=true:=rfl
   simp only [storeV,obj_last,cellsV]
   rw [if_pos ⟨trivial,by omega,hJl,hJc⟩]
   have:splice x 0 J=J:=by simp [splice,hJl,hx3]
   rw [this,set_last]
   simp [eA3]
  ·exact .inr hx3
 have st3':=(st3 [.int .i64 0,.int .i64 0,.nilf]).resolve_right (by simp)
 simp only [List.length_cons,List.length_nil,if_true] at st3'
 rw [eA2] at hofq
 rw [eA6] at hsegf
 have eJ:(.agg [.int .i64 op,.int .i64 (neutral op),.func (.func 291) [] [.ref A1.length 0 1]]:V) = .agg J:=rfl
 rw [eJ] at hofq
 have w1:IntKind.i64.wrap (0+(xs.length:Int))=xs.length:=by rw [wrap64 (by omega) (by omega)]; omega
 have w2:IntKind.i64.wrap (xs.length:Int)=xs.length:=wrap64 (by omega) (by omega)
 have w3:IntKind.i64.wrap (1:Int)=1:=by decide
 have n1:¬ (1048576<(xs.length:Int)):=by omega
 have hcl:∀ o,objCells (H'.set A6.length o) A3.length=some (1,1,[v]):=hset
 have hvc:=hov.cell
 clear_value A1 A2 J A3 A4 A6 A7
 simp only [Trmn.a278,WX_seq]
 refine WX_last _ _ (c':=⟨[.int .i64 op,lv,.sv [[.int .i64 xs.length]] true,.agg [wa,wb'],.ref h.length 0 1,.nils,.int .i64 0,.undef,.undef,.undef,.undef,.undef,.undef,.undef,.undef,.undef],[],none,none,A1⟩) ?_ ?_
 ·simp [slotOf,hca,hcb,eA1]
 simp only [seqQ_norm,WX_seq]
 refine WX_last _ _ (c':=⟨[.int .i64 op,lv,.sv [[.int .i64 xs.length]] true,.agg [wa,wb'],.ref h.length 0 1,.nils,.int .i64 0,.ref A2.length 0 1,.int .i64 0,.undef,.undef,.undef,.undef,.undef,.undef,.undef],[],none,none,A3⟩) ?_ ?_
 ·simp [slotOf,hofq,st3',callee,ecallF]
 simp [slotOf,hlv,n1,hw1,hw2,callee,ecallF]
 refine loop_nQ 1 (fun i c=>(i=0∧c=⟨[.int .i64 op,lv,.sv [[.int .i64 xs.length]] true,.agg [wa,wb'],.ref h.length 0 1,.nils,.int .i64 0,.ref A2.length 0 1,.int .i64 0,.int .i64 0,.undef,.undef,.sv [[.int .i64 xs.length]] true,.int .i64 1,.int .i64 0,.undef],[],none,none,A3⟩) ∨
  (i=1∧∃ fl,c=⟨[.int .i64 op,lv,.sv [[.int .i64 xs.length]] true,.agg [wa,wb'],.ref h.length 0 1,.nils,.int .i64 0,.ref A2.length 0 1,.int .i64 0,.int .i64 xs.length,.int .i64 xs.length,.undef,.sv [[.int .i64 xs.length]] true,.int .i64 1,.int .i64 1,.undef],[],fl,none,A3⟩)) ?_ (.inl ⟨rfl,rfl⟩)
 rintro I hI i c hi (⟨rfl,rfl⟩ | ⟨rfl,fl,rfl⟩)
 ·have n2:¬ ((xs.length:Int)<0):=by omega
  simp [slotOf,mkV,w1,w2,w3,idxV,n2]
  exact hI _ _ (.inr ⟨rfl,none,rfl⟩)
 ·simp [slotOf,hlv,eA4,hsegf,callee,ecallF]
  refine WX_range_ret (h:=A6) (h':=H') rfl (by simpa [eA7'] using hseg) (by exact hlp) (by decide) ?_
  simp [slotOf,hcl,hcut,callee,ecallF,mkV]
  exact hQ
theorem fold_q (hjn:isJoin op=true) (hs0:∀ b,S0 b→b<h.length) (hs:RSl S0 h lv (xs.map (.int .i64))) (hw:∀ x∈xs,isWord x=true) (hx:xs.length≤4096) :
  ∃ v H',CC 269 [.int .i64 op,lv,.sv [[.int .i64 xs.length]] true] h (.ret (.tup [v,.int .i64 0])) H'∧RSl (fun b=>h.length≤b∧b<H'.length) H' v [.int .i64 (foldW op (neutral op) xs)]∧h.length≤H'.length∧(∀ b,b<h.length→H'[b]?=h[b]?):=by
 obtain ⟨v,H',hc,h1,h2,h3⟩:=told_q hjn hs0 hs hw hx [.nilf,.bool true] [foldW op (neutral op) xs] ⟨_,_,rfl,rfl,rfl⟩ (by simp) (fun t=>by simpa using round_fold t)
 refine ⟨v,H',cc_of (af:=Trmn.a269) rfl rfl fun Q hQ => ?_,by simpa using h1,h2,h3⟩
 rw [CC] at hc
 simp only [Trmn.a269]
 simp [slotOf,fill,hc,callee,ecallF]
 exact hQ
theorem scan_q (hjn:isJoin op=true) (hs0:∀ b,S0 b→b<h.length) (hs:RSl S0 h lv (xs.map (.int .i64))) (hw:∀ x∈xs,isWord x=true) (hx:xs.length≤4096) :
  ∃ v H',CC 270 [.int .i64 op,lv,.sv [[.int .i64 xs.length]] true] h (.ret (.tup [v,.int .i64 0])) H'∧RSl (fun b=>h.length≤b∧b<H'.length) H' v ((scanW op (neutral op) xs).map (.int .i64))∧h.length≤H'.length∧(∀ b,b<h.length→H'[b]?=h[b]?):=by
 obtain ⟨v,H',hc,h1,h2,h3⟩:=told_q hjn hs0 hs hw hx [.func (.func 279) [] [],.bool false] (scanW op (neutral op) xs) ⟨_,_,rfl,rfl,rfl⟩ (by rw [scanW_length]; exact hx) (fun t=>round_scan t)
 refine ⟨v,H',cc_of (af:=Trmn.a270) rfl rfl fun Q hQ => ?_,h1,h2,h3⟩
 rw [CC] at hc
 simp only [Trmn.a270]
 simp [slotOf,fill,hc,callee,ecallF]
 exact hQ
end
theorem RVs.nums {S:Adr} {h:Heap} (xs:List Int):RVs S h (nums xs) (xs.map numV):=by
 refine ⟨by simp [Mn.nums],fun i h1 h2 => ?_⟩
 simp only [Mn.nums,List.getElem_map]
 exact .num _
def intC (i:Nat):V:=.int .i64 (i:Int)
theorem Grow.of {S:Adr} {h h':Heap} (hl:h.length≤h'.length) (hs:∀ b,b<h.length→h'[b]?=h[b]?):Grow No S h S h':=⟨fun _ h=>h,fun _ h => .inl h,hl,fun b hb _=>hs b hb⟩
section
variable {nf:Nat} {S:Adr} {h:Heap} {t:NT} {nb:Nat} {lv:V} {l:List Val} {vs:List V}
theorem seqnum_q {S0:Adr} {H:Heap} {v:V} {xs:List Int} (hs0:∀ b,S0 b→b<H.length) (hs:RSl S0 H v (xs.map (.int .i64))) (hx:xs.length≤4096) :
  ∃ x,CC 267 [v] H (.ret (.sv ((xs.map numV).map fun x=>[x]) false)) (H++[.gone])∧CC 175 [.int .i64 4,.int .i64 0,.sv ((xs.map numV).map fun x=>[x]) false] (H++[.gone]) (.ret x) (H++[.gone])∧∀ S,RV S (H++[.gone]) (seqV (nums xs)) x:=by
 have h1:=numbers_q hs0 hs (by omega)
 have h2:=made_q (S:=No) (h:=H++[.gone]) (RSl.sv (xs.map numV) false) (RVs.nums xs) (by simp [nums]; omega) 4 0
 refine ⟨_,h1,h2,fun S => ?_⟩
 exact RV.ofMany (RSl.sv (xs.map numV) false) (RVs.nums xs)
theorem op22 (hi:OpIn nf S h t nb lv l vs) (ho:t.op=22):OpG S h 250 t nb lv (opV t.op t.n l):=by
 have hl:=hi.len (by rw [ho]; decide) (k:=1) (by rw [ho]; rfl)
 obtain ⟨r,x,h1,h2,h3,h4⟩:=hi.arg (i:=0) (by omega)
 obtain ⟨vars,hnm⟩:=hi.nm
 have hjn:=hnm.2.2.2.2 (.inl ho)
 have hw:=words_q hi.st hi.rn h3 fun l hl=>(asSeq_ok h4 hl).2
 simp only [Int.natCast_zero] at h1
 rw [ho,show opV 22 t.n l=match asWords (l.getD 0 .unit) with | none => .error ET | some x => .ok (.num (foldW t.n (neutral t.n) x)) from rfl]
 cases hc:asWords (l.getD 0 .unit) with
 | none =>
  simp only [hc] at hw
  obtain ⟨X,hw⟩:=hw
  rw [CC] at hw
  show OpG S h 250 t nb lv (.error ET)
  refine ⟨_,cc_of (af:=Trmn.a250) rfl rfl fun Q hQ => ?_,.app X⟩
  simp only [Trmn.a250]
  simp [slotOf,h1,h2,hw,callee,ecallF]
  exact hQ
 | some ns =>
  simp only [hc] at hw
  rw [CC] at hw
  obtain ⟨_,hwd,hln⟩:=asWords_ok h4 hc
  have hrs:RSl (fun b=>b=h.length) (h++[.cells ns.length 1 (ns.map (.int .i64))]) (.sl h.length 0 ns.length ns.length 1 false) (ns.map (.int .i64)):=by
   have:=RSl.sl (S:=fun b=>b=h.length) (h:=h++[.cells ns.length 1 (ns.map (.int .i64))]) h.length 0 ns.length ns.length false (ns.map (.int .i64)) rfl (obj_last _ _ _ _) (by simp) (by omega)
   simpa [List.take_of_length_le] using this
  obtain ⟨v,H',hf,hvr,hle,hold⟩:=fold_q (op:=t.n) hjn (fun b hb=>by subst hb; simp) hrs hwd hln
  rw [CC] at hf
  have g:Grow No S h S H':=(Grow.app _).trans (Grow.of hle hold)
  have hr1:=hi.rn.mono (fun _ h=>h) (Agr.app hi.st.lt [.cells ns.length 1 (ns.map (.int .i64))])
  have hr2:=hi.rn.mono (fun _ h=>h) (g.agr hi.st)
  obtain ⟨lv',kv,rs,_,hn,_⟩:=hr1.node
  have n1:=need_q hr2 true 14
  rw [RO] at n1
  obtain ⟨q,hq1,hq2⟩:=hvr.idx (i:=0) (by simp)
  have hq3:=hq2 (by simp [isCell]) H' Agr.refl
  simp only [List.getElem_cons_zero,Int.natCast_zero] at hq1 hq3
  show OpG S h 250 t nb lv (.ok _)
  refine ⟨_,S,H',cc_of (af:=Trmn.a250) rfl rfl fun Q hQ => ?_,g,hi.st.len g.len,.num _⟩
  simp only [Trmn.a250]
  simp [slotOf,h1,h2,hw,hn,hf,n1,hq1,hq3,mkV,fill,chunks,callee,ecallF,rocall]
  exact hQ
theorem op23 (hi:OpIn nf S h t nb lv l vs) (ho:t.op=23):OpG S h 251 t nb lv (opV t.op t.n l):=by
 have hl:=hi.len (by rw [ho]; decide) (k:=1) (by rw [ho]; rfl)
 obtain ⟨r,x,h1,h2,h3,h4⟩:=hi.arg (i:=0) (by omega)
 obtain ⟨vars,hnm⟩:=hi.nm
 have hjn:=hnm.2.2.2.2 (.inr ho)
 have hw:=words_q hi.st hi.rn h3 fun l hl=>(asSeq_ok h4 hl).2
 simp only [Int.natCast_zero] at h1
 rw [ho,show opV 23 t.n l=match asWords (l.getD 0 .unit) with | none => .error ET | some x => .ok (seqV (nums (scanW t.n (neutral t.n) x))) from rfl]
 cases hc:asWords (l.getD 0 .unit) with
 | none =>
  simp only [hc] at hw
  obtain ⟨X,hw⟩:=hw
  rw [CC] at hw
  show OpG S h 251 t nb lv (.error ET)
  refine ⟨_,cc_of (af:=Trmn.a251) rfl rfl fun Q hQ => ?_,.app X⟩
  simp only [Trmn.a251]
  simp [slotOf,h1,h2,hw,callee,ecallF]
  exact hQ
 | some ns =>
  simp only [hc] at hw
  rw [CC] at hw
  obtain ⟨_,hwd,hln⟩:=asWords_ok h4 hc
  have hrs:RSl (fun b=>b=h.length) (h++[.cells ns.length 1 (ns.map (.int .i64))]) (.sl h.length 0 ns.length ns.length 1 false) (ns.map (.int .i64)):=by
   have:=RSl.sl (S:=fun b=>b=h.length) (h:=h++[.cells ns.length 1 (ns.map (.int .i64))]) h.length 0 ns.length ns.length false (ns.map (.int .i64)) rfl (obj_last _ _ _ _) (by simp) (by omega)
   simpa [List.take_of_length_le] using this
  obtain ⟨v,H',hf,hvr,hle,hold⟩:=scan_q (op:=t.n) hjn (fun b hb=>by subst hb; simp) hrs hwd hln
  rw [CC] at hf
  have g:Grow No S h S H':=(Grow.app _).trans (Grow.of hle hold)
  have hr1:=hi.rn.mono (fun _ h=>h) (Agr.app hi.st.lt [.cells ns.length 1 (ns.map (.int .i64))])
  have hr2:=hi.rn.mono (fun _ h=>h) (g.agr hi.st)
  obtain ⟨lv',kv,rs,_,hn,_⟩:=hr1.node
  have n1:=need_q hr2 true 14
  rw [RO] at n1
  obtain ⟨y,hs1,hs2,hs3⟩:=seqnum_q (fun b hb=>hb.2) hvr (by rw [scanW_length]; exact hln)
  rw [CC] at hs1 hs2
  have g2:Grow No S h S (H'++[.gone]):=g.trans (Grow.app _)
  show OpG S h 251 t nb lv (.ok _)
  refine ⟨y,S,H'++[.gone],cc_of (af:=Trmn.a251) rfl rfl fun Q hQ => ?_,g2,hi.st.len g2.len,hs3 S⟩
  simp only [Trmn.a251]
  simp only [List.map_map] at hs1 hs2
  simp [slotOf,h1,h2,hw,hn,hf,n1,hs1,hs2,mkV,fill,chunks,callee,ecallF,rocall]
  exact hQ
theorem op19 (hi:OpIn nf S h t nb lv l vs) (ho:t.op=19):OpG S h 247 t nb lv (opV t.op t.n l):=by
 have hl:=hi.len (by rw [ho]; decide) (k:=1) (by rw [ho]; rfl)
 obtain ⟨r,x,h1,h2,h3,h4⟩:=hi.arg (i:=0) (by omega)
 have hw:=word_q hi.rn h3
 have n1:=need_q hi.rn true 14
 have n0:=need_q hi.rn false 14
 simp only [RO] at hw n1 n0
 simp only [Int.natCast_zero] at h1
 rw [ho,show opV 19 t.n l=match asNum (l.getD 0 .unit) with
  | none => .error ET
  | some x=>if 0≤x∧x≤4096 then .ok (seqV (nums ((List.range x.toNat).map Int.ofNat))) else .error TR from rfl]
 cases hc:asNum (l.getD 0 .unit) with
 | none =>
  simp only [hc] at hw
  show OpG S h 247 t nb lv (.error ET)
  refine ⟨_,cc_of (af:=Trmn.a247) rfl rfl fun Q hQ => ?_,.refl⟩
  simp only [Trmn.a247]
  simp [slotOf,h1,h2,hw,callee,rocall]
  exact hQ
 | some n =>
  simp only [hc] at hw
  show OpG S h 247 t nb lv (if 0≤n∧n≤4096 then .ok (seqV (nums ((List.range n.toNat).map Int.ofNat))) else .error TR)
  by_cases c1:0≤n
  ·by_cases c2:n≤4096
   ·rw [if_pos ⟨c1,c2⟩]
    obtain ⟨m,rfl⟩:=Int.eq_ofNat_of_zero_le c1
    have hm:m≤4096:=by omega
    have hcs:((List.range m).map Int.ofNat).map (V.int .i64)=(List.range m).map intC:=by rw [List.map_map]; rfl
    have hrs:RSl (fun b=>b=h.length) (h++[.cells m 1 ((List.range m).map intC)]) (.sl h.length 0 m m 1 false) (((List.range m).map Int.ofNat).map (.int .i64)):=by
     have:=RSl.sl (S:=fun b=>b=h.length) (h:=h++[.cells m 1 ((List.range m).map intC)]) h.length 0 m m false ((List.range m).map intC) rfl (obj_last _ _ _ _) (by simp) (by omega)
     rw [hcs]
     simpa [List.take_of_length_le] using this
    obtain ⟨y,hs1,hs2,hs3⟩:=seqnum_q (fun b hb=>by subst hb; simp) hrs (by simpa using hm)
    rw [CC] at hs1 hs2
    have g2:Grow No S h S ((h++[.cells m 1 ((List.range m).map intC)])++[.gone]):=(Grow.app _).trans (Grow.app _)
    refine ⟨y,S,_,cc_of (af:=Trmn.a247) rfl rfl fun Q hQ => ?_,g2,hi.st.len g2.len,by simpa using hs3 S⟩
    simp only [Trmn.a247]
    simp [slotOf,h1,h2,hw,c2,n1,callee,rocall]
    refine loop_nQ m (fun i c=>∃ s5 fl,c=⟨[.ref nb 0 1,lv,.nili,.int .i64 m,.sl h.length 0 i i 1 false,s5,.int .i64 m,.int .i64 i],[],fl,none,h++[.cells i 1 ((List.range i).map intC)]⟩) ?_ ⟨.undef,none,by simp⟩
    rintro I hI i c hil ⟨s5,fl,rfl⟩
    by_cases hlt:i<m
    ·have hlt':(i:Int)<m:=by omega
     have ha:=app_last h i 8 ((List.range i).map intC) (.int .i64 i) (.sv [[.int .i64 i]] true) rfl rfl (by simp only [room]; omega)
     have ht:((List.range (i+1)).map intC)=((List.range i).map intC)++[.int .i64 i]:=by rw [List.range_succ,List.map_append]; rfl
     rw [← ht] at ha
     have w5:IntKind.i64.wrap ((i:Int)+1)=(i:Int)+1:=wrap64 (by omega) (by omega)
     simp [hlt',ha,slotOf,w5,fill,chunks]
     exact ⟨hlt,hI _ _ ⟨.int .i64 i,none,by simp⟩⟩
    ·obtain rfl:i=m:=by omega
     simp only [List.map_map,Int.toNat_natCast] at hs1 hs2 hQ
     simp only [List.append_assoc,List.singleton_append] at hs1 hs2 hQ
     simp [slotOf,hs1,hs2,callee,ecallF]
     exact hQ
   ·rw [if_neg (by omega)]
    refine ⟨_,cc_of (af:=Trmn.a247) rfl rfl fun Q hQ => ?_,.refl⟩
    simp only [Trmn.a247]
    simp [slotOf,h1,h2,hw,c1,c2,n0,callee,rocall]
    exact hQ
  ·rw [if_neg (by omega)]
   refine ⟨_,cc_of (af:=Trmn.a247) rfl rfl fun Q hQ => ?_,.refl⟩
   simp only [Trmn.a247]
   simp [slotOf,h1,h2,hw,c1,n0,callee,rocall]
   exact hQ
end
theorem slc_to {S:Adr} {h:Heap} {v:V} {l:List V} (hs:RSl S h v l) {n:Nat} (hn:n≤l.length):∃ v',slcV v none (some (.int .i64 n)) none false 1=some v'∧RSl S h v' (l.take n):=by
 cases hs with
 | nil =>
  obtain rfl:n=0:=by simpa using hn
  exact ⟨.nils,rfl,.nil⟩
 | sv l ex =>
  refine ⟨.sv ((l.take n).map fun x=>[x]) (ex&&n == l.length),?_,.sv (l.take n) _⟩
  have:headSz 1 (l.map fun x=>[x])=true:=by
   cases l <;> simp [headSz]
  simp [slcV,bnds,optInt,this,hn]
 | sl b off len g ex cs hS ho hc hl =>
  have e:((cs.drop off).take len).length=len:=by simp; omega
  rw [e] at hn
  refine ⟨.sl b off n g 1 (ex&&n == len),?_,?_⟩
  ·simp [slcV,bnds,optInt,hn]
  ·have:=RSl.sl (S:=S) (h:=h) b off n g (ex&&n == len) cs hS ho hc (by omega)
   rw [List.take_take,Nat.min_eq_left hn]
   exact this
theorem slc_from {S:Adr} {h:Heap} {v:V} {l:List V} (hs:RSl S h v l) {n:Nat} (hn:n≤l.length):∃ v',slcV v (some (.int .i64 n)) none none false 1=some v'∧RSl S h v' (l.drop n):=by
 cases hs with
 | nil =>
  obtain rfl:n=0:=by simpa using hn
  exact ⟨.nils,rfl,.nil⟩
 | sv l ex =>
  refine ⟨.sv ((l.drop n).map fun x=>[x]) ex,?_,.sv (l.drop n) _⟩
  have:headSz 1 (l.map fun x=>[x])=true:=by
   cases l <;> simp [headSz]
  simp [slcV,bnds,optInt,this,hn]
  rw [List.take_of_length_le (by simp)]
 | sl b off len g ex cs hS ho hc hl =>
  have e:((cs.drop off).take len).length=len:=by simp; omega
  rw [e] at hn
  refine ⟨.sl b (off+n) (len - n) g 1 ex,?_,?_⟩
  ·simp [slcV,bnds,optInt,hn]
  ·have:=RSl.sl (S:=S) (h:=h) b (off+n) (len - n) g ex cs hS ho hc (by omega)
   rw [List.drop_take,List.drop_drop]
   exact this
theorem asSeqs_length:∀ {l:List Val} {y:List (List Val)},asSeqs l=some y→y.length=l.length
 | [],y,h=>by cases h; rfl
 | v :: vs,y,h=>by
  simp only [asSeqs] at h
  cases hv:asMany 4 v with
  | none=>rw [hv] at h; cases h
  | some n =>
   rw [hv] at h
   simp only [Option.map_eq_some_iff] at h
   obtain ⟨z,hz,rfl⟩:=h
   simp [asSeqs_length hz]
theorem asSeqs_at:∀ {l:List Val} {y:List (List Val)},asSeqs l=some y→∀ i,∀ hi:i<l.length,∀ hj:i<y.length,asMany 4 l[i]=some y[i]
 | [],y,h,i,hi,hj=>by simp at hi
 | v :: vs,y,h,i,hi,hj=>by
  simp only [asSeqs] at h
  cases hv:asMany 4 v with
  | none=>rw [hv] at h; cases h
  | some n =>
   rw [hv] at h
   simp only [Option.map_eq_some_iff] at h
   obtain ⟨z,hz,rfl⟩:=h
   cases i with
   | zero=>simpa using hv
   | succ i=>simpa using asSeqs_at hz i (by simpa using hi) (by simpa using hj)
theorem asSeqs_none {l:List Val} (h:asSeqs l=none):∃ i,∃ hi:i<l.length,asMany 4 l[i]=none∧∃ y,asSeqs (l.take i)=some y:=by
 induction l with
 | nil=>cases h
 | cons v vs ih =>
  simp only [asSeqs] at h
  cases hv:asMany 4 v with
  | none=>exact ⟨0,by simp,by simpa using hv,[],rfl⟩
  | some n =>
   rw [hv] at h
   simp only [Option.map_eq_none_iff] at h
   obtain ⟨i,hi,h1,y,h2⟩:=ih h
   exact ⟨i+1,by simp; omega,by simpa using h1,n :: y,by simp [asSeqs,hv,h2]⟩
theorem flat_take {α:Type} {y:List (List α)} {i:Nat} (h:i<y.length):(y.take (i+1)).flatten=(y.take i).flatten++y[i]:=by
 rw [← List.take_append_getElem h,List.flatten_append]
 simp
theorem flat_len {α:Type} {y:List (List α)} (hy:∀ m∈y,m.length≤4096):∀ i,(y.take i).flatten.length≤4096 * i:=by
 intro i
 induction i with
 | zero=>simp
 | succ i ih =>
  by_cases h:i<y.length
  ·rw [flat_take h,List.length_append]
   have:=hy _ (List.getElem_mem h)
   omega
  ·rw [List.take_of_length_le (by omega)]
   rw [List.take_of_length_le (by omega)] at ih
   omega
theorem app_last' (h:Heap) (n k bytes:Nat) (cs ys:List V) (y:V) (hy:sliceLen y=some k) (hy2:sliceCells (h++[.cells n 1 cs]) y=some ys) (hk:ys.length=k) (hr:(n+k) * bytes≤room) :
  appV (h++[.cells n 1 cs]) (.sl h.length 0 n n 1 false) y 1 bytes=some (.sl h.length 0 (n+k) (n+k) 1 false,h++[.cells (n+k) 1 (cs++ys)]):=by
 rw [appV_own (cs:=cs) (ho:=by simp) hy hy2 (by omega) hr,set_last]
section
variable {nf:Nat} {S:Adr} {h:Heap} {t:NT} {nb:Nat} {lv:V} {l:List Val} {vs:List V}
theorem op24 (hi:OpIn nf S h t nb lv l vs) (ho:t.op=24):OpG S h 252 t nb lv (opV t.op t.n l):=by
 have hl:=hi.len (by rw [ho]; decide) (k:=1) (by rw [ho]; rfl)
 obtain ⟨r,x,h1,h2,h3,h4⟩:=hi.arg (i:=0) (by omega)
 simp only [Int.natCast_zero] at h1
 have ag:∀ o,Agr S h (h++[o]):=fun o=>Agr.app hi.st.lt [o]
 have h2':loadV (h++[.cells 0 1 []]) r 1 false=some x:=by
  obtain ⟨r',hr1,hr2⟩:=hi.sl.idx (i:=0) (by have:=hi.vl.len; omega)
  simp only [Int.natCast_zero] at hr1
  rw [h1] at hr1
  cases hr1
  have hv:=hi.vl.at_ 0 (by omega) (by have:=hi.vl.len; omega)
  have e1:=hr2 hv.cell h Agr.refl
  rw [h2] at e1
  rw [e1]
  exact hr2 hv.cell _ (ag _)
 have hw:=list_q (hi.rn.mono (fun _ h=>h) (ag (.cells 0 1 []))) (h3.mono (fun _ h=>h) (ag (.cells 0 1 [])))
 rw [ho,show opV 24 t.n l=match asMany 4 (l.getD 0 .unit) with
  | none => .error ET
  | some x=>match asSeqs x with
   | none => .error ET
   | some y=>if y.flatten.length≤4096 then .ok (seqV y.flatten) else .error TR from rfl]
 cases hc:asMany 4 (l.getD 0 .unit) with
 | none =>
  simp only [hc,RO] at hw
  show OpG S h 252 t nb lv (.error ET)
  refine ⟨_,cc_of (af:=Trmn.a252) rfl rfl fun Q hQ => ?_,.app [.cells 0 1 []]⟩
  simp only [Trmn.a252]
  simp [slotOf,h1,h2',hw,callee,rocall]
  exact hQ
 | some p =>
  simp only [hc,RO] at hw
  obtain ⟨lv',vs',hw,hs,hq⟩:=hw
  obtain ⟨hpo,hpl⟩:=asSeq_ok h4 hc
  have hvl:=hq.len
  have hlv:=hs.lenS
  rw [hvl] at hlv
  -- a round
  have rnd:∀ (i:Nat) (cs:List V) (k:Nat),∀ hip:i<p.length,∃ q,idxV lv' i 1=some q∧∃ y,loadV (h++[.cells k 1 cs]) q 1 false=some y ∧
    (match asMany 4 p[i] with
    | some m=>∃ sv ms,RO 215 [.ref nb 0 1,y] (h++[.cells k 1 cs]) (.ret sv)∧RSl S (h++[.cells k 1 cs]) sv ms∧RVs S (h++[.cells k 1 cs]) m ms
    | none=>RO 215 [.ref nb 0 1,y] (h++[.cells k 1 cs]) (.pan (stopV 15 t.id))):=by
   intro i cs k hip
   obtain ⟨q,hq1,hq2⟩:=hs.idx (i:=i) (by omega)
   have hv':=hq.at_ i hip (by omega)
   have hag:Agr S (h++[.cells 0 1 []]) (h++[.cells k 1 cs]):=fun a ha=>by
    have:=hi.st.lt a ha
    simp only [objCells,List.getElem?_append_left this]
   exact ⟨q,hq1,vs'[i]'(by omega),hq2 hv'.cell _ hag,list_q (hi.rn.mono (fun _ h=>h) (ag _)) (hv'.mono (fun _ h=>h) hag)⟩
  show OpG S h 252 t nb lv (match asSeqs p with | none => .error ET | some y=>if y.flatten.length≤4096 then .ok (seqV y.flatten) else .error TR)
  -- the loop, up to some element
  have loop:∀ (k:Nat) (y:List (List Val)),k≤p.length→asSeqs (p.take k)=some y→∀ i,i<k→∀ ovs:List V,((y.take i).flatten.length≤4096→RVs S h (y.take i).flatten ovs)→ovs.length≤4096 →
    ∃ q z sv,∃ m:Nat,idxV lv' i 1=some q∧loadV (h++[.cells ovs.length 1 ovs]) q 1 false=some z∧(lim gl Trmn.aprog).ro 215 [.ref nb 0 1,z] (h++[.cells ovs.length 1 ovs])=some (.ret sv)∧lenV sv=some (.int .i64 m) ∧
     (y.take (i+1)).flatten.length=(y.take i).flatten.length+m ∧
     ((y.take (i+1)).flatten.length≤4096→∃ ovs':List V,appV (h++[.cells ovs.length 1 ovs]) (.sl h.length 0 ovs.length ovs.length 1 false) sv 1 16=some (.sl h.length 0 ovs'.length ovs'.length 1 false,h++[.cells ovs'.length 1 ovs'])∧RVs S h (y.take (i+1)).flatten ovs'∧ovs'.length≤4096):=by
   intro k y hk hy i hik ovs hov hol
   have hyl:=asSeqs_length hy
   simp only [List.length_take] at hyl
   obtain ⟨q,hq1,z,hz,hro⟩:=rnd i ovs ovs.length (by omega)
   have hat:=asSeqs_at hy i (by simp; omega) (by omega)
   simp only [List.getElem_take] at hat
   simp only [hat] at hro
   obtain ⟨sv,ms,hro,hss,hsq⟩:=hro
   have hft:=flat_take (y:=y) (i:=i) (by omega)
   refine ⟨q,z,sv,(y[i]'(by omega)).length,hq1,hz,hro,by rw [hss.lenS,hsq.len],by rw [hft,List.length_append],fun hle => ?_⟩
   rw [hft,List.length_append] at hle
   have ho:=hov (by omega)
   have hol2:=ho.len
   have hms:=hsq.len
   have ha:=app_last' h ovs.length ms.length 16 ovs ms sv hss.slen hss.cells rfl (by simp only [room]; omega)
   refine ⟨ovs++ms,by simpa using ha,?_,by simp; omega⟩
   rw [hft]
   exact ho.append ⟨hms,fun j g1 g2=>by
    have:=hsq.at_ j g1 g2
    exact this.mono (fun _ h=>h) fun a ha=>by
     have:=hi.st.lt a ha
     simp only [objCells,List.getElem?_append_left this]⟩
  cases hsq:asSeqs p with
  | none =>
   obtain ⟨k,hk,hkn,y,hy⟩:=asSeqs_none hsq
   have hyl:=asSeqs_length hy
   simp only [List.length_take] at hyl
   have hym:∀ m∈y,m.length≤4096:=fun m hm=>((asSeqs_ok (fun v hv=>hpo v (List.mem_of_mem_take hv)) hy).2 m hm).2
   have key:CallP gl Trmn.aprog 252 [.ref nb 0 1,lv] h (fun r h'=>r = .pan (stopV 15 t.id)∧∃ o,h'=h++[o]):=by
    refine call_ofQ (af:=Trmn.a252) rfl rfl fun Q hQ => ?_
    simp only [Trmn.a252]
    simp [slotOf,h1,h2',hw,hlv,callee,rocall]
    refine loop_nQ p.length (fun i c=>i≤k∧∃ s5 s6 fl,∃ ovs:List V,((y.take i).flatten.length≤4096→RVs S h (y.take i).flatten ovs)∧ovs.length≤4096 ∧
     c=⟨[.ref nb 0 1,lv,.nili,.sl h.length 0 ovs.length ovs.length 1 false,.int .i64 (y.take i).flatten.length,s5,s6,lv',.int .i64 p.length,.int .i64 i],[],fl,none,h++[.cells ovs.length 1 ovs]⟩) ?_ ⟨by omega,.undef,.undef,none,[],fun _=>by simpa using RVs.nil,by simp,by simp⟩
    rintro I hI i c hil ⟨hik,s5,s6,fl,ovs,hov,hol,rfl⟩
    have hlt':(i:Int)<p.length:=by omega
    by_cases hek:i=k
    ·subst hek
     obtain ⟨q,hq1,z,hz,hro⟩:=rnd i ovs ovs.length hk
     simp only [hkn,RO] at hro
     simp [slotOf,hlt',hq1,hz,hro,callee,rocall]
     exact hQ _ _ ⟨rfl,_,rfl⟩
    ·obtain ⟨q,z,sv,m,hq1,hz,hro,hsl,hfl,happ⟩:=loop k y (by omega) hy i (by omega) ovs hov hol
     have hb:=flat_len hym (i+1)
     have hb2:i+1≤4096:=by omega
     have w1:IntKind.i64.wrap (((y.take i).flatten.length:Int)+(m:Int))=(((y.take (i+1)).flatten.length:Nat):Int):=by rw [wrap64 (by omega) (by omega)]; omega
     have w5:IntKind.i64.wrap ((i:Int)+1)=(i:Int)+1:=wrap64 (by omega) (by omega)
     generalize hF:(y.take i).flatten.length=F at *
     generalize hG:(y.take (i+1)).flatten.length=G at *
     by_cases hle:G≤4096
     ·obtain ⟨ovs',ha,hr',hl'⟩:=happ hle
      have hle':(G:Int)≤4096:=by omega
      simp [slotOf,hlt',hq1,hz,hro,hsl,w1,w5,hle',ha,callee,rocall]
      exact ⟨by omega,hI _ _ ⟨by omega,z,sv,none,ovs',fun _=>hr',hl',by rw [hG]; simp⟩⟩
     ·have hle':¬ (G:Int)≤4096:=by omega
      simp [slotOf,hlt',hq1,hz,hro,hsl,w1,w5,hle',callee,rocall]
      exact ⟨by omega,hI _ _ ⟨by omega,z,sv,none,ovs,fun h=>absurd h (by rw [hG]; exact hle),hol,by rw [hG]; simp⟩⟩
   obtain ⟨r',h',e,rfl,o,rfl⟩:=OptP.ex key
   show OpG S h 252 t nb lv (.error ET)
   exact ⟨_,e,.app [o]⟩
  | some y =>
   have hyl:=asSeqs_length hsq
   have hym:∀ m∈y,m.length≤4096:=fun m hm=>((asSeqs_ok hpo hsq).2 m hm).2
   have hsq':asSeqs (p.take p.length)=some y:=by rw [List.take_length]; exact hsq
   have key:CallP gl Trmn.aprog 252 [.ref nb 0 1,lv] h (fun r h'=>OpG S h 252 t nb lv (if y.flatten.length≤4096 then .ok (seqV y.flatten) else .error TR)∨if y.flatten.length≤4096 then (∃ x ovs,r = .ret x∧h'=h++[.cells ovs.length 1 ovs]∧RVs S h y.flatten ovs∧x = .iface 293 (.agg [.int .i64 (szNL 1 y.flatten),.int .i64 (szDL 1 y.flatten),.bool (szFL false y.flatten),.int .i64 4,.int .i64 0,.sl h.length 0 ovs.length ovs.length 1 false]))
     else r = .pan (stopV 14 t.id)∧∃ o,h'=h++[o]):=by
    refine call_ofQ (af:=Trmn.a252) rfl rfl fun Q hQ => ?_
    simp only [Trmn.a252]
    simp [slotOf,h1,h2',hw,hlv,callee,rocall]
    refine loop_nQ p.length (fun i c=>∃ s5 s6 fl,∃ ovs:List V,((y.take i).flatten.length≤4096→RVs S h (y.take i).flatten ovs)∧ovs.length≤4096 ∧
     c=⟨[.ref nb 0 1,lv,.nili,.sl h.length 0 ovs.length ovs.length 1 false,.int .i64 (y.take i).flatten.length,s5,s6,lv',.int .i64 p.length,.int .i64 i],[],fl,none,h++[.cells ovs.length 1 ovs]⟩) ?_ ⟨.undef,.undef,none,[],fun _=>by simpa using RVs.nil,by simp,by simp⟩
    rintro I hI i c hil ⟨s5,s6,fl,ovs,hov,hol,rfl⟩
    by_cases hlt:i<p.length
    ·have hlt':(i:Int)<p.length:=by omega
     obtain ⟨q,z,sv,m,hq1,hz,hro,hsl,hfl,happ⟩:=loop p.length y (by omega) hsq' i hlt ovs hov hol
     have hb:=flat_len hym (i+1)
     have hb2:i+1≤4096:=by omega
     have w1:IntKind.i64.wrap (((y.take i).flatten.length:Int)+(m:Int))=(((y.take (i+1)).flatten.length:Nat):Int):=by rw [wrap64 (by omega) (by omega)]; omega
     have w5:IntKind.i64.wrap ((i:Int)+1)=(i:Int)+1:=wrap64 (by omega) (by omega)
     generalize hF:(y.take i).flatten.length=F at *
     generalize hG:(y.take (i+1)).flatten.length=G at *
     by_cases hle:G≤4096
     ·obtain ⟨ovs',ha,hr',hl'⟩:=happ hle
      have hle':(G:Int)≤4096:=by omega
      simp [slotOf,hlt',hq1,hz,hro,hsl,w1,w5,hle',ha,callee,rocall]
      exact ⟨by omega,hI _ _ ⟨z,sv,none,ovs',fun _=>hr',hl',by rw [hG]; simp⟩⟩
     ·have hle':¬ (G:Int)≤4096:=by omega
      simp [slotOf,hlt',hq1,hz,hro,hsl,w1,w5,hle',callee,rocall]
      exact ⟨by omega,hI _ _ ⟨z,sv,none,ovs,fun h=>absurd h (by rw [hG]; exact hle),hol,by rw [hG]; simp⟩⟩
    ·obtain rfl:i=p.length:=by omega
     rw [← hyl,List.take_length] at hov
     rw [← hyl,List.take_length]
     have hrn:=hi.rn.mono (fun _ h=>h) (ag (.cells ovs.length 1 ovs))
     have n1:=need_q hrn true 14
     have n0:=need_q hrn false 14
     rw [RO] at n1 n0
     by_cases hle:y.flatten.length≤4096
     ·have hle':(y.flatten.length:Int)≤4096:=by omega
      have hro:=hov hle
      have hs':RSl (fun x=>S x∨x=h.length) (h++[.cells ovs.length 1 ovs]) (.sl h.length 0 ovs.length ovs.length 1 false) ovs:=by
       have:=RSl.sl (S:=fun x=>S x∨x=h.length) (h:=h++[.cells ovs.length 1 ovs]) h.length 0 ovs.length ovs.length false ovs (.inr rfl) (obj_last _ _ _ _) rfl (by omega)
       simpa using this
      have hm:=made_q hs' (hro.mono (fun _ h => .inl h) (ag _)) (by omega) 4 0
      rw [CC] at hm
      simp [slotOf,-List.length_flatten,hle',n1,hm,callee,rocall,ecallF]
      refine hQ _ _ (.inr ?_)
      rw [if_pos hle]
      exact ⟨_,ovs,rfl,rfl,hro,rfl⟩
     ·have hle':¬ (y.flatten.length:Int)≤4096:=by omega
      simp [slotOf,-List.length_flatten,hle',n0,callee,rocall]
      refine hQ _ _ (.inr ?_)
      rw [if_neg hle]
      exact ⟨rfl,_,rfl⟩
   obtain ⟨r',h',e,hh | hh⟩:=OptP.ex key
   ·exact hh
   show OpG S h 252 t nb lv (if y.flatten.length≤4096 then .ok (seqV y.flatten) else .error TR)
   by_cases hle:y.flatten.length≤4096
   ·rw [if_pos hle] at hh ⊢
    obtain ⟨x',ovs,rfl,rfl,hro,rfl⟩:=hh
    have hs':RSl (fun x=>S x∨x=h.length) (h++[.cells ovs.length 1 ovs]) (.sl h.length 0 ovs.length ovs.length 1 false) ovs:=by
     have:=RSl.sl (S:=fun x=>S x∨x=h.length) (h:=h++[.cells ovs.length 1 ovs]) h.length 0 ovs.length ovs.length false ovs (.inr rfl) (obj_last _ _ _ _) rfl (by omega)
     simpa using this
    exact ⟨_,fun x=>S x∨x=h.length,_,e,(Grow.app _).push (Nat.le_refl _),(hi.st.len (by simp)).push (by simp) (fun h=>h),RV.ofMany hs' (hro.mono (fun _ h => .inl h) (ag _))⟩
   ·rw [if_neg hle] at hh ⊢
    obtain ⟨rfl,o,rfl⟩:=hh
    exact ⟨_,e,.app [o]⟩
end
def posL (ks:List Int) (i:Nat):Nat:=((ks.take i).map Int.toNat).sum
theorem posL_succ {ks:List Int} {i:Nat} (h:i<ks.length):posL ks (i+1)=posL ks i+ks[i].toNat:=by
 unfold posL
 rw [← List.take_append_getElem h,List.map_append,List.sum_append]
 simp
theorem posL_cons (k:Int) (ks:List Int) (i:Nat):posL (k :: ks) (i+1)=k.toNat+posL ks i:=by simp [posL]
theorem cutL_length:∀ (ks:List Int) (l:List Val),(cutL ks l).length=ks.length
 | [],l=>rfl
 | k :: ks,l=>by simp [cutL,cutL_length]
theorem cutL_get:∀ {ks:List Int} {l:List Val} {i:Nat} (h:i<(cutL ks l).length) (h2:i<ks.length),(cutL ks l)[i]=seqV ((l.drop (posL ks i)).take ks[i].toNat)
 | [],l,i,h,h2=>by simp at h2
 | k :: ks,l,0,h,h2=>by simp [cutL,posL]
 | k :: ks,l,i+1,h,h2=>by
  simp only [cutL,List.getElem_cons_succ]
  rw [cutL_get (h2:=by simpa using h2),posL_cons,List.drop_drop]
theorem posL_sum:∀ {ks:List Int},(∀ k∈ks,0≤k)→((posL ks ks.length:Nat):Int)=ks.sum
 | [],_=>rfl
 | k :: ks,h=>by
  have h0:=h k (by simp)
  have:=posL_sum (ks:=ks) fun x hx=>h x (by simp [hx])
  simp only [List.length_cons,posL_cons,List.sum_cons]
  omega
theorem posL_mono {ks:List Int}:∀ {i j:Nat},i≤j→posL ks i≤posL ks j:=by
 intro i j hij
 induction j with
 | zero =>
  have:i=0:=by omega
  subst this; exact Nat.le_refl _
 | succ j ih =>
  by_cases h:i≤j
  ·have:=ih h
   by_cases hj:j<ks.length
   ·rw [posL_succ hj]; omega
   ·have e:posL ks (j+1)=posL ks j:=by simp only [posL]; rw [List.take_of_length_le (by omega),List.take_of_length_le (by omega)]
    omega
  ·have:i=j+1:=by omega
   subst this; exact Nat.le_refl _
theorem sum_take {ks:List Int} {i:Nat} (h:i<ks.length):(ks.take (i+1)).sum=(ks.take i).sum+ks[i]:=by
 rw [← List.take_append_getElem h,List.sum_append]
 simp
theorem sum_bound {ks:List Int} (hw:∀ k∈ks,isWord k=true):∀ i:Nat,-(2147483648 * (i:Int))≤(ks.take i).sum∧(ks.take i).sum≤2147483648 * (i:Int):=by
 intro i
 induction i with
 | zero=>simp
 | succ i ih =>
  by_cases h:i<ks.length
  ·rw [sum_take h]
   have:=isWord_iff.1 (hw _ (List.getElem_mem h))
   omega
  ·rw [List.take_of_length_le (by omega)]
   rw [List.take_of_length_le (by omega)] at ih
   omega
theorem neg_first {ks:List Int} (h:(ks.all fun k=>decide (0≤k))=false):∃ i,∃ hi:i<ks.length,ks[i]<0∧∀ j,∀ hj:j<i,0≤ks[j]:=by
 induction ks with
 | nil=>cases h
 | cons k ks ih =>
  by_cases hk:0≤k
  ·simp only [List.all_cons,hk,decide_true,Bool.true_and] at h
   obtain ⟨i,hi,h1,h2⟩:=ih h
   refine ⟨i+1,by simp; omega,by simpa using h1,fun j hj => ?_⟩
   cases j with
   | zero=>simpa using hk
   | succ j=>simpa using h2 j (by omega)
  ·exact ⟨0,by simp,by simp; omega,fun j hj=>by omega⟩
section
variable {nf:Nat} {S:Adr} {h:Heap} {t:NT} {nb:Nat} {lv:V} {l:List Val} {vs:List V}
theorem own_rsl (h:Heap) (ns:List Int):RSl (fun b=>b=h.length) (h++[.cells ns.length 1 (ns.map (.int .i64))]) (.sl h.length 0 ns.length ns.length 1 false) (ns.map (.int .i64)):=by
 have:=RSl.sl (S:=fun b=>b=h.length) (h:=h++[.cells ns.length 1 (ns.map (.int .i64))]) h.length 0 ns.length ns.length false (ns.map (.int .i64)) rfl (obj_last _ _ _ _) (by simp) (by omega)
 simpa [List.take_of_length_le] using this
theorem nest_loop {H0:Heap} {p:List Val} {ps:List V} {sv lw:V} {ks:List Int} {nbv lvv sumv:V} {Q:Out→Cfg→Prop} (hH:H0.length=h.length+2) (hst:Stab No S h) (hg:Grow No S h S H0) (hob:objCells H0 (h.length+1)=some (0,1,[]))
  (hs:RSl S H0 sv ps) (hq:RVs S H0 p ps) (hw:RSl (fun b=>b=h.length) H0 lw (ks.map (.int .i64))) (hpos:∀ k∈ks,0≤k) (hlen:posL ks ks.length=p.length) (hp:p.length≤4096) (hkl:ks.length≤4096)
  (hend:∀ S' H ovs sv s6 s8 fl,Grow No S h S' H→Stab No S' H→¬ S' (h.length+1)→objCells H (h.length+1)=some (ovs.length,1,ovs)→RVs S' H (cutL ks p) ovs →
   Q (.exit 2) ⟨[nbv,lvv,.nili,sv,lw,sumv,s6,.sl (h.length+1) 0 ks.length ks.length 1 false,s8,lw,.int .i64 ks.length,.int .i64 ks.length,lw,.int .i64 ks.length,.int .i64 ks.length],[],fl,none,H⟩) (s6:V) :
  OptP ((lim gl Trmn.aprog).loop (.seq (qF 46 0 [olp (.bin .lss (.s 14) (.s 13))]) <| .seq (.ite 46 .skip (.exit 2)) <| .seq (.block 3 (.seq (rF [olp (.iadr (.s 12) (.s 14) 1),oll (.load (.r 0) 1 false),osm 8 (.r 1)]) <| .reg true none [4,5007,5008,5009] [olm (.s 7),olm (.s 3),olm (.s 8),olp (.slc (.r 1) none (some (.r 2)) none false 1),ole (.call (cf 246) [.r 3] false),olp (.bsv 1 1 [.nili] [(0,.r 4)]),ole (.app (.r 0) (.r 5) 1 16 false),olm (.s 3),olm (.s 8),olp (.slc (.r 7) (some (.r 8)) none none false 1),osm 7 (.r 6),osm 3 (.r 9)])) <| rF [olp (.bin .add (.s 14) (ci 1)),osm 14 (.r 0)])
   ⟨[nbv,lvv,.nili,sv,lw,sumv,s6,.sl (h.length+1) 0 0 0 1 false,.undef,lw,.int .i64 ks.length,.int .i64 ks.length,lw,.int .i64 ks.length,.int .i64 0],[],none,none,H0⟩) Q:=by
 have hwl:=hw.lenS
 simp only [List.length_map] at hwl
 refine loop_nQ ks.length (fun i c=>∃ S' H ovs sv ps' s8 fl,Grow No S h S' H∧Stab No S' H∧¬ S' (h.length+1)∧objCells H (h.length+1)=some (i,1,ovs)∧RVs S' H ((cutL ks p).take i) ovs∧RSl S' H sv ps'∧RVs S' H (p.drop (posL ks i)) ps' ∧
   RSl (fun b=>b=h.length) H lw (ks.map (.int .i64))∧h.length+2≤H.length ∧
   c=⟨[nbv,lvv,.nili,sv,lw,sumv,s6,.sl (h.length+1) 0 i i 1 false,s8,lw,.int .i64 ks.length,.int .i64 ks.length,lw,.int .i64 ks.length,.int .i64 i],[],fl,none,H⟩) ?_
  ⟨S,H0,[],sv,ps,.undef,none,hg,hst.len (by omega),fun hx=>by have:=hst.lt _ hx; omega,hob,by simpa using RVs.nil,hs,by simpa [posL] using hq,hw,by omega,by simp⟩
 rintro I hI i c hil ⟨S',H,ovs,sv,ps',s8,fl,g,st,hno,ho,hov,hsl,hsq,hwr,hHl,rfl⟩
 have hovl:=hov.len
 simp only [List.length_take,cutL_length] at hovl
 by_cases hlt:i<ks.length
 ·have hlt':(i:Int)<ks.length:=by omega
  obtain ⟨r,hr1,hr2⟩:=hwr.idx (i:=i) (by simpa using hlt)
  have hr3:=hr2 (by simp [isCell]) H Agr.refl
  simp only [List.getElem_map] at hr3
  have hk0:=hpos _ (List.getElem_mem hlt)
  have hps:=posL_succ hlt
  have hmono:=posL_mono (ks:=ks) (i:=i+1) (j:=ks.length) (by omega)
  have hcut:=cutL_get (ks:=ks) (l:=p) (i:=i) (by rw [cutL_length]; exact hlt) hlt
  have htk:(cutL ks p).take (i+1)=(cutL ks p).take i++[seqV ((p.drop (posL ks i)).take ks[i].toNat)]:=by rw [← hcut,List.take_append_getElem]
  have hsl2:=hsq.len
  simp only [List.length_drop] at hsl2
  generalize hkk:ks[i]=k at *
  obtain ⟨n,rfl⟩:=Int.eq_ofNat_of_zero_le hk0
  simp only [Int.toNat_natCast] at hps htk
  obtain ⟨a,ha1,ha2⟩:=slc_to hsl (n:=n) (by omega)
  obtain ⟨b,hb1,hb2⟩:=slc_from hsl (n:=n) (by omega)
  obtain ⟨x,S2,H2,hx,g2,st2,hv2⟩:=seq_q st ha2 (hsq.take n) (by simp; omega)
  rw [CC] at hx
  have hno2:¬ S2 (h.length+1):=g2.notS (by omega) hno
  have ho2:objCells H2 (h.length+1)=some (i,1,ovs):=by rw [g2.cells (by omega) (fun h=>h)]; exact ho
  have happ:=appV_own (bytes:=16) (y:=.vs [x] 1 1) (k:=1) (ys:=[x]) (objCells_at ho2) rfl rfl rfl (by simp only [room]; omega)
  have hxc:=hv2.cell
  have hxc1:=cellsV_cell hxc
  have w5:IntKind.i64.wrap ((i:Int)+1)=(i:Int)+1:=wrap64 (by omega) (by omega)
  simp [slotOf,hlt',hr1,hr3,ha1,hb1,hx,happ,w5,fill,hxc,hxc1,callee,ecallF]
  have agH:Agr S' H (H2.set (h.length+1) (.cells (i+1) 1 (ovs++[x]))):=(g2.agr st).trans (fun c hc=>by rw [objCells_ne (by rintro rfl; exact hno2 (g2.sub _ hc))])
  have agH2:Agr S2 H2 (H2.set (h.length+1) (.cells (i+1) 1 (ovs++[x]))):=Agr.set hno2 _
  refine ⟨hlt,hI _ _ ⟨S2,_,ovs++[x],b,ps'.drop n,.int .i64 n,none,(g.trans g2).set (.inl (by omega)) _,st2.len (by simp),hno2,objCells_set (objCells_lt ho2) _ _ _,?_,hb2.mono g2.sub agH,?_,?_,by simp; have:=g2.len; omega,rfl⟩⟩
  ·rw [htk]
   exact (hov.mono g2.sub agH).snoc (hv2.mono (fun _ h=>h) agH2)
  ·rw [hps,← List.drop_drop]
   exact ((hsq.drop n).mono g2.sub agH)
  ·refine hwr.mono (fun _ h=>h) fun c hc => ?_
   subst hc
   rw [objCells_ne (by omega)]
   exact objCells_same (g2.same _ (by omega) (fun h=>h))
 ·obtain rfl:i=ks.length:=by omega
  rw [List.take_of_length_le (by rw [cutL_length]; omega)] at hov
  have e:ovs.length=ks.length:=by omega
  simp [slotOf]
  exact hend S' H ovs sv s6 s8 none g st hno (by rw [e]; exact ho) hov
theorem OpIn.arg' (hi:OpIn nf S h t nb lv l vs) {i:Nat} (hl:i<l.length):∃ r x,idxV lv i 1=some r∧(∀ h',Agr S h h'→loadV h' r 1 false=some x)∧RV S h (l.getD i .unit) x∧VOk nf (l.getD i .unit):=by
 have h1:=hi.vl.len
 obtain ⟨r,hr1,hr2⟩:=hi.sl.idx (i:=i) (by omega)
 have hv:=hi.vl.at_ i hl (by omega)
 refine ⟨r,_,hr1,hr2 hv.cell,?_,getD_ok hi.ok i⟩
 rw [List.getD_eq_getElem?_getD,List.getElem?_eq_getElem hl]
 exact hv
theorem op25 (hi:OpIn nf S h t nb lv l vs) (ho:t.op=25):OpG S h 253 t nb lv (opV t.op t.n l):=by
 have hl:=hi.len (by rw [ho]; decide) (k:=2) (by rw [ho]; rfl)
 obtain ⟨r,x,h1,h2,h3,h4⟩:=hi.arg' (i:=0) (by omega)
 obtain ⟨r',y,g1,g2,g3,g4⟩:=hi.arg' (i:=1) (by omega)
 have h2h:=h2 h Agr.refl
 have g2h:=g2 h Agr.refl
 simp only [Int.natCast_zero,Int.natCast_one] at h1 g1
 have hw:=words_q hi.st hi.rn g3 fun l hl=>(asSeq_ok g4 hl).2
 have hlq:=list_q hi.rn h3
 rw [ho,show opV 25 t.n l=match asMany 4 (l.getD 0 .unit) with
  | none => .error ET
  | some x=>match asWords (l.getD 1 .unit) with
   | none => .error ET
   | some ks=>if (ks.all fun k=>decide (0≤k))=true∧ks.sum=x.length then .ok (seqV (cutL ks x)) else .error TR from rfl]
 cases hc:asMany 4 (l.getD 0 .unit) with
 | none =>
  simp only [hc,RO] at hlq
  show OpG S h 253 t nb lv (.error ET)
  refine ⟨_,cc_of (af:=Trmn.a253) rfl rfl fun Q hQ => ?_,.refl⟩
  simp only [Trmn.a253]
  simp [slotOf,h1,h2h,g1,g2h,hlq,callee,rocall,tailOK,tailAt,tailOps,liveIn,lzT,forget,AOper.writes]
  exact hQ
 | some p =>
  simp only [hc,RO] at hlq
  obtain ⟨sv,ps,hlq,hs,hq⟩:=hlq
  obtain ⟨hpo,hpl⟩:=asSeq_ok h4 hc
  have hvl:=hq.len
  have hlv:=hs.lenS
  rw [hvl] at hlv
  show OpG S h 253 t nb lv (match asWords (l.getD 1 .unit) with
   | none => .error ET
   | some ks=>if (ks.all fun k=>decide (0≤k))=true∧ks.sum=p.length then .ok (seqV (cutL ks p)) else .error TR)
  cases hd:asWords (l.getD 1 .unit) with
  | none =>
   simp only [hd] at hw
   obtain ⟨X,hw⟩:=hw
   rw [CC] at hw
   show OpG S h 253 t nb lv (.error ET)
   refine ⟨_,cc_of (af:=Trmn.a253) rfl rfl fun Q hQ => ?_,.app X⟩
   simp only [Trmn.a253]
   simp [slotOf,h1,h2h,g1,g2h,hlq,hw,callee,rocall,ecallF,tailOK,tailAt,tailOps,liveIn,lzT,forget,AOper.writes]
   exact hQ
  | some ks =>
   simp only [hd] at hw
   rw [CC] at hw
   obtain ⟨_,hwd,hln⟩:=asWords_ok g4 hd
   show OpG S h 253 t nb lv (if (ks.all fun k=>decide (0≤k))=true∧ks.sum=p.length then .ok (seqV (cutL ks p)) else .error TR)
   have hrs:=own_rsl h ks
   generalize hlw:V.sl h.length 0 ks.length ks.length 1 false=lw at *
   have hwl:=hrs.lenS
   simp only [List.length_map] at hwl
   have ag1:Agr S h (h++[.cells ks.length 1 (ks.map (.int .i64))]):=Agr.app hi.st.lt _
   have hr1:=hi.rn.mono (fun _ h=>h) ag1
   have n1:=need_q hr1 true 14
   have n0:=need_q hr1 false 14
   rw [RO] at n1 n0
   have sb:=sum_bound hwd
   -- the first loop's rounds
   have rnd:∀ i,∀ hik:i<ks.length,∃ q,idxV lw i 1=some q∧loadV (h++[.cells ks.length 1 (ks.map (.int .i64))]) q 1 false=some (.int .i64 ks[i]):=by
    intro i hik
    obtain ⟨q,hq1,hq2⟩:=hrs.idx (i:=i) (by simpa using hik)
    have:=hq2 (by simp [isCell]) _ Agr.refl
    simp only [List.getElem_map] at this
    exact ⟨q,hq1,this⟩
   by_cases hall:(ks.all fun k=>decide (0≤k))=true
   ·have hpos:∀ k∈ks,0≤k:=fun k hk=>by simpa using List.all_eq_true.1 hall k hk
    by_cases hsum:ks.sum=p.length
    ·rw [if_pos ⟨hall,hsum⟩]
     have hps:posL ks ks.length=p.length:=by have:=posL_sum hpos; omega
     have key:CallP gl Trmn.aprog 253 [.ref nb 0 1,lv] h (fun r H=>∃ x S',r = .ret x∧Grow No S h S' H∧Stab No S' H∧RV S' H (seqV (cutL ks p)) x):=by
      refine call_ofQ (af:=Trmn.a253) rfl rfl fun Q hQ => ?_
      simp only [Trmn.a253]
      simp [slotOf,h1,h2h,g1,g2h,hlq,hw,hwl,callee,rocall,ecallF]
      refine loop_nQ ks.length (fun i c=>∃ s6 fl,c=⟨[.ref nb 0 1,lv,.nili,sv,lw,.int .i64 (ks.take i).sum,s6,.undef,.undef,lw,.int .i64 ks.length,.int .i64 i,.undef,.undef,.undef],[],fl,none,h++[.cells ks.length 1 (ks.map (.int .i64))]⟩) ?_ ⟨.undef,none,by simp⟩
      rintro I hI i c hil ⟨s6,fl,rfl⟩
      by_cases hlt:i<ks.length
      ·have hlt':(i:Int)<ks.length:=by omega
       obtain ⟨q,hq1,hq2⟩:=rnd i hlt
       have hk0:=hpos _ (List.getElem_mem hlt)
       have hst:=sum_take hlt
       have b1:=sb (i+1)
       have w1:IntKind.i64.wrap ((ks.take i).sum+ks[i])=(ks.take (i+1)).sum:=by rw [wrap64 (by omega) (by omega)]; omega
       have w5:IntKind.i64.wrap ((i:Int)+1)=(i:Int)+1:=wrap64 (by omega) (by omega)
       generalize ks[i]=k at *
       simp [slotOf,hlt',hq1,hq2,hk0,n1,w1,w5,callee,rocall]
       exact ⟨hlt,hI _ _ ⟨.int .i64 k,none,by simp⟩⟩
      ·obtain rfl:i=ks.length:=by omega
       rw [List.take_length,hsum]
       simp [slotOf,hlv,n1,hwl,callee,rocall]
       have hst0:=hi.st
       refine nest_loop (h:=h) (S:=S) (H0:=h++[.cells ks.length 1 (ks.map (.int .i64)),.cells 0 1 []]) (p:=p) (ps:=ps) (ks:=ks) (lw:=lw) (by simp) hi.st (.app _) (by simp [objCells]) (hs.mono (fun _ h=>h) (Agr.app hi.st.lt _)) (hq.mono (fun _ h=>h) (Agr.app hi.st.lt _))
        (hrs.mono (fun _ h=>h) (fun b hb=>by subst hb; simp [objCells])) hpos hps hpl hln ?_ s6
       intro S' H ovs sv' s6' s8 fl' g st hno hob hov
       have hol:=hov.len
       rw [cutL_length] at hol
       have hs':RSl (fun x=>S' x∨x=h.length+1) H (.sl (h.length+1) 0 ks.length ks.length 1 false) ovs:=by
        have:=RSl.sl (S:=fun x=>S' x∨x=h.length+1) (h:=H) (h.length+1) 0 ovs.length ovs.length false ovs (.inr rfl) hob rfl (by omega)
        rw [← hol]
        simpa using this
       have hov':=hov.mono (S':=fun x=>S' x∨x=h.length+1) (fun _ h => .inl h) (Agr.refl)
       have hm:=made_q hs' hov' (by rw [cutL_length]; omega) 4 0
       rw [CC] at hm
       simp [slotOf,hm,callee,ecallF]
       exact hQ _ _ ⟨_,fun x=>S' x∨x=h.length+1,rfl,g.push (by omega),st.push (objCells_lt hob) (fun h=>h),RV.ofMany hs' hov'⟩
     obtain ⟨r'',H,e,x',S',rfl,a1,a2,a3⟩:=OptP.ex key
     exact ⟨x',S',H,e,a1,a2,a3⟩
    ·rw [if_neg (fun h=>hsum h.2)]
     refine ⟨_,cc_of (af:=Trmn.a253) rfl rfl fun Q hQ => ?_,.app [.cells ks.length 1 (ks.map (.int .i64))]⟩
     simp only [Trmn.a253]
     simp [slotOf,h1,h2h,g1,g2h,hlq,hw,hwl,callee,rocall,ecallF]
     refine loop_nQ ks.length (fun i c=>∃ s6 fl,c=⟨[.ref nb 0 1,lv,.nili,sv,lw,.int .i64 (ks.take i).sum,s6,.undef,.undef,lw,.int .i64 ks.length,.int .i64 i,.undef,.undef,.undef],[],fl,none,h++[.cells ks.length 1 (ks.map (.int .i64))]⟩) ?_ ⟨.undef,none,by simp⟩
     rintro I hI i c hil ⟨s6,fl,rfl⟩
     by_cases hlt:i<ks.length
     ·have hlt':(i:Int)<ks.length:=by omega
      obtain ⟨q,hq1,hq2⟩:=rnd i hlt
      have hk0:=hpos _ (List.getElem_mem hlt)
      have hst:=sum_take hlt
      have b1:=sb (i+1)
      have w1:IntKind.i64.wrap ((ks.take i).sum+ks[i])=(ks.take (i+1)).sum:=by rw [wrap64 (by omega) (by omega)]; omega
      have w5:IntKind.i64.wrap ((i:Int)+1)=(i:Int)+1:=wrap64 (by omega) (by omega)
      generalize ks[i]=k at *
      simp [slotOf,hlt',hq1,hq2,hk0,n1,w1,w5,callee,rocall]
      exact ⟨hlt,hI _ _ ⟨.int .i64 k,none,by simp⟩⟩
     ·obtain rfl:i=ks.length:=by omega
      have hsum':(ks.sum == (p.length:Int))=false:=by simpa using hsum
      rw [List.take_length]
      simp [slotOf,hlv,n0,hsum',callee,rocall]
      exact hQ
   ·rw [if_neg (fun h=>hall h.1)]
    obtain ⟨k0,hk0,hneg,hbef⟩:=neg_first (by simpa using hall)
    refine ⟨_,cc_of (af:=Trmn.a253) rfl rfl fun Q hQ => ?_,.app [.cells ks.length 1 (ks.map (.int .i64))]⟩
    simp only [Trmn.a253]
    simp [slotOf,h1,h2h,g1,g2h,hlq,hw,hwl,callee,rocall,ecallF]
    refine loop_nQ ks.length (fun i c=>i≤k0∧∃ s6 fl,c=⟨[.ref nb 0 1,lv,.nili,sv,lw,.int .i64 (ks.take i).sum,s6,.undef,.undef,lw,.int .i64 ks.length,.int .i64 i,.undef,.undef,.undef],[],fl,none,h++[.cells ks.length 1 (ks.map (.int .i64))]⟩) ?_ ⟨by omega,.undef,none,by simp⟩
    rintro I hI i c hil ⟨hik,s6,fl,rfl⟩
    have hlt:i<ks.length:=by omega
    have hlt':(i:Int)<ks.length:=by omega
    obtain ⟨q,hq1,hq2⟩:=rnd i hlt
    by_cases hek:i=k0
    ·subst hek
     have hk0':¬ (0≤ks[i]):=by omega
     simp [slotOf,hlt',hq1,hq2,hk0',n0,callee,rocall]
     exact hQ
    ·have hk0':=hbef i (by omega)
     have hst:=sum_take hlt
     have b1:=sb (i+1)
     have w1:IntKind.i64.wrap ((ks.take i).sum+ks[i])=(ks.take (i+1)).sum:=by rw [wrap64 (by omega) (by omega)]; omega
     have w5:IntKind.i64.wrap ((i:Int)+1)=(i:Int)+1:=wrap64 (by omega) (by omega)
     generalize ks[i]=k at *
     simp [slotOf,hlt',hq1,hq2,hk0',n1,w1,w5,callee,rocall]
     exact ⟨hlt,hI _ _ ⟨by omega,.int .i64 k,none,by simp⟩⟩
end
abbrev putOk (k:Int) (out:List (Option Val)):Prop:=0≤k∧k<out.length∧out.getD k.toNat none=none
theorem putL_len:∀ {ks:List Int} {l:List Val} {out out':List (Option Val)},putL ks l out=some out'→out'.length=out.length
 | [],l,out,out',h=>by cases l <;> cases h <;> rfl
 | k :: ks,[],out,out',h=>by cases h; rfl
 | k :: ks,v :: vs,out,out',h=>by
  simp only [putL] at h
  split at h
  ·simpa using putL_len h
  ·cases h
theorem putL_snoc:∀ {ks:List Int} {l:List Val} {out o1:List (Option Val)} {k:Int} {v:Val},ks.length=l.length→putL ks l out=some o1→putL (ks++[k]) (l++[v]) out=if putOk k o1 then some (o1.set k.toNat (some v)) else none
 | [],[],out,o1,k,v,_,h=>by
  cases h
  simp only [List.nil_append,putL]
 | k' :: ks,v' :: vs,out,o1,k,v,hl,h=>by
  simp only [putL] at h
  simp only [List.cons_append,putL]
  split at h
  ·rename_i hc
   rw [if_pos hc]
   exact putL_snoc (by simpa using hl) h
  ·cases h
 | [],_ :: _,_,_,_,_,hl,_=>by simp at hl
 | _ :: _,[],_,_,_,_,hl,_=>by simp at hl
theorem putL_none:∀ {ks:List Int} {l:List Val} {out:List (Option Val)},ks.length=l.length→putL ks l out=none→∃ i,∃ hi:i<ks.length,∃ o1,putL (ks.take i) (l.take i) out=some o1∧¬ putOk ks[i] o1
 | [],[],out,_,h=>by cases h
 | k :: ks,v :: vs,out,hl,h=>by
  simp only [putL] at h
  split at h
  ·rename_i hc
   obtain ⟨i,hi,o1,h1,h2⟩:=putL_none (by simpa using hl) h
   exact ⟨i+1,by simp; omega,o1,by simp only [List.take_succ_cons,putL]; rw [if_pos hc]; exact h1,by simpa using h2⟩
  ·rename_i hc
   exact ⟨0,by simp,out,by simp [putL],by simpa using hc⟩
 | [],_ :: _,_,hl,_=>by simp at hl
 | _ :: _,[],_,hl,_=>by simp at hl
theorem putL_take:∀ {ks:List Int} {l:List Val} {out o:List (Option Val)},ks.length=l.length→putL ks l out=some o→∀ i,∃ o1,putL (ks.take i) (l.take i) out=some o1
 | [],[],out,o,_,h,i=>⟨out,by simp [putL]⟩
 | k :: ks,v :: vs,out,o,hl,h,i=>by
  simp only [putL] at h
  split at h
  ·rename_i hc
   cases i with
   | zero=>exact ⟨out,by simp [putL]⟩
   | succ i =>
    obtain ⟨o1,h1⟩:=putL_take (by simpa using hl) h i
    exact ⟨o1,by simp only [List.take_succ_cons,putL]; rw [if_pos hc]; exact h1⟩
  ·cases h
 | [],_ :: _,_,_,hl,_,_=>by simp at hl
 | _ :: _,[],_,_,hl,_,_=>by simp at hl
theorem putL_count:∀ {ks:List Int} {l:List Val} {out o:List (Option Val)},ks.length=l.length→putL ks l out=some o→(o.countP Option.isSome)=out.countP Option.isSome+ks.length
 | [],[],out,o,_,h=>by cases h; rfl
 | k :: ks,v :: vs,out,o,hl,h=>by
  simp only [putL] at h
  split at h
  ·rename_i hc
   rw [putL_count (by simpa using hl) h]
   have hlt:k.toNat<out.length:=by omega
   have hn:out[k.toNat]=none:=by
    have:=hc.2.2
    rwa [List.getD_eq_getElem?_getD,List.getElem?_eq_getElem hlt] at this
   rw [List.countP_set hlt,hn]
   simp
   omega
  ·cases h
 | [],_ :: _,_,_,hl,_=>by simp at hl
 | _ :: _,[],_,_,hl,_=>by simp at hl
structure OR (S:Adr) (h:Heap) (out:List (Option Val)) (cs:List V):Prop where
 len:cs.length=out.length
 at_:∀ j,∀ h1:j<out.length,∀ h2:j<cs.length,match out[j] with | none=>cs[j] = .nili | some v=>RV S h v cs[j]
section
variable {S S':Adr} {h h':Heap} {out:List (Option Val)} {cs:List V}
theorem OR.mono (ho:OR S h out cs) (hS:∀ b,S b→S' b) (ha:Agr S h h'):OR S' h' out cs:=⟨ho.len,fun j h1 h2=>by
 have:=ho.at_ j h1 h2
 split
 ·rename_i e; rw [e] at this; exact this
 ·rename_i v e; rw [e] at this; exact this.mono hS ha⟩
theorem OR.set (ho:OR S h out cs) {k:Nat} {v:Val} {x:V} (hv:RV S h v x):OR S h (out.set k (some v)) (cs.set k x):=⟨by simp [ho.len],fun j h1 h2=>by
 by_cases hjk:k=j
 ·subst hjk
  simp only [List.getElem_set_self]
  exact hv
 ·rw [List.getElem_set_ne hjk,List.getElem_set_ne hjk]
  exact ho.at_ j (by simpa using h1) (by simpa using h2)⟩
theorem OR.zero (n:Nat):OR S h (List.replicate n none) (List.replicate n .nili):=⟨by simp,fun j h1 h2=>by simp⟩
theorem OR.full (ho:OR S h out cs) (hf:out.countP Option.isSome=out.length):RVs S h (out.map (·.getD .unit)) cs:=⟨by simp [ho.len],fun j h1 h2=>by
 have hall:=List.countP_eq_length.1 hf
 simp only [List.length_map] at h1
 have:=ho.at_ j h1 h2
 have hs:=hall _ (List.getElem_mem h1)
 simp only [List.getElem_map]
 cases e:out[j] with
 | none=>rw [e] at hs; cases hs
 | some v=>rw [e] at this; exact this⟩
theorem OR.cell (ho:OR S h out cs) {j:Nat} (hj:j<cs.length):isCell cs[j]=true:=by
 have:=ho.at_ j (by rw [← ho.len]; exact hj) hj
 split at this
 ·rw [this]; rfl
 ·exact this.cell
theorem OR.nil? (ho:OR S h out cs) {j:Nat} (hj:j<cs.length) (hj2:j<out.length):isNilV .iface cs[j]=some (out[j].isNone):=by
 have:=ho.at_ j hj2 hj
 cases e:out[j] with
 | none=>rw [e] at this; simp only [this]; rfl
 | some v =>
  rw [e] at this
  simp only at this
  generalize cs[j]=u at this ⊢
  cases this <;> rfl
end
section
variable {nf:Nat} {S:Adr} {h:Heap} {t:NT} {nb:Nat} {lv:V} {l:List Val} {vs:List V}
theorem op26 (hi:OpIn nf S h t nb lv l vs) (ho:t.op=26):OpG S h 254 t nb lv (opV t.op t.n l):=by
 have hl:=hi.len (by rw [ho]; decide) (k:=2) (by rw [ho]; rfl)
 obtain ⟨r,x,h1,h2,h3,h4⟩:=hi.arg' (i:=0) (by omega)
 obtain ⟨r',y,g1,g2,g3,g4⟩:=hi.arg' (i:=1) (by omega)
 have h2h:=h2 h Agr.refl
 have g2h:=g2 h Agr.refl
 simp only [Int.natCast_zero,Int.natCast_one] at h1 g1
 have hw:=words_q hi.st hi.rn g3 fun l hl=>(asSeq_ok g4 hl).2
 have hlq:=list_q hi.rn h3
 rw [ho,show opV 26 t.n l=match asMany 4 (l.getD 0 .unit) with
  | none => .error ET
  | some x=>match asWords (l.getD 1 .unit) with
   | none => .error ET
   | some ks=>if ks.length=x.length then match putL ks x (List.replicate x.length none) with
     | some out => .ok (seqV (out.map (·.getD .unit)))
     | none => .error TR
    else .error TR from rfl]
 cases hc:asMany 4 (l.getD 0 .unit) with
 | none =>
  simp only [hc,RO] at hlq
  show OpG S h 254 t nb lv (.error ET)
  refine ⟨_,cc_of (af:=Trmn.a254) rfl rfl fun Q hQ => ?_,.refl⟩
  simp only [Trmn.a254]
  simp [slotOf,h1,h2h,g1,g2h,hlq,callee,rocall,tailOK,tailAt,tailOps,liveIn,lzT,forget,AOper.writes]
  exact hQ
 | some p =>
  simp only [hc,RO] at hlq
  obtain ⟨sv,ps,hlq,hs,hq⟩:=hlq
  obtain ⟨hpo,hpl⟩:=asSeq_ok h4 hc
  have hvl:=hq.len
  have hlv:=hs.lenS
  rw [hvl] at hlv
  show OpG S h 254 t nb lv (match asWords (l.getD 1 .unit) with
   | none => .error ET
   | some ks=>if ks.length=p.length then match putL ks p (List.replicate p.length none) with
     | some out => .ok (seqV (out.map (·.getD .unit)))
     | none => .error TR
    else .error TR)
  cases hd:asWords (l.getD 1 .unit) with
  | none =>
   simp only [hd] at hw
   obtain ⟨X,hw⟩:=hw
   rw [CC] at hw
   show OpG S h 254 t nb lv (.error ET)
   refine ⟨_,cc_of (af:=Trmn.a254) rfl rfl fun Q hQ => ?_,.app X⟩
   simp only [Trmn.a254]
   simp [slotOf,h1,h2h,g1,g2h,hlq,hw,callee,rocall,ecallF,tailOK,tailAt,tailOps,liveIn,lzT,forget,AOper.writes]
   exact hQ
  | some ks =>
   simp only [hd] at hw
   rw [CC] at hw
   obtain ⟨_,hwd,hln⟩:=asWords_ok g4 hd
   show OpG S h 254 t nb lv (if ks.length=p.length then match putL ks p (List.replicate p.length none) with
     | some out => .ok (seqV (out.map (·.getD .unit)))
     | none => .error TR
    else .error TR)
   have hrs:=own_rsl h ks
   generalize hlw:V.sl h.length 0 ks.length ks.length 1 false=lw at *
   have hwl:=hrs.lenS
   simp only [List.length_map] at hwl
   have ag1:Agr S h (h++[.cells ks.length 1 (ks.map (.int .i64))]):=Agr.app hi.st.lt _
   have hr1:=hi.rn.mono (fun _ h=>h) ag1
   have n1:=need_q hr1 true 14
   have n0:=need_q hr1 false 14
   rw [RO] at n1 n0
   by_cases hkp:ks.length=p.length
   ·rw [if_pos hkp]
    rw [← hkp]
    rw [← hkp] at hlv
    have ksl:ks.length=ks.length:=rfl
    have fl0:(List.replicate ks.length [V.nili]).flatten=List.replicate ks.length V.nili:=by
     generalize ks.length=n
     induction n with
     | zero=>rfl
     | succ n ih=>simp only [List.replicate_succ,List.flatten_cons,ih]; rfl
    have br:(ks.length:Int) * 16≤140737488355328:=by omega
    have br2:(ks.length:Int)≤9223372036854775807:=by omega
    -- the heap with places
    let HC:List V→Heap:=fun cs=>h++[.cells ks.length 1 (ks.map (.int .i64)),.cells ks.length 1 cs]
    have hcob:∀ cs,objCells (HC cs) (h.length+1)=some (ks.length,1,cs):=fun cs=>by simp [HC,objCells]
    have agC:∀ cs,Agr S h (HC cs):=fun cs=>Agr.app hi.st.lt _
    have hset:∀ cs cs',(HC cs).set (h.length+1) (.cells ks.length 1 cs')=HC cs':=fun cs cs'=>by simp [HC]
    -- a round
    have rnd:∀ i,∀ hik:i<ks.length,∀ cs,∃ q,idxV lw i 1=some q∧loadV (HC cs) q 1 false=some (.int .i64 ks[i])∧∃ q2 z,idxV sv i 1=some q2∧loadV (HC cs) q2 1 false=some z∧RV S h (p[i]'(by omega)) z:=by
     intro i hik cs
     obtain ⟨q,hq1,hq2⟩:=hrs.idx (i:=i) (by simpa using hik)
     have e1:=hq2 (by simp [isCell]) (HC cs) (fun b hb=>by subst hb; simp [HC,objCells])
     simp only [List.getElem_map] at e1
     obtain ⟨q2,hq3,hq4⟩:=hs.idx (i:=i) (by omega)
     have hv:=hq.at_ i (by omega) (by omega)
     exact ⟨q,hq1,e1,q2,_,hq3,hq4 hv.cell _ (agC cs),hv⟩
    have nd:∀ cs b e,(lim gl Trmn.aprog).ro 122 [.bool b,.ref nb 0 1,.int .i64 e] (HC cs)=some (if b then .ret (.tup []) else .pan (stopV e t.id)):=fun cs b e=>need_q (hi.rn.mono (fun _ h=>h) (agC cs)) b e
    have nd1:=fun cs=>nd cs true 14
    have nd0:=fun cs=>nd cs false 14
    -- a place
    have plc:∀ (cs:List V) (o1:List (Option Val)) (k:Int),OR S h o1 cs→o1.length=ks.length→0≤k→k<ks.length→idxV (.sl (h.length+1) 0 ks.length ks.length 1 false) k 1=some (.ref (h.length+1) k.toNat ks.length) ∧
      ∃ u,loadV (HC cs) (.ref (h.length+1) k.toNat ks.length) 1 false=some u∧isNilV .iface u=some ((o1.getD k.toNat none).isNone)∧∀ z,isCell z=true→storeV (HC cs) (.ref (h.length+1) k.toNat ks.length) z 1=some (HC (cs.set k.toNat z)):=by
     intro cs o1 k ho1 hol hk0 hk1
     have hcl:=ho1.len
     have hlt:k.toNat<cs.length:=by omega
     refine ⟨by simp [idxV,hk0,hk1],cs[k.toNat],?_,?_,fun z hz => ?_⟩
     ·have e:(cs.drop k.toNat).take 1=[cs[k.toNat]]:=by rw [List.drop_eq_getElem_cons hlt]; rfl
      simp only [loadV,hcob,true_and]
      rw [if_pos (by omega),e]
      rfl
     ·rw [ho1.nil? hlt (by omega),List.getD_eq_getElem?_getD,List.getElem?_eq_getElem (by omega)]
      rfl
     ·have e1:=cellsV_cell hz
      simp only [storeV,hcob,e1,true_and]
      rw [if_pos ⟨by omega,rfl,by simp [hz]⟩,hset]
      congr 2
      simp only [splice,List.length_singleton]
      rw [List.set_eq_take_append_cons_drop,if_pos hlt]
      simp
    have nili:isNilV .iface .nili=some true:=rfl
    cases hput:putL ks p (List.replicate ks.length none) with
    | none =>
     obtain ⟨k0,hk0,o1,hpre,hbad⟩:=putL_none hkp hput
     show OpG S h 254 t nb lv (.error TR)
     have key:CallP gl Trmn.aprog 254 [.ref nb 0 1,lv] h (fun r H=>r = .pan (stopV 14 t.id)∧∃ X,H=h++X):=by
      refine call_ofQ (af:=Trmn.a254) rfl rfl fun Q hQ => ?_
      simp only [Trmn.a254]
      simp [slotOf,h1,h2h,g1,g2h,hlq,hw,hwl,hlv,n1,room,br,br2,fl0,callee,rocall,ecallF]
      rw [show h++[Am.Obj.cells ks.length 1 (ks.map (.int .i64)),Am.Obj.cells ks.length 1 (List.replicate ks.length V.nili)]=HC (List.replicate ks.length V.nili) from rfl]
      refine loop_nQ ks.length (fun i c=>i≤k0∧∃ s6 s7 fl cs oi,putL (ks.take i) (p.take i) (List.replicate ks.length none)=some oi∧OR S h oi cs ∧
       c=⟨[.ref nb 0 1,lv,.nili,sv,lw,.sl (h.length+1) 0 ks.length ks.length 1 false,s6,s7,lw,.int .i64 ks.length,.int .i64 i],[],fl,none,HC cs⟩) ?_ ⟨by omega,.undef,.undef,none,_,List.replicate ks.length none,by simp [putL],OR.zero _,by simp⟩
      rintro I hI i c hil ⟨hik,s6,s7,fl,cs,oi,hoi,hor,rfl⟩
      have hlt:i<ks.length:=by omega
      have hlt':(i:Int)<ks.length:=by omega
      obtain ⟨q,hq1,hq2,q2,z,hq3,hq4,hz⟩:=rnd i hlt cs
      have hol:=putL_len hoi
      simp only [List.length_replicate] at hol
      by_cases hek:i=k0
      ·subst hek
       rw [hoi] at hpre
       cases hpre
       by_cases c1:0≤ks[i]
       ·by_cases c2:ks[i]<ks.length
        ·have c3:(o1.getD ks[i].toNat none).isNone=false:=by
          cases e:o1.getD ks[i].toNat none with
          | none=>exact absurd ⟨c1,by omega,e⟩ hbad
          | some v=>rfl
         obtain ⟨p1,u,p2,p3,p4⟩:=plc cs o1 ks[i] hor hol c1 c2
         rw [c3] at p3
         simp [slotOf,hlt',hq1,hq2,c1,c2,hlv,p1,p2,p3,nd0,callee,rocall,-idxV_sl,nili,-isNilV]
         exact hQ _ _ ⟨rfl,_,rfl⟩
        ·simp [slotOf,hlt',hq1,hq2,c1,c2,hlv,nd0,callee,rocall]
         exact hQ _ _ ⟨rfl,_,rfl⟩
       ·simp [slotOf,hlt',hq1,hq2,c1,hlv,nd0,callee,rocall]
        exact hQ _ _ ⟨rfl,_,rfl⟩
      ·-- the condition holds
       obtain ⟨o2,ho2⟩:∃ o2,putL (ks.take (i+1)) (p.take (i+1)) (List.replicate ks.length none)=some o2:=by
        have e1:(ks.take k0).take (i+1)=ks.take (i+1):=by rw [List.take_take]; congr 1; omega
        have e2:(p.take k0).take (i+1)=p.take (i+1):=by rw [List.take_take]; congr 1; omega
        obtain ⟨o2,h⟩:=putL_take (by simp; omega) hpre (i+1)
        rw [e1,e2] at h
        exact ⟨o2,h⟩
       have hsn:=putL_snoc (k:=ks[i]) (v:=p[i]'(by omega)) (by simp; omega) hoi
       rw [List.take_append_getElem hlt,List.take_append_getElem (by omega),ho2] at hsn
       split at hsn
       case isFalse=>cases hsn
       rename_i hcnd
       cases hsn
       obtain ⟨c1,c2,c3⟩:=hcnd
       have c2':ks[i]<ks.length:=by omega
       obtain ⟨p1,u,p2,p3,p4⟩:=plc cs oi ks[i] hor hol c1 c2'
       rw [c3] at p3
       have p5:=p4 z hz.cell
       have w5:IntKind.i64.wrap ((i:Int)+1)=(i:Int)+1:=wrap64 (by omega) (by omega)
       have hor':=hor.set (k:=ks[i].toNat) hz
       generalize ks[i]=k at *
       simp [slotOf,hlt',hq1,hq2,hq3,hq4,c1,c2',hlv,p1,p2,p3,p5,nd1,w5,callee,rocall,-idxV_sl,nili,-isNilV]
       exact ⟨by omega,hI _ _ ⟨by omega,.int .i64 i,.int .i64 k,none,_,_,ho2,hor',by simp⟩⟩
     obtain ⟨r'',H,e,rfl,X,rfl⟩:=OptP.ex key
     exact ⟨_,e,.app X⟩
    | some out =>
     show OpG S h 254 t nb lv (.ok (seqV (out.map (·.getD .unit))))
     have hcnt:=putL_count hkp hput
     have hou:=putL_len hput
     simp only [List.length_replicate] at hou
     have hfull:out.countP Option.isSome=out.length:=by
      have:(List.replicate ks.length (none:Option Val)).countP Option.isSome=0:=by simp [List.countP_replicate]
      omega
     have key:CallP gl Trmn.aprog 254 [.ref nb 0 1,lv] h (fun r H=>∃ cs x,H=HC cs∧r = .ret x∧OR S h out cs∧x = .iface 293 (.agg [.int .i64 (szNL 1 (out.map (·.getD .unit))),.int .i64 (szDL 1 (out.map (·.getD .unit))),.bool (szFL false (out.map (·.getD .unit))),.int .i64 4,.int .i64 0,.sl (h.length+1) 0 ks.length ks.length 1 false])):=by
      refine call_ofQ (af:=Trmn.a254) rfl rfl fun Q hQ => ?_
      simp only [Trmn.a254]
      simp [slotOf,h1,h2h,g1,g2h,hlq,hw,hwl,hlv,n1,room,br,br2,fl0,callee,rocall,ecallF]
      rw [show h++[Am.Obj.cells ks.length 1 (ks.map (.int .i64)),Am.Obj.cells ks.length 1 (List.replicate ks.length V.nili)]=HC (List.replicate ks.length V.nili) from rfl]
      refine loop_nQ ks.length (fun i c=>∃ s6 s7 fl cs oi,putL (ks.take i) (p.take i) (List.replicate ks.length none)=some oi∧OR S h oi cs ∧
       c=⟨[.ref nb 0 1,lv,.nili,sv,lw,.sl (h.length+1) 0 ks.length ks.length 1 false,s6,s7,lw,.int .i64 ks.length,.int .i64 i],[],fl,none,HC cs⟩) ?_ ⟨.undef,.undef,none,_,List.replicate ks.length none,by simp [putL],OR.zero _,by simp⟩
      rintro I hI i c hil ⟨s6,s7,fl,cs,oi,hoi,hor,rfl⟩
      have hol:=putL_len hoi
      simp only [List.length_replicate] at hol
      by_cases hlt:i<ks.length
      ·have hlt':(i:Int)<ks.length:=by omega
       obtain ⟨q,hq1,hq2,q2,z,hq3,hq4,hz⟩:=rnd i hlt cs
       obtain ⟨o2,ho2⟩:=putL_take hkp hput (i+1)
       have hsn:=putL_snoc (k:=ks[i]) (v:=p[i]'(by omega)) (by simp; omega) hoi
       rw [List.take_append_getElem hlt,List.take_append_getElem (by omega),ho2] at hsn
       split at hsn
       case isFalse=>cases hsn
       rename_i hcnd
       cases hsn
       obtain ⟨c1,c2,c3⟩:=hcnd
       have c2':ks[i]<ks.length:=by omega
       obtain ⟨p1,u,p2,p3,p4⟩:=plc cs oi ks[i] hor hol c1 c2'
       rw [c3] at p3
       have p5:=p4 z hz.cell
       have w5:IntKind.i64.wrap ((i:Int)+1)=(i:Int)+1:=wrap64 (by omega) (by omega)
       have hor':=hor.set (k:=ks[i].toNat) hz
       generalize ks[i]=k at *
       simp [slotOf,hlt',hq1,hq2,hq3,hq4,c1,c2',hlv,p1,p2,p3,p5,nd1,w5,callee,rocall,-idxV_sl,nili,-isNilV]
       exact ⟨hlt,hI _ _ ⟨.int .i64 i,.int .i64 k,none,_,_,ho2,hor',by simp⟩⟩
      ·obtain rfl:i=ks.length:=by omega
       rw [List.take_length,show p.take ks.length=p by rw [hkp,List.take_length],hput] at hoi
       cases hoi
       have hs':RSl (fun x=>S x∨x=h.length+1) (HC cs) (.sl (h.length+1) 0 ks.length ks.length 1 false) cs:=by
        have:=RSl.sl (S:=fun x=>S x∨x=h.length+1) (h:=HC cs) (h.length+1) 0 ks.length ks.length false cs (.inr rfl) (hcob cs) (by rw [hor.len]; omega) (by omega)
        rwa [List.drop_zero,List.take_of_length_le (by rw [hor.len]; omega)] at this
       have hm:=made_q hs' ((hor.mono (fun _ h => .inl h) (agC cs)).full hfull) (by simp; omega) 4 0
       rw [CC] at hm
       simp [slotOf,hm,callee,ecallF]
       exact hQ _ _ ⟨cs,_,rfl,rfl,hor,rfl⟩
     obtain ⟨r'',H,e,cs,x',rfl,rfl,hor,rfl⟩:=OptP.ex key
     have hs':RSl (fun x=>S x∨x=h.length+1) (HC cs) (.sl (h.length+1) 0 ks.length ks.length 1 false) cs:=by
      have:=RSl.sl (S:=fun x=>S x∨x=h.length+1) (h:=HC cs) (h.length+1) 0 ks.length ks.length false cs (.inr rfl) (hcob cs) (by rw [hor.len]; omega) (by omega)
      rwa [List.drop_zero,List.take_of_length_le (by rw [hor.len]; omega)] at this
     exact ⟨_,fun x=>S x∨x=h.length+1,_,e,(Grow.app _).push (by omega),(hi.st.len (by simp [HC])).push (by simp [HC]) (fun h=>h),RV.ofMany hs' ((hor.mono (fun _ h => .inl h) (agC cs)).full hfull)⟩
   ·rw [if_neg hkp]
    have hkp':((p.length:Int) == (ks.length:Int))=false:=by simp; omega
    refine ⟨_,cc_of (af:=Trmn.a254) rfl rfl fun Q hQ => ?_,.app [.cells ks.length 1 (ks.map (.int .i64))]⟩
    simp only [Trmn.a254]
    simp [slotOf,h1,h2h,g1,g2h,hlq,hw,hwl,hlv,hkp',n0,callee,rocall,ecallF]
    exact hQ
end
end Go.Proofs.Mn
