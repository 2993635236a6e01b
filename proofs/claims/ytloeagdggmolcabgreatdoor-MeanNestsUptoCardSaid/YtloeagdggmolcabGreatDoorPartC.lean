/- A part of the law's proof: PartC. -/
import Derived.Test.YtloeagdggmolcabGreatDoorPartB
set_option linter.unusedVariables false
set_option linter.unusedSimpArgs false
set_option maxHeartbeats 1000000
namespace Go.Proofs.Mm
open Go Go.Am
def wordT (w:Int):Tr:=.mk 1 w .nils []
def wordsT (v:V) (ws:List Int):Tr:=.mk 4 0 v (ws.map wordT)
theorem ofTr_word (w:Int):ofTr (wordT w) = .num w:=by rw [wordT,ofTr_mk,if_pos rfl]
theorem ofTr_words (v:V) (ws:List Int):ofTr (wordsT v ws)=seqV (nums ws):=by
 rw [wordsT,ofTr_mk,if_neg (by decide),if_neg (by decide),List.map_map,seqV,nums]
 congr 1
 exact List.map_congr_left fun w _=>ofTr_word w
theorem nodes_words (ws:List Int):Tr.nodesL (ws.map wordT)=ws.length:=by
 induction ws with
 | nil=>rfl
 | cons w ws ih=>simp only [List.map_cons,Tr.nodesL,ih,wordT,Tr.nodes,List.length_cons]; omega
theorem levels_words (ws:List Int):Tr.levelsL (ws.map wordT)≤1:=by
 induction ws with
 | nil=>simp [Tr.levelsL]
 | cons w ws ih=>simp only [List.map_cons,Tr.levelsL,wordT,Tr.levels]; omega
theorem is64_word {w:Int} (h:isWord w=true):is64 w:=by
 have:=isWord_iff.1 h
 constructor <;> omega
theorem word_ok {w:Int} (h:isWord w=true):(wordT w).Ok:=.mk _ _ _ _ (by constructor <;> omega) (is64_word h) (.nil rfl) (by simp)
theorem words_ok {v:V} {ws:List Int} (hv:SlV ((ws.map wordT).map Tr.cs) v) (hw:∀ w∈ws,isWord w=true):(wordsT v ws).Ok :=
 .mk _ _ _ _ (by constructor <;> omega) (by constructor <;> omega) hv fun x hx=>by
  obtain ⟨w,hm,rfl⟩:=List.mem_map.1 hx
  exact word_ok (hw w hm)
theorem szF_nums (l:List Int):szFL false (nums l)=false:=by
 induction l with
 | nil=>rfl
 | cons w l ih=>simpa [nums,szFL,szF] using ih
theorem szN_nums:∀ (l:List Int) (a:Nat),szNL a (nums l)≤a+l.length
 | [],a=>by simp [nums,szNL]
 | w :: l,a=>by
  have:=szN_nums l (min 20001 (a+1))
  simp only [nums,List.map_cons,szNL,szN,List.length_cons] at this ⊢
  omega
theorem szD_nums:∀ (l:List Int) (a:Nat),a≤2→szDL a (nums l)≤2
 | [],a,h=>by simpa [nums,szDL] using h
 | w :: l,a,h=>by
  have:=szD_nums l (max a (min 12 1+1)) (by omega)
  simpa only [nums,List.map_cons,szDL,szD] using this
theorem asWords_nums (l:List Int):asWords (seqV (nums l))=some l:=by
 have:∀ l,asNums (nums l)=some l:=by
  intro l
  induction l with
  | nil=>rfl
  | cons w l ih=>simp only [nums,List.map_cons,asNums,asNum] at ih ⊢; rw [ih]; rfl
 simp [asWords,seqV,asMany,this]
theorem evalD_succ {P:Pg} {left:Nat} (d:Nat) (t:NT) (env:Env) (s:St) (h:s.steps<left):evalD P left (d+1) t env s=stepD P (evalD P left d) t env (s.begin t.id):=by
 rw [evalD,if_neg (by omega)]
theorem stepD_var {P:Pg} {ev:NT→Env→St→Res Val} (i:Nat) (n m:Int) (l:List NT) (env:Env) (s:St):stepD P ev (.mk i 0 n m l) env s = .ok (find env n) s:=by
 rw [stepD,if_pos (show (NT.mk i 0 n m l).op=0 from rfl)]; rfl
theorem stepD_op {P:Pg} {ev:NT→Env→St→Res Val} (i:Nat) (o n m:Int) (l:List NT) (env:Env) (s:St) (h:o≠0∧o≠3∧o≠4∧o≠6∧o≠7∧o≠5∧o≠13∧o≠14∧o≠17∧o≠18) :
  stepD P ev (.mk i o n m l) env s=(evalL ev env l s).bind fun l' s=>match opV o n l' with
   | .error e => .err e i
   | .ok v => .ok v (note (.mk i o n m l) v s):=by
 obtain ⟨h0,h3,h4,h6,h7,h5,h13,h14,h17,h18⟩:=h
 simp only [stepD,NT.op,NT.n,NT.m,NT.l,NT.id,h0,h3,h4,h6,h7,h5,h13,h14,h17,h18,if_false,or_self]
 rfl
end Go.Proofs.Mm
set_option linter.unusedVariables false
set_option linter.unusedSimpArgs false
set_option maxHeartbeats 1000000
namespace Go.Proofs.Mm
open Go Go.Am
def shapeB (op:Int) (k:Nat):Bool:=if op=16 then decide (k≤8) else decide (0≤op∧op≤26∧(k:Int)=arity op)
def numsB (nf:Nat) (vars:List Int) (op n:Int):Bool :=
 decide (op=0→n∈vars)&&decide (op=1→isWord n=true)&&decide ((op=6∨op=7)→0≤n∧n<nf)&&decide (op=15→0≤n∧n≤11)&&decide ((op=22∨op=23)→isJoin n=true)
def wfB (nf:Nat):Nat→List Int→NT→Bool
 | 0,_,_=>false
 | d+1,vars,t=>shapeB t.op t.l.length&&numsB nf vars t.op t.n&&(List.range t.l.length).all fun k=>wfB nf d (bnd t.op t.n t.m k vars) (t.l.getD k default)
theorem wfB_ok {nf:Nat}:∀ (d:Nat) (vars:List Int) (t:NT),wfB nf d vars t=true→Wf nf vars t
 | 0,_,_,h=>by simp [wfB] at h
 | d+1,vars,.mk i op n m l,h=>by
  simp only [wfB,NT.op,NT.n,NT.m,NT.l,Bool.and_eq_true,List.all_eq_true,List.mem_range] at h
  obtain ⟨⟨h1,h2⟩,h3⟩:=h
  refine .mk _ _ _ _ _ _ ?_ ?_ fun k hk => ?_
  ·simp only [shapeB] at h1
   simp only [shape]
   split at h1
   ·rename_i h; rw [if_pos h]; exact of_decide_eq_true h1
   ·rename_i h; rw [if_neg h]; exact of_decide_eq_true h1
  ·simp only [numsB,Bool.and_eq_true,decide_eq_true_eq] at h2
   exact ⟨h2.1.1.1.1,h2.1.1.1.2,h2.1.1.2,h2.1.2,h2.2⟩
  ·have:=h3 k hk
   rw [List.getD_eq_getElem?_getD,List.getElem?_eq_getElem hk] at this
   exact wfB_ok d _ _ this
def pgB (P:Pg):Bool:=P.all fun f=>wfB P.length 50 [f.1] f.2
theorem pgB_ok {P:Pg} (h:pgB P=true):PgOk P:=fun f hf=>wfB_ok 50 _ _ (List.all_eq_true.1 h f hf)
def exL:List Ex→V
 | [] => .nils
 | l => .sv (l.map Ex.cs) true
def mkE (o n m:Int) (l:List Ex):Ex:=.mk o n m (exL l) l
theorem exL_sl (l:List Ex):SlV (l.map Ex.cs) (exL l):=by
 cases l with
 | nil=>exact .nil rfl
 | cons x l=>exact SlV.sv true
theorem mkE_ok {o n m:Int} {l:List Ex} (ho:is64 o) (hn:is64 n) (hm:is64 m) (hl:∀ x∈l,x.Ok):(mkE o n m l).Ok:=.mk _ _ _ _ _ ho hn hm (exL_sl l) hl
def Ev (P:Pg) (left d:Nat) (t:NT) (env:Env) (v:Val) (k:Nat):Prop:=∀ s:St,s.steps+k≤left→∃ s',evalD P left d t env s = .ok v s'∧s'.steps=s.steps+k
def Er (P:Pg) (left d:Nat) (t:NT) (env:Env) (e:Int) (k:Nat):Prop:=∀ s:St,s.steps+k≤left→∃ i,evalD P left d t env s = .err e i
section
variable {P:Pg} {left d:Nat} {env:Env}
theorem Ev.var (i:Nat) (n m:Int) (l:List NT):Ev P left (d+1) (.mk i 0 n m l) env (find env n) 1:=fun s hs =>
 ⟨s.begin i,by rw [evalD_succ d _ _ _ (by omega),stepD_var]; rfl,rfl⟩
abbrev plainOp (o:Int):Prop:=o≠0∧o≠3∧o≠4∧o≠6∧o≠7∧o≠5∧o≠13∧o≠14∧o≠17∧o≠18
inductive EvL (P:Pg) (left d:Nat) (env:Env):List NT→List Val→Nat→Prop
 | nil:EvL P left d env [] [] 0
 | cons {t:NT} {ts:List NT} {v:Val} {vs:List Val} {k k2:Nat}:Ev P left d t env v k→EvL P left d env ts vs k2→EvL P left d env (t :: ts) (v :: vs) (k+k2)
theorem EvL.run:∀ {ts:List NT} {vs:List Val} {k:Nat},EvL P left d env ts vs k→∀ s:St,s.steps+k≤left→∃ s',evalL (evalD P left d) env ts s = .ok vs s'∧s'.steps=s.steps+k
 | [],_,_,h,s,hs=>by cases h; exact ⟨s,rfl,rfl⟩
 | t :: ts,_,_,h,s,hs=>by
  cases h with
  | @cons _ _ v vs k k2 h1 h2 =>
  obtain ⟨s1,e1,t1⟩:=h1 s (by omega)
  obtain ⟨s2,e2,t2⟩:=h2.run s1 (by omega)
  refine ⟨s2,?_,by omega⟩
  simp only [evalL,e1,e2,Res.bind_ok]
theorem Ev.opL {i:Nat} {o n m:Int} {l:List NT} {vs:List Val} {k:Nat} {y:Val} (ho:plainOp o) (h:EvL P left d env l vs k) (hop:opV o n vs = .ok y):Ev P left (d+1) (.mk i o n m l) env y (1+k):=fun s hs=>by
 obtain ⟨s1,e1,t1⟩:=h.run (s.begin i) (by show s.steps+1+k≤left; omega)
 refine ⟨note (.mk i o n m l) y s1,?_,?_⟩
 ·rw [evalD_succ d _ _ _ (by omega),stepD_op _ _ _ _ _ _ _ ho]
  show (evalL (evalD P left d) env l (s.begin i)).bind _=_
  rw [e1,Res.bind_ok,hop]
 ·rw [note_steps,t1]
  show s.steps+1+k=_
  omega
theorem Er.opL {i:Nat} {o n m:Int} {l:List NT} {vs:List Val} {k:Nat} {e:Int} (ho:plainOp o) (h:EvL P left d env l vs k) (hop:opV o n vs = .error e):Er P left (d+1) (.mk i o n m l) env e (1+k):=fun s hs=>by
 obtain ⟨s1,e1,t1⟩:=h.run (s.begin i) (by show s.steps+1+k≤left; omega)
 refine ⟨i,?_⟩
 rw [evalD_succ d _ _ _ (by omega),stepD_op _ _ _ _ _ _ _ ho]
 show (evalL (evalD P left d) env l (s.begin i)).bind _=_
 rw [e1,Res.bind_ok,hop]
theorem Ev.op1 {i:Nat} {o n m:Int} {a:NT} {v:Val} {k:Nat} {y:Val} (ho:plainOp o) (h:Ev P left d a env v k) (hop:opV o n [v] = .ok y):Ev P left (d+1) (.mk i o n m [a]) env y (1+(k+0)):=Ev.opL ho (.cons h .nil) hop
theorem Ev.op2 {i:Nat} {o n m:Int} {a b:NT} {v w:Val} {k k2:Nat} {y:Val} (ho:plainOp o) (h:Ev P left d a env v k) (h2:Ev P left d b env w k2) (hop:opV o n [v,w] = .ok y):Ev P left (d+1) (.mk i o n m [a,b]) env y (1+(k+(k2+0))):=Ev.opL ho (.cons h (.cons h2 .nil)) hop
theorem Er.op2 {i:Nat} {o n m:Int} {a b:NT} {v w:Val} {k k2:Nat} {e:Int} (ho:plainOp o) (h:Ev P left d a env v k) (h2:Ev P left d b env w k2) (hop:opV o n [v,w] = .error e):Er P left (d+1) (.mk i o n m [a,b]) env e (1+(k+(k2+0))):=Er.opL ho (.cons h (.cons h2 .nil)) hop
theorem Er.fst {i:Nat} {o n m:Int} {a:NT} {l:List NT} {k:Nat} {e:Int} (ho:plainOp o) (h:Er P left d a env e k):Er P left (d+1) (.mk i o n m (a :: l)) env e (1+k):=fun s hs=>by
 obtain ⟨j,e1⟩:=h (s.begin i) (by show s.steps+1+k≤left; omega)
 refine ⟨j,?_⟩
 rw [evalD_succ d _ _ _ (by omega),stepD_op _ _ _ _ _ _ _ ho]
 show (evalL (evalD P left d) env (a :: l) (s.begin i)).bind _=_
 simp only [evalL,e1,Res.bind_err]
theorem each_go {i:Nat} {n m:Int} {a b:NT} {f:Val→Val} {k:Nat}:∀ (l:List Val),(∀ x∈l,Ev P left d b ((n,x) :: env) (f x) k)→∀ s:St,s.steps+l.length * k≤left→∃ s',eachD (evalD P left d b) (.mk i 17 n m [a,b]) env l s = .ok (l.map f) s'∧s'.steps=s.steps+l.length * k
 | [],h,s,hs=>⟨s,rfl,by simp⟩
 | x :: xs,h,s,hs=>by
  have e:(x :: xs).length * k=k+xs.length * k:=by rw [List.length_cons,Nat.add_mul]; omega
  rw [e] at hs ⊢
  obtain ⟨s1,e1,t1⟩:=h x (by simp) s (by omega)
  obtain ⟨s2,e2,t2⟩:=each_go (i:=i) (m:=m) (a:=a) xs (fun y hy=>h y (by simp [hy])) s1 (by omega)
  refine ⟨s2,?_,by omega⟩
  simp only [eachD,NT.n,NT.op,e1,Res.bind_ok,if_true,e2,List.map_cons]
theorem Ev.each {i:Nat} {n m:Int} {a b:NT} {l:List Val} {f:Val→Val} {k k2:Nat} (h:Ev P left d a env (seqV l) k) (h2:∀ x∈l,Ev P left d b ((n,x) :: env) (f x) k2):Ev P left (d+1) (.mk i 17 n m [a,b]) env (seqV (l.map f)) (1+k+l.length * k2):=fun s hs=>by
 obtain ⟨s1,e1,t1⟩:=h (s.begin i) (by show s.steps+1+k≤left; omega)
 have t1':s1.steps=s.steps+1+k:=t1
 obtain ⟨s2,e2,t2⟩:=each_go (i:=i) (m:=m) (a:=a) l h2 s1 (by omega)
 refine ⟨note (.mk i 17 n m [a,b]) (seqV (l.map f)) s2,?_,by rw [note_steps]; omega⟩
 rw [evalD_succ d _ _ _ (by omega),stepD]
 simp only [NT.op,NT.kid,NT.l,NT.id,List.getD_cons_zero,List.getD_cons_succ]
 rw [if_neg (by decide),if_neg (by decide),if_neg (by decide),if_neg (by decide),if_neg (by decide),if_neg (by decide),if_neg (by decide),if_neg (by decide),if_pos (by decide),e1]
 simp only [Res.bind_ok,seqV,asMany,if_true,e2]
theorem Er.each {i:Nat} {n m:Int} {a b:NT} {x:Val} {l:List Val} {k k2:Nat} {e:Int} (h:Ev P left d a env (seqV (x :: l)) k) (h2:Er P left d b ((n,x) :: env) e k2):Er P left (d+1) (.mk i 17 n m [a,b]) env e (1+k+k2):=fun s hs=>by
 obtain ⟨s1,e1,t1⟩:=h (s.begin i) (by show s.steps+1+k≤left; omega)
 have t1':s1.steps=s.steps+1+k:=t1
 obtain ⟨j,e2⟩:=h2 s1 (by omega)
 refine ⟨j,?_⟩
 rw [evalD_succ d _ _ _ (by omega),stepD]
 simp only [NT.op,NT.kid,NT.l,NT.id,List.getD_cons_zero,List.getD_cons_succ]
 rw [if_neg (by decide),if_neg (by decide),if_neg (by decide),if_neg (by decide),if_neg (by decide),if_neg (by decide),if_neg (by decide),if_neg (by decide),if_pos (by decide),e1]
 simp only [Res.bind_ok,seqV,asMany,if_true,eachD,NT.n,e2,Res.bind_err]
theorem Er.each0 {i:Nat} {n m:Int} {a b:NT} {k:Nat} {e:Int} (h:Er P left d a env e k):Er P left (d+1) (.mk i 17 n m [a,b]) env e (1+k):=fun s hs=>by
 obtain ⟨j,e1⟩:=h (s.begin i) (by show s.steps+1+k≤left; omega)
 refine ⟨j,?_⟩
 rw [evalD_succ d _ _ _ (by omega),stepD]
 simp only [NT.op,NT.kid,NT.l,NT.id,List.getD_cons_zero,List.getD_cons_succ]
 rw [if_neg (by decide),if_neg (by decide),if_neg (by decide),if_neg (by decide),if_neg (by decide),if_neg (by decide),if_neg (by decide),if_neg (by decide),if_pos (by decide),e1]
 rfl
theorem Ev.le {t:NT} {v:Val} {k k2:Nat} (h:Ev P left d t env v k) (e:k=k2):Ev P left d t env v k2:=e ▸ h
theorem Er.le {t:NT} {e:Int} {k k2:Nat} (h:Er P left d t env e k) (hk:k≤k2):Er P left d t env e k2:=fun s hs=>h s (by omega)
end
theorem whole_ev {P:Pg} {left f:Nat} {x y:Val} {p:Int} {b:NT} {k:Nat} (hP:P.getD f default=(p,b)) (h:Ev P left (left+1) b [(p,x)] y k) (hk:k≤left) (h1:szF y=false) (h2:szN y≤20000) (h3:szD y≤12):∃ s',wholeD P left f x .zero = .ok y s'∧s'.steps=k:=by
 obtain ⟨s',e,t⟩:=h .zero (by show 0+k≤left; omega)
 refine ⟨s',?_,by rw [t]; show 0+k=k; omega⟩
 rw [wholeD,hP]
 simp only [e,Res.bind_ok,h1]
 rw [if_neg (by simp),if_pos ⟨h2,h3⟩]
theorem whole_er {P:Pg} {left f:Nat} {x:Val} {p:Int} {b:NT} {k:Nat} {e:Int} (hP:P.getD f default=(p,b)) (h:Er P left (left+1) b [(p,x)] e k) (hk:k≤left):∃ i,wholeD P left f x .zero = .err e i:=by
 obtain ⟨i,e⟩:=h .zero (by show 0+k≤left; omega)
 refine ⟨i,?_⟩
 rw [wholeD,hP]
 simp only [e,Res.bind_err]
theorem words_sz (l:List Int) (h:l.length≤4096):szF (seqV (nums l))=false∧szN (seqV (nums l))≤20000∧szD (seqV (nums l))≤12:=by
 have h1:=szF_nums l
 have h2:=szN_nums l 1
 have h3:=szD_nums l 1 (by omega)
 refine ⟨by simpa only [seqV,szF] using h1,?_,?_⟩
 ·simp only [seqV,szN]; omega
 ·simp only [seqV,szD]; omega
end Go.Proofs.Mm
set_option linter.unusedVariables false
set_option linter.unusedSimpArgs false
set_option maxHeartbeats 1000000
namespace Go.Proofs.Mm
open Go Go.Am
def cutP:List Int→List Val→List (List Val)
 | [],_=>[]
 | k :: ks,l=>l.take k.toNat :: cutP ks (l.drop k.toNat)
theorem cutL_map:∀ (ks:List Int) (l:List Val),cutL ks l=(cutP ks l).map seqV
 | [],_=>rfl
 | k :: ks,l=>by simp only [cutL,cutP,List.map_cons,cutL_map ks]
theorem asSeqs_map:∀ l:List (List Val),asSeqs (l.map seqV)=some l
 | []=>rfl
 | x :: xs=>by
  have e:asMany 4 (seqV x)=some x:=rfl
  simp only [List.map_cons,asSeqs,e,asSeqs_map xs]
  rfl
theorem sum_nn:∀ {ks:List Int},(∀ k∈ks,0≤k)→0≤ks.sum
 | [],_=>by simp
 | k :: ks,h=>by
  have h1:=h k (by simp)
  have h2:=sum_nn (ks:=ks) fun x hx=>h x (by simp [hx])
  simp only [List.sum_cons]
  omega
theorem cutP_flat:∀ (ks:List Int) (l:List Val),(∀ k∈ks,0≤k)→ks.sum=l.length→(cutP ks l).flatten=l
 | [],l,_,h=>by
  have:l.length=0:=by simp at h; omega
  simp [cutP,List.length_eq_zero_iff.1 this]
 | k :: ks,l,hk,h=>by
  have h1:=hk k (by simp)
  have h2:=sum_nn (ks:=ks) fun x hx=>hk x (by simp [hx])
  simp only [List.sum_cons] at h
  have ih:=cutP_flat ks (l.drop k.toNat) (fun x hx=>hk x (by simp [hx])) (by rw [List.length_drop]; omega)
  simp only [cutP,List.flatten_cons,ih,List.take_append_drop]
theorem cutP_len:∀ (ks:List Int) (l:List Val),(∀ k∈ks,0≤k)→ks.sum=l.length→(cutP ks l).map (fun p=>(p.length:Int))=ks
 | [],l,_,h=>rfl
 | k :: ks,l,hk,h=>by
  have h1:=hk k (by simp)
  have h2:=sum_nn (ks:=ks) fun x hx=>hk x (by simp [hx])
  simp only [List.sum_cons] at h
  have ih:=cutP_len ks (l.drop k.toNat) (fun x hx=>hk x (by simp [hx])) (by rw [List.length_drop]; omega)
  simp only [cutP,List.map_cons,ih,List.length_take]
  congr 1
  omega
def Fits (ks:List Int) (n:Nat):Prop:=(∀ k∈ks,0≤k)∧ks.sum=n
theorem op_nest {ks:List Int} {X:List Val} (h:Fits ks X.length):opV 25 0 [seqV X,seqV (nums ks)] = .ok (seqV ((cutP ks X).map seqV)):=by
 have hw:=asWords_nums ks
 have e:asMany 4 (seqV X)=some X:=rfl
 have h1:(ks.all fun k=>decide (0≤k))=true∧ks.sum=X.length:=⟨by simpa using h.1,h.2⟩
 simp only [opV,List.getD_cons_zero,List.getD_cons_succ,opA,e,hw,h1,cutL_map]
 simp
theorem op_nest_err {ks:List Int} {X:List Val} (h:¬ Fits ks X.length):opV 25 0 [seqV X,seqV (nums ks)] = .error 14:=by
 have hw:=asWords_nums ks
 have e:asMany 4 (seqV X)=some X:=rfl
 have h1:¬ ((ks.all fun k=>decide (0≤k))=true∧ks.sum=X.length):=fun hh=>h ⟨by simpa using hh.1,hh.2⟩
 simp only [opV,List.getD_cons_zero,List.getD_cons_succ,opA,e,hw]
 rw [if_neg h1]
 simp
theorem op_flat {l:List (List Val)} (h:l.flatten.length≤4096):opV 24 0 [seqV (l.map seqV)] = .ok (seqV l.flatten):=by
 have e:asMany 4 (seqV (l.map seqV))=some (l.map seqV):=rfl
 simp only [opV,List.getD_cons_zero,opA,e,asSeqs_map]
 rw [if_pos h]
 simp
def Perm1 (ks:List Int) (n:Nat):Prop:=(∀ k∈ks,0≤k∧k<n)∧ks.Nodup
theorem putL_some:∀ (ks:List Int) (vs:List Val) (out:List (Option Val)),ks.length=vs.length→Perm1 ks out.length→(∀ k∈ks,out.getD k.toNat none=none) →
  ∃ out',putL ks vs out=some out'∧out'.length=out.length∧(∀ i:Nat,∀ h:i<ks.length,∀ h2:i<vs.length,out'.getD ks[i].toNat none=some vs[i])∧∀ j:Nat,(∀ k∈ks,k.toNat≠j)→out'.getD j none=out.getD j none
 | [],[],out,_,_,_=>⟨out,rfl,rfl,by simp,fun _ _=>rfl⟩
 | [],v :: vs,out,h,_,_=>by simp at h
 | k :: ks,[],out,h,_,_=>by simp at h
 | k :: ks,v :: vs,out,hl,hp,hf=>by
  obtain ⟨hr,hn⟩:=hp
  have hk:=hr k (by simp)
  have hkf:=hf k (by simp)
  rw [List.nodup_cons] at hn
  have hne:∀ k'∈ks,k'.toNat≠k.toNat:=fun k' h' he=>hn.1 (by
   have:=hr k' (by simp [h'])
   rwa [show k=k' by omega])
  have hset:∀ j:Nat,j≠k.toNat→(out.set k.toNat (some v)).getD j none=out.getD j none:=fun j hj=>by
   simp only [List.getD_eq_getElem?_getD,List.getElem?_set_ne (Ne.symm hj)]
  obtain ⟨out',e1,e2,e3,e4⟩:=putL_some ks vs (out.set k.toNat (some v)) (by simpa using hl) ⟨by simpa using fun k' h'=>hr k' (by simp [h']),hn.2⟩ (fun k' h'=>by rw [hset _ (hne k' h')]; exact hf k' (by simp [h']))
  refine ⟨out',?_,by simpa using e2,fun i h h2 => ?_,fun j hj => ?_⟩
  ·rw [putL,if_pos ⟨hk.1,hk.2,hkf⟩,e1]
  ·cases i with
   | zero =>
    simp only [List.getElem_cons_zero]
    rw [e4 _ hne,List.getD_eq_getElem?_getD,List.getElem?_set_self (by omega)]
    rfl
   | succ i =>
    simp only [List.getElem_cons_succ]
    exact e3 i (by simpa using h) (by simpa using h2)
  ·rw [e4 j fun k' h'=>hj k' (by simp [h']),hset j fun he=>hj k (by simp) he.symm]
theorem putL_back:∀ (ks:List Int) (vs:List Val) (out out':List (Option Val)),ks.length=vs.length→putL ks vs out=some out'→Perm1 ks out.length∧∀ k∈ks,out.getD k.toNat none=none
 | [],_,out,out',_,_=>⟨⟨by simp,List.nodup_nil⟩,by simp⟩
 | k :: ks,[],out,out',h,_=>by simp at h
 | k :: ks,v :: vs,out,out',hl,h=>by
  rw [putL] at h
  split at h
  ·rename_i hk
   obtain ⟨hk1,hk2,hk3⟩:=hk
   obtain ⟨⟨h1,h2⟩,h3⟩:=putL_back ks vs _ out' (by simpa using hl) h
   simp only [List.length_set] at h1
   have hne:∀ k'∈ks,k'.toNat≠k.toNat:=fun k' h' he=>by
    have:=h3 k' h'
    rw [he,List.getD_eq_getElem?_getD,List.getElem?_set_self (by omega)] at this
    simp at this
   refine ⟨⟨fun x hx => ?_,List.nodup_cons.2 ⟨fun hm=>hne k hm rfl,h2⟩⟩,fun x hx => ?_⟩
   ·rcases List.mem_cons.1 hx with rfl | hx
    ·exact ⟨hk1,hk2⟩
    ·exact h1 x hx
   ·rcases List.mem_cons.1 hx with rfl | hx
    ·exact hk3
    ·have:=h3 x hx
     rwa [List.getD_eq_getElem?_getD,List.getElem?_set_ne (Ne.symm (hne x hx)),← List.getD_eq_getElem?_getD] at this
  ·cases h
theorem op_put {ks:List Int} {X:List Val} (hl:ks.length=X.length) (hp:Perm1 ks X.length):∃ out:List Val,opV 26 0 [seqV X,seqV (nums ks)] = .ok (seqV out)∧out.length=X.length∧∀ i:Nat,∀ h:i<ks.length,∀ h2:i<X.length,out.getD ks[i].toNat .unit=X[i]:=by
 have hw:=asWords_nums ks
 have e:asMany 4 (seqV X)=some X:=rfl
 obtain ⟨out,e1,e2,e3,_⟩:=putL_some ks X (List.replicate X.length none) hl (by simpa using hp) (fun k _=>by
  rw [List.getD_eq_getElem?_getD]
  by_cases h:k.toNat<X.length
  ·simp [h]
  ·simp [h])
 refine ⟨out.map (·.getD .unit),?_,by simpa using e2,fun i h h2 => ?_⟩
 ·simp only [opV,List.getD_cons_zero,List.getD_cons_succ,opA,e,hw,e1]
  rw [if_pos hl]
  simp
 ·have:=e3 i h h2
  have hr:=hp.1 ks[i] (List.getElem_mem h)
  have hlt:ks[i].toNat<out.length:=by rw [e2,List.length_replicate]; omega
  rw [List.getD_eq_getElem?_getD,List.getElem?_eq_getElem hlt] at this
  rw [List.getD_eq_getElem?_getD,List.getElem?_map,List.getElem?_eq_getElem hlt]
  simp only [Option.getD_some] at this
  simp [this]
theorem op_put_err {ks:List Int} {X:List Val} (h:¬ (ks.length=X.length∧Perm1 ks X.length)):opV 26 0 [seqV X,seqV (nums ks)] = .error 14:=by
 have hw:=asWords_nums ks
 have e:asMany 4 (seqV X)=some X:=rfl
 simp only [opV,List.getD_cons_zero,List.getD_cons_succ,opA,e,hw]
 by_cases hl:ks.length=X.length
 ·have:putL ks X (List.replicate X.length none)=none:=by
   cases hp:putL ks X (List.replicate X.length none) with
   | none=>rfl
   | some out=>exact absurd ⟨hl,by simpa using (putL_back _ _ _ _ hl hp).1⟩ h
  rw [if_pos hl,this]
  simp
 ·rw [if_neg hl]
  simp
def varE (n:Int):Ex:=mkE 0 n 0 []
def fstE:Ex:=mkE 9 0 0 [varE 0]
def sndE:Ex:=mkE 10 0 0 [varE 0]
def nestE:Ex:=mkE 25 0 0 [fstE,sndE]
def putE:Ex:=mkE 26 0 0 [fstE,sndE]
def nestA:Ex:=mkE 24 0 0 [nestE]
def nestB:Ex:=mkE 17 1 0 [nestE,mkE 20 0 0 [varE 1]]
def nestC:Ex:=mkE 17 1 0 [sndE,mkE 21 0 0 [putE,varE 1]]
def oneFn (e:Ex):List Fn:=[⟨nameF,0,e⟩]
def pairA (X Y:List Val):Val:=.many 2 0 [seqV X,seqV Y]
section
variable {P:Pg} {left d:Nat} {env:Env} {X Y:List Val}
theorem ev_fst (i j:Nat) (h:find env 0=pairA X Y):Ev P left (d+2) (.mk i 9 0 0 [.mk j 0 0 0 []]) env (seqV X) 2:=by
 have hv:=Ev.var (P:=P) (left:=left) (d:=d) (env:=env) j 0 0 []
 rw [h] at hv
 exact Ev.op1 (by decide) hv rfl
theorem ev_snd (i j:Nat) (h:find env 0=pairA X Y):Ev P left (d+2) (.mk i 10 0 0 [.mk j 0 0 0 []]) env (seqV Y) 2:=by
 have hv:=Ev.var (P:=P) (left:=left) (d:=d) (env:=env) j 0 0 []
 rw [h] at hv
 exact Ev.op1 (by decide) hv rfl
end
section
variable {xs ks:List Int}
theorem runA (hx:xs.length≤60) (h:Fits ks xs.length):∃ s',wholeD (pgN 0 (oneFn nestA)) 1000 0 (pairA (nums xs) (nums ks)) .zero = .ok (seqV (nums xs)) s'∧s'.steps=6:=by
 obtain ⟨z1,z2,z3⟩:=words_sz xs (by omega)
 have hl:(nums xs).length=xs.length:=by simp [nums]
 have hf:Fits ks (nums xs).length:=by rw [hl]; exact h
 have hfl:=cutP_flat ks (nums xs) hf.1 hf.2
 have ef:=op_flat (l:=cutP ks (nums xs)) (by rw [hfl,hl]; omega)
 rw [hfl] at ef
 exact whole_ev (P:=pgN 0 (oneFn nestA)) (f:=0) (p:=0) rfl (Ev.op1 (i:=0) (d:=1000) (by decide) (Ev.op2 (i:=1) (d:=999) (by decide) (ev_fst 2 3 (d:=997) rfl) (ev_snd 4 5 (d:=997) rfl) (op_nest hf)) ef) (by omega) z1 z2 z3
theorem runA_err (h:¬ Fits ks xs.length):∃ i,wholeD (pgN 0 (oneFn nestA)) 1000 0 (pairA (nums xs) (nums ks)) .zero = .err 14 i:=by
 have hl:(nums xs).length=xs.length:=by simp [nums]
 have hf:¬ Fits ks (nums xs).length:=by rw [hl]; exact h
 exact whole_er (P:=pgN 0 (oneFn nestA)) (f:=0) (p:=0) (k:=6) rfl (Er.fst (i:=0) (d:=1000) (by decide) (Er.op2 (i:=1) (d:=999) (by decide) (ev_fst 2 3 (d:=997) rfl) (ev_snd 4 5 (d:=997) rfl) (op_nest_err hf))) (by omega)
def lenF:Val→Val:=fun x=>match asMany 4 x with
 | some l => .num l.length
 | none => .unit
theorem runB (hx:xs.length≤60) (hk:ks.length≤60) (h:Fits ks xs.length):∃ s',wholeD (pgN 0 (oneFn nestB)) 1000 0 (pairA (nums xs) (nums ks)) .zero = .ok (seqV (nums ks)) s':=by
 obtain ⟨z1,z2,z3⟩:=words_sz ks (by omega)
 have hl:(nums xs).length=xs.length:=by simp [nums]
 have hf:Fits ks (nums xs).length:=by rw [hl]; exact h
 have hcl:=cutP_len ks (nums xs) hf.1 hf.2
 have hm:((cutP ks (nums xs)).map seqV).map lenF=nums ks:=by
  rw [List.map_map]
  have h2:∀ L:List (List Val),L.map (lenF ∘ seqV)=nums (L.map fun p=>(p.length:Int)):=fun L=>by
   rw [nums,List.map_map]
   rfl
  rw [h2,hcl]
 have hcn:(cutP ks (nums xs)).length=ks.length:=by
  have:=congrArg List.length hcl
  simpa using this
 have e:=Ev.each (P:=pgN 0 (oneFn nestB)) (left:=1000) (env:=[(0,pairA (nums xs) (nums ks))]) (i:=0) (n:=1) (m:=0) (d:=1000) (l:=(cutP ks (nums xs)).map seqV) (f:=lenF) (b:=.mk 6 20 0 0 [.mk 7 0 1 0 []]) (Ev.op2 (i:=1) (m:=0) (d:=999) (by decide) (ev_fst 2 3 (d:=997) rfl) (ev_snd 4 5 (d:=997) rfl) (op_nest hf)) (k2:=2) fun x hx=>by
  obtain ⟨p,_,rfl⟩:=List.mem_map.1 hx
  exact Ev.op1 (d:=999) (by decide) (Ev.var (d:=998) 7 1 0 []) rfl
 rw [hm,List.length_map,hcn] at e
 obtain ⟨s',e1,_⟩:=whole_ev (P:=pgN 0 (oneFn nestB)) (f:=0) (p:=0) rfl e (by omega) z1 z2 z3
 exact ⟨s',e1⟩
theorem runB_err (h:¬ Fits ks xs.length):∃ i,wholeD (pgN 0 (oneFn nestB)) 1000 0 (pairA (nums xs) (nums ks)) .zero = .err 14 i:=by
 have hl:(nums xs).length=xs.length:=by simp [nums]
 have hf:¬ Fits ks (nums xs).length:=by rw [hl]; exact h
 exact whole_er (P:=pgN 0 (oneFn nestB)) (f:=0) (p:=0) (k:=6) rfl (Er.each0 (i:=0) (d:=1000) (Er.op2 (i:=1) (d:=999) (by decide) (ev_fst 2 3 (d:=997) rfl) (ev_snd 4 5 (d:=997) rfl) (op_nest_err hf))) (by omega)
def atF (out:List Val):Val→Val:=fun x=>match asNum x with
 | some k=>out.getD k.toNat .unit
 | none => .unit
theorem runC (hx:xs.length≤60) (hl:ks.length=xs.length) (hp:Perm1 ks xs.length):∃ s',wholeD (pgN 0 (oneFn nestC)) 100000 0 (pairA (nums xs) (nums ks)) .zero = .ok (seqV (nums xs)) s':=by
 obtain ⟨z1,z2,z3⟩:=words_sz xs (by omega)
 have hln:(nums xs).length=xs.length:=by simp [nums]
 have hp':Perm1 ks (nums xs).length:=by rw [hln]; exact hp
 obtain ⟨out,o1,o2,o3⟩:=op_put (X:=nums xs) (by rw [hln]; exact hl) hp'
 have hm:(nums ks).map (atF out)=nums xs:=by
  refine List.ext_getElem (by simp [nums,hl]) fun i h1 h2 => ?_
  have hi:i<ks.length:=by simpa [nums] using h1
  have hi2:i<(nums xs).length:=by rw [hln]; omega
  rw [← o3 i hi hi2]
  simp [nums,atF,asNum]
 have e:=Ev.each (P:=pgN 0 (oneFn nestC)) (left:=100000) (env:=[(0,pairA (nums xs) (nums ks))]) (i:=0) (n:=1) (m:=0) (d:=100000) (l:=nums ks) (f:=atF out) (a:=.mk 1 10 0 0 [.mk 2 0 0 0 []]) (b:=.mk 3 21 0 0 [.mk 4 26 0 0 [.mk 5 9 0 0 [.mk 6 0 0 0 []],.mk 7 10 0 0 [.mk 8 0 0 0 []]],.mk 9 0 1 0 []]) (ev_snd 1 2 (d:=99998) rfl) (k2:=7) fun x hx=>by
  obtain ⟨k,hk,rfl⟩:=List.mem_map.1 hx
  have hr:=hp.1 k hk
  refine Ev.op2 (d:=99999) (by decide) (Ev.op2 (d:=99998) (by decide) (ev_fst 5 6 (d:=99996) rfl) (ev_snd 7 8 (d:=99996) rfl) o1) (Ev.var (d:=99998) 9 1 0 []) ?_
  have e1:asMany 4 (seqV out)=some out:=rfl
  have e2:find ((1,Val.num k) :: [(0,pairA (nums xs) (nums ks))]) 1 = .num k:=rfl
  have e3:asNum (.num k)=some k:=rfl
  have e4:0≤k∧k<out.length:=by rw [o2,hln]; exact hr
  rw [e2]
  simp only [opV,List.getD_cons_zero,List.getD_cons_succ,opA,e1,e3,atF]
  rw [if_pos e4]
  simp
 rw [hm] at e
 have hlk:(nums ks).length=ks.length:=by simp [nums]
 rw [hlk] at e
 obtain ⟨s',e1,_⟩:=whole_ev (P:=pgN 0 (oneFn nestC)) (f:=0) (p:=0) rfl e (by omega) z1 z2 z3
 exact ⟨s',e1⟩
theorem runC_nil:∃ s',wholeD (pgN 0 (oneFn nestC)) 100000 0 (pairA (nums xs) (nums [])) .zero = .ok (seqV []) s':=by
 have e:=Ev.each (P:=pgN 0 (oneFn nestC)) (left:=100000) (env:=[(0,pairA (nums xs) (nums []))]) (i:=0) (n:=1) (m:=0) (d:=100000) (l:=nums []) (f:=id) (a:=.mk 1 10 0 0 [.mk 2 0 0 0 []]) (b:=.mk 3 21 0 0 [.mk 4 26 0 0 [.mk 5 9 0 0 [.mk 6 0 0 0 []],.mk 7 10 0 0 [.mk 8 0 0 0 []]],.mk 9 0 1 0 []]) (ev_snd 1 2 (d:=99998) rfl) (k2:=7) fun x hx=>by simp [nums] at hx
 obtain ⟨s',e1,_⟩:=whole_ev (P:=pgN 0 (oneFn nestC)) (f:=0) (p:=0) rfl e (by simp [nums]) rfl (by decide) (by decide)
 exact ⟨s',e1⟩
theorem runC_err (hn:ks≠[]) (h:¬ (ks.length=xs.length∧Perm1 ks xs.length)):∃ i,wholeD (pgN 0 (oneFn nestC)) 100000 0 (pairA (nums xs) (nums ks)) .zero = .err 14 i:=by
 have hln:(nums xs).length=xs.length:=by simp [nums]
 have h':¬ (ks.length=(nums xs).length∧Perm1 ks (nums xs).length):=by rw [hln]; exact h
 cases ks with
 | nil=>exact absurd rfl hn
 | cons k ks =>
  have e:=Er.each (P:=pgN 0 (oneFn nestC)) (left:=100000) (env:=[(0,pairA (nums xs) (nums (k :: ks)))]) (i:=0) (n:=1) (m:=0) (d:=100000) (x:=.num k) (l:=nums ks) (a:=.mk 1 10 0 0 [.mk 2 0 0 0 []]) (b:=.mk 3 21 0 0 [.mk 4 26 0 0 [.mk 5 9 0 0 [.mk 6 0 0 0 []],.mk 7 10 0 0 [.mk 8 0 0 0 []]],.mk 9 0 1 0 []]) (ev_snd 1 2 (d:=99998) rfl)
   (Er.fst (d:=99999) (by decide) (Er.op2 (d:=99998) (by decide) (ev_fst 5 6 (d:=99996) rfl) (ev_snd 7 8 (d:=99996) rfl) (op_put_err h')))
  exact whole_er (P:=pgN 0 (oneFn nestC)) (f:=0) (p:=0) rfl e (by omega)
end
theorem pgA_ok:PgOk (pgN 0 (oneFn nestA)):=pgB_ok (by decide +kernel)
theorem pgB2_ok:PgOk (pgN 0 (oneFn nestB)):=pgB_ok (by decide +kernel)
theorem pgC_ok:PgOk (pgN 0 (oneFn nestC)):=pgB_ok (by decide +kernel)
def pairT (v v1 v2:V) (xs ks:List Int):Tr:=.mk 2 0 v [wordsT v1 xs,wordsT v2 ks]
theorem ofTr_pair (v v1 v2:V) (xs ks:List Int):ofTr (pairT v v1 v2 xs ks)=pairA (nums xs) (nums ks):=by
 rw [pairT,ofTr_mk,if_neg (by decide),if_neg (by decide),pairA]
 simp [ofTr_words]
theorem pair_arg {nf:Nat} {v v1 v2:V} {xs ks:List Int} (h1:SlV ((xs.map wordT).map Tr.cs) v1) (h2:SlV ((ks.map wordT).map Tr.cs) v2) (hv:SlV ([wordsT v1 xs,wordsT v2 ks].map Tr.cs) v)
  (hx:∀ w∈xs,isWord w=true) (hk:∀ w∈ks,isWord w=true) (lx:xs.length≤60) (lk:ks.length≤60):Arg nf (pairT v v1 v2 xs ks):=by
 have o1:=words_ok h1 hx
 have o2:=words_ok h2 hk
 have hok:(pairT v v1 v2 xs ks).Ok:=.mk _ _ _ _ (by constructor <;> omega) (by constructor <;> omega) hv fun x hx=>by
  simp only [List.mem_cons,List.not_mem_nil,or_false] at hx
  rcases hx with rfl | rfl
  ·exact o1
  ·exact o2
 have hn:∀ (v:V) (ws:List Int),(wordsT v ws).nodes=1+ws.length:=fun v ws=>by rw [wordsT,Tr.nodes,nodes_words]
 have hn2:(pairT v v1 v2 xs ks).nodes=3+xs.length+ks.length:=by simp only [pairT,Tr.nodes,Tr.nodesL,hn]; omega
 have hvo:∀ ws:List Int,ws.length≤60→(∀ w∈ws,isWord w=true)→VOk nf (seqV (nums ws)):=fun ws hl hw=>by
  refine .many _ _ _ (.inr (.inr ⟨rfl,rfl,?_⟩)) fun x hx => ?_
  ·simp only [nums,List.length_map]; omega
  ·obtain ⟨w,hm,rfl⟩:=List.mem_map.1 hx
   exact .num _ (hw w hm)
 refine ⟨hok,by omega,?_,?_⟩
 ·rw [ofTr_pair,pairA]
  refine .many _ _ _ (.inl ⟨rfl,rfl,rfl⟩) fun x hx' => ?_
  simp only [List.mem_cons,List.not_mem_nil,or_false] at hx'
  rcases hx' with rfl | rfl
  ·exact hvo _ lx hx
  ·exact hvo _ lk hk
 ·have h:=valid_q (pairT v v1 v2 xs ks) hok (by omega)
  have hlong:∀ ws:List Int,Tr.longL (ws.map wordT)=false:=fun ws=>by
   rw [Bool.eq_false_iff]
   intro h
   obtain ⟨t,ht,h2⟩:=Tr.longL_iff.1 h
   obtain ⟨w,_,rfl⟩:=List.mem_map.1 ht
   simp [wordT,Tr.long,Tr.longL] at h2
  have hlw:∀ (v:V) (ws:List Int),ws.length≤60→(wordsT v ws).long=false:=fun v ws hl=>by
   simp only [wordsT,Tr.long,hlong,List.length_map,Bool.or_false,Bool.and_eq_false_iff,decide_eq_false_iff_not]
   exact .inr (by omega)
  have g1:(pairT v v1 v2 xs ks).sized=true:=by
   simp only [Tr.sized,hn2,Bool.and_eq_true,decide_eq_true_eq,Bool.not_eq_true']
   refine ⟨by omega,?_⟩
   simp only [pairT,Tr.long,Tr.longL,hlw _ _ lx,hlw _ _ lk,Bool.or_false,Bool.and_eq_false_iff,decide_eq_false_iff_not]
   exact .inr (by simp)
  have hnum:∀ (v:V) (ws:List Int),(∀ w∈ws,isWord w=true)→(wordsT v ws).allNum=true:=fun v ws hw=>by
   simp only [wordsT,Tr.allNum,Bool.and_eq_true]
   refine ⟨by simp [Tr.numOk],Tr.allNumL_iff.2 fun t ht => ?_⟩
   obtain ⟨w,hm,rfl⟩:=List.mem_map.1 ht
   have:=isWord_iff.1 (hw w hm)
   simp [wordT,Tr.allNum,Tr.allNumL,Tr.numOk]
   omega
  have g2:(pairT v v1 v2 xs ks).fits 12=true:=by
   have l1:=levels_words xs
   have l2:=levels_words ks
   simp only [Tr.fits,Bool.and_eq_true,decide_eq_true_eq]
   refine ⟨by simp only [pairT,wordsT,Tr.levels,Tr.levelsL]; omega,?_⟩
   simp only [pairT,Tr.allNum,Tr.allNumL,hnum _ _ hx,hnum _ _ hk,Bool.and_true]
   simp [Tr.numOk]
  rw [g1,g2] at h
  exact h
theorem one_prg {e:Ex} {v:V} (hv:SlV ((oneFn e).map Fn.cs) v) (he:e.Ok) (hs:e.size<1000) (hp:PgOk (pgN 0 (oneFn e))) (hc:PC 19 [.agg [v,.int .i64 0]] (.int .i64 0)):Prg (oneFn e) v 0:=by
 refine ⟨hv,fun f hf => ?_,by simp only [szFn,oneFn]; omega,hp,hc⟩
 rw [List.mem_singleton.1 hf]
 exact ⟨(show is64 0 by constructor <;> omega),he⟩
end Go.Proofs.Mm
set_option linter.unusedVariables false
set_option linter.unusedSimpArgs false
set_option maxHeartbeats 1000000
namespace Go.Proofs.Mm
open Go Go.Am
def seenE (l:List Int):List (V×V):=l.map fun k=>(.int .i8 k,.bool true)
def insK (l:List Int) (k:Int):List Int:=if k∈l then l else l++[k]
theorem same_k8 (h:Heap) (a b:Int):sameKey h false [.int] (.int .i8 a) (.int .i8 b)=some (decide (a=b)):=by
 by_cases h:a=b <;> simp [sameKey,sameLK,h]
theorem findK_seen (h:Heap) (k:Int):∀ (l:List Int) (i:Nat),(k ∉ l→findK h false [.int] (.int .i8 k) (seenE l) i=some none)∧(k∈l→∃ j,findK h false [.int] (.int .i8 k) (seenE l) i=some (some (i+j,.bool true))∧l[j]?=some k)
 | [],i=>⟨fun _=>rfl,fun hh=>by simp at hh⟩
 | x :: xs,i=>by
  have hs:=same_k8 h k x
  have ih:=findK_seen h k xs (i+1)
  by_cases hx:k=x
  ·refine ⟨fun hh=>absurd (by simp [hx]) hh,fun _=>⟨0,?_,by simp [hx]⟩⟩
   subst hx
   simp only [decide_true] at hs
   simp only [seenE,List.map_cons,findK,hs,Nat.add_zero]
  ·refine ⟨fun hh => ?_,fun hh => ?_⟩
   ·simp only [hx,decide_false] at hs
    simp only [seenE,List.map_cons,findK,hs]
    exact ih.1 fun h2=>hh (by simp [h2])
   ·obtain ⟨j,e1,e2⟩:=ih.2 (by simpa [hx] using hh)
    refine ⟨j+1,?_,by simpa using e2⟩
    simp only [hx,decide_false] at hs
    simp only [seenE,List.map_cons,findK,hs]
    rw [show i+(j+1)=i+1+j by omega]
    exact e1
theorem look_seen {H:Heap} {b:Nat} {l:List Int} (hm:H[b]?=some (.map (seenE l))) (k:Int):lookV H false [.int] (.map b) (.int .i8 k) false (.bool false)=some (.bool (decide (k∈l))):=by
 have hf:=findK_seen H k l 0
 by_cases hk:k∈l
 ·obtain ⟨j,e,_⟩:=hf.2 hk
  simp [lookV,mapEs,hm,keyShape,e,finV,hk]
 ·have e:=hf.1 hk
  simp [lookV,mapEs,hm,keyShape,e,finV,hk]
theorem set_seen {H:Heap} {b:Nat} {l:List Int} (hm:H[b]?=some (.map (seenE l))) (k:Int):msetV H false [.int] (.map b) (.int .i8 k) (.bool true)=some (H.set b (.map (seenE (insK l k)))):=by
 have hf:=findK_seen H k l 0
 by_cases hk:k∈l
 ·obtain ⟨j,e,hj⟩:=hf.2 hk
  have hset:(seenE l).set j (.int .i8 k,.bool true)=seenE l:=by
   obtain ⟨hlt,hv⟩:=List.getElem?_eq_some_iff.1 hj
   refine List.ext_getElem (by simp) fun i h1 h2 => ?_
   by_cases hij:j=i
   ·subst hij
    simp [seenE,hv]
   ·simp [List.getElem_set_ne hij]
  rw [Nat.zero_add] at e
  simp [msetV,mapEs,hm,keyShape,okVal,isCell,e,hset,insK,hk]
 ·have e:=hf.1 hk
  have ea:seenE (l++[k])=seenE l++[(.int .i8 k,.bool true)]:=by simp [seenE]
  simp [msetV,mapEs,hm,keyShape,okVal,isCell,e,insK,hk,ea]
def seenL (ks:List Int) (i:Nat):List Int:=(ks.take i).foldl insK []
theorem seenL_mem (k:Int):∀ (ks l:List Int),k∈ks.foldl insK l↔k∈ks∨k∈l
 | [],l=>by simp
 | x :: xs,l=>by
  rw [List.foldl_cons,seenL_mem k xs]
  simp only [insK,List.mem_cons]
  split
  ·rename_i h
   constructor
   ·rintro (h | h)
    ·exact .inl (.inr h)
    ·exact .inr h
   ·rintro ((rfl | h) | h2)
    ·exact .inr h
    ·exact .inl h
    ·exact .inr h2
  ·rename_i h
   rw [List.mem_append,List.mem_singleton]
   constructor
   ·rintro (h | h | h)
    ·exact .inl (.inr h)
    ·exact .inr h
    ·exact .inl (.inl h)
   ·rintro ((h | h) | h)
    ·exact .inr (.inr h)
    ·exact .inl h
    ·exact .inr (.inl h)
theorem seen_iff {ks:List Int} {i:Nat} {k:Int}:k∈seenL ks i↔k∈ks.take i:=by
 rw [seenL,seenL_mem]
 simp
theorem seen_succ {ks:List Int} {i:Nat} (h:i<ks.length):insK (seenL ks i) ks[i]=seenL ks (i+1):=by
 rw [seenL,seenL,← List.take_append_getElem h,List.foldl_append]
 rfl
def allB (ks:List Int) (n:Nat) (i:Nat):Prop:=ks.length=n∧Perm1 (ks.take i) n
theorem allB_zero {ks:List Int} {n:Nat}:allB ks n 0↔ks.length=n:=by simp [allB,Perm1]
theorem allB_succ {ks:List Int} {n i:Nat} (h:i<ks.length):allB ks n (i+1)↔allB ks n i∧0≤ks[i]∧ks[i]<n∧ks[i] ∉ seenL ks i:=by
 rw [seen_iff]
 simp only [allB,Perm1]
 rw [← List.take_append_getElem h]
 constructor
 ·rintro ⟨h1,h2,h3⟩
  rw [List.nodup_append] at h3
  have:=h2 ks[i] (List.mem_append.2 (.inr (List.mem_singleton.2 rfl)))
  exact ⟨⟨h1,fun k hk=>h2 k (List.mem_append.2 (.inl hk)),h3.1⟩,this.1,this.2,fun hm=>h3.2.2 _ hm _ (List.mem_singleton.2 rfl) rfl⟩
 ·rintro ⟨⟨h1,h2,h3⟩,h4,h5,h6⟩
  refine ⟨h1,fun k hk => ?_,?_⟩
  ·rcases List.mem_append.1 hk with hk | hk
   ·exact h2 k hk
   ·rw [List.mem_singleton.1 hk]; exact ⟨h4,h5⟩
  ·rw [List.nodup_append]
   refine ⟨h3,by simp,fun a ha b hb hab => ?_⟩
   rw [List.mem_singleton.1 hb] at hab
   exact h6 (hab ▸ ha)
theorem allB_len {ks:List Int} {n:Nat}:allB ks n ks.length↔ks.length=n∧Perm1 ks n:=by simp [allB]
theorem sum_take_succ {ks:List Int} {i:Nat} (h:i<ks.length):(ks.take (i+1)).sum=(ks.take i).sum+ks[i]:=by
 rw [← List.take_append_getElem h,List.sum_append]; simp
end Go.Proofs.Mm
set_option linter.unusedVariables false
set_option linter.unusedSimpArgs false
set_option maxHeartbeats 1000000
namespace Go.Proofs.Mm
open Go Go.Am
mutual
theorem nodes_skL:∀ l l':List Tr,l.map Tr.sk=l'.map Tr.sk→Tr.nodesL l=Tr.nodesL l'
 | [],[],_=>rfl
 | [],u :: us,h=>by simp at h
 | t :: ts,[],h=>by simp at h
 | t :: ts,u :: us,h=>by
  simp only [List.map_cons,List.cons.injEq] at h
  simp only [Tr.nodesL,nodes_sk t u h.1,nodes_skL ts us h.2]
theorem nodes_sk:∀ t u:Tr,t.sk=u.sk→t.nodes=u.nodes
 | .mk _ _ _ l,.mk _ _ _ l',h=>by
  rw [Tr.sk_mk,Tr.sk_mk] at h
  simp only [Sk.mk.injEq] at h
  simp only [Tr.nodes,nodes_skL l l' h.2.2]
end
theorem same_q:∀ t u:Tr,t.Ok→u.Ok→t.nodes<2 ^ 60→t.sk=u.sk→PC 13 [.agg t.cs,.agg u.cs] (.bool true):=by
 intro t
 induction t using Tr.ind with
 | h k n v l ih =>
 intro u ho hu hn hs
 cases u with
 | mk k' n' v' l' =>
 rw [Tr.sk_mk,Tr.sk_mk] at hs
 simp only [Sk.mk.injEq] at hs
 obtain ⟨rfl,rfl,hs⟩:=hs
 obtain ⟨_,_,hv,hl⟩:=ho.inv
 obtain ⟨_,_,hv',hl'⟩:=hu.inv
 have hlen:l.length=l'.length:=by
  have:=congrArg List.length hs
  simpa using this
 simp only [Tr.nodes] at hn
 have hnl:=Tr.nodesL_length l
 have hlv:=len_tr hv
 have hlv':=len_tr hv'
 rw [← hlen] at hlv'
 have hvc:=hv.cell
 have hvc':=hv'.cell
 refine pc_of (by simp [pureL,pureV,pure_tr ho,pure_tr hu]) (fun h=>rfl) ?_
 refine call_ofQ (af:=Trmm.a13) rfl rfl fun Q hQ => ?_
 simp only [Trmm.a13]
 simp [Tr.cs,slotOf,hvc,hvc',hlv,hlv',-pcall]
 refine loop_nQ l.length (fun i c=>∃ fl,c=⟨[.agg [.int .i64 k,.int .i64 n,v],.agg [.int .i64 k,.int .i64 n,v'],.agg [.int .i64 k,.int .i64 n,v],.agg [.int .i64 k,.int .i64 n,v'],.bool false,.int .i64 i],[],fl,none,[]⟩) ?_ ⟨none,by simp⟩
 rintro I hI i c hi ⟨fl,rfl⟩
 by_cases hlt:i<l.length
 ·have hlt':(i:Int)<l.length:=by omega
  have hlt2:i<l'.length:=by omega
  have hsi:l[i].sk=l'[i].sk:=by
   have:=congrArg (fun x=>x[i]?) hs
   simpa [List.getElem?_map,List.getElem?_eq_getElem hlt,List.getElem?_eq_getElem hlt2] using this
  have hc:=ih l[i] (List.getElem_mem hlt) l'[i] (hl _ (List.getElem_mem hlt)) (hl' _ (List.getElem_mem hlt2)) (by have:=Tr.nodesL_mem (List.getElem_mem hlt); omega) hsi
  have hi1:=idx_tr hv hlt
  have hi2:=idx_tr hv' hlt2
  have hw2:IntKind.i64.wrap ((i:Int)+1)=(i:Int)+1:=wrap64 (by omega) (by omega)
  rw [PC] at hc
  generalize l[i]=x at *
  generalize l'[i]=y at *
  simp [hvc,hvc',hlv,hlv',hlt',hi1,hi2,hc,hw2,slotOf,mkV,-pcall]
  exact ⟨hlt,hI _ _ ⟨none,rfl⟩⟩
 ·obtain rfl:i=l.length:=by omega
  simp [hvc,hlv,slotOf]
  exact hQ _ _ rfl
end Go.Proofs.Mm
