/- The abstract machine: operations are sound. -/
import Derived.Test.YtloeagdggmolcabGreatDoorCoreA
import Derived.MapKept
import Derived.Laws.NewFold
import Derived.Laws.BytesString
import Derived.RangeFuncRecord
import Derived.RangeFuncCalls
set_option linter.unusedVariables false
set_option linter.unusedSimpArgs false
namespace Go.Am
def G.put (g:G) (b n:Nat) (p:Place):G:={ g with β:=fun b' n'=>if b'=b∧n'=n then some p else g.β b' n' }
theorem G.le_put {g:G} {b n:Nat} {p:Place} (h:g.β b n=none∨g.β b n=some p):g.le (g.put b n p):=by
 refine ⟨Mem.le_refl _,fun b' n' q hq => ?_,rfl⟩
 simp only [G.put]
 split
 ·rename_i hc
  obtain ⟨rfl,rfl⟩:=hc
  rcases h with h | h
  ·rw [h] at hq; cases hq
  ·rw [h] at hq; exact hq
 ·exact hq
theorem G.put_same {g:G} {b n:Nat} {p:Place}:(g.put b n p).β b n=some p:=by simp [G.put]
theorem Rep.fresh {g:G} {h:Heap} {w:World} (hr:Rep g h w) (n:Nat):g.β h.length n=none:=by
 cases hb:g.β h.length n with
 | none=>rfl
 | some p=>have:=hr.old _ _ _ hb; omega
theorem Step.new {g:G} {h:Heap} {w w':World} (hr:Rep g h w) (n sz:Nat) (cs:List V) (C:Nat) (hcs:cs.length=n * sz) (hn:n≤C)
  (hos:w'.os=w.os) (htp:w'.tape=w.tape) (hou:w'.output=w.output) (hsz:w.heap.size≤w'.heap.size) (hold:∀ i,i<w.heap.size→w'.heap[i]?=w.heap[i]?)
  (hblk:0<C→∃ arr e lo hi,w'.heap[w.heap.size]?=some (.cells arr e (lo,hi))∧arr.size=C * sz∧(lo≤hi∧∀ i,i<arr.size+fzx sz→¬ (lo≤i∧i<hi)) ∧
   (∀ u∈arr.toList.take (n * sz),u.oneCell'=true)∧RVs g cs (arr.toList.take (n * sz))) :
  Step g h w (g.put h.length n ⟨w.heap.size,C,sz⟩) (h++[.cells n sz cs]) w':=by
 have hle:g.le (g.put h.length n ⟨w.heap.size,C,sz⟩):=G.le_put (.inl (hr.fresh n))
 have hget:∀ b o,(h++[Obj.cells n sz cs])[b]?=some o→(b<h.length∧h[b]?=some o)∨(b=h.length∧o = .cells n sz cs):=by
  intro b o hb
  by_cases hlt:b<h.length
  ·rw [List.getElem?_append_left hlt] at hb
   exact .inl ⟨hlt,hb⟩
  ·rw [List.getElem?_append_right (by omega)] at hb
   by_cases he:b=h.length
   ·subst he
    simp at hb
    exact .inr ⟨rfl,hb.symm⟩
   ·rw [List.getElem?_eq_none (by simp; omega)] at hb
    cases hb
 have hat:∀ b o blk,b<h.length→(atB (g.put h.length n ⟨w.heap.size,C,sz⟩) b o blk↔atB g b o blk):=by
  intro b o blk hlt
  have key:∀ k,¬ (b=h.length∧k=n):=fun k=>by omega
  cases o <;> simp only [atB,G.put] <;> simp only [key,if_false]
 have hat2:∀ blk,atB (g.put h.length n ⟨w.heap.size,C,sz⟩) h.length (.cells n sz cs) blk→blk=w.heap.size∧0<C:=by
  intro blk hb
  obtain ⟨p,hp,h1,h2⟩:=hb
  rw [G.put_same] at hp
  cases hp
  exact ⟨h2.symm,h1⟩
 refine ⟨⟨?_,?_,?_,?_,?_⟩,hle,⟨hos,htp,hou,hsz,fun i hi _=>hold i hi⟩,fun blk arr hM => .inl hM,?_⟩
 ·intro blk arr hM
  obtain ⟨e,fz,hh⟩:=hr.mem blk arr hM
  exact ⟨e,fz,by rw [hold _ (Array.getElem?_eq_some_iff.1 hh).1]; exact hh⟩
 ·intro b o hb
  rcases hget b o hb with ⟨hlt,hb'⟩ | ⟨rfl,rfl⟩
  ·exact (hr.obj b o hb').mono hle (fun blk ha=>(hr.live_lt ⟨b,o,hb',(hat b o blk hlt).1 ((hat b o blk hlt).2 ha)⟩).2)
    (fun blk ha=>hold _ (hr.live_lt ⟨b,o,hb',ha⟩).1)
  ·refine ⟨hcs,_,G.put_same,rfl,hn,fun hroom=>⟨?_,?_⟩⟩
   ·cases hM:g.M w.heap.size with
    | none=>exact hM
    | some arr =>
     obtain ⟨e,fz,hh⟩:=hr.mem _ _ hM
     have:=(Array.getElem?_eq_some_iff.1 hh).1
     omega
   ·obtain ⟨arr,e,lo,hi,h1,h2,h3,h4,h5⟩:=hblk hroom
    exact ⟨arr,e,lo,hi,h1,h2,h3,h4,h5.mono hle⟩
 ·intro b b' o o' blk h1 h2 h3 h4
  rcases hget b o h1 with ⟨hlt,hb⟩ | ⟨rfl,rfl⟩ <;> rcases hget b' o' h2 with ⟨hlt',hb'⟩ | ⟨rfl,rfl⟩
  ·exact hr.one b b' o o' blk hb hb' ((hat b o blk hlt).1 h3) ((hat b' o' blk hlt').1 h4)
  ·have:=(hat2 blk h4).1
   have:=(hr.live_lt ⟨b,o,hb,(hat b o blk hlt).1 h3⟩).1
   omega
  ·have:=(hat2 blk h3).1
   have:=(hr.live_lt ⟨b',o',hb',(hat b' o' blk hlt').1 h4⟩).1
   omega
  ·rfl
 ·intro b m p hp
  simp only [G.put] at hp
  split at hp
  ·simp; omega
  ·have:=hr.old _ _ _ hp; simp; omega
 ·intro b n' sz' cs' m p hb hp
  simp only [G.put] at hp
  rcases hget b _ hb with ⟨hlt,hb'⟩ | ⟨rfl,he⟩
  ·rw [if_neg (by omega)] at hp
   exact hr.top b n' sz' cs' m p hb' hp
  ·cases he
   split at hp
   ·omega
   ·rw [hr.fresh] at hp; cases hp
 ·intro blk hl
  obtain ⟨b,o,hb,ha⟩:=hl
  rcases hget b o hb with ⟨hlt,hb'⟩ | ⟨rfl,rfl⟩
  ·exact .inl ⟨b,o,hb',(hat b o blk hlt).1 ha⟩
  ·exact .inr (by have:=(hat2 blk ha).1; omega)
theorem Step.write {g:G} {h:Heap} {w:World} (hr:Rep g h w) {b n n' sz:Nat} {cs cs':List V} {p:Place} (hb:h[b]?=some (.cells n sz cs)) (hp:g.β b n=some p) (hroom:0<p.room) (hnn:n≤n') (hn':n'≤p.room)
  (hcs:cs'.length=n' * sz) {arr arr':Array Value} {e:TypeId} {lo hi:Nat} (hh:w.heap[p.blk]?=some (.cells arr e (lo,hi))) (hfz:lo≤hi∧∀ i,i<arr.size+fzx sz→¬ (lo≤i∧i<hi)) (hsz:arr'.size=arr.size)
  (hasz:arr.size=p.room * sz) (hone:∀ u∈arr'.toList.take (n' * sz),u.oneCell'=true) (hrv:RVs g cs' (arr'.toList.take (n' * sz))) :
  Step g h w (g.put b n' p) (h.set b (.cells n' sz cs')) (w.setRow p.blk arr'):=by
 obtain ⟨hlen,p',hp',hps,hnr,hrest⟩:=hr.obj b _ hb
 rw [hp] at hp'
 cases hp'
 obtain ⟨hm,_⟩:=hrest hroom
 have hblt:b<h.length:=(List.getElem?_eq_some_iff.1 hb).1
 have hlt:p.blk<w.heap.size:=(Array.getElem?_eq_some_iff.1 hh).1
 have hput:g.β b n'=none∨g.β b n'=some p:=by
  cases hq:g.β b n' with
  | none=>exact .inl rfl
  | some q =>
   have:=hr.top b n sz cs n' q hb hq
   have:n'=n:=by omega
   subst this
   rw [hp] at hq
   exact .inr hq.symm
 have hle:=G.le_put (p:=p) hput
 have hlive:Live g h p.blk:=⟨b,_,hb,p,hp,hroom,rfl⟩
 have hget:∀ b' o,(h.set b (Obj.cells n' sz cs'))[b']?=some o→(b'≠b∧h[b']?=some o)∨(b'=b∧o = .cells n' sz cs'):=by
  intro b' o ho
  by_cases hbb:b=b'
  ·subst hbb
   rw [List.getElem?_set_self hblt] at ho
   exact .inr ⟨rfl,by simpa using ho.symm⟩
  ·rw [List.getElem?_set_ne hbb] at ho
   exact .inl ⟨fun h=>hbb h.symm,ho⟩
 have hat:∀ b' o blk,b'≠b→(atB (g.put b n' p) b' o blk↔atB g b' o blk):=by
  intro b' o blk hne
  cases o <;> simp only [atB,G.put] <;> simp only [hne,false_and,if_false]
 have hat2:∀ blk,atB (g.put b n' p) b (.cells n' sz cs') blk→blk=p.blk:=by
  intro blk hx
  obtain ⟨q,hq,h1,h2⟩:=hx
  rw [G.put_same] at hq
  cases hq
  exact h2.symm
 have hother:∀ b' o blk,b'≠b→h[b']?=some o→atB g b' o blk→blk≠p.blk:=by
  intro b' o blk hne hbo ha he
  subst he
  exact hne (hr.one b' b o _ _ hbo hb ha ⟨p,hp,hroom,rfl⟩)
 refine ⟨⟨?_,?_,?_,?_,?_⟩,hle,⟨rfl,rfl,rfl,by simp,fun i hi hl=>setRow_other w p.blk i arr' (fun he=>hl (he ▸ hlive))⟩,fun blk arr hM => .inl hM,?_⟩
 ·intro blk a hM
  obtain ⟨e',fz,hh'⟩:=hr.mem blk a hM
  refine ⟨e',fz,?_⟩
  rw [setRow_other w p.blk blk arr' (fun he => ?_)]
  ·exact hh'
  ·subst he
   have hM':g.M p.blk=some a:=hM
   rw [hm] at hM'; cases hM'
 ·intro b' o ho
  rcases hget b' o ho with ⟨hne,hbo⟩ | ⟨rfl,rfl⟩
  ·exact (hr.obj b' o hbo).mono hle (fun blk ha=>(hr.live_lt ⟨b',o,hbo,ha⟩).2) (fun blk ha=>setRow_other w p.blk blk arr' (hother b' o blk hne hbo ha))
  ·refine ⟨hcs,p,G.put_same,hps,hn',fun _=>⟨hm,arr',e,lo,hi,setRow_heap w p.blk arr arr' e _ hh,by omega,⟨hfz.1,fun i hi'=>hfz.2 i (by omega)⟩,hone,hrv.mono hle⟩⟩
 ·intro b1 b2 o1 o2 blk h1 h2 h3 h4
  rcases hget b1 o1 h1 with ⟨hne1,hb1⟩ | ⟨rfl,rfl⟩ <;> rcases hget b2 o2 h2 with ⟨hne2,hb2⟩ | ⟨rfl,rfl⟩
  ·exact hr.one b1 b2 o1 o2 blk hb1 hb2 ((hat b1 o1 blk hne1).1 h3) ((hat b2 o2 blk hne2).1 h4)
  ·exact absurd (hat2 blk h4) (hother b1 o1 blk hne1 hb1 ((hat b1 o1 blk hne1).1 h3))
  ·exact absurd (hat2 blk h3) (hother b2 o2 blk hne2 hb2 ((hat b2 o2 blk hne2).1 h4))
  ·rfl
 ·intro b' m q hq
  simp only [G.put] at hq
  rw [List.length_set]
  split at hq
  ·omega
  ·exact hr.old _ _ _ hq
 ·intro b' n1 sz1 cs1 m q ho hq
  simp only [G.put] at hq
  rcases hget b' _ ho with ⟨hne,hbo⟩ | ⟨rfl,he⟩
  ·rw [if_neg (by simp [hne])] at hq
   exact hr.top b' n1 sz1 cs1 m q hbo hq
  ·cases he
   split at hq
   ·omega
   ·have:=hr.top b' n sz cs m q hb hq
    omega
 ·intro blk hl
  obtain ⟨b',o,ho,ha⟩:=hl
  rcases hget b' o ho with ⟨hne,hbo⟩ | ⟨rfl,rfl⟩
  ·exact .inl ⟨b',o,hbo,(hat b' o blk hne).1 ha⟩
  ·rw [hat2 blk ha]; exact .inl hlive
theorem Step.move {g:G} {h:Heap} {w w':World} (hr:Rep g h w) {b n n' sz:Nat} {cs cs':List V} (hb:h[b]?=some (.cells n sz cs)) (hnn:n<n') (C:Nat) (hn':n'≤C)
  (hcs:cs'.length=n' * sz)
  (hos:w'.os=w.os) (htp:w'.tape=w.tape) (hou:w'.output=w.output) (hwsz:w.heap.size≤w'.heap.size) (hold:∀ i,i<w.heap.size→w'.heap[i]?=w.heap[i]?)
  {arr:Array Value} {e:TypeId} {lo hi:Nat} (hh:w'.heap[w.heap.size]?=some (.cells arr e (lo,hi))) (hfz:lo≤hi∧∀ i,i<arr.size+fzx sz→¬ (lo≤i∧i<hi))
  (hasz:arr.size=C * sz) (hone:∀ u∈arr.toList.take (n' * sz),u.oneCell'=true) (hrv:RVs g cs' (arr.toList.take (n' * sz))) :
  Step g h w (g.put b n' ⟨w.heap.size,C,sz⟩) (h.set b (.cells n' sz cs')) w':=by
 have hblt:b<h.length:=(List.getElem?_eq_some_iff.1 hb).1
 have hnone:g.β b n'=none:=by
  cases hq:g.β b n' with
  | none=>rfl
  | some q=>have:=hr.top b n sz cs n' q hb hq; omega
 have hle:=G.le_put (p:=(⟨w.heap.size,C,sz⟩:Place)) (.inl hnone)
 have hget:∀ b' o,(h.set b (Obj.cells n' sz cs'))[b']?=some o→(b'≠b∧h[b']?=some o)∨(b'=b∧o = .cells n' sz cs'):=by
  intro b' o ho
  by_cases hbb:b=b'
  ·subst hbb
   rw [List.getElem?_set_self hblt] at ho
   exact .inr ⟨rfl,by simpa using ho.symm⟩
  ·rw [List.getElem?_set_ne hbb] at ho
   exact .inl ⟨fun h=>hbb h.symm,ho⟩
 have hat:∀ b' o blk,b'≠b→(atB (g.put b n' ⟨w.heap.size,C,sz⟩) b' o blk↔atB g b' o blk):=by
  intro b' o blk hne
  cases o <;> simp only [atB,G.put] <;> simp only [hne,false_and,if_false]
 have hat2:∀ blk,atB (g.put b n' ⟨w.heap.size,C,sz⟩) b (.cells n' sz cs') blk→blk=w.heap.size:=by
  intro blk hx
  obtain ⟨q,hq,h1,h2⟩:=hx
  rw [G.put_same] at hq
  cases hq
  exact h2.symm
 refine ⟨⟨?_,?_,?_,?_,?_⟩,hle,⟨hos,htp,hou,hwsz,fun i hi _=>hold i hi⟩,fun blk arr hM => .inl hM,?_⟩
 ·intro blk a hM
  obtain ⟨e',fz,hh'⟩:=hr.mem blk a hM
  exact ⟨e',fz,by rw [hold _ (Array.getElem?_eq_some_iff.1 hh').1]; exact hh'⟩
 ·intro b' o ho
  rcases hget b' o ho with ⟨hne,hbo⟩ | ⟨rfl,rfl⟩
  ·exact (hr.obj b' o hbo).mono hle (fun blk ha=>(hr.live_lt ⟨b',o,hbo,ha⟩).2) (fun blk ha=>hold _ (hr.live_lt ⟨b',o,hbo,ha⟩).1)
  ·refine ⟨hcs,_,G.put_same,rfl,hn',fun _=>⟨?_,arr,e,lo,hi,hh,hasz,hfz,hone,hrv.mono hle⟩⟩
   cases hM:g.M w.heap.size with
   | none=>exact hM
   | some a =>
    obtain ⟨e',fz,hh'⟩:=hr.mem _ _ hM
    have:=(Array.getElem?_eq_some_iff.1 hh').1
    omega
 ·intro b1 b2 o1 o2 blk h1 h2 h3 h4
  rcases hget b1 o1 h1 with ⟨hne1,hb1⟩ | ⟨rfl,rfl⟩ <;> rcases hget b2 o2 h2 with ⟨hne2,hb2⟩ | ⟨rfl,rfl⟩
  ·exact hr.one b1 b2 o1 o2 blk hb1 hb2 ((hat b1 o1 blk hne1).1 h3) ((hat b2 o2 blk hne2).1 h4)
  ·have:=hat2 blk h4
   have:=(hr.live_lt ⟨b1,o1,hb1,(hat b1 o1 blk hne1).1 h3⟩).1
   omega
  ·have:=hat2 blk h3
   have:=(hr.live_lt ⟨b2,o2,hb2,(hat b2 o2 blk hne2).1 h4⟩).1
   omega
  ·rfl
 ·intro b' m q hq
  simp only [G.put] at hq
  rw [List.length_set]
  split at hq
  ·omega
  ·exact hr.old _ _ _ hq
 ·intro b' n1 sz1 cs1 m q ho hq
  simp only [G.put] at hq
  rcases hget b' _ ho with ⟨hne,hbo⟩ | ⟨rfl,he⟩
  ·rw [if_neg (by simp [hne])] at hq
   exact hr.top b' n1 sz1 cs1 m q hbo hq
  ·cases he
   split at hq
   ·omega
   ·have:=hr.top b' n sz cs m q hb hq
    omega
 ·intro blk hl
  obtain ⟨b',o,ho,ha⟩:=hl
  rcases hget b' o ho with ⟨hne,hbo⟩ | ⟨rfl,rfl⟩
  ·exact .inl ⟨b',o,hbo,(hat b' o blk hne).1 ha⟩
  ·exact .inr (by have:=hat2 blk ha; omega)
theorem Step.kill {g:G} {h:Heap} {w:World} (hr:Rep g h w) {b n sz:Nat} {cs:List V} {p:Place} (hb:h[b]?=some (.cells n sz cs)) (hp:g.β b n=some p) :
  ∃ g',Step g h w g' (h.set b .gone) w∧(0<p.room→∃ arr e lo hi,w.heap[p.blk]?=some (.cells arr e (lo,hi))∧g'.M p.blk=some arr∧arr.size=p.room * sz ∧
   (∀ u∈arr.toList.take (n * sz),u.oneCell'=true)∧RVs g cs (arr.toList.take (n * sz)))∧n≤p.room∧p.sz=sz∧cs.length=n * sz:=by
 obtain ⟨hlen,p',hp',hps,hnr,hrest⟩:=hr.obj b _ hb
 rw [hp] at hp'
 cases hp'
 have hblt:b<h.length:=(List.getElem?_eq_some_iff.1 hb).1
 have hget:∀ b' o,(h.set b Obj.gone)[b']?=some o→(b'≠b∧h[b']?=some o)∨(b'=b∧o = .gone):=by
  intro b' o ho
  by_cases hbb:b=b'
  ·subst hbb
   rw [List.getElem?_set_self hblt] at ho
   exact .inr ⟨rfl,by simpa using ho.symm⟩
  ·rw [List.getElem?_set_ne hbb] at ho
   exact .inl ⟨fun h=>hbb h.symm,ho⟩
 by_cases hroom:0<p.room
 ·obtain ⟨hm,arr,e,lo,hi,hh,hasz,hfz,hone,hrv⟩:=hrest hroom
  have hlive:Live g h p.blk:=⟨b,_,hb,p,hp,hroom,rfl⟩
  have hother:∀ b' o blk,b'≠b→h[b']?=some o→atB g b' o blk→blk≠p.blk:=by
   intro b' o blk hne hbo ha he
   subst he
   exact hne (hr.one b' b o _ _ hbo hb ha ⟨p,hp,hroom,rfl⟩)
  refine ⟨{ g with M:=fun blk=>if blk=p.blk then some arr else g.M blk },⟨⟨?_,?_,?_,?_,?_⟩,⟨?_,fun _ _ _ h=>h,rfl⟩,Frame.refl _ _,?_,?_⟩,fun _=>⟨arr,e,lo,hi,hh,by simp,hasz,hone,hrv⟩,hnr,hps,hlen⟩
  ·intro blk a hM
   simp only at hM
   split at hM
   ·rename_i he
    subst he
    cases hM
    exact ⟨e,(lo,hi),hh⟩
   ·exact hr.mem blk a hM
  ·intro b' o ho
   rcases hget b' o ho with ⟨hne,hbo⟩ | ⟨rfl,rfl⟩
   ·refine (hr.obj b' o hbo).mono (g':={ g with M:=fun blk=>if blk=p.blk then some arr else g.M blk }) ⟨?_,fun _ _ _ h=>h,rfl⟩ (fun blk ha => ?_) (fun blk ha=>rfl)
    ·intro blk a hM
     have:blk≠p.blk:=fun he=>by subst he; rw [hm] at hM; cases hM
     simp only [this,if_false]
     exact hM
    ·simp only [hother b' o blk hne hbo ha,if_false]
     exact (hr.live_lt ⟨b',o,hbo,ha⟩).2
   ·trivial
  ·intro b1 b2 o1 o2 blk h1 h2 h3 h4
   rcases hget b1 o1 h1 with ⟨hne1,hb1⟩ | ⟨rfl,rfl⟩
   ·rcases hget b2 o2 h2 with ⟨hne2,hb2⟩ | ⟨rfl,rfl⟩
    ·exact hr.one b1 b2 o1 o2 blk hb1 hb2 ((atB_congr rfl b1 o1 blk).1 h3) ((atB_congr rfl b2 o2 blk).1 h4)
    ·exact h4.elim
   ·exact h3.elim
  ·intro b' m q hq
   rw [List.length_set]
   exact hr.old _ _ _ hq
  ·intro b' n1 sz1 cs1 m q ho hq
   rcases hget b' _ ho with ⟨hne,hbo⟩ | ⟨rfl,he⟩
   ·exact hr.top b' n1 sz1 cs1 m q hbo hq
   ·cases he
  ·intro blk a hM
   have:blk≠p.blk:=fun he=>by subst he; rw [hm] at hM; cases hM
   simp only [this,if_false]
   exact hM
  ·intro blk a hM
   simp only at hM
   split at hM
   ·rename_i he
    subst he
    exact .inr (.inr hlive)
   ·exact .inl hM
  ·intro blk hl
   obtain ⟨b',o,ho,ha⟩:=hl
   rcases hget b' o ho with ⟨hne,hbo⟩ | ⟨rfl,rfl⟩
   ·exact .inl ⟨b',o,hbo,(atB_congr rfl b' o blk).1 ha⟩
   ·exact ha.elim
 ·refine ⟨g,⟨⟨hr.mem,?_,?_,?_,?_⟩,G.le_refl g,Frame.refl _ _,fun _ _ h => .inl h,?_⟩,fun h=>absurd h hroom,hnr,hps,hlen⟩
  ·intro b' o ho
   rcases hget b' o ho with ⟨hne,hbo⟩ | ⟨rfl,rfl⟩
   ·exact hr.obj b' o hbo
   ·trivial
  ·intro b1 b2 o1 o2 blk h1 h2 h3 h4
   rcases hget b1 o1 h1 with ⟨hne1,hb1⟩ | ⟨rfl,rfl⟩
   ·rcases hget b2 o2 h2 with ⟨hne2,hb2⟩ | ⟨rfl,rfl⟩
    ·exact hr.one b1 b2 o1 o2 blk hb1 hb2 h3 h4
    ·exact h4.elim
   ·exact h3.elim
  ·intro b' m q hq
   rw [List.length_set]
   exact hr.old _ _ _ hq
  ·intro b' n1 sz1 cs1 m q ho hq
   rcases hget b' _ ho with ⟨hne,hbo⟩ | ⟨rfl,he⟩
   ·exact hr.top b' n1 sz1 cs1 m q hbo hq
   ·cases he
  ·intro blk hl
   obtain ⟨b',o,ho,ha⟩:=hl
   rcases hget b' o ho with ⟨hne,hbo⟩ | ⟨rfl,rfl⟩
   ·exact .inl ⟨b',o,hbo,ha⟩
   ·exact ha.elim
def Obj.kept:Obj→Bool
 | .map _ | .loop .. => true
 | _=>false
theorem atB_kept {g:G} {b:Nat} {o:Am.Obj} {blk:Nat} (hk:o.kept=true):atB g b o blk↔∃ p,g.β b 0=some p∧p.blk=blk:=by
 cases o <;> simp [Obj.kept] at hk <;> rfl
theorem ObjR.kept_M {g:G} {w:World} {b:Nat} {o:Am.Obj} {p:Place} (hk:o.kept=true) (ho:ObjR g w b o) (hp:g.β b 0=some p):g.M p.blk=none:=by
 cases o with
 | cells=>simp [Obj.kept] at hk
 | gone=>simp [Obj.kept] at hk
 | map es=>obtain ⟨q,hq,hm,_⟩:=ho; rw [hp] at hq; cases hq; exact hm
 | loop y fi st pd=>obtain ⟨q,hq,hm,_⟩:=ho; rw [hp] at hq; cases hq; exact hm
theorem Step.newO {g:G} {h:Heap} {w w':World} (hr:Rep g h w) {o:Am.Obj} (hk:o.kept=true) {blk:Nat} (hb:w.heap.size≤blk)
  (hos:w'.os=w.os) (htp:w'.tape=w.tape) (hou:w'.output=w.output) (hsz:w.heap.size≤w'.heap.size) (hold:∀ i,i<w.heap.size→w'.heap[i]?=w.heap[i]?)
  (ho:ObjR (g.put h.length 0 ⟨blk,0,0⟩) w' h.length o):Step g h w (g.put h.length 0 ⟨blk,0,0⟩) (h++[o]) w':=by
 have hle:g.le (g.put h.length 0 ⟨blk,0,0⟩):=G.le_put (.inl (hr.fresh 0))
 have hget:∀ b o',(h++[o])[b]?=some o'→(b<h.length∧h[b]?=some o')∨(b=h.length∧o'=o):=by
  intro b o' hb
  by_cases hlt:b<h.length
  ·rw [List.getElem?_append_left hlt] at hb
   exact .inl ⟨hlt,hb⟩
  ·rw [List.getElem?_append_right (by omega)] at hb
   by_cases he:b=h.length
   ·subst he
    simp at hb
    exact .inr ⟨rfl,hb.symm⟩
   ·rw [List.getElem?_eq_none (by simp; omega)] at hb
    cases hb
 have hat:∀ b o' k,b<h.length→(atB (g.put h.length 0 ⟨blk,0,0⟩) b o' k↔atB g b o' k):=by
  intro b o' k hlt
  have key2:¬ (b=h.length):=by omega
  cases o' <;> simp only [atB,G.put,key2,false_and,if_false]
 have hat2:∀ k,atB (g.put h.length 0 ⟨blk,0,0⟩) h.length o k→k=blk:=by
  intro k hx
  obtain ⟨p,hp,h1⟩:=(atB_kept hk).1 hx
  rw [G.put_same] at hp
  cases hp
  exact h1.symm
 refine ⟨⟨?_,?_,?_,?_,?_⟩,hle,⟨hos,htp,hou,hsz,fun i hi _=>hold i hi⟩,fun blk arr hM => .inl hM,?_⟩
 ·intro k arr hM
  obtain ⟨e,fz,hh⟩:=hr.mem k arr hM
  exact ⟨e,fz,by rw [hold _ (Array.getElem?_eq_some_iff.1 hh).1]; exact hh⟩
 ·intro b o' hb'
  rcases hget b o' hb' with ⟨hlt,hb2⟩ | ⟨rfl,rfl⟩
  ·exact (hr.obj b o' hb2).mono hle (fun k ha=>(hr.live_lt ⟨b,o',hb2,ha⟩).2) (fun k ha=>hold _ (hr.live_lt ⟨b,o',hb2,ha⟩).1)
  ·exact ho
 ·intro b b' o1 o2 k h1 h2 h3 h4
  rcases hget b o1 h1 with ⟨hlt,hb1⟩ | ⟨rfl,rfl⟩ <;> rcases hget b' o2 h2 with ⟨hlt',hb2⟩ | ⟨rfl,rfl⟩
  ·exact hr.one b b' o1 o2 k hb1 hb2 ((hat b o1 k hlt).1 h3) ((hat b' o2 k hlt').1 h4)
  ·have:=hat2 k h4
   have:=(hr.live_lt ⟨b,o1,hb1,(hat b o1 k hlt).1 h3⟩).1
   omega
  ·have:=hat2 k h3
   have:=(hr.live_lt ⟨b',o2,hb2,(hat b' o2 k hlt').1 h4⟩).1
   omega
  ·rfl
 ·intro b m p hp
  simp only [G.put] at hp
  split at hp
  ·simp; omega
  ·have:=hr.old _ _ _ hp; simp; omega
 ·intro b n' sz' cs' m p hb' hp
  simp only [G.put] at hp
  rcases hget b _ hb' with ⟨hlt,hb2⟩ | ⟨rfl,he⟩
  ·rw [if_neg (by omega)] at hp
   exact hr.top b n' sz' cs' m p hb2 hp
  ·subst he; simp [Obj.kept] at hk
 ·intro k hl
  obtain ⟨b,o',hb',ha⟩:=hl
  rcases hget b o' hb' with ⟨hlt,hb2⟩ | ⟨rfl,rfl⟩
  ·exact .inl ⟨b,o',hb2,(hat b o' k hlt).1 ha⟩
  ·exact .inr (by have:=hat2 k ha; omega)
theorem Step.setO {g:G} {h:Heap} {w w':World} (hr:Rep g h w) {b:Nat} {o o':Am.Obj} (hb:h[b]?=some o) (hk:o.kept=true) (hk':o'.kept=true) {p:Place} (hp:g.β b 0=some p)
  (hos:w'.os=w.os) (htp:w'.tape=w.tape) (hou:w'.output=w.output) (hsz:w'.heap.size=w.heap.size) (hold:∀ i,i≠p.blk→w'.heap[i]?=w.heap[i]?)
  (ho:ObjR g w' b o'):Step g h w g (h.set b o') w':=by
 have hblt:b<h.length:=(List.getElem?_eq_some_iff.1 hb).1
 have hlive:Live g h p.blk:=⟨b,o,hb,(atB_kept hk).2 ⟨p,hp,rfl⟩⟩
 have hm:=(hr.live_lt hlive).2
 have hget:∀ b' o2,(h.set b o')[b']?=some o2→(b'≠b∧h[b']?=some o2)∨(b'=b∧o2=o'):=by
  intro b' o2 h2
  by_cases hbb:b=b'
  ·subst hbb
   rw [List.getElem?_set_self hblt] at h2
   exact .inr ⟨rfl,by simpa using h2.symm⟩
  ·rw [List.getElem?_set_ne hbb] at h2
   exact .inl ⟨fun h=>hbb h.symm,h2⟩
 have hat2:∀ k,atB g b o' k→atB g b o k:=fun k hx=>(atB_kept hk).2 ((atB_kept hk').1 hx)
 have hother:∀ b' o2 k,b'≠b→h[b']?=some o2→atB g b' o2 k→k≠p.blk:=by
  intro b' o2 k hne hbo ha he
  subst he
  exact hne (hr.one b' b o2 _ _ hbo hb ha ((atB_kept hk).2 ⟨p,hp,rfl⟩))
 refine ⟨⟨?_,?_,?_,?_,?_⟩,G.le_refl g,⟨hos,htp,hou,by omega,fun i hi hl=>hold i (fun he=>hl (he ▸ hlive))⟩,fun blk arr hM => .inl hM,?_⟩
 ·intro k arr hM
  obtain ⟨e,fz,hh⟩:=hr.mem k arr hM
  refine ⟨e,fz,?_⟩
  rw [hold k (fun he=>by subst he; rw [hm] at hM; cases hM)]
  exact hh
 ·intro b' o2 h2
  rcases hget b' o2 h2 with ⟨hne,hbo⟩ | ⟨rfl,rfl⟩
  ·exact (hr.obj b' o2 hbo).mono (G.le_refl g) (fun k ha=>(hr.live_lt ⟨b',o2,hbo,ha⟩).2) (fun k ha=>hold k (hother b' o2 k hne hbo ha))
  ·exact ho
 ·intro b1 b2 o1 o2 k h1 h2 h3 h4
  rcases hget b1 o1 h1 with ⟨hne1,hb1⟩ | ⟨rfl,rfl⟩ <;> rcases hget b2 o2 h2 with ⟨hne2,hb2⟩ | ⟨rfl,rfl⟩
  ·exact hr.one b1 b2 o1 o2 k hb1 hb2 h3 h4
  ·exact hr.one b1 b2 o1 o k hb1 hb h3 (hat2 k h4)
  ·exact hr.one b1 b2 o o2 k hb hb2 (hat2 k h3) h4
  ·rfl
 ·intro b' m q hq
  rw [List.length_set]
  exact hr.old _ _ _ hq
 ·intro b' n1 sz1 cs1 m q h2 hq
  rcases hget b' _ h2 with ⟨hne,hbo⟩ | ⟨rfl,he⟩
  ·exact hr.top b' n1 sz1 cs1 m q hbo hq
  ·subst he; simp [Obj.kept] at hk'
 ·intro k hl
  obtain ⟨b',o2,h2,ha⟩:=hl
  rcases hget b' o2 h2 with ⟨hne,hbo⟩ | ⟨rfl,rfl⟩
  ·exact .inl ⟨b',o2,hbo,ha⟩
  ·exact .inl ⟨b',o,hb,hat2 k ha⟩
section
variable {P:Program} {g:G} {h:Heap} {w:World}
theorem seg_step (l:List Value) (k:Nat) (v:Value) (rest:List Value) (hk:k+1+rest.length≤l.length) :
  (l.set k v).take (k+1)++rest++(l.set k v).drop (k+1+rest.length)=l.take k++(v :: rest)++l.drop (k+(rest.length+1)):=by
 have e1:(l.set k v).take (k+1)=l.take k++[v]:=by
  rw [List.take_succ_eq_append_getElem (by simp; omega)]
  simp [List.take_set_of_le]
 have e2:(l.set k v).drop (k+1+rest.length)=l.drop (k+(rest.length+1)):=by
  rw [List.drop_set_of_lt (by omega)]
  congr 1
  omega
 rw [e1,e2]
 simp
theorem run_storeCells_blk (blk o:Nat) (t:TypeId) (lo hi:Nat):∀ (vs:List Value) (i:Nat) (cur:Array Value) (w:World),w.heap[blk]?=some (.cells cur t (lo,hi))→o+i+vs.length≤cur.size →
  (∀ j,j<cur.size→¬ (lo≤j∧j<hi))→(∀ v∈vs,v.oneCell'=true) →
  (storeCells ⟨blk,o,none⟩ vs i).run P w = .ok () (w.setRow blk (cur.toList.take (o+i)++vs++cur.toList.drop (o+i+vs.length)).toArray)
 | [],i,cur,w,hg,_,_,_=>by
  simp only [storeCells,List.append_nil,List.length_nil,Nat.add_zero,List.take_append_drop,Array.toArray_toList]
  rw [setRow_self w blk cur t (lo,hi) hg]
  rfl
 | v :: rest,i,cur,w,hg,hl,hfz,h1=>by
  have hi':o+i<cur.size:=by simp at hl; omega
  have hcell:w.cell? ⟨blk,o+i,none⟩=some cur[o+i]:=by simp [World.cell?,hg,hi']
  have hfro:w.frozen? ⟨blk,o+i,none⟩=false:=by
   have:=hfz _ hi'
   simp only [World.frozen?,hg]
   simp only [Bool.and_eq_false_iff,decide_eq_false_iff_not]
   omega
  have hst:(store ((⟨blk,o,none⟩:Addr).add i) v).run P w = .ok () (w.setRow blk (cur.setIfInBounds (o+i) v)):=by
   rw [add_none,run_store P w _ v _ (h1 v (by simp)),hcell]
   simp [hfro,setCell_eq_setRow w blk (o+i) cur t (lo,hi) v hg]
  have ih:=run_storeCells_blk blk o t lo hi rest (i+1) (cur.setIfInBounds (o+i) v) (w.setRow blk (cur.setIfInBounds (o+i) v)) (setRow_heap w blk cur _ t _ hg) (by simp at hl ⊢; omega)
   (fun j hj=>hfz j (by simpa using hj)) (fun x hx=>h1 x (by simp [hx]))
  simp only [storeCells,Sem.run_bind,hst,Result.andThen_ok,ih,setRow_setRow]
  congr 3
  have e:=seg_step cur.toList (o+i) v rest (by simp at hl ⊢; omega)
  simpa [Array.toList_setIfInBounds,Nat.add_assoc] using e
theorem take_splice {cs:List Value} (arr:List Value) (off k:Nat) (hle:off+cs.length≤k) (hk:k≤arr.length) :
  (arr.take off++cs++arr.drop (off+cs.length)).take k=(arr.take k).take off++cs++(arr.take k).drop (off+cs.length):=by
 rw [List.take_append]
 have l1:(arr.take off++cs).length=off+cs.length:=by simp; omega
 rw [l1,List.take_of_length_le (by omega),List.take_take,Nat.min_eq_left (by omega),List.drop_take]
theorem store_sound (hr:Rep g h w) {t:TypeId} {a x:V} {av xv:Value} {size:Nat} {h':Heap} (ht:(P.info? t).map (·.size)=some size) (ha:RV g a av) (hx:RV g x xv) (hv:storeV h a x size=some h') :
  ∃ ad,av = .pointer (some ad)∧∃ w' g',(storeVar t ad xv).run P w = .ok () w'∧Step g h w g' h' w':=by
 unfold storeV at hv
 split at hv
 ·rename_i b off gen
  obtain ⟨p,hp,rfl⟩:=ha.ref_inv
  refine ⟨_,rfl,?_⟩
  split at hv
  ·rename_i n sz cs ho
   split at hv
   ·rename_i hc
    obtain ⟨rfl,hle,hsz,hcell⟩:=hc
    cases hv
    obtain ⟨hcs,hone⟩:=hx.cells hcell
    have hxl:xv.cells.size=size:=by have:=hcs.length; simp at this; omega
    have hsplen:(splice cs off (cellsV x)).length=cs.length:=by simp [splice]; omega
    obtain ⟨hb,hlen,p',hp',hps,hnr,hrest⟩:=objCells_rep hr ho
    rw [hp] at hp'
    cases hp'
    by_cases h0:size=0
    ·-- nothing is written
     subst h0
     have hx0:xv.cells = #[]:=Array.eq_empty_of_size_eq_zero hxl
     have hc0:cellsV x=[]:=List.length_eq_zero_iff.1 hsz
     have hsp:splice cs off (cellsV x)=cs:=by simp [splice,hc0]
     refine ⟨w,g,?_,?_⟩
     ·simp [storeVar,run_sizeOf ht,hx0,storeCells]
     ·rw [hsp]
      have:h.set b (.cells gen sz cs)=h:=by
       apply List.ext_getElem?
       intro i
       by_cases hi:b=i
       ·subst hi
        rw [List.getElem?_set_self (List.getElem?_eq_some_iff.1 hb).1,hb]
       ·rw [List.getElem?_set_ne hi]
      rw [this]
      exact Step.refl hr
    ·obtain ⟨hroom,_,arr,e,lo,hi,hh,hsz2,hfz,hasz,_,hone2,hrv,_⟩:=obj_range hr ho hp hle (Nat.pos_of_ne_zero h0)
     have hst:=run_storeCells_blk (P:=P) p.blk off e lo hi xv.cells.toList 0 arr w hh (by simp; omega) (fun i hi'=>hfz.2 i (by omega)) hone
     refine ⟨w.setRow p.blk (arr.toList.take off++xv.cells.toList++arr.toList.drop (off+xv.cells.toList.length)).toArray,g.put b gen p,?_,?_⟩
     rotate_left
     ·have hn:gen * sz≤arr.size:=by rw [hasz]; exact Nat.mul_le_mul_right _ hnr
      have htk:=take_splice (cs:=xv.cells.toList) arr.toList off (gen * sz) (by simp; omega) (by simp; omega)
      have hlx:xv.cells.toList.length=(cellsV x).length:=hcs.length.symm
      refine Step.write hr hb hp hroom (Nat.le_refl _) hnr (by rw [hsplen]; exact hlen) hh hfz (arr':=(arr.toList.take off++xv.cells.toList++arr.toList.drop (off+xv.cells.toList.length)).toArray) (by simp; omega) hasz ?_ ?_
      ·simp only [List.toList_toArray]
       rw [htk]
       intro u hu
       rcases List.mem_append.1 hu with hu | hu
       ·rcases List.mem_append.1 hu with hu | hu
        ·exact hone2 u (List.mem_of_mem_take hu)
        ·exact hone u hu
       ·exact hone2 u (List.mem_of_mem_drop hu)
      ·simp only [List.toList_toArray]
       rw [htk]
       unfold splice
       rw [← hlx]
       exact ((hrv.take off).append hcs).append (hrv.drop _)
     ·simp only [storeVar,Sem.run_bind,run_sizeOf ht,Result.andThen_ok,hxl,ne_eq,not_true_eq_false,if_false]
      simp only [Nat.add_zero] at hst
      exact hst
   ·cases hv
  ·cases hv
 ·cases hv
end
section
variable {P:Program} {g:G} {h:Heap} {w:World}
theorem Rep.of_heap {w':World} (hr:Rep g h w) (he:w'.heap=w.heap):Rep g h w':=by
 refine ⟨?_,?_,hr.one,hr.old,hr.top⟩
 ·intro blk arr hM; rw [he]; exact hr.mem blk arr hM
 ·intro b o hb
  exact (hr.obj b o hb).mono (G.le_refl g) (fun blk ha=>(hr.live_lt ⟨b,o,hb,ha⟩).2) (fun blk _=>by rw [he])
theorem growBy_le (n:Nat) (hn:256≤n):∀ (r c:Nat),c≤2 * n→Builtin.growBy n r c≤2 * n
 | 0,c,hc=>by simpa [Builtin.growBy] using hc
 | r+1,c,hc=>by
  unfold Builtin.growBy
  split
  ·exact hc
  ·exact growBy_le n hn r _ (by omega)
theorem nextslicecap_le {need old:Nat} (h:old<need):Builtin.nextslicecap need old≤2 * need:=by
 unfold Builtin.nextslicecap
 split
 ·omega
 ·split
  ·omega
  ·exact growBy_le need (by omega) 4 old (by omega)
theorem firstCells_sound (hr:Rep g h w) {y:V} {x:Value} {k sz:Nat} {ys:List V} (hy:RV g y x) (hl:sliceLen y=some k) (hc:sliceCells h y=some ys) (hk:ys.length=k * sz) :
  (∀ w,(Builtin.lenOf x).run P w = .ok k w)∧∃ arr:Array Value,(∀ w':World,w'.heap=w.heap→(Builtin.firstCells sz k x).run P w' = .ok arr w')∧RVs g ys arr.toList∧∀ u∈arr.toList,u.oneCell'=true:=by
 cases y <;> simp only [sliceLen,reduceCtorEq,Option.some.injEq] at hl
 case nils =>
  subst hl
  obtain rfl:=hy.nils_inv
  simp only [sliceCells,Option.some.injEq] at hc
  subst hc
  exact ⟨fun w=>by simp [Builtin.lenOf],#[],fun w' _=>by simp [Builtin.firstCells],.nil,by simp⟩
 case str s =>
  subst hl
  obtain rfl:=hy.str_inv
  simp only [sliceCells,Option.some.injEq] at hc
  subst hc
  refine ⟨fun w=>by simp [Builtin.lenOf],(s.extract 0 s.size).data.map fun b => .int .u8 b.toNat,fun w' _=>by simp [Builtin.firstCells],?_,?_⟩
  ·have:s.extract 0 s.size=s:=by simp
   rw [this]
   have hb:∀ l:List UInt8,RVs g (l.map fun b=>V.int .u8 b.toNat) (l.map fun b=>Value.int .u8 b.toNat):=by
    intro l
    induction l with
    | nil=>exact .nil
    | cons b l ih=>exact .cons _ _ _ _ (.d _ _ (.int _ _)) ih
   simpa using hb s.data.toList
  ·simp
   intro a _; rfl
 case sv es ex =>
  subst hl
  obtain ⟨a,cap,sz',xs,rfl,hcap,he,hrd,hone,hp⟩:=hy.sv_inv
  simp only [sliceCells,Option.some.injEq] at hc
  subst hc
  refine ⟨fun w=>by simp [Builtin.lenOf],?_⟩
  by_cases h0:es.length=0
  ·have:es=[]:=List.length_eq_zero_iff.1 h0
   subst this
   refine ⟨#[],fun w' _ => ?_,by simpa using RVs.nil,by simp⟩
   cases a <;> simp [Builtin.firstCells,loadCells,loadCellsFrom]
  ·obtain ⟨blk,off,arr,rfl,hM,hxs⟩:=hp (Nat.pos_of_ne_zero h0)
   obtain ⟨e,fz,hh⟩:=hr.mem blk arr hM
   have hxl:=hrd.length
   have hfl:=hrd.flatten.length
   have hsz:xs.length=es.length * sz:=by omega
   have hl2:=congrArg List.length hxs
   simp at hl2
   by_cases hz:es.length * sz=0
   ·refine ⟨#[],fun w' _=>by simp [Builtin.firstCells,hz,loadCells,loadCellsFrom],?_,by simp⟩
    have e1:xs=[]:=List.length_eq_zero_iff.1 (by omega)
    have:=(hrd.flatten).rvs (g:=g)
    rw [e1] at this
    simpa using this
   ·refine ⟨((arr.toList.drop off).take (es.length * sz)).toArray,fun w' hw' => ?_,?_,?_⟩
    ·have:=run_loadCells_blk (P:=P) (w:=w') (by rw [hw']; exact hh) (off:=off) (n:=es.length * sz) (by omega)
     simpa [Builtin.firstCells] using this
    ·simp only [List.toList_toArray]
     rw [← hsz,← hxs]
     exact (hrd.flatten).rvs
    ·simp only [List.toList_toArray]
     rw [← hsz,← hxs]
     exact hone
 case vs cs n s0 =>
  subst hl
  obtain ⟨⟨blk,off,spot⟩,arr,rfl,hs,hM,hn,hlen,hone,hrv⟩:=hy.vs_inv
  simp only at hs
  subst hs
  simp only [sliceCells,Option.some.injEq] at hc
  subst hc
  obtain ⟨e,fz,hh⟩:=hr.mem blk arr hM
  have hsz:n * s0=n * sz:=by omega
  rw [hsz] at hone hrv
  have hl2:=hrv.length
  simp at hl2
  refine ⟨fun w=>by simp [Builtin.lenOf],?_⟩
  by_cases hz:n * sz=0
  ·refine ⟨#[],fun w' _=>by simp [Builtin.firstCells,hz,loadCells,loadCellsFrom],?_,by simp⟩
   rw [hz] at hrv
   simpa using hrv
  ·refine ⟨((arr.toList.drop off).take (n * sz)).toArray,fun w' hw' => ?_,?_,?_⟩
   ·have:=run_loadCells_blk (P:=P) (w:=w') (by rw [hw']; exact hh) (off:=off) (n:=n * sz) (by omega)
    simpa [Builtin.firstCells] using this
   ·simpa only [List.toList_toArray] using hrv
   ·simpa only [List.toList_toArray] using hone
 case sl b off len gen sz' ex =>
  subst hl
  obtain ⟨p,a,cap,rfl,hp,hps,hle,hcap,he,hcr,ha⟩:=hy.sl_inv
  simp only [sliceCells] at hc
  split at hc
  ·rename_i n s cs ho
   split at hc
   ·rename_i hcond
    obtain ⟨rfl,hle2,rfl⟩:=hcond
    cases hc
    refine ⟨fun w=>by simp [Builtin.lenOf],?_⟩
    obtain ⟨hb,hlen,p',hp',hps',hnr,hrest⟩:=objCells_rep hr ho
    rw [hp] at hp'
    cases hp'
    have hlk:(List.take (len * sz') (List.drop (off * sz') cs)).length=len * sz':=by
     simp only [List.length_take,List.length_drop]
     have:(off+len) * sz'≤gen * sz':=Nat.mul_le_mul_right _ hle2
     rw [Nat.add_mul] at this
     omega
    have hsz:len * sz'=len * sz:=by omega
    by_cases h0:len * sz=0
    ·refine ⟨#[],fun w' _ => ?_,?_,by simp⟩
     ·cases a <;> simp [Builtin.firstCells,h0,loadCells,loadCellsFrom]
     ·rw [hsz,h0]; simpa using RVs.nil
    ·have hl0:0<len:=Nat.pos_of_ne_zero (fun h=>h0 (by simp [h]))
     obtain rfl:=ha (by omega)
     have hofs:off * sz'+len * sz'≤cs.length:=by
      have:(off+len) * sz'≤gen * sz':=Nat.mul_le_mul_right _ hle2
      rw [Nat.add_mul] at this
      omega
     obtain ⟨hroom,_,arr,e,lo,hi,hh,hsz2,hfz,hasz,_,hone2,hrv,hpart⟩:=obj_range hr ho hp hofs (by omega)
     refine ⟨((arr.toList.drop (off * sz')).take (len * sz')).toArray,fun w' hw' => ?_,by simpa using hpart,?_⟩
     ·simp only [Builtin.firstCells]
      rw [← hsz]
      exact run_loadCells_blk (P:=P) (w:=w') (by rw [hw']; exact hh) (off:=off * sz') (n:=len * sz') hsz2
     intro u hu
     simp only [List.toList_toArray] at hu
     apply hone2 u
     have:List.take (len * sz') (List.drop (off * sz') arr.toList)=List.take (len * sz') (List.drop (off * sz') (List.take (gen * sz') arr.toList)):=by
      rw [List.drop_take,List.take_take,Nat.min_eq_left (by omega)]
     rw [this] at hu
     exact List.mem_of_mem_drop (List.mem_of_mem_take hu)
   ·cases hc
  ·cases hc
def chkApp (P:Program) (okO:Operand→Opd→Bool) (args:Array Operand) (ts:Array TypeId) (x' y':Opd) (sz bytes:Nat):Bool :=
 match args.toList,ts.toList with
 | [x,y],[t,t']=>okO x x'&&okO y y' &&
   (match P.underlying t with
    | some (.slice e)=>sizeIs P e sz&&(match P.info? e with | some i=>Nat.max i.bytes 1 == bytes | none=>false)&&(match P.info? e with | some i=>(match i.zero with | some z=>z.cells.size == sz | none=>false) | none=>false)
    | _=>false) &&
   (match P.underlying t' with | some (.slice _) | some .string=>true | _=>false)
 | _,_=>false
theorem run_append (hr:Rep g h w) {t t' ty e:TypeId} {sz bytes:Nat} (hu:P.underlying t=some (.slice e)) (hu':(match P.underlying t' with | some (.slice _) | some .string=>true | _=>false)=true)
  {inf:TypeInfo} {z:Value} (hi:P.info? e=some inf) (hz:inf.zero=some z) (hs:inf.size=sz) (hb:Nat.max inf.bytes 1=bytes)
  {a:Option Addr} {len cap:Nat} {y:V} {yv:Value} {k:Nat} {ys:List V} (hy:RV g y yv) (hl:sliceLen y=some k) (hc:sliceCells h y=some ys) (hk:ys.length=k * sz) (hroom:(len+k) * bytes≤room)
  (xs:List V) (hxl:xs.length=len * sz) (hold:cap<len+k→∃ arr:Array Value,(∀ w':World,w'.heap=w.heap→(Builtin.firstCells sz len (.slice a len cap)).run P w' = .ok arr w')∧RVs g xs arr.toList∧∀ u∈arr.toList,u.oneCell'=true) (hcap:len≤cap) :
  ∃ new:Array Value,RVs g ys new.toList∧(∀ u∈new.toList,u.oneCell'=true) ∧
   (len+k≤cap→(Builtin.append_ #[t,t'] ty #[.slice a len cap,yv]).run P w=((match a with | some a=>storeCells (a.add (len * sz)) new.toList | none=>pure ():Sem Unit).run P w).andThen fun _ w' => .ok (.slice a (len+k) cap) w') ∧
   (cap<len+k→∃ (arr:Array Value) (C:Nat),len+k≤C∧(z.cells.size=sz→arr.size=C * sz)∧RVs g (xs++ys) (arr.toList.take ((len+k) * sz))∧(∀ u∈arr.toList.take ((len+k) * sz),u.oneCell'=true) ∧
    (Builtin.append_ #[t,t'] ty #[.slice a len cap,yv]).run P w = .ok (.slice (some ⟨w.heap.size,0,none⟩) (len+k) C) (w.drew.alloc (.cells arr e (0,0)))):=by
 obtain ⟨hlen,new,hnew,hrv,hone⟩:=firstCells_sound (P:=P) hr hy hl hc hk
 have hti:∀ w,(typeInfo e).run P w = .ok inf w:=fun w=>by simp [typeInfo,hi]
 have hso:∀ w,(sizeOf e).run P w = .ok sz w:=fun w=>by simp [sizeOf,typeInfo,hi,hs]
 have hzv:∀ w,(zeroValue e).run P w = .ok z w:=fun w=>by simp [zeroValue,typeInfo,hi,hz]
 have hb1:inf.bytes≤bytes:=by rw [← hb]; exact Nat.le_max_left _ _
 have hb2:1≤bytes:=by rw [← hb]; exact Nat.le_max_right _ _
 have hneed:len+k≤room:=Nat.le_trans (Nat.le_mul_of_pos_right _ hb2) hroom
 have hneedb:(len+k) * inf.bytes≤room:=Nat.le_trans (Nat.mul_le_mul_left _ hb1) hroom
 have hmatch:∃ d,P.underlying t'=some d∧(d = .string∨∃ e',d = .slice e'):=by
  split at hu'
  ·rename_i e' h'; exact ⟨_,h',.inr ⟨_,rfl⟩⟩
  ·rename_i h'; exact ⟨_,h',.inl rfl⟩
  ·cases hu'
 obtain ⟨d,hd,hdm⟩:=hmatch
 refine ⟨new,hrv,hone,?_,?_⟩
 ·intro hle
  rcases hdm with rfl | ⟨e',rfl⟩ <;> cases a <;>
   simp [Builtin.append_,run_underlying hu,run_underlying hd,hso,hlen,hle,hnew w rfl]
 ·intro hlt
  obtain ⟨old,hold1,hold2,hold3⟩:=hold hlt
  have hncap:=nextslicecap_le hlt
  have hnb:¬ Builtin.nextslicecap (len+k) cap * inf.bytes > 2 ^ 48:=by
   have:Builtin.nextslicecap (len+k) cap * inf.bytes≤2 * (len+k) * inf.bytes:=Nat.mul_le_mul_right _ hncap
   have e1:2 * (len+k) * inf.bytes=2 * ((len+k) * inf.bytes):=by rw [Nat.mul_assoc]
   have:room=2 ^ 47:=rfl
   omega
  have hmax:¬ (((len+k:Nat):Int) > IntKind.i64.max∧(false=true∨inf.bytes=0)):=by
   intro hh
   have h1:=hh.1
   have:room=2 ^ 47:=rfl
   simp only [IntKind.max,IntKind.signed,IntKind.bits,if_true] at h1
   omega
  have hC:len+k≤(Question.appendCap (len+k) cap e).cut (w.tape w.drawn (.appendCap (len+k) cap e)):=by simp [Question.cut]
  generalize hq:(Question.appendCap (len+k) cap e).cut (w.tape w.drawn (.appendCap (len+k) cap e))=C at hC
  have hol:=hold2.length
  have hnl:=hrv.length
  refine ⟨old++new++Builtin.zeroCells z.cells (C - (len+k)),C,hC,?_,?_,?_,?_⟩
  ·intro hzs
   simp only [Array.size_append,size_zeroCells,hzs]
   simp only [Array.length_toList] at hol hnl
   rw [← hol,← hnl,hxl,hk,← Nat.add_mul,← Nat.add_mul]
   congr 1
   omega
  ·have:(old++new++Builtin.zeroCells z.cells (C - (len+k))).toList.take ((len+k) * sz)=old.toList++new.toList:=by
    simp only [Array.toList_append]
    rw [List.take_left']
    simp only [List.length_append]
    rw [← hol,← hnl,hxl,hk,Nat.add_mul]
   rw [this]
   exact hold2.append hrv
  ·have:(old++new++Builtin.zeroCells z.cells (C - (len+k))).toList.take ((len+k) * sz)=old.toList++new.toList:=by
    simp only [Array.toList_append]
    rw [List.take_left']
    simp only [List.length_append]
    rw [← hol,← hnl,hxl,hk,Nat.add_mul]
   rw [this]
   intro u hu
   rcases List.mem_append.1 hu with hu | hu
   ·exact hold3 u hu
   ·exact hone u hu
  ·have hmax':¬ (IntKind.i64.max<(len:Int)+k∧inf.bytes=0):=by
    intro hh
    exact hmax ⟨by have:=hh.1; omega,.inr hh.2⟩
   have hnb':¬ 281474976710656<Builtin.nextslicecap (len+k) cap * inf.bytes:=by
    have e2:(2:Nat) ^ 48=281474976710656:=by decide
    omega
   rcases hdm with rfl | ⟨e',rfl⟩ <;>
    simp [Builtin.append_,run_underlying hu,run_underlying hd,hso,hlen,show ¬ len+k≤cap by omega,hti,hmax',hnb',Question.forced,hq,hold1 w.drew rfl,hnew w.drew rfl,hzv,newRow]
   all_goals
    intro h1
    exfalso
    have:room=140737488355328:=rfl
    omega
end
section
variable {P:Program} {g:G} {h:Heap} {w:World}
theorem flatten_len {es:List (List V)} {sz:Nat} (h:es.all (fun e=>e.length == sz)=true):es.flatten.length=es.length * sz:=by
 induction es with
 | nil=>simp
 | cons e es ih =>
  simp only [List.all_cons,Bool.and_eq_true,beq_iff_eq] at h
  simp [ih h.2,h.1,Nat.add_mul]; omega
theorem app_new (hr:Rep g h w) {sz m C:Nat} {cs:List V} {arr:Array Value} {e:TypeId} (hcs:cs.length=m * sz) (hC:m≤C) (hpos:0<C) (hsz:arr.size=C * sz)
  (hrv:RVs g cs (arr.toList.take (m * sz))) (hone:∀ u∈arr.toList.take (m * sz),u.oneCell'=true) :
  RV (g.put h.length m ⟨w.heap.size,C,sz⟩) (.sl h.length 0 m m sz false) (.slice (some ⟨w.heap.size,0,none⟩) m C) ∧
   Step g h w (g.put h.length m ⟨w.heap.size,C,sz⟩) (h++[.cells m sz cs]) (w.drew.alloc (.cells arr e (0,0))):=by
 refine ⟨.sl _ _ _ _ _ _ ⟨w.heap.size,C,sz⟩ _ _ G.put_same rfl (by omega) hC (by simp) (by simp) (by simp),?_⟩
 refine Step.new hr m sz cs C hcs hC rfl rfl rfl (by simp) (fun i hi=>am_old w.drew _ i hi) (fun _ => ?_)
 exact ⟨arr,e,0,0,am_new w.drew _,hsz,⟨Nat.le_refl _,by omega⟩,hone,hrv⟩
theorem app_sound (hr:Rep g h w) {okO:Operand→Opd→Bool} {t t' ty e:TypeId} {sz bytes:Nat} (hu:P.underlying t=some (.slice e)) (hu':(match P.underlying t' with | some (.slice _) | some .string=>true | _=>false)=true)
  {inf:TypeInfo} {z:Value} (hi:P.info? e=some inf) (hz:inf.zero=some z) (hs:inf.size=sz) (hb:Nat.max inf.bytes 1=bytes) (hzs:z.cells.size=sz)
  {x y v:V} {xv yv:Value} {h':Heap} (hx:RV g x xv) (hy:RV g y yv) (hv:appV h x y sz bytes=some (v,h')) :
  ∃ vv w' g',(Builtin.append_ #[t,t'] ty #[xv,yv]).run P w = .ok vv w'∧RV g' v vv∧Step g h w g' h' w':=by
 unfold appV at hv
 split at hv
 ·rename_i k ys hl hc
  split at hv
  ·rename_i hk
   split at hv
   ·-- nil
    split at hv
    ·rename_i hroom
     obtain rfl:=hx.nils_inv
     obtain ⟨new,hrv,hone,hin,hgrow⟩:=run_append (ty:=ty) hr hu hu' hi hz hs hb (a:=none) (len:=0) (cap:=0) hy hl hc hk (by simpa using hroom) [] (by simp)
      (fun _=>⟨#[],fun w' _=>by simp [Builtin.firstCells],.nil,by simp⟩) (Nat.le_refl 0)
     split at hv
     ·rename_i hk0
      cases hv
      subst hk0
      refine ⟨.slice none 0 0,w,g,?_,.d _ _ .nils,Step.refl hr⟩
      have:=hin (by omega)
      simpa using this
     ·rename_i hk0
      cases hv
      obtain ⟨arr,C,hC,hsz,hrv',hone',hrun⟩:=hgrow (by omega)
      simp only [Nat.zero_add,List.nil_append] at hrv' hone' hC
      obtain ⟨h1,h2⟩:=app_new (e:=e) hr (m:=k) hk hC (by omega) (hsz hzs) hrv' hone'
      exact ⟨_,_,_,hrun,by simpa using h1,h2⟩
    ·cases hv
   ·-- a frozen slice of all of its array
    rename_i es
    split at hv
    ·rename_i hcond
     obtain ⟨hroom,hall⟩:=hcond
     obtain ⟨hlen,old,hold,holdrv,holdone⟩:=firstCells_sound (P:=P) hr (y:=.sv es true) (k:=es.length) (sz:=sz) (ys:=es.flatten) hx rfl rfl (flatten_len hall)
     obtain ⟨a,cap,sz',xs,rfl,hcap,he,_⟩:=hx.sv_inv
     obtain rfl:=he rfl
     obtain ⟨new,hrv,hone,hin,hgrow⟩:=run_append (ty:=ty) hr hu hu' hi hz hs hb (a:=a) (len:=es.length) (cap:=es.length) hy hl hc hk hroom es.flatten (flatten_len hall)
      (fun _=>⟨old,hold,holdrv,holdone⟩) (Nat.le_refl _)
     split at hv
     ·rename_i hk0
      cases hv
      subst hk0
      have hys:ys=[]:=List.length_eq_zero_iff.1 (by simpa using hk)
      subst hys
      have hn:new.toList=[]:=by cases hq:new.toList with
       | nil=>rfl
       | cons _ _=>rw [hq] at hrv; cases hrv
      have:=hin (by omega)
      refine ⟨_,w,g,?_,hx,Step.refl hr⟩
      rw [this,hn]
      cases a <;> simp [storeCells]
     ·rename_i hk0
      cases hv
      obtain ⟨arr,C,hC,hsz,hrv',hone',hrun⟩:=hgrow (by omega)
      obtain ⟨h1,h2⟩:=app_new (e:=e) hr (m:=es.length+k) (cs:=es.flatten++ys) (by rw [List.length_append,flatten_len hall,hk,Nat.add_mul]) hC (by omega) (hsz hzs) hrv' hone'
      exact ⟨_,_,_,hrun,h1,h2⟩
    ·cases hv
   ·-- a slice of an object
    rename_i b off len gen s2 ex
    split at hv
    ·rename_i n sz' cs ho
     split at hv
     ·rename_i hcond
      obtain ⟨rfl,rfl,rfl,hroom,hle⟩:=hcond
      have hsc:sliceCells h (.sl b off len gen s2 ex)=some ((cs.drop (off * s2)).take (len * s2)):=by
       simp [sliceCells,ho,hle]
      obtain ⟨hb',hlen,-⟩:=objCells_rep hr ho
      have hofs:off * s2+len * s2≤cs.length:=by
       have:(off+len) * s2≤gen * s2:=Nat.mul_le_mul_right _ hle
       rw [Nat.add_mul] at this
       omega
      have hxl:((cs.drop (off * s2)).take (len * s2)).length=len * s2:=by simp; omega
      obtain ⟨hlenx,old,hold,holdrv,holdone⟩:=firstCells_sound (P:=P) hr (y:=.sl b off len gen s2 ex) (k:=len) (sz:=s2) hx rfl hsc hxl
      obtain ⟨p,a,cap,rfl,hp,hps,hle0,hcap,hex,hcr,ha⟩:=hx.sl_inv
      obtain ⟨new,hrv,hone,hin,hgrow⟩:=run_append (ty:=ty) hr hu hu' hi hz hs hb (a:=a) (len:=len) (cap:=cap) hy hl hc hk hroom _ hxl
       (fun _=>⟨old,hold,holdrv,holdone⟩) hcap
      split at hv
      ·rename_i hk0
       cases hv
       subst hk0
       have hys:ys=[]:=List.length_eq_zero_iff.1 (by simpa using hk)
       subst hys
       have hn:new.toList=[]:=by cases hq:new.toList with
        | nil=>rfl
        | cons _ _=>rw [hq] at hrv; cases hrv
       have:=hin (by omega)
       refine ⟨_,w,g,?_,hx,Step.refl hr⟩
       rw [this,hn]
       cases a <;> simp [storeCells]
      ·rename_i hk0
       split at hv
       ·rename_i hall
        obtain ⟨rfl,rfl⟩:=hall
        cases hv
        have hfull:(cs.drop (0 * s2)).take (len * s2)=cs:=by simp [← hlen]
        have hcs':(cs++ys).length=(len+k) * s2:=by rw [List.length_append,hlen,hk,Nat.add_mul]
        by_cases hin':len+k≤cap
        ·-- in place
         have hcapos:0<cap:=by omega
         obtain rfl:=ha hcapos
         have hrun:=hin hin'
         have hrp:0<p.room:=by omega
         obtain ⟨-,-,p',hp',hps',hnr,hrest⟩:=objCells_rep hr ho
         rw [hp] at hp'
         cases hp'
         obtain ⟨hm,arr,e',lo,hi',hh,hasz,hfz,hone2,hrv2⟩:=hrest hrp
         have hnl:=hrv.length
         have hfit:(len+k) * s2≤arr.size:=by rw [hasz]; exact Nat.mul_le_mul_right _ (by omega)
         have hnlen:new.toList.length=k * s2:=by omega
         have hst:=run_storeCells_blk (P:=P) p.blk (len * s2) e' lo hi' new.toList 0 arr w hh (by rw [hnlen]; rw [Nat.add_mul] at hfit; omega) (fun i hi'=>hfz.2 i (by omega)) hone
         simp only [Nat.add_zero] at hst
         have htk:(arr.toList.take (len * s2)++new.toList++arr.toList.drop (len * s2+new.toList.length)).take ((len+k) * s2)=arr.toList.take (len * s2)++new.toList:=by
          rw [List.take_left']
          simp only [List.length_append,List.length_take,Array.length_toList,hnlen]
          rw [Nat.add_mul] at hfit ⊢
          omega
         refine ⟨.slice (some ⟨p.blk,0 * s2,none⟩) (len+k) cap,w.setRow p.blk (arr.toList.take (len * s2)++new.toList++arr.toList.drop (len * s2+new.toList.length)).toArray,g.put b (len+k) p,?_,?_,?_⟩
         ·rw [hrun]
          simp only [add_none,Nat.zero_mul,Nat.zero_add]
          rw [hst]
          rfl
         ·exact .sl _ _ _ _ _ _ p _ _ G.put_same hps (by omega) hin' (by simp) (by omega) (fun _=>by simp)
         ·refine Step.write hr hb' hp hrp (by omega) (by omega) hcs' hh hfz ?_ hasz ?_ ?_
          ·simp only [List.size_toArray,List.length_append,List.length_take,List.length_drop,Array.length_toList,hnlen]
           rw [Nat.add_mul] at hfit
           omega
          ·simp only [List.toList_toArray]
           rw [htk]
           intro u hu
           rcases List.mem_append.1 hu with hu | hu
           ·exact hone2 u hu
           ·exact hone u hu
          ·simp only [List.toList_toArray]
           rw [htk]
           exact hrv2.append hrv
        ·-- in a new block
         obtain ⟨arr,C,hC,hsz,hrv',hone',hrun⟩:=hgrow (by omega)
         rw [hfull] at hrv'
         refine ⟨_,_,g.put b (len+k) ⟨w.heap.size,C,s2⟩,hrun,?_,?_⟩
         ·exact .sl _ _ _ _ _ _ ⟨w.heap.size,C,s2⟩ _ _ G.put_same rfl (by omega) hC (by simp) (by simp) (by simp)
         ·exact Step.move hr hb' (by omega) C hC hcs' rfl rfl rfl (by simp) (fun i hi=>am_old w.drew _ i hi) (am_new w.drew _) ⟨Nat.le_refl _,by omega⟩ (hsz hzs) hone' hrv'
       ·split at hv
        ·rename_i hexx
         cases hv
         have:=hex hexx
         obtain ⟨arr,C,hC,hsz,hrv',hone',hrun⟩:=hgrow (by omega)
         obtain ⟨h1,h2⟩:=app_new (e:=e) hr (m:=len+k) (cs:=(cs.drop (off * s2)).take (len * s2)++ys) (by rw [List.length_append,hxl,hk,Nat.add_mul]) hC (by omega) (hsz hzs) hrv' hone'
         exact ⟨_,_,_,hrun,h1,h2⟩
        ·cases hv
     ·cases hv
    ·cases hv
   ·cases hv
  ·cases hv
 ·cases hv
theorem slice_chunks {cs:List V} {n sz off len:Nat} (hlen:cs.length=n * sz) (hle:off+len≤n) :
  (chunks sz len (cs.drop (off * sz)))=chunks sz len ((cs.drop (off * sz)).take (len * sz)):=by
 have key:∀ (m:Nat) (l:List V),chunks sz m l=chunks sz m (l.take (m * sz)):=by
  intro m
  induction m with
  | zero=>intro l; rfl
  | succ m ih =>
   intro l
   simp only [chunks]
   congr 1
   ·rw [List.take_take,Nat.min_eq_left (by rw [Nat.add_mul]; omega)]
   ·rw [ih (l.drop sz),ih ((l.take ((m+1) * sz)).drop sz),List.drop_take]
    rw [List.take_take]
    congr 1
    rw [Nat.min_eq_left (by rw [Nat.add_mul]; omega)]
 exact key len _
theorem sl_view {g':G} {b off len sz n:Nat} {ex:Bool} {cs:List V} {p:Place} {xv:Value} (hx:RV g (.sl b off len n sz ex) xv) (hp:g.β b n=some p) (hle:off+len≤n) (hlen:cs.length=n * sz) (hnr:n≤p.room) (hps:p.sz=sz) (hpure:pureL cs=true)
  (hM:g.M.le g'.M)
  (hrest:0<p.room→∃ arr,g'.M p.blk=some arr∧arr.size=p.room * sz∧(∀ u∈arr.toList.take (n * sz),u.oneCell'=true)∧RVs g cs (arr.toList.take (n * sz))) :
  RD g'.M (.sv (chunks sz len (cs.drop (off * sz))) ex) xv:=by
 obtain ⟨p',a,cap,rfl,hp',hps',hle0,hcap,hex,hcr,ha⟩:=hx.sl_inv
 rw [hp] at hp'
 cases hp'
 have hcl:=chunks_length sz len (cs.drop (off * sz))
 by_cases h0:len=0
 ·subst h0
  exact .sv _ _ _ _ _ rfl (Nat.zero_le _) hex (fun h=>absurd h (by omega)) sz [] (fun _ _ h=>absurd h (by omega)) (by simp) (.nil sz)
 ·obtain ⟨arr,hMb,hasz,hone,hrv⟩:=hrest (by omega)
  have hmul:(off+len) * sz≤n * sz:=Nat.mul_le_mul_right _ hle
  have hmul2:n * sz≤p.room * sz:=Nat.mul_le_mul_right _ hnr
  rw [Nat.add_mul] at hmul
  have hsub:(arr.toList.drop (off * sz)).take (len * sz)=((arr.toList.take (n * sz)).drop (off * sz)).take (len * sz):=by
   rw [List.drop_take,List.take_take,Nat.min_eq_left (by omega)]
  have hrvp:RVs g ((cs.drop (off * sz)).take (len * sz)) ((arr.toList.drop (off * sz)).take (len * sz)):=by
   rw [hsub]; exact (hrv.drop _).take _
  have hpp:pureL ((cs.drop (off * sz)).take (len * sz))=true:=by
   have h1:∀ (l:List V) (k:Nat),pureL l=true→pureL (l.drop k)=true:=by
    intro l k
    induction k generalizing l with
    | zero=>intro h; simpa using h
    | succ k ih =>
     intro h
     cases l with
     | nil=>rfl
     | cons v l=>simp only [pureL,Bool.and_eq_true] at h; simpa using ih l h.2
   have h2:∀ (l:List V) (k:Nat),pureL l=true→pureL (l.take k)=true:=by
    intro l k
    induction k generalizing l with
    | zero=>intro _; rfl
    | succ k ih =>
     intro h
     cases l with
     | nil=>rfl
     | cons v l=>simp only [pureL,Bool.and_eq_true] at h; simp [pureL,h.1,ih l h.2]
   exact h2 _ _ (h1 _ _ hpure)
  have hrd:RDs g'.M ((cs.drop (off * sz)).take (len * sz)) ((arr.toList.drop (off * sz)).take (len * sz)):=(hrvp.toRDs hpp).mono hM
  have hrde:=chunks_rde sz len _ _ hrd (by simp; omega)
  rw [← slice_chunks hlen hle] at hrde
  have hxl:((arr.toList.drop (off * sz)).take (len * sz)).length=len * sz:=by simp; omega
  obtain rfl:=ha (by omega)
  refine .sv _ _ _ _ _ hcl hcap hex (fun _=>⟨_,arr,rfl,rfl,hMb⟩) sz _ ?_ ?_ hrde
  ·intro ad arr' _ h1 h2
   cases h1
   simp only at h2
   rw [hMb] at h2
   cases h2
   rw [hxl]
  ·intro u hu
   apply hone
   rw [hsub] at hu
   exact List.mem_of_mem_drop (List.mem_of_mem_take hu)
theorem viewV_sl {lo b off len gen sz:Nat} {ex:Bool} {v:V} (hv:viewV lo h (.sl b off len gen sz ex)=some v) :
  ∃ cs,objCells h b=some (gen,sz,cs)∧lo≤b∧off+len≤gen∧pureL cs=true∧v = .sv (chunks sz len (cs.drop (off * sz))) ex:=by
 unfold viewV at hv
 split at hv
 ·rename_i n s cs ho
  split at hv
  ·rename_i hc
   obtain ⟨h1,rfl,h2,rfl,h3⟩:=hc
   cases hv
   exact ⟨cs,ho,h1,h2,h3,rfl⟩
  ·cases hv
 ·cases hv
theorem frz_sound (hr:Rep g h w) {x v:V} {xv:Value} {h':Heap} (hx:RV g x xv) (hv:frzV h x=some (v,h')):∃ g',RV g' v xv∧Step g h w g' h' w:=by
 unfold frzV at hv
 split at hv
 ·rename_i b off len gen sz ex
  split at hv
  ·rename_i v' hview
   cases hv
   obtain ⟨cs,ho,_,hle,hpure,rfl⟩:=viewV_sl hview
   obtain ⟨hb,hobj⟩:=objCells_rep hr ho
   obtain ⟨_,p,hp,_⟩:=hobj
   obtain ⟨g',hstep,hrest,hnr,hps,hlen⟩:=Step.kill hr hb hp
   refine ⟨g',.d _ _ (sl_view hx hp hle hlen hnr hps hpure hstep.le.1 (fun hroom => ?_)),hstep⟩
   obtain ⟨arr,e,lo,hi,hh,h1,h2,h3,h4⟩:=hrest hroom
   exact ⟨arr,h1,h2,h3,h4⟩
  ·cases hv
 ·split at hv
  ·cases hv
   exact ⟨g,hx,Step.refl hr⟩
  ·cases hv
end
theorem frzL_sound:∀ {cs:List V} {xs:List Value} {cs':List V} {g:G} {h h':Heap} {w:World},Rep g h w→RVs g cs xs→frzL h cs=some (cs',h')→∃ g',RVs g' cs' xs∧Step g h w g' h' w
 | [],xs,cs',g,h,h',w,hr,hx,hv=>by
  simp only [frzL,Option.some.injEq,Prod.mk.injEq] at hv
  obtain ⟨rfl,rfl⟩:=hv
  exact ⟨g,hx,Step.refl hr⟩
 | v :: vs,xs,cs',g,h,h',w,hr,hx,hv=>by
  cases hx with
  | cons _ _ x xs hx hs =>
  simp only [frzL] at hv
  split at hv
  ·rename_i v' h1 hf
   simp only [Option.map_eq_some_iff] at hv
   obtain ⟨⟨vs',h2⟩,hl,he⟩:=hv
   simp only [Prod.mk.injEq] at he
   obtain ⟨rfl,rfl⟩:=he
   obtain ⟨g1,hv1,s1⟩:=frz_sound hr hx hf
   obtain ⟨g2,hv2,s2⟩:=frzL_sound s1.rep (hs.mono s1.le) hl
   exact ⟨g2,.cons _ _ _ _ (hv1.mono s2.le) hv2,s1.trans s2⟩
  ·cases hv
theorem frzA_sound {g:G} {h h':Heap} {w:World} {x v:V} {xv:Value} (hr:Rep g h w) (hx:RV g x xv) (hv:frzA h x=some (v,h')):∃ g',RV g' v xv∧Step g h w g' h' w:=by
 unfold frzA at hv
 split at hv
 ·rename_i cs
  simp only [Option.map_eq_some_iff] at hv
  obtain ⟨⟨cs',h2⟩,hl,he⟩:=hv
  simp only [Prod.mk.injEq] at he
  obtain ⟨rfl,rfl⟩:=he
  obtain ⟨xs,rfl,hs⟩:=hx.agg_inv
  obtain ⟨g',h1,h2⟩:=frzL_sound hr hs hl
  exact ⟨g',.agg _ _ h1,h2⟩
 ·exact frz_sound hr hx hv
theorem frzV_cells {h h':Heap} {x v:V} (hn:∀ cs,x ≠ .agg cs) (hv:frzV h x=some (v,h')):v=x∨(cellsV x=[x]∧cellsV v=[v]):=by
 unfold frzV at hv
 split at hv
 ·split at hv
  ·rename_i v' hview
   cases hv
   obtain ⟨cs,_,_,_,_,rfl⟩:=viewV_sl hview
   exact .inr ⟨rfl,rfl⟩
  ·cases hv
 ·split at hv
  ·cases hv; exact .inl rfl
  ·cases hv
theorem frzC_sound {g:G} {h h':Heap} {w:World} {x v:V} {xs:List Value} (hr:Rep g h w) (hx:RVs g (cellsV x) xs) (hv:frzA h x=some (v,h')):∃ g',RVs g' (cellsV v) xs∧Step g h w g' h' w:=by
 unfold frzA at hv
 split at hv
 ·rename_i cs
  simp only [Option.map_eq_some_iff] at hv
  obtain ⟨⟨cs',h2⟩,hl,he⟩:=hv
  simp only [Prod.mk.injEq] at he
  obtain ⟨rfl,rfl⟩:=he
  exact frzL_sound hr hx hl
 ·rename_i hn
  rcases frzV_cells (fun cs e=>hn cs e) hv with rfl | ⟨e1,e2⟩
  ·unfold frzV at hv
   split at hv
   ·split at hv
    ·rename_i v' hview
     obtain ⟨cs,_,_,_,_,rfl⟩:=viewV_sl hview
     cases hv
    ·cases hv
   ·split at hv
    ·cases hv; exact ⟨g,hx,Step.refl hr⟩
    ·cases hv
  ·rw [e1] at hx
   rw [e2]
   cases hx with
   | cons _ _ y ys hy hs =>
   obtain ⟨g',h1,h2⟩:=frz_sound hr hy hv
   exact ⟨g',.cons _ _ _ _ h1 (hs.mono h2.le),h2⟩
section
variable {P:Program} {g:G} {h:Heap} {w:World}
def EGood (P:Program) (g:G) (h:Heap) (w:World) (s:Sem Next) (v:V) (h':Heap):Prop :=
 ∃ vv w' g',(s.run P w = .ok (.value vv) w'∨(s.run P w = .ok .skip w'∧v = .undef))∧RV g' v vv∧Step g h w g' h' w'
theorem row_new (hr:Rep g h w) {n sz:Nat} {cs:List V} {arr:Array Value} {e:TypeId} (hcs:cs.length=n * sz) (hsz:arr.size=n * sz) (hrv:RVs g cs arr.toList) (hone:∀ u∈arr.toList,u.oneCell'=true) (d:Nat) :
  Step g h w (g.put h.length n ⟨w.heap.size,n,sz⟩) (h++[.cells n sz cs]) { (w.alloc (.cells arr e (0,0))) with drawn:=d }:=by
 have ht:arr.toList.take (n * sz)=arr.toList:=List.take_of_length_le (by simp; omega)
 refine Step.new hr n sz cs n hcs (Nat.le_refl _) rfl rfl rfl (by simp) (fun i hi=>am_old w _ i hi) (fun _ => ?_)
 exact ⟨arr,e,0,0,am_new w _,hsz,⟨Nat.le_refl _,by omega⟩,by rw [ht]; exact hone,by rw [ht]; exact hrv⟩
theorem row_sl (hr:Rep g h w) {n sz:Nat}:RV (g.put h.length n ⟨w.heap.size,n,sz⟩) (.sl h.length 0 n n sz false) (.slice (some ⟨w.heap.size,0,none⟩) n n) :=
 .sl _ _ _ _ _ _ ⟨w.heap.size,n,sz⟩ _ _ G.put_same rfl (by omega) (Nat.le_refl _) (by simp) (by simp) (by simp)
theorem box_new (hr:Rep g h w) {t:TypeId} {x:V} {xv:Value} (hx:RV g x xv) (hc:(cellsV x).all isCell=true) :
  (newVar t xv).run P w = .ok ⟨w.heap.size,0,none⟩ (w.alloc (.cells xv.cells t (0,0)))∧RV (g.put h.length 1 ⟨w.heap.size,1,(cellsV x).length⟩) (.ref h.length 0 1) (.pointer (some ⟨w.heap.size,0,none⟩)) ∧
   Step g h w (g.put h.length 1 ⟨w.heap.size,1,(cellsV x).length⟩) (h++[.cells 1 (cellsV x).length (cellsV x)]) (w.alloc (.cells xv.cells t (0,0))):=by
 obtain ⟨h1,h2⟩:=hx.cells hc
 refine ⟨by simp [newVar,newRow],.ref _ _ _ _ G.put_same,?_⟩
 have hl:=h1.length
 exact row_new (e:=t) hr (by simp) (by simp at hl ⊢; omega) h1 h2 w.drawn
theorem holeG_spec {sz:Nat}:∀ {h:Heap} {i j:Nat},holeG sz h i=some j→∃ k,j=i+k∧h[k]?=some (.cells 0 sz [])
 | [],i,j,hh=>by simp [holeG] at hh
 | o :: h,i,j,hh=>by
  simp only [holeG] at hh
  split at hh
  ·rename_i j' hj
   cases hh
   obtain ⟨k,hk,hb⟩:=holeG_spec hj
   exact ⟨k+1,by omega,by simpa using hb⟩
  ·split at hh
   ·split at hh
    ·rename_i he
     cases hh
     subst he
     exact ⟨0,rfl,rfl⟩
    ·cases hh
   ·cases hh
theorem box_fill (hr:Rep g h w) {t:TypeId} {x:V} {xv:Value} (hx:RV g x xv) (hc:(cellsV x).all isCell=true) {b:Nat} (hb:h[b]?=some (.cells 0 (cellsV x).length [])) :
  (newVar t xv).run P w = .ok ⟨w.heap.size,0,none⟩ (w.alloc (.cells xv.cells t (0,0)))∧RV (g.put b 1 ⟨w.heap.size,1,(cellsV x).length⟩) (.ref b 0 1) (.pointer (some ⟨w.heap.size,0,none⟩)) ∧
   Step g h w (g.put b 1 ⟨w.heap.size,1,(cellsV x).length⟩) (h.set b (.cells 1 (cellsV x).length (cellsV x))) (w.alloc (.cells xv.cells t (0,0))):=by
 obtain ⟨h1,h2⟩:=hx.cells hc
 refine ⟨by simp [newVar,newRow],.ref _ _ _ _ G.put_same,?_⟩
 have hl:=h1.length
 simp only [Array.length_toList] at hl
 have htk:xv.cells.toList.take (1 * (cellsV x).length)=xv.cells.toList:=List.take_of_length_le (by simp; omega)
 refine Step.move hr hb (by omega) 1 (Nat.le_refl _) (by simp) rfl rfl rfl (by simp) (fun i hi=>am_old w _ i hi) (am_new w _) ⟨Nat.le_refl _,fun i _=>by omega⟩ (by omega) ?_ ?_
 ·rw [htk]; exact h2
 ·rw [htk]; exact h1
theorem own_new (hr:Rep g h w) (sz:Nat):RV (g.put h.length 0 ⟨w.heap.size,0,sz⟩) (.sl h.length 0 0 0 sz false) (.slice none 0 0)∧Step g h w (g.put h.length 0 ⟨w.heap.size,0,sz⟩) (h++[.cells 0 sz []]) w:=by
 refine ⟨.sl _ _ _ _ _ _ ⟨w.heap.size,0,sz⟩ _ _ G.put_same rfl (by omega) (Nat.le_refl _) (by simp) (by simp) (by simp),?_⟩
 exact Step.new hr 0 sz [] 0 (by simp) (Nat.le_refl _) rfl rfl rfl (Nat.le_refl _) (fun _ _=>rfl) (fun h=>absurd h (by omega))
theorem fill_length:∀ (qs:List (Nat×Nat×V)) (a b:List V),fill a qs=some b→b.length=a.length:=by
 intro qs
 induction qs with
 | nil=>intro a b h; simp [fill] at h; rw [h]
 | cons q qs ih =>
  intro a b h
  obtain ⟨o1,s1,v1⟩:=q
  unfold fill at h
  split at h
  ·rename_i hcond
   have:=ih _ _ h
   rw [this]
   simp [splice]; omega
  ·cases h
section
variable {okO:Operand→Opd→Bool} {f:Opd→V} {ρ:Operand→Value} {o:Oper}
theorem bslO_sound (hr:Rep g h w) (hρ:∀ x y,okO x y=true→RV g (f y) (ρ x)) {t:TypeId} {n sz:Nat} {ps:Array (Nat×Operand)} (ho:o.op = .buildSlice t n ps) {zero:List V} {ps':List (Nat×Opd)} {e:TypeId}
  (hcap:n * sz≤2 ^ 24) (h2:okPartsS okO ps.toList ps'=true) (hzl:zero.length=sz) (hu:P.underlying t=some (.slice e)) (hsz:(P.info? e).map (·.size)=some sz) (hzc:zeroCellsIs P e zero=true)
  {cs:List V} (hfill:fill (List.replicate n zero).flatten (ps'.map fun q=>(q.1 * sz,sz,f q.2))=some cs) (hcell:cs.all isCell=true) :
  EGood P g h w (execOp ρ o) (.sl h.length 0 n n sz false) (h++[.cells n sz cs]):=by
 obtain ⟨z,hz,hzr⟩:=zeroCellsIs_rvs (g:=g) hzc
 have hzs:z.cells.size=sz:=by have:=hzr.length; simp at this; omega
 have hcl:cs.length=n * sz:=by
  rw [fill_length _ _ _ hfill]
  simp [hzl]
 have hparts:=okPartsS_r (g:=g) (f:=f) hρ sz _ _ h2
 have hpl:(ps.map fun (i,x)=>(i,ρ x)).toList=ps.toList.map fun p=>(p.1,ρ p.2):=by simp
 have fin:∀ cells0:Array Value,RVs g (List.replicate n zero).flatten cells0.toList →
   (∀ r',Instr.fill (fun i=>some (i * sz,sz)) cells0 (ps.map fun (i,x)=>(i,ρ x)).toList=some r' →
    (execOp ρ o).run P w = .ok (.value (.slice (some ⟨w.heap.size,0,none⟩) n n)) { (w.alloc (.cells r' e (0,0))) with drawn:=w.drawn }) →
   EGood P g h w (execOp ρ o) (.sl h.length 0 n n sz false) (h++[.cells n sz cs]):=by
  intro cells0 hrv0 hrun
  obtain ⟨r',hrr0,hrr⟩:=fill_rv _ _ _ cells0 _ cs hrv0 hparts hfill
  have h':=hrun r' (by rw [hpl]; exact hrr0)
  have hlr:=hrr.length
  exact ⟨_,_,_,.inl h',row_sl hr,row_new (e:=e) hr hcl (by simp at hlr; omega) hrr (rvs_one hrr hcell) w.drawn⟩
 by_cases h0:n * sz=0
 ·refine fin #[] ?_ ?_
  ·have:(List.replicate n zero).flatten=[]:=by
    rcases Nat.mul_eq_zero.1 h0 with rfl | h
    ·rfl
    ·have:zero=[]:=List.length_eq_zero_iff.1 (by omega)
     subst this
     simp
   rw [this]
   exact RVs.nil
  ·intro r' hrr
   simp only [execOp,ho,Instr.buildSlice,Sem.run_bind,run_underlying hu,Result.andThen_ok,run_sizeOf hsz,h0]
   simp only [show ¬ (0 > 2 ^ 24) by decide,if_false,if_true,Sem.run_bind,Sem.run_pure,Result.andThen_ok]
   have:(Array.map (fun x=>(#[]:Array Value)[x % (#[]:Array Value).size]!) (Array.range 0)) = #[]:=by simp
   rw [this,hrr]
   simp [newRow]
   rfl
 ·have hpos:0<z.cells.size:=by rw [hzs]; exact Nat.pos_of_ne_zero (fun h=>h0 (by simp [h]))
  refine fin ((Array.range (n * sz)).map (z.cells[· % z.cells.size]!)) ?_ ?_
  ·have:=zeros_flat n z.cells hpos
   rw [hzs] at this
   rw [hzs,this]
   exact (replicate_rds hzr n).rvs
  ·intro r' hrr
   simp only [execOp,ho,Instr.buildSlice,Sem.run_bind,run_underlying hu,Result.andThen_ok,run_sizeOf hsz]
   rw [if_neg (by omega),if_neg h0]
   simp only [Sem.run_bind,Sem.run_pure,Result.andThen_ok,hz]
   rw [hrr]
   simp [newRow]
   rfl
theorem mks_sound (hr:Rep g h w) {t:TypeId} {l c:Operand} (ho:o.op = .makeSlice t l c) {a:Int} {k1 k2:IntKind} (ex:ρ l = .int k1 a) {b:Int} (ey:ρ c = .int k2 b) {sz bytes:Nat} {zero:List V} {e:TypeId}
  (hu:P.underlying t=some (.slice e)) {inf:TypeInfo} (hi:P.info? e=some inf) (hb:inf.bytes=bytes) (hsz:(P.info? e).map (·.size)=some sz) (hzc:zeroCellsIs P e zero=true) (hcell:zero.all isCell=true)
  (c1:0≤a) (c2:a≤b) (c3:b * bytes≤room) (c4:b≤9223372036854775807) (hzl:zero.length=sz) :
  EGood P g h w (execOp ρ o) (.sl h.length 0 a.toNat a.toNat sz false) (h++[.cells a.toNat sz (List.replicate a.toNat zero).flatten]):=by
 obtain ⟨z,hz,hzr⟩:=zeroCellsIs_rvs (g:=g) hzc
 have hzs:z.cells.size=sz:=by have:=hzr.length; simp at this; omega
 have hww:∀ a:Int,0≤a→a≤9223372036854775807→IntKind.i64.wrap a=a:=by
  intro a c1 c4
  simp only [IntKind.wrap,IntKind.bits,IntKind.signed,Bool.true_and]
  have:a % (2 ^ 64:Int)=a:=by omega
  simp only [this]
  split
  ·rename_i h; simp at h; omega
  ·rfl
 have hw:IntKind.i64.wrap a=a:=hww a c1 (by omega)
 have hwb:IntKind.i64.wrap b=b:=hww b (by omega) c4
 have hbigb:¬ ((bytes:Int) * b > 2 ^ 48):=by
  have:b * bytes≤2 ^ 47:=by simpa [room] using c3
  have e1:(bytes:Int) * b=b * bytes:=Int.mul_comm _ _
  rw [e1]
  omega
 have hbig:¬ ((bytes:Int) * a > 2 ^ 48):=by
  have:(bytes:Int) * a≤bytes * b:=Int.mul_le_mul_of_nonneg_left c2 (by omega)
  omega
 have hti:∀ w,(typeInfo e).run P w = .ok inf w:=fun w=>by simp [typeInfo,hi]
 have hrd:=(replicate_rds hzr a.toNat).rvs (g:=g)
 have hfl:((List.replicate a.toNat zero).flatten).length=a.toNat * sz:=by simp [hzl]
 have hcl:(List.replicate a.toNat zero).flatten.all isCell=true:=by
  rw [List.all_eq_true]
  intro u hu
  obtain ⟨l,hl,hul⟩:=List.mem_flatten.1 hu
  rw [List.eq_of_mem_replicate hl] at hul
  exact List.all_eq_true.1 hcell u hul
 have fin:∀ arr:Array Value,arr.toList=(List.replicate b.toNat z.cells.toList).flatten →
   (execOp ρ o).run P w = .ok (.value (.slice (some ⟨w.heap.size,0,none⟩) a.toNat b.toNat)) { (w.alloc (.cells arr e (0,0))) with drawn:=w.drawn } →
   EGood P g h w (execOp ρ o) (.sl h.length 0 a.toNat a.toNat sz false) (h++[.cells a.toNat sz (List.replicate a.toNat zero).flatten]):=by
  intro arr harr hrun
  have hab:b.toNat=a.toNat+(b.toNat - a.toNat):=by omega
  have hzl2:z.cells.toList.length=sz:=by simp [hzs]
  have hlen:arr.toList.length=b.toNat * sz:=by rw [harr]; simp [hzs]
  have htk:arr.toList.take (a.toNat * sz)=(List.replicate a.toNat z.cells.toList).flatten:=by
   rw [harr,hab,← List.replicate_append_replicate,List.flatten_append,List.take_left']
   simp [hzs]
  have hrvb:RVs g (List.replicate b.toNat zero).flatten arr.toList:=by rw [harr]; exact (replicate_rds hzr b.toNat).rvs
  have hclb:(List.replicate b.toNat zero).flatten.all isCell=true:=by
   rw [List.all_eq_true]
   intro u hu
   obtain ⟨l,hl,hul⟩:=List.mem_flatten.1 hu
   rw [List.eq_of_mem_replicate hl] at hul
   exact List.all_eq_true.1 hcell u hul
  have hone:=rvs_one hrvb hclb
  refine ⟨_,_,g.put h.length a.toNat ⟨w.heap.size,b.toNat,sz⟩,.inl hrun,.sl _ _ _ _ _ _ ⟨w.heap.size,b.toNat,sz⟩ _ _ G.put_same rfl (by omega) (by omega) (by simp) (by simp) (by simp),?_⟩
  refine Step.new hr a.toNat sz _ b.toNat hfl (by omega) rfl rfl rfl (by simp) (fun i hi=>am_old w _ i hi) (fun _ => ?_)
  refine ⟨arr,e,0,0,am_new w _,by simpa using hlen,⟨Nat.le_refl _,by omega⟩,fun u hu=>hone u (List.mem_of_mem_take hu),?_⟩
  rw [htk]
  exact hrd
 have hpreb:(b<a||(inf.bytes:Int) * b > 2 ^ 48)=false:=by
  rw [hb]
  simp only [Bool.or_eq_false_iff,decide_eq_false_iff_not]
  exact ⟨by omega,hbigb⟩
 have hpre:(a<0||(inf.bytes:Int) * a > 2 ^ 48)=false:=by
  rw [hb]
  simp only [Bool.or_eq_false_iff,decide_eq_false_iff_not]
  exact ⟨by omega,hbig⟩
 have hb0:¬ b<0:=by omega
 have hb1:¬ (281474976710656<(inf.bytes:Int) * b):=by rw [hb]; omega
 by_cases h0:b.toNat * sz=0
 ·refine fin #[] ?_ ?_
  ·have:((List.replicate b.toNat z.cells.toList).flatten).length=0:=by simp [hzs,h0]
   exact (List.length_eq_zero_iff.1 this).symm
  ·simp only [execOp,ho,ex,ey,Instr.makeSlice,asInt,asIntOf,Sem.run_bind,run_underlying hu,Result.andThen_ok,Sem.run_pure,hti,hw,hwb,hpre,hpreb,run_sizeOf hsz,run_askRoom]
   simp [h0,newRow,show ¬ a<0 by omega,show ¬ b<a by omega,hb0,hb1,run_sizeOf hsz,Array.range_zero']
   rfl
 ·have hpos:0<z.cells.size:=by rw [hzs]; exact Nat.pos_of_ne_zero (fun h=>h0 (by simp [h]))
  refine fin ((Array.range (b.toNat * sz)).map (z.cells[· % z.cells.size]!)) ?_ ?_
  ·have:=zeros_flat b.toNat z.cells hpos
   rw [hzs] at this
   rw [hzs,this]
  ·simp only [execOp,ho,ex,ey,Instr.makeSlice,asInt,asIntOf,Sem.run_bind,run_underlying hu,Result.andThen_ok,Sem.run_pure,hti,hw,hwb,hpre,hpreb,run_sizeOf hsz,run_askRoom]
   simp [h0,newRow,show ¬ a<0 by omega,show ¬ b<a by omega,hb0,hb1,hz,run_sizeOf hsz]
   rfl
theorem hmk_sound {p:Nat} (hr:Rep g h w) {t:TypeId} {l c:Operand} (ho:o.op = .makeSlice t l c) {a:Int} {k1 k2:IntKind} (ex:ρ l = .int k1 a) {b:Int} (ey:ρ c = .int k2 b) {sz bytes:Nat} {zero:List V} {e:TypeId}
  (hu:P.underlying t=some (.slice e)) {inf:TypeInfo} (hi:P.info? e=some inf) (hb:inf.bytes=bytes) (hsz:(P.info? e).map (·.size)=some sz) (hzc:zeroCellsIs P e zero=true) (hcell:zero.all isCell=true)
  (hp:h[p]?=some (.cells 0 sz [])) (c0:0<a) (c1:0≤a) (c2:a≤b) (c3:b * bytes≤room) (c4:b≤9223372036854775807) (hzl:zero.length=sz) :
  EGood P g h w (execOp ρ o) (.sl p 0 a.toNat a.toNat sz false) (h.set p (.cells a.toNat sz (List.replicate a.toNat zero).flatten)):=by
 obtain ⟨z,hz,hzr⟩:=zeroCellsIs_rvs (g:=g) hzc
 have hzs:z.cells.size=sz:=by have:=hzr.length; simp at this; omega
 have hww:∀ a:Int,0≤a→a≤9223372036854775807→IntKind.i64.wrap a=a:=by
  intro a c1 c4
  simp only [IntKind.wrap,IntKind.bits,IntKind.signed,Bool.true_and]
  have:a % (2 ^ 64:Int)=a:=by omega
  simp only [this]
  split
  ·rename_i h; simp at h; omega
  ·rfl
 have hw:IntKind.i64.wrap a=a:=hww a c1 (by omega)
 have hwb:IntKind.i64.wrap b=b:=hww b (by omega) c4
 have hbigb:¬ ((bytes:Int) * b > 2 ^ 48):=by
  have:b * bytes≤2 ^ 47:=by simpa [room] using c3
  have e1:(bytes:Int) * b=b * bytes:=Int.mul_comm _ _
  rw [e1]
  omega
 have hbig:¬ ((bytes:Int) * a > 2 ^ 48):=by
  have:(bytes:Int) * a≤bytes * b:=Int.mul_le_mul_of_nonneg_left c2 (by omega)
  omega
 have hti:∀ w,(typeInfo e).run P w = .ok inf w:=fun w=>by simp [typeInfo,hi]
 have hrd:=(replicate_rds hzr a.toNat).rvs (g:=g)
 have hfl:((List.replicate a.toNat zero).flatten).length=a.toNat * sz:=by simp [hzl]
 have hcl:(List.replicate a.toNat zero).flatten.all isCell=true:=by
  rw [List.all_eq_true]
  intro u hu
  obtain ⟨l,hl,hul⟩:=List.mem_flatten.1 hu
  rw [List.eq_of_mem_replicate hl] at hul
  exact List.all_eq_true.1 hcell u hul
 have fin:∀ arr:Array Value,arr.toList=(List.replicate b.toNat z.cells.toList).flatten →
   (execOp ρ o).run P w = .ok (.value (.slice (some ⟨w.heap.size,0,none⟩) a.toNat b.toNat)) { (w.alloc (.cells arr e (0,0))) with drawn:=w.drawn } →
   EGood P g h w (execOp ρ o) (.sl p 0 a.toNat a.toNat sz false) (h.set p (.cells a.toNat sz (List.replicate a.toNat zero).flatten)):=by
  intro arr harr hrun
  have hab:b.toNat=a.toNat+(b.toNat - a.toNat):=by omega
  have hzl2:z.cells.toList.length=sz:=by simp [hzs]
  have hlen:arr.toList.length=b.toNat * sz:=by rw [harr]; simp [hzs]
  have htk:arr.toList.take (a.toNat * sz)=(List.replicate a.toNat z.cells.toList).flatten:=by
   rw [harr,hab,← List.replicate_append_replicate,List.flatten_append,List.take_left']
   simp [hzs]
  have hrvb:RVs g (List.replicate b.toNat zero).flatten arr.toList:=by rw [harr]; exact (replicate_rds hzr b.toNat).rvs
  have hclb:(List.replicate b.toNat zero).flatten.all isCell=true:=by
   rw [List.all_eq_true]
   intro u hu
   obtain ⟨l,hl,hul⟩:=List.mem_flatten.1 hu
   rw [List.eq_of_mem_replicate hl] at hul
   exact List.all_eq_true.1 hcell u hul
  have hone:=rvs_one hrvb hclb
  refine ⟨_,_,g.put p a.toNat ⟨w.heap.size,b.toNat,sz⟩,.inl hrun,.sl _ _ _ _ _ _ ⟨w.heap.size,b.toNat,sz⟩ _ _ G.put_same rfl (by omega) (by omega) (by simp) (by simp) (by simp),?_⟩
  refine Step.move hr hp (by omega) b.toNat (by omega) hfl rfl rfl rfl (by simp) (fun i hi=>am_old w _ i hi) (am_new w _) ⟨Nat.le_refl _,by omega⟩ (by simpa using hlen) (fun u hu=>hone u (List.mem_of_mem_take hu)) ?_
  rw [htk]
  exact hrd
 have hpreb:(b<a||(inf.bytes:Int) * b > 2 ^ 48)=false:=by
  rw [hb]
  simp only [Bool.or_eq_false_iff,decide_eq_false_iff_not]
  exact ⟨by omega,hbigb⟩
 have hpre:(a<0||(inf.bytes:Int) * a > 2 ^ 48)=false:=by
  rw [hb]
  simp only [Bool.or_eq_false_iff,decide_eq_false_iff_not]
  exact ⟨by omega,hbig⟩
 have hb0:¬ b<0:=by omega
 have hb1:¬ (281474976710656<(inf.bytes:Int) * b):=by rw [hb]; omega
 by_cases h0:b.toNat * sz=0
 ·refine fin #[] ?_ ?_
  ·have:((List.replicate b.toNat z.cells.toList).flatten).length=0:=by simp [hzs,h0]
   exact (List.length_eq_zero_iff.1 this).symm
  ·simp only [execOp,ho,ex,ey,Instr.makeSlice,asInt,asIntOf,Sem.run_bind,run_underlying hu,Result.andThen_ok,Sem.run_pure,hti,hw,hwb,hpre,hpreb,run_sizeOf hsz,run_askRoom]
   simp [h0,newRow,show ¬ a<0 by omega,show ¬ b<a by omega,hb0,hb1,run_sizeOf hsz,Array.range_zero']
   rfl
 ·have hpos:0<z.cells.size:=by rw [hzs]; exact Nat.pos_of_ne_zero (fun h=>h0 (by simp [h]))
  refine fin ((Array.range (b.toNat * sz)).map (z.cells[· % z.cells.size]!)) ?_ ?_
  ·have:=zeros_flat b.toNat z.cells hpos
   rw [hzs] at this
   rw [hzs,this]
  ·simp only [execOp,ho,ex,ey,Instr.makeSlice,asInt,asIntOf,Sem.run_bind,run_underlying hu,Result.andThen_ok,Sem.run_pure,hti,hw,hwb,hpre,hpreb,run_sizeOf hsz,run_askRoom]
   simp [h0,newRow,show ¬ a<0 by omega,show ¬ b<a by omega,hb0,hb1,hz,run_sizeOf hsz]
   rfl
end
theorem freeze_heap {w:World} {blk n:Nat} {arr:Array Value} {e:TypeId} {lo hi:Nat} (hh:w.heap[blk]?=some (.cells arr e (lo,hi))) :
  (w.freeze { block:=blk,off:=n } 1).heap[blk]?=some (.cells arr e (if lo == hi then (n,n+1) else (min lo n,max hi (n+1))))∧(w.freeze { block:=blk,off:=n } 1).heap.size=w.heap.size ∧
   ∀ i,i≠blk→(w.freeze { block:=blk,off:=n } 1).heap[i]?=w.heap[i]?:=by
 unfold World.freeze
 simp only [Nat.one_ne_zero,if_false]
 refine ⟨?_,by simp,fun i hi => ?_⟩
 ·simp [Array.getElem?_modify,hh]
 ·simp [Array.getElem?_modify,Ne.symm hi]
theorem mark_sound (hr:Rep g h w) {b off len gen sz cs} {ex:Bool} {xv:Value} (hx:RV g (.sl b off len gen sz ex) xv) (ho:objCells h b=some (gen,sz,cs)) (hpos:0<len) (hs1:sz=1) {t e:TypeId} (hu:P.underlying t=some (.slice e)) (he:P.underlying e=some (.int .u8)) :
  ∃ w',(convert t t xv).run P w = .ok xv w'∧Step g h w g h w':=by
 obtain ⟨p,a,cap,rfl,hp,hps,hle,hcap,hex,hcr,ha⟩:=hx.sl_inv
 obtain rfl:=ha (by omega)
 obtain ⟨hb,hlen,p',hp',hps',hnr,hrest⟩:=objCells_rep hr ho
 rw [hp] at hp'
 cases hp'
 obtain ⟨hm,arr,e',lo,hi,hh,hasz,hfz,hone,hrv⟩:=hrest (by omega)
 obtain ⟨f1,f2,f3⟩:=freeze_heap (n:=arr.size) hh
 refine ⟨w.freeze { block:=p.blk,off:=arr.size } 1,?_,?_⟩
 ·simp [convert,run_underlying hu,run_underlying he,markStringish,World.shape?,hh]
 ·have hput:g.put b gen p=g:=by
   have:(g.put b gen p).β=g.β:=by
    funext b' n'
    simp only [G.put]
    split
    ·rename_i hc
     obtain ⟨rfl,rfl⟩:=hc
     exact hp.symm
    ·rfl
   cases g
   simp only [G.put] at this ⊢
   rw [this]
  have hother:∀ b' o blk,b'≠b→h[b']?=some o→atB g b' o blk→blk≠p.blk:=by
   intro b' o blk hne hbo ha hee
   subst hee
   exact hne (hr.one b' b o _ _ hbo hb ha ⟨p,hp,by omega,rfl⟩)
  have hlive:Live g h p.blk:=⟨b,_,hb,p,hp,by omega,rfl⟩
  refine ⟨⟨?_,?_,hr.one,hr.old,hr.top⟩,G.le_refl g,⟨rfl,rfl,rfl,by rw [f2]; exact Nat.le_refl _,fun i _ hl=>f3 i (fun hh=>hl (hh ▸ hlive))⟩,fun _ _ h => .inl h,fun _ h => .inl h⟩
  ·intro blk a hM
   have hne:blk≠p.blk:=fun he=>by subst he; rw [hm] at hM; cases hM
   obtain ⟨e1,fz,h1⟩:=hr.mem blk a hM
   exact ⟨e1,fz,by rw [f3 _ hne]; exact h1⟩
  ·intro b' o hbo
   by_cases hbb:b'=b
   ·subst hbb
    rw [hb] at hbo
    cases hbo
    by_cases hlh:lo=hi
    ·have h1:(lo == hi)=true:=by simpa using hlh
     rw [h1] at f1
     exact ⟨hlen,p,hp,hps,hnr,fun _=>⟨hm,arr,e',_,_,f1,hasz,⟨by omega,fun i hi'=>by simp [fzx,hs1] at hi'; omega⟩,hone,hrv⟩⟩
    ·have h1:(lo == hi)=false:=by simpa using hlh
     rw [h1] at f1
     have h3:arr.size≤lo:=by
      rcases Nat.lt_or_ge lo arr.size with h3 | h3
      ·have h4:=hfz.2 lo (by omega)
       have:=hfz.1
       omega
      ·exact h3
     exact ⟨hlen,p,hp,hps,hnr,fun _=>⟨hm,arr,e',_,_,f1,hasz,⟨by omega,fun i hi'=>by simp [fzx,hs1] at hi'; omega⟩,hone,hrv⟩⟩
   ·exact (hr.obj b' o hbo).mono (G.le_refl g) (fun blk ha=>(hr.live_lt ⟨b',o,hbo,ha⟩).2) (fun blk ha=>f3 _ (hother b' o blk hbb hbo ha))
end
section
variable {P:Program} {g:G} {h:Heap} {w:World}
open Classical in
noncomputable def G.seen (g:G) (h:Heap) (w:World) (lo:Nat):Mem:=fun blk =>
 if (∃ b o,lo≤b∧h[b]?=some o∧atB g b o blk) then (match w.heap[blk]? with | some (.cells arr _ _)=>some arr | _=>none) else g.M blk
theorem seen_le (hr:Rep g h w) (lo:Nat):g.M.le (g.seen h w lo):=by
 intro blk arr hM
 unfold G.seen
 split
 ·rename_i hc
  obtain ⟨b,o,_,hb,ha⟩:=hc
  have:=(hr.live_lt ⟨b,o,hb,ha⟩).2
  rw [hM] at this
  cases this
 ·exact hM
theorem seen_mem (hr:Rep g h w) (lo:Nat) (blk:Nat) (arr:Array Value) (hM:g.seen h w lo blk=some arr) :
  (∃ e fz,w.heap[blk]?=some (.cells arr e fz))∧(g.M blk=some arr∨Live g h blk):=by
 unfold G.seen at hM
 split at hM
 ·rename_i hc
  obtain ⟨b,o,_,hb,ha⟩:=hc
  split at hM
  ·rename_i a' e' fz' hh
   cases hM
   exact ⟨⟨_,_,hh⟩,.inr ⟨b,o,hb,ha⟩⟩
  ·cases hM
 ·exact ⟨hr.mem blk arr hM,.inl hM⟩
theorem seen_obj (hr:Rep g h w) {lo b n sz:Nat} {cs:List V} (hlo:lo≤b) (hb:h[b]?=some (.cells n sz cs)) {p:Place} (hp:g.β b n=some p) (hroom:0<p.room) :
  ∃ arr,g.seen h w lo p.blk=some arr∧arr.size=p.room * sz∧(∀ u∈arr.toList.take (n * sz),u.oneCell'=true)∧RVs g cs (arr.toList.take (n * sz)):=by
 obtain ⟨_,p',hp',_,_,hrest⟩:=hr.obj b _ hb
 rw [hp] at hp'
 cases hp'
 obtain ⟨_,arr,e,lo',hi',hh,h1,_,h2,h3⟩:=hrest hroom
 refine ⟨arr,?_,h1,h2,h3⟩
 unfold G.seen
 rw [if_pos ⟨b,_,hlo,hb,p,hp,hroom,rfl⟩,hh]
mutual
theorem view_rd (hr:Rep g h w) {lo:Nat}:∀ {v v':V} {x:Value},RV g v x→viewV lo h v=some v'→RD (g.seen h w lo) v' x
 | v,v',x,hv,he=>by
  cases v with
  | sl b off len gen sz ex =>
   obtain ⟨cs,ho,hlo,hle,hpure,rfl⟩:=viewV_sl he
   obtain ⟨hb,hlen,p,hp,hps,hnr,_⟩:=objCells_rep hr ho
   have:=sl_view (g:=g) (g':=⟨g.seen h w lo,g.β,g.Y⟩) hv hp hle hlen hnr hps hpure (seen_le hr lo) (fun hroom=>seen_obj hr hlo hb hp hroom)
   exact this
  | ref b off gen=>simp [viewV] at he
  | map b=>simp [viewV] at he
  | vs cs n sz=>simp [viewV] at he
  | yf b=>simp [viewV] at he
  | func fn fi ca =>
   simp only [viewV] at he
   split at he
   ·rename_i hp
    simp only [Bool.and_eq_true] at hp
    cases he
    obtain ⟨fi',ca',rfl,h1,h2⟩:=hv.func_inv
    exact .func _ _ _ _ _ ((h1.toRDs hp.1).mono (seen_le hr lo)) ((h2.toRDs hp.2).mono (seen_le hr lo))
   ·cases he
  | iface t v =>
   simp only [viewV,Option.map_eq_some_iff] at he
   obtain ⟨u,hu,rfl⟩:=he
   obtain ⟨x',rfl,hx'⟩:=hv.iface_inv
   exact .iface _ _ _ (view_rd hr hx' hu)
  | agg cs =>
   simp only [viewV,Option.map_eq_some_iff] at he
   obtain ⟨u,hu,rfl⟩:=he
   obtain ⟨x',rfl,hx'⟩:=hv.agg_inv
   exact .agg _ _ (views_rd hr hx' hu)
  | tup cs =>
   simp only [viewV,Option.map_eq_some_iff] at he
   obtain ⟨u,hu,rfl⟩:=he
   obtain ⟨x',rfl,hx'⟩:=hv.tup_inv
   exact .tup _ _ (views_rd hr hx' hu)
  | _ =>
   simp only [viewV,Option.some.injEq] at he
   subst he
   cases hv with
   | d _ _ h=>exact h.mono (seen_le hr lo)
theorem views_rd (hr:Rep g h w) {lo:Nat}:∀ {vs vs':List V} {xs:List Value},RVs g vs xs→viewL lo h vs=some vs'→RDs (g.seen h w lo) vs' xs
 | [],vs',xs,hv,he=>by
  simp only [viewL,Option.some.injEq] at he
  subst he
  cases hv
  exact .nil
 | v :: vs,vs',xs,hv,he=>by
  simp only [viewL] at he
  split at he
  ·rename_i v' vs'' h1 h2
   cases he
   cases hv with
   | cons _ _ x xs hx hxs=>exact .cons _ _ _ _ (view_rd hr hx h1) (views_rd hr hxs h2)
  ·cases he
end
theorem viewL_length {lo:Nat}:∀ {vs vs':List V},viewL lo h vs=some vs'→vs'.length=vs.length
 | [],vs',he=>by
  simp only [viewL,Option.some.injEq] at he
  subst he; rfl
 | v :: vs,vs',he=>by
  simp only [viewL] at he
  split at he
  ·rename_i v' vs'' h1 h2
   cases he
   simp [viewL_length h2]
  ·cases he
theorem sl_view2 {g':G} {b off len sz n:Nat} {ex:Bool} {cs':List V} {p:Place} {xv:Value} (hx:RV g (.sl b off len n sz ex) xv) (hp:g.β b n=some p) (hle:off+len≤n) (hlen:cs'.length=n * sz) (hnr:n≤p.room) (hps:p.sz=sz)
  (hrest:0<p.room→∃ arr,g'.M p.blk=some arr∧arr.size=p.room * sz∧(∀ u∈arr.toList.take (n * sz),u.oneCell'=true)∧RDs g'.M cs' (arr.toList.take (n * sz))) :
  RD g'.M (.sv (chunks sz len (cs'.drop (off * sz))) ex) xv:=by
 obtain ⟨p',a,cap,rfl,hp',hps',hle0,hcap,hex,hcr,ha⟩:=hx.sl_inv
 rw [hp] at hp'
 cases hp'
 have hcl:=chunks_length sz len (cs'.drop (off * sz))
 by_cases h0:len=0
 ·subst h0
  exact .sv _ _ _ _ _ rfl (Nat.zero_le _) hex (fun h=>absurd h (by omega)) sz [] (fun _ _ h=>absurd h (by omega)) (by simp) (.nil sz)
 ·obtain ⟨arr,hMb,hasz,hone,hrd0⟩:=hrest (by omega)
  have hmul:(off+len) * sz≤n * sz:=Nat.mul_le_mul_right _ hle
  have hmul2:n * sz≤p.room * sz:=Nat.mul_le_mul_right _ hnr
  rw [Nat.add_mul] at hmul
  have hsub:(arr.toList.drop (off * sz)).take (len * sz)=((arr.toList.take (n * sz)).drop (off * sz)).take (len * sz):=by
   rw [List.drop_take,List.take_take,Nat.min_eq_left (by omega)]
  have hdrop:∀ {vs:List V} {xs:List Value} (k:Nat),RDs g'.M vs xs→RDs g'.M (vs.drop k) (xs.drop k):=by
   intro vs xs k
   induction k generalizing vs xs with
   | zero=>intro h; simpa using h
   | succ k ih=>intro h; cases h with
    | nil=>exact .nil
    | cons v x vs xs h1 h2=>exact ih h2
  have htake:∀ {vs:List V} {xs:List Value} (k:Nat),RDs g'.M vs xs→RDs g'.M (vs.take k) (xs.take k):=by
   intro vs xs k
   induction k generalizing vs xs with
   | zero=>intro _; exact .nil
   | succ k ih=>intro h; cases h with
    | nil=>exact .nil
    | cons v x vs xs h1 h2=>exact .cons _ _ _ _ h1 (ih h2)
  have hrd:RDs g'.M ((cs'.drop (off * sz)).take (len * sz)) ((arr.toList.drop (off * sz)).take (len * sz)):=by
   rw [hsub]; exact htake _ (hdrop _ hrd0)
  have hrde:=chunks_rde sz len _ _ hrd (by simp; omega)
  rw [← slice_chunks hlen hle] at hrde
  have hxl:((arr.toList.drop (off * sz)).take (len * sz)).length=len * sz:=by simp; omega
  obtain rfl:=ha (by omega)
  refine .sv _ _ _ _ _ hcl hcap hex (fun _=>⟨_,arr,rfl,rfl,hMb⟩) sz _ ?_ ?_ hrde
  ·intro ad arr' _ h1 h2
   cases h1
   simp only at h2
   rw [hMb] at h2
   cases h2
   rw [hxl]
  ·intro u hu
   apply hone
   rw [hsub] at hu
   exact List.mem_of_mem_drop (List.mem_of_mem_take hu)
theorem viewS_rd (hr:Rep g h w) {lo:Nat} {v v':V} {x:Value} (hv:RV g v x) (he:viewS lo h v=some v'):RD (g.seen h w lo) v' x:=by
 cases v <;> simp only [viewS,reduceCtorEq] at he
 rename_i b off len gen sz ex
 split at he
 ·rename_i n s cs ho
  split at he
  ·rename_i hc
   obtain ⟨hlo,rfl,hle,rfl⟩:=hc
   simp only [Option.map_eq_some_iff] at he
   obtain ⟨cs',hcs',rfl⟩:=he
   obtain ⟨hb,hlen,p,hp,hps,hnr,_⟩:=objCells_rep hr ho
   refine sl_view2 (g:=g) (g':=⟨g.seen h w lo,g.β,g.Y⟩) hv hp hle (by rw [viewL_length hcs',hlen]) hnr hps (fun hroom => ?_)
   obtain ⟨arr,h1,h2,h3,h4⟩:=seen_obj hr hlo hb hp hroom
   exact ⟨arr,h1,h2,h3,views_rd hr h4 hcs'⟩
  ·cases he
 ·cases he
theorem view1_rd (hr:Rep g h w) {lo:Nat} {v v':V} {x:Value} (hv:RV g v x) (he:view1 lo h v=some v'):RD (g.seen h w lo) v' x:=by
 unfold view1 at he
 cases h1:viewV lo h v with
 | some u=>rw [h1] at he; cases he; exact view_rd hr hv h1
 | none=>rw [h1] at he; exact viewS_rd hr hv he
theorem viewWL_rd (hr:Rep g h w) {lo:Nat}:∀ {vs vs':List V} {xs:List Value},RVs g vs xs→viewWL lo h vs=some vs'→RDs (g.seen h w lo) vs' xs
 | [],vs',xs,hv,he=>by
  simp only [viewWL,Option.some.injEq] at he
  subst he
  cases hv
  exact .nil
 | v :: vs,vs',xs,hv,he=>by
  simp only [viewWL] at he
  split at he
  ·rename_i v' vs'' h1 h2
   cases he
   cases hv with
   | cons _ _ x xs hx hxs=>exact .cons _ _ _ _ (view1_rd hr hx h1) (viewWL_rd hr hxs h2)
  ·cases he
theorem viewW_rd (hr:Rep g h w) {lo:Nat} {v v':V} {x:Value} (hv:RV g v x) (he:viewW lo h v=some v'):RD (g.seen h w lo) v' x:=by
 unfold viewW at he
 split at he
 ·rename_i cs
  simp only [Option.map_eq_some_iff] at he
  obtain ⟨u,hu,rfl⟩:=he
  obtain ⟨x',rfl,hx'⟩:=hv.tup_inv
  exact .tup _ _ (viewWL_rd hr hx' hu)
 ·exact view1_rd hr hv he
def G.pure (g:G):G:=⟨g.M,fun _ _=>none,g.Y⟩
theorem Rep.pure (hr:Rep g h w):Rep g.pure [] w:=by
 refine ⟨hr.mem,?_,?_,?_,?_⟩
 ·intro b o hb; simp at hb
 ·intro b b' o o' blk hb; simp at hb
 ·intro b n p hp; simp [G.pure] at hp
 ·intro b n sz cs m p hb; simp at hb
theorem Live_nil {g:G} {blk:Nat}:¬ Live g [] blk:=by
 rintro ⟨b,o,hb,_⟩
 simp at hb
theorem Step.back (hr:Rep g h w) {g1:G} {h1:Heap} {w1:World} (hs:Step g.pure [] w g1 h1 w1) :
  Step g h w ⟨g1.seen h1 w1 0,g.β,g.Y⟩ h w1:=by
 have hold:∀ i,i<w.heap.size→w1.heap[i]?=w.heap[i]?:=fun i hi=>hs.fr.block i hi Live_nil
 have hM0:∀ blk arr,g1.seen h1 w1 0 blk=some arr→g.M blk=some arr∨w.heap.size≤blk:=by
  intro blk arr hM
  obtain ⟨_,hm | hl⟩:=seen_mem hs.rep 0 blk arr hM
  ·rcases hs.newM blk arr hm with h2 | h2 | h2
   ·exact .inl h2
   ·exact .inr h2
   ·exact (Live_nil h2).elim
  ·rcases hs.newL blk hl with h2 | h2
   ·exact (Live_nil h2).elim
   ·exact .inr h2
 have hle:g.le ⟨g1.seen h1 w1 0,g.β,g.Y⟩:=⟨Mem.le_trans hs.le.1 (seen_le hs.rep 0),fun _ _ _ h=>h,rfl⟩
 refine ⟨⟨fun blk arr hM=>(seen_mem hs.rep 0 blk arr hM).1,?_,?_,hr.old,hr.top⟩,hle,⟨hs.fr.os,hs.fr.tape,hs.fr.output,hs.fr.size,fun i hi _=>hold i hi⟩,?_,?_⟩
 ·intro b o hb
  refine (hr.obj b o hb).mono hle (fun blk ha => ?_) (fun blk ha=>hold _ (hr.live_lt ⟨b,o,hb,ha⟩).1)
  obtain ⟨hlt,hm⟩:=hr.live_lt ⟨b,o,hb,ha⟩
  cases hM:g1.seen h1 w1 0 blk with
  | none=>exact hM
  | some arr =>
   rcases hM0 blk arr hM with h2 | h2
   ·rw [hm] at h2; cases h2
   ·omega
 ·intro b b' o o' blk h1' h2 h3 h4
  exact hr.one b b' o o' blk h1' h2 ((atB_congr rfl b o blk).1 h3) ((atB_congr rfl b' o' blk).1 h4)
 ·intro blk arr hM
  rcases hM0 blk arr hM with h2 | h2
  ·exact .inl h2
  ·exact .inr (.inl h2)
 ·intro blk hl
  exact .inl ((Live_congr rfl h blk).1 hl)
theorem Rep.lent (hr:Rep g h w):Rep ⟨g.seen h w 0,fun _ _=>none,g.Y⟩ [] w:=by
 refine ⟨fun blk arr hM=>(seen_mem hr 0 blk arr hM).1,?_,?_,?_,?_⟩
 ·intro b o hb; simp at hb
 ·intro b b' o o' blk hb; simp at hb
 ·intro b n p hp; simp at hp
 ·intro b n sz cs m p hb; simp at hb
theorem Step.given (hr:Rep g h w) {g1:G} {h1:Heap} {w1:World} (hs:Step ⟨g.seen h w 0,fun _ _=>none,g.Y⟩ [] w g1 h1 w1):Step g h w g h w1:=by
 have hold:∀ i,i<w.heap.size→w1.heap[i]?=w.heap[i]?:=fun i hi=>hs.fr.block i hi Live_nil
 refine ⟨⟨?_,?_,hr.one,hr.old,hr.top⟩,G.le_refl g,⟨hs.fr.os,hs.fr.tape,hs.fr.output,hs.fr.size,fun i hi _=>hold i hi⟩,fun _ _ h => .inl h,fun _ h => .inl h⟩
 ·intro blk arr hM
  obtain ⟨e,fz,hh⟩:=hr.mem blk arr hM
  exact ⟨e,fz,by rw [hold _ (Array.getElem?_eq_some_iff.1 hh).1]; exact hh⟩
 ·intro b o hb
  exact (hr.obj b o hb).mono (G.le_refl g) (fun blk ha=>(hr.live_lt ⟨b,o,hb,ha⟩).2) (fun blk ha=>hold _ (hr.live_lt ⟨b,o,hb,ha⟩).1)
mutual
theorem RV.plain {g g':G}:∀ {v:V} {x:Value},RV g v x→plainV v=true→RV g' v x
 | v,x,hv,hp=>by
  cases v with
  | iface t v =>
   obtain ⟨x',rfl,hx'⟩:=hv.iface_inv
   simp only [plainV] at hp
   exact .iface _ _ _ (RV.plain hx' hp)
  | agg cs =>
   obtain ⟨x',rfl,hx'⟩:=hv.agg_inv
   simp only [plainV] at hp
   exact .agg _ _ (RVs.plain hx' hp)
  | tup cs =>
   obtain ⟨x',rfl,hx'⟩:=hv.tup_inv
   simp only [plainV] at hp
   exact .tup _ _ (RVs.plain hx' hp)
  | bool b=>obtain rfl:=hv.bool_inv; exact .d _ _ (.bool b)
  | int k n=>obtain rfl:=hv.int_inv; exact .d _ _ (.int k n)
  | str s=>obtain rfl:=hv.str_inv; exact .d _ _ (.str s)
  | nilp=>obtain rfl:=hv.nilp_inv; exact .d _ _ .nilp
  | nils=>obtain rfl:=hv.nils_inv; exact .d _ _ .nils
  | nilm=>obtain rfl:=hv.nilm_inv; exact .d _ _ .nilm
  | nilf=>obtain rfl:=hv.nilf_inv; exact .d _ _ .nilf
  | nili=>obtain rfl:=hv.nili_inv; exact .d _ _ .nili
  | undef=>simp [plainV] at hp
  | ref b off gen=>simp [plainV] at hp
  | pv cs=>simp [plainV] at hp
  | sl b off len gen sz ex=>simp [plainV] at hp
  | sv es ex=>simp [plainV] at hp
  | map b=>simp [plainV] at hp
  | vs cs n sz=>simp [plainV] at hp
  | yf b=>simp [plainV] at hp
  | func f fi ca=>simp [plainV] at hp
theorem RVs.plain {g g':G}:∀ {vs:List V} {xs:List Value},RVs g vs xs→plainL vs=true→RVs g' vs xs
 | [],_,hv,_=>by cases hv; exact .nil
 | v :: vs,_,hv,hp=>by
  simp only [plainL,Bool.and_eq_true] at hp
  cases hv with
  | cons _ _ x xs hx hxs=>exact .cons _ _ _ _ (RV.plain hx hp.1) (RVs.plain hxs hp.2)
end
end
section
variable {P:Program} {g:G} {h:Heap} {w:World}
theorem live_spec (hr:Rep g h w) {b o gen:Nat} {p:Place} (hl:liveAt h b o gen=true) (hp:g.β b gen=some p) :
  ∃ sz cs arr e lo hi,h[b]?=some (.cells gen sz cs)∧0<p.room∧w.heap[p.blk]?=some (.cells arr e (lo,hi))∧o<arr.size∧¬ (lo≤o∧o<hi)∧¬ (lo≤arr.size∧arr.size<hi):=by
 unfold liveAt at hl
 split at hl
 ·rename_i n sz cs hb
  simp only [Bool.and_eq_true,beq_iff_eq,bne_iff_ne,ne_eq,decide_eq_true_eq] at hl
  obtain ⟨⟨rfl,hs⟩,ho⟩:=hl
  obtain ⟨hlen,p',hp',hps,hnr,hrest⟩:=hr.obj b _ hb
  rw [hp] at hp'
  cases hp'
  have hn:0<n:=Nat.pos_of_ne_zero fun e=>by simp [e] at ho
  have hroom:0<p.room:=by omega
  obtain ⟨_,arr,e,lo,hi,hh,hasz,hfz,_⟩:=hrest hroom
  have hsz:n * sz≤p.room * sz:=Nat.mul_le_mul_right _ hnr
  have hx:fzx sz=1:=by simp [fzx,hs]
  refine ⟨sz,cs,arr,e,lo,hi,hb,hroom,hh,by omega,hfz.2 o (by omega),hfz.2 arr.size (by omega)⟩
 ·cases hl
theorem run_frozen_blk {blk o:Nat} {arr:Array Value} {e:TypeId} {lo hi:Nat} (hh:w.heap[blk]?=some (.cells arr e (lo,hi))) (ho:¬ (lo≤o∧o<hi)):(frozen ⟨blk,o,none⟩).run P w = .ok false w:=by
 simp [frozen,Sem.run,World.frozen?,hh]
 omega
theorem run_shape_blk {blk:Nat} {arr:Array Value} {e:TypeId} {fz:Nat×Nat} (hh:w.heap[blk]?=some (.cells arr e fz)):(shape blk).run P w = .ok (some (e,arr.size)) w:=by
 simp [shape,Sem.run,World.shape?,hh]
theorem sameAddr_run (hr:Rep g h w) {b o gen b' o' gen':Nat} {p p':Place} (hp:g.β b gen=some p) (hp':g.β b' gen'=some p') (h1:liveAt h b o gen=true) (h2:liveAt h b' o' gen'=true) :
  (sameAddr ⟨p.blk,o,none⟩ ⟨p'.blk,o',none⟩).run P w = .ok (b == b'&&o == o') w:=by
 obtain ⟨sz,cs,arr,e,lo,hi,hb,hroom,hh,ho,hfo,hfe⟩:=live_spec hr h1 hp
 obtain ⟨sz',cs',arr',e',lo',hi',hb',hroom',hh',ho',hfo',hfe'⟩:=live_spec hr h2 hp'
 by_cases hbb:b=b'
 ·subst hbb
  rw [hb] at hb'
  simp only [Option.some.injEq,Obj.cells.injEq] at hb'
  obtain ⟨rfl,rfl,rfl⟩:=hb'
  rw [hp] at hp'
  cases hp'
  by_cases hoo:o=o'
  ·subst hoo; simp [sameAddr]
  ·have h1:(o == o')=false:=by simpa using hoo
   have h2:(({ block:=p.blk,off:=o,spot:=none }:Addr) == { block:=p.blk,off:=o',spot:=none })=false:=beq_eq_false_iff_ne.2 (fun e=>hoo (congrArg Addr.off e))
   simp [sameAddr,h1,h2]
 ·have hne:p.blk≠p'.blk:=fun e=>hbb (hr.one b b' _ _ p.blk hb hb' ⟨p,hp,hroom,rfl⟩ ⟨p',hp',hroom',e.symm⟩)
  have hbf:(p.blk == p'.blk)=false:=by simpa using hne
  have hb2:(b == b')=false:=by simpa using hbb
  have hsize:arr.size≠0:=by omega
  have hsize':arr'.size≠0:=by omega
  simp [sameAddr,hbf,hb2,run_frozen_blk hh hfo,run_frozen_blk hh' hfo',noView,viewAt,run_shape_blk hh,run_shape_blk hh',mayBeOne,stringish,run_frozen_blk hh hfe,run_frozen_blk hh' hfe',Result.andThen]
theorem eq_ptr (hr:Rep g h w) {t:TypeId} {a b:V} {x y:Value} {r:Bool} (ht:leafTy P .ptr t=true) (ha:RV g a x) (hb:RV g b y) (hs:samePtr h a b=some r):EqLeaf P w t x y r:=by
 unfold samePtr at hs
 split at hs
 ·rename_i b1 o1 g1 b2 o2 g2
  split at hs
  ·rename_i hl
   simp only [Bool.and_eq_true] at hl
   cases hs
   obtain ⟨e,i,hu,hi,hsz⟩:=leaf_ptr ht
   obtain ⟨p,hp,rfl⟩:=ha.ref_inv
   obtain ⟨p',hp',rfl⟩:=hb.ref_inv
   intro d
   have hso:(sizeOf e).run P w = .ok i.size w:=run_sizeOf (by simp [hi]) w
   simp [Op.equalIn,run_underlying hu,Result.andThen,hso,hsz,sameAddr_run hr hp hp' hl.1 hl.2]
  ·cases hs
 ·cases hs; exact eq_nils ht ha hb (.inl ⟨rfl,rfl,rfl⟩)
 ·cases hs; exact eq_nils ht ha hb (.inr (.inl ⟨_,_,_,rfl,rfl,rfl⟩))
 ·cases hs; exact eq_nils ht ha hb (.inr (.inr ⟨_,_,_,rfl,rfl,rfl⟩))
 ·cases hs
theorem key_run (hr:Rep g h w) {st:Bool} {ks:List LK} {t:TypeId} (ht:keyTy P st ks t=true) {a b:V} {x y:Value} {r:Bool} (ha:RV g a x) (hb:RV g b y) (hs:sameKey h st ks a b=some r):(Op.equal t x y).run P w = .ok r w:=by
 have hc:∀ k t a b x y r,leafTy P k t=true→RV g a x→RV g b y→sameLK h k a b=some r→EqLeaf P w t x y r:=fun k t a b x y r ht ha hb hs =>
  eq_lit ht ha hb hs (fun hk=>by subst hk; exact eq_ptr hr ht ha hb (by simpa [sameLK] using hs))
 unfold keyTy at ht
 unfold sameKey at hs
 cases st with
 | true =>
  simp only [if_true] at ht hs
  split at hs
  ·obtain ⟨xs,rfl,hxs⟩:=ha.agg_inv
   obtain ⟨ys,rfl,hys⟩:=hb.agg_inv
   exact equal_flat ht hc hxs hys hs 9998
  ·cases hs
 | false =>
  simp only [Bool.false_eq_true,if_false] at ht hs
  split at hs
  ·rename_i k
   exact hc k t a b x y r ht ha hb hs 9999
  ·cases hs
theorem find_run (hr:Rep g h w) {st:Bool} {ks:List LK} {t:TypeId} (ht:keyTy P st ks t=true) {k:V} {x:Value} (hk:RV g k x) :
  ∀ (es:List (V×V)) (xs:List MapEntry) (i j:Nat) (r:Option (Nat×V)),EntsR g j es xs→findK h st ks k es i=some r →
   ∃ r',(Instr.findAsking t x xs i).run P w = .ok r' w∧(match r,r' with
    | none,none=>True
    | some (n,v),some (n',v')=>n=n'∧i≤n∧RV g v v'∧∃ k',es[n - i]?=some (k',v)∧sameKey h st ks k k'=some true
    | _,_=>False)
 | [],[],i,j,r,_,hf=>by
  simp only [findK,Option.some.injEq] at hf
  subst hf
  exact ⟨none,by simp [Instr.findAsking],trivial⟩
 | [],_ :: _,i,j,r,he,_=>he.elim
 | (_,_) :: _,[],i,j,r,he,_=>he.elim
 | (k',v') :: es,e :: xs,i,j,r,⟨h1,h2,h3,h4⟩,hf=>by
  simp only [findK] at hf
  cases hs:sameKey h st ks k k' with
  | none=>simp [hs] at hf
  | some b =>
   have hrun:=key_run hr ht hk h1 hs
   cases b with
   | true =>
    simp only [hs,Option.some.injEq] at hf
    subst hf
    exact ⟨some (i,e.val),by simp [Instr.findAsking,hrun],rfl,Nat.le_refl _,h2,k',by simp,hs⟩
   | false =>
    simp only [hs] at hf
    obtain ⟨r',hr',hm⟩:=find_run hr ht hk es xs (i+1) (j+1) r h4 hf
    refine ⟨r',by simp [Instr.findAsking,hrun,hr'],?_⟩
    cases r with
    | none=>cases r' <;> exact hm
    | some p =>
     obtain ⟨n,v⟩:=p
     cases r' with
     | none=>exact hm
     | some p' =>
      obtain ⟨n',v2⟩:=p'
      obtain ⟨q1,q2,q3,k2,q4,q5⟩:=hm
      refine ⟨q1,by omega,q3,k2,?_,q5⟩
      have:n - i=(n - (i+1))+1:=by omega
      rw [this]
      simpa using q4
theorem findNow_asking (t:TypeId) (d:TypeDesc) (hd:P.underlying t=some d) (k:Value):∀ (xs:List MapEntry) (i:Nat) (r:Option (Nat×Value)),Instr.findNow d k xs i=some r→(Instr.findAsking t k xs i).run P w = .ok r w
 | [],i,r,hf=>by simp only [Instr.findNow,Option.some.injEq] at hf; subst hf; simp [Instr.findAsking]
 | e :: xs,i,r,hf=>by
  simp only [Instr.findNow] at hf
  have one:∀ b,Instr.sameNow d k e.key=some b→(Op.equal t k e.key).run P w = .ok b w:=by
   intro b hb
   generalize e.key=ek at hb ⊢
   unfold Instr.sameNow at hb
   split at hb
   ·split at hb
    ·rename_i hk
     subst hk
     cases hb
     exact run_equalIn_int w 9999 t _ _ _ _ hd
    ·cases hb
   ·cases hb
    rename_i s1 s2
    have:=run_equalIn_string w 9999 t s1 s2 hd
    rw [← beq_toListBytes] at this
    exact this
   ·cases hb
    exact run_equalIn_bool' w 9999 t _ _ hd
   ·cases hb
  split at hf
  ·rename_i hs
   cases hf
   simp [Instr.findAsking,one _ hs]
  ·rename_i hs
   simp [Instr.findAsking,one _ hs,findNow_asking t d hd k xs (i+1) r hf]
  ·cases hf
theorem run_findKey_asking (w:World) {t:TypeId} {d:TypeDesc} (hd:P.underlying t=some d) (k:Value) (xs:List MapEntry) {r:Option (Nat×Value)} (h:(Instr.findAsking t k xs).run P w = .ok r w):(Instr.findKey t k xs).run P w = .ok r w:=by
 simp only [Instr.findKey,Sem.run_bind,run_underlying hd,Result.andThen_ok]
 cases hf:Instr.findNow d k xs 0 with
 | none=>exact h
 | some r' =>
  have:=findNow_asking (P:=P) (w:=w) t d hd k xs 0 r' hf
  rw [this] at h
  cases h
  simp
theorem checkFields (em:Bool) (n:Nat) {xs:Array Value}:∀ (L:List Field) (i:Nat) (ks:List LK),flatOk P i L ks=true→i+L.length≤xs.size →
  (forIn (m:=Sem) L PUnit.unit fun f _=>do
   if f.name ≠ "_" then do
    let x ← part f.type xs f.offset
    Instr.checkKey em (n+1) f.type x
    pure (ForInStep.yield PUnit.unit)
   else pure (ForInStep.yield PUnit.unit)).run P w = .ok PUnit.unit w
 | [],_,_,_,_=>by simp
 | f :: L,i,[],hf,_=>by simp [flatOk] at hf
 | f :: L,i,k :: ks,hf,hl=>by
  simp only [flatOk,Bool.and_eq_true,bne_iff_ne,ne_eq,beq_iff_eq] at hf
  obtain ⟨⟨⟨hn,ho⟩,hlf⟩,hf⟩:=hf
  simp only [List.length_cons] at hl
  have hx:xs[f.offset]?=some (xs[f.offset]'(by omega)):=Array.getElem?_eq_getElem (by omega)
  have px:=run_part_leaf (P:=P) hlf hx w
  have hck:∀ x:Value,(Instr.checkKey em (n+1) f.type x).run P w = .ok () w:=by
   intro x
   unfold Instr.checkKey
   unfold leafTy at hlf
   cases hu:P.underlying f.type with
   | none=>simp [hu] at hlf
   | some d =>
    simp only [Sem.run_bind,run_underlying hu,Result.andThen_ok]
    cases d <;> simp_all
  simp only [List.forIn_cons,hn,ne_eq,not_false_eq_true,if_true,Sem.run_bind,px,Result.andThen_ok,hck,Sem.run_pure]
  exact checkFields em n L (i+1) ks hf (by omega)
theorem flatOk_len:∀ {i:Nat} {L:List Field} {ks:List LK},flatOk P i L ks=true→L.length=ks.length
 | _,[],[],_=>rfl
 | _,[],_ :: _,h=>by simp [flatOk] at h
 | _,_ :: _,[],h=>by simp [flatOk] at h
 | _,f :: L,k :: ks,h=>by
  simp only [flatOk,Bool.and_eq_true] at h
  simp [flatOk_len h.2]
theorem checkKey_run {st:Bool} {ks:List LK} {t:TypeId} (ht:keyTy P st ks t=true) {x:Value} (hx:st=true→∃ xs:Array Value,x = .agg xs∧xs.size=ks.length) (em:Bool) (w:World):(Instr.checkKey em 10000 t x).run P w = .ok () w:=by
 unfold keyTy at ht
 cases st with
 | false =>
  simp only [Bool.false_eq_true,if_false] at ht
  split at ht
  ·rename_i k
   unfold Instr.checkKey
   unfold leafTy at ht
   cases hu:P.underlying t with
   | none=>simp [hu] at ht
   | some d =>
    simp only [Sem.run_bind,run_underlying hu,Result.andThen_ok]
    cases d <;> simp_all
  ·cases ht
 | true =>
  simp only [if_true] at ht
  obtain ⟨xs,rfl,hxs⟩:=hx rfl
  unfold flatStruct at ht
  split at ht
  ·rename_i fs hu
   simp only [Bool.and_eq_true] at ht
   unfold Instr.checkKey
   simp only [Sem.run_bind,run_underlying hu,Result.andThen_ok]
   rw [← Array.forIn_toList]
   have hl:=flatOk_len ht.2
   rw [checkFields (P:=P) (w:=w) em 9998 (xs:=xs) fs.toList 0 ks ht.2 (by omega)]
   rfl
  ·cases ht
theorem leaf_bits (hr:Rep g h w) {k:LK} {a b:V} {x y:Value} (ha:RV g a x) (hb:RV g b y) (hs:sameLK h k a b=some true) (n:Nat):Instr.sameBits n y x=true:=by
 cases k with
 | int =>
  obtain ⟨k,p,q,rfl,rfl,he⟩:=sameLK_int hs
  obtain rfl:=ha.int_inv
  obtain rfl:=hb.int_inv
  have:p=q:=by simpa using he.symm
  cases n <;> simp [Instr.sameBits,this]
 | bool =>
  obtain ⟨p,q,rfl,rfl,he⟩:=sameLK_bool hs
  obtain rfl:=ha.bool_inv
  obtain rfl:=hb.bool_inv
  have:p=q:=by simpa using he.symm
  cases n <;> simp [Instr.sameBits,this]
 | str =>
  obtain ⟨p,q,rfl,rfl,he⟩:=sameLK_str hs
  obtain rfl:=ha.str_inv
  obtain rfl:=hb.str_inv
  have h1:(q == p)=true:=by
   rw [beq_toListBytes]
   have:p.toList=q.toList:=by simpa using he.symm
   simp [this]
  cases n <;> simpa [Instr.sameBits] using h1
 | ptr =>
  simp only [sameLK] at hs
  unfold samePtr at hs
  split at hs
  ·rename_i b1 o1 g1 b2 o2 g2
   split at hs
   ·rename_i hl
    simp only [Bool.and_eq_true] at hl
    simp only [Option.some.injEq,Bool.and_eq_true,beq_iff_eq] at hs
    obtain ⟨rfl,rfl⟩:=hs
    obtain ⟨p,hp,rfl⟩:=ha.ref_inv
    obtain ⟨p',hp',rfl⟩:=hb.ref_inv
    obtain ⟨_,_,_,_,_,_,q1,_⟩:=live_spec hr hl.1 hp
    obtain ⟨_,_,_,_,_,_,q2,_⟩:=live_spec hr hl.2 hp'
    rw [q1] at q2
    simp only [Option.some.injEq,Obj.cells.injEq] at q2
    obtain ⟨rfl,_⟩:=q2
    rw [hp] at hp'
    cases hp'
    cases n <;> simp [Instr.sameBits]
   ·cases hs
  ·obtain rfl:=ha.nilp_inv
   obtain rfl:=hb.nilp_inv
   cases n <;> simp [Instr.sameBits]
  ·cases hs
  ·cases hs
  ·cases hs
theorem cells_bits (hr:Rep g h w) (n:Nat):∀ {ks:List LK} {as bs:List V} {xs ys:List Value},RVs g as xs→RVs g bs ys→sameKs h ks as bs=some true→ys.length=xs.length∧(ys.zip xs).all (fun p=>Instr.sameBits n p.1 p.2)=true
 | [],as,bs,xs,ys,ha,hb,hs=>by
  cases as <;> cases bs <;> simp [sameKs] at hs
  cases ha; cases hb
  simp
 | k :: ks,[],bs,xs,ys,ha,hb,hs=>by simp [sameKs] at hs
 | k :: ks,_ :: _,[],xs,ys,ha,hb,hs=>by simp [sameKs] at hs
 | k :: ks,a :: as,b :: bs,xs,ys,ha,hb,hs=>by
  cases ha with
  | cons _ _ x xs hx hxs =>
   cases hb with
   | cons _ _ y ys hy hys =>
    simp only [sameKs] at hs
    split at hs
    ·rename_i h1
     obtain ⟨e1,e2⟩:=cells_bits hr n hxs hys hs
     refine ⟨by simp [e1],?_⟩
     simp only [List.zip_cons_cons,List.all_cons,leaf_bits hr hx hy h1 n,Bool.true_and]
     exact e2
    ·cases hs
    ·cases hs
theorem key_bits (hr:Rep g h w) {st:Bool} {ks:List LK} {a b:V} {x y:Value} (ha:RV g a x) (hb:RV g b y) (hs:sameKey h st ks a b=some true):Instr.sameBits 10000 y x=true:=by
 unfold sameKey at hs
 cases st with
 | false =>
  simp only [Bool.false_eq_true,if_false] at hs
  split at hs
  ·exact leaf_bits hr ha hb hs 10000
  ·cases hs
 | true =>
  simp only [if_true] at hs
  split at hs
  ·obtain ⟨xs,rfl,hxs⟩:=ha.agg_inv
   obtain ⟨ys,rfl,hys⟩:=hb.agg_inv
   obtain ⟨e1,e2⟩:=cells_bits hr 9999 hxs hys hs
   have e1':ys.size=xs.size:=by simpa using e1
   show (ys.size == xs.size&&(ys.toList.zip xs.toList).all fun (x,y)=>Instr.sameBits 9999 x y)=true
   simp only [e1',beq_self_eq_true,Bool.true_and]
   exact e2
  ·cases hs
theorem stays_run (hr:Rep g h w) {st:Bool} {ks:List LK} {a b:V} {x y:Value} (ha:RV g a x) (hb:RV g b y) (hs:sameKey h st ks a b=some true):(Instr.keyThatStays y x).run P w = .ok x w:=by
 simp [Instr.keyThatStays,key_bits hr ha hb hs]
end
section
variable {P:Program} {g:G} {h:Heap} {w:World}
theorem EntsR.get {g:G}:∀ {j:Nat} {es:List (V×V)} {xs:List MapEntry},EntsR g j es xs→∀ {i:Nat} {k v:V},es[i]?=some (k,v)→∃ e,xs[i]?=some e∧RV g k e.key∧RV g v e.val∧e.born=j+i
 | _,[],[],_,i,k,v,hi=>by simp at hi
 | _,[],_ :: _,h,_,_,_,_=>h.elim
 | _,(_,_) :: _,[],h,_,_,_,_=>h.elim
 | j,(k',v') :: es,e :: xs,⟨h1,h2,h3,h4⟩,i,k,v,hi=>by
  cases i with
  | zero=>simp at hi; obtain ⟨rfl,rfl⟩:=hi; exact ⟨e,rfl,h1,h2,by omega⟩
  | succ i =>
   obtain ⟨e',q1,q2,q3,q4⟩:=h4.get (by simpa using hi)
   exact ⟨e',by simpa using q1,q2,q3,by omega⟩
theorem EntsR.length {g:G}:∀ {j:Nat} {es:List (V×V)} {xs:List MapEntry},EntsR g j es xs→es.length=xs.length
 | _,[],[],_=>rfl
 | _,[],_ :: _,h=>h.elim
 | _,(_,_) :: _,[],h=>h.elim
 | _,(_,_) :: _,_ :: _,⟨_,_,_,h⟩=>by simp [h.length]
theorem EntsR.set {g:G} {k v:V} {x y:Value} (hk:RV g k x) (hv:RV g v y):∀ {j:Nat} {es:List (V×V)} {xs:List MapEntry},EntsR g j es xs→∀ (i:Nat),EntsR g j (es.set i (k,v)) (xs.modify i fun e=>{ e with key:=x,val:=y })
 | _,[],[],_,i=>by simp [EntsR]
 | _,[],_ :: _,h,_=>h.elim
 | _,(_,_) :: _,[],h,_=>h.elim
 | j,(k',v') :: es,e :: xs,⟨h1,h2,h3,h4⟩,i=>by
  cases i with
  | zero=>simp only [List.set_cons_zero,List.modify_zero_cons]; exact ⟨hk,hv,h3,h4⟩
  | succ i=>simp only [List.set_cons_succ,List.modify_succ_cons]; exact ⟨h1,h2,h3,h4.set hk hv i⟩
theorem EntsR.push {g:G} {k v:V} {x y:Value} (hk:RV g k x) (hv:RV g v y):∀ {j:Nat} {es:List (V×V)} {xs:List MapEntry},EntsR g j es xs→EntsR g j (es++[(k,v)]) (xs++[{ key:=x,val:=y,born:=j+es.length }])
 | _,[],[],_=>⟨hk,hv,by simp,trivial⟩
 | _,[],_ :: _,h=>h.elim
 | _,(_,_) :: _,[],h=>h.elim
 | j,(k',v') :: es,e :: xs,⟨h1,h2,h3,h4⟩=>by
  refine ⟨h1,h2,h3,?_⟩
  have:=h4.push hk hv
  simp only [List.length_cons]
  rw [show j+(es.length+1)=j+1+es.length by omega]
  exact this
theorem EntsR.idx {g:G} {n:Nat}:∀ {j:Nat} {es:List (V×V)} {xs:List MapEntry},EntsR g j es xs→n<es.length→(xs.findIdx? fun e=>(e.born:Int) == ((j+n:Nat):Int))=some n:=by
 induction n with
 | zero =>
  intro j es xs h hn
  match es,xs,h with
  | (k,v) :: es,e :: xs,⟨h1,h2,h3,h4⟩=>simp [List.findIdx?_cons,h3]
  | [],_,_=>simp at hn
  | _ :: _,[],h=>exact h.elim
 | succ n ih =>
  intro j es xs h hn
  match es,xs,h with
  | (k,v) :: es,e :: xs,⟨h1,h2,h3,h4⟩ =>
   have:=ih h4 (by simpa using hn)
   rw [List.findIdx?_cons]
   have hne:((e.born:Int) == ((j+(n+1):Nat):Int))=false:=by simp [h3]; omega
   rw [hne]
   rw [show j+(n+1)=j+1+n by omega,this]
   rfl
  | [],_,_=>simp at hn
  | _ :: _,[],h=>exact h.elim
theorem map_obj (hr:Rep g h w) {m:V} {x:Value} {b:Nat} {es:List (V×V)} (hm:mapEs h m=some (b,es)) (hx:RV g m x) :
  m = .map b∧h[b]?=some (.map es)∧∃ p ents,x = .map (some p.blk)∧g.β b 0=some p∧w.heap[p.blk]?=some (.map ents es.length)∧EntsR g 0 es ents.toList:=by
 unfold mapEs at hm
 split at hm
 ·rename_i b'
  split at hm
  ·rename_i es' hb
   cases hm
   obtain ⟨p,rfl,hp⟩:=hx.map_inv
   obtain ⟨p',hp',_,ents,clock,hh,rfl,he⟩:=hr.obj _ _ hb
   rw [hp] at hp'
   cases hp'
   exact ⟨rfl,hb,p,ents,rfl,hp,hh,he⟩
  ·cases hm
 ·cases hm
theorem shape_key {st:Bool} {ks:List LK} {k:V} {x:Value} (hs:keyShape st ks k=true) (hk:RV g k x):st=true→∃ xs:Array Value,x = .agg xs∧xs.size=ks.length:=by
 intro hst
 subst hst
 simp only [keyShape,Bool.not_true,Bool.false_or] at hs
 split at hs
 ·rename_i cs
  obtain ⟨xs,rfl,hxs⟩:=hk.agg_inv
  have:=hxs.length
  simp only [beq_iff_eq] at hs
  exact ⟨xs,rfl,by simp at this; omega⟩
 ·cases hs
theorem keyDesc {st:Bool} {ks:List LK} {kt:TypeId} (hkt:keyTy P st ks kt=true):∃ d,P.underlying kt=some d:=by
 unfold keyTy at hkt
 cases st with
 | true=>simp only [if_true,flatStruct] at hkt; split at hkt; exact ⟨_,by assumption⟩; cases hkt
 | false =>
  simp only [Bool.false_eq_true,if_false] at hkt
  split at hkt
  ·unfold leafTy at hkt
   cases hd:P.underlying kt with
   | none=>simp [hd] at hkt
   | some d=>exact ⟨d,rfl⟩
  ·cases hkt
theorem look_run (hr:Rep g h w) {st:Bool} {ks:List LK} {t kt e:TypeId} (hu:P.underlying t=some (.map kt e)) (hkt:keyTy P st ks kt=true) {zero:V} (hz:zeroIs P e zero=true) {m k:V} {x y:Value} (hm:RV g m x) (hk:RV g k y) {ok:Bool} {v:V}
  (hv:lookV h st ks m k ok zero=some v):∃ vv,(Instr.lookup t x y ok).run P w = .ok vv w∧RV g v vv:=by
 obtain ⟨z,hz,hrz⟩:=zeroIs_rv (g:=g) hz
 have fin:∀ (u:V) (uu:Value) (b:Bool),RV g u uu→RV g (finV ok u b) (if ok then .tuple #[uu,.bool b] else uu):=by
  intro u uu b hu
  unfold finV
  cases ok with
  | true=>exact .tup _ _ (.cons _ _ _ _ hu (.cons _ _ _ _ (.d _ _ (.bool b)) .nil))
  | false=>exact hu
 obtain ⟨d,hd⟩:=keyDesc hkt
 unfold lookV at hv
 split at hv
 ·split at hv
  ·rename_i hs
   cases hv
   obtain rfl:=hm.nilm_inv
   have hck:=checkKey_run (P:=P) hkt (shape_key hs hk) true w
   have hfk:=run_findKey_asking (P:=P) w hd y [] (r:=none) (by simp [Instr.findAsking])
   refine ⟨_,?_,fin _ _ _ hrz⟩
   have hck':(Instr.checkKey (#[]:Array MapEntry).isEmpty 10000 kt y).run P w = .ok () w:=hck
   simp only [Instr.lookup,Sem.run_bind,run_underlying hu,Result.andThen_ok,Sem.run_pure,hck',hfk,hz]
  ·cases hv
 ·split at hv
  ·rename_i b es hme
   split at hv
   ·cases hv
   ·rename_i hs
    simp only [Bool.not_eq_true',Bool.not_eq_false] at hs
    obtain ⟨rfl,hb,p,ents,rfl,hp,hh,he⟩:=map_obj hr hme hm
    have hck:=checkKey_run (P:=P) hkt (shape_key hs hk) ents.isEmpty w
    cases hf:findK h st ks k es 0 with
    | none=>simp [hf] at hv
    | some r =>
     obtain ⟨r',hfa,hmatch⟩:=find_run (P:=P) hr hkt hk es ents.toList 0 0 r he hf
     have hfk:=run_findKey_asking (P:=P) w hd y ents.toList hfa
     cases r with
     | none =>
      cases r' with
      | some p=>exact hmatch.elim
      | none =>
       simp only [hf,Option.some.injEq] at hv
       subst hv
       refine ⟨_,?_,fin _ _ _ hrz⟩
       simp only [Instr.lookup,Sem.run_bind,run_underlying hu,Result.andThen_ok,Sem.run_pure,MapKept.run_getObj_map hh,hck,hfk,hz]
     | some q =>
      obtain ⟨n,u⟩:=q
      cases r' with
      | none=>exact hmatch.elim
      | some q' =>
       obtain ⟨n',uu⟩:=q'
       obtain ⟨_,_,hrv,_⟩:=hmatch
       simp only [hf,Option.some.injEq] at hv
       subst hv
       refine ⟨_,?_,fin _ _ _ hrv⟩
       simp only [Instr.lookup,Sem.run_bind,run_underlying hu,Result.andThen_ok,Sem.run_pure,MapKept.run_getObj_map hh,hck,hfk]
  ·cases hv
theorem map_step (hr:Rep g h w) {b:Nat} {es es':List (V×V)} (hb:h[b]?=some (.map es)) {p:Place} (hp:g.β b 0=some p) {ents ents':Array MapEntry} {cl:Nat} (hh:w.heap[p.blk]?=some (.map ents cl)) (he:EntsR g 0 es' ents'.toList) :
  Step g h w g (h.set b (.map es')) { w with heap:=w.heap.setIfInBounds p.blk (.map ents' es'.length) }:=by
 have hlt:=(Array.getElem?_eq_some_iff.1 hh).1
 refine Step.setO hr hb rfl rfl hp rfl rfl rfl (by simp) (fun i hi=>by simp [Array.getElem?_setIfInBounds_ne (Ne.symm hi)]) ⟨p,hp,?_,ents',es'.length,by simp [hlt],rfl,he⟩
 exact ObjR.kept_M rfl (hr.obj b _ hb) hp
theorem mset_run (hr:Rep g h w) {st:Bool} {ks:List LK} {t kt e:TypeId} (hu:P.underlying t=some (.map kt e)) (hkt:keyTy P st ks kt=true) {m k u:V} {x y z:Value} (hm:RV g m x) (hk:RV g k y) (hv:RV g u z) {h':Heap}
  (hs:msetV h st ks m k u=some h'):∃ w',(Instr.mapUpdate t x y z).run P w = .ok () w'∧Step g h w g h' w':=by
 unfold msetV at hs
 split at hs
 ·rename_i b es hme
  split at hs
  ·rename_i hc
   simp only [Bool.and_eq_true] at hc
   obtain ⟨rfl,hb,p,ents,rfl,hp,hh,he⟩:=map_obj hr hme hm
   obtain ⟨d,hd⟩:=keyDesc hkt
   have hck:=checkKey_run (P:=P) hkt (shape_key hc.1 hk) false w
   cases hf:findK h st ks k es 0 with
   | none=>simp [hf] at hs
   | some r =>
    obtain ⟨r',hfa,hmatch⟩:=find_run (P:=P) hr hkt hk es ents.toList 0 0 r he hf
    have hfk:=run_findKey_asking (P:=P) w hd y ents.toList hfa
    cases r with
    | none =>
     cases r' with
     | some p=>exact hmatch.elim
     | none =>
      simp only [hf,Option.some.injEq] at hs
      subst hs
      have he':EntsR g 0 (es++[(k,u)]) (ents.push { key:=y,val:=z,born:=es.length }).toList:=by
       have:=he.push hk hv
       simpa using this
      refine ⟨_,?_,map_step hr hb hp hh he'⟩
      simp only [Instr.mapUpdate,Sem.run_bind,run_underlying hu,Result.andThen_ok,Sem.run_pure,MapKept.run_getObj_map hh,hck,hfk]
      rw [MapKept.run_setObj_map _ hh]
      simp
    | some q =>
     obtain ⟨n,u0⟩:=q
     cases r' with
     | none=>exact hmatch.elim
     | some q' =>
      obtain ⟨n',uu⟩:=q'
      obtain ⟨rfl,_,hrv,k',hk',hsame⟩:=hmatch
      simp only [hf,Option.some.injEq] at hs
      subst hs
      obtain ⟨en,hen,hkk,_,_⟩:=he.get (i:=n) (by simpa using hk')
      have hen':ents[n]?=some en:=by simpa using hen
      have hstay:=stays_run (P:=P) hr hk hkk hsame
      have he':EntsR g 0 (es.set n (k,u)) (ents.modify n fun e=>{ e with key:=y,val:=z }).toList:=by
       have:=he.set hk hv n
       simpa using this
      have hstep:=map_step hr hb hp hh he'
      simp only [List.length_set] at hstep
      refine ⟨_,?_,hstep⟩
      simp only [Instr.mapUpdate,Sem.run_bind,run_underlying hu,Result.andThen_ok,Sem.run_pure,MapKept.run_getObj_map hh,hck,hfk,hen',Option.map_some,Option.getD_some,hstay]
      rw [MapKept.run_setObj_map _ hh]
  ·cases hs
 ·cases hs
theorem ment_run (hr:Rep g h w) {st:Bool} {ks:List LK} {t kt e:TypeId} (hu:P.underlying t=some (.map kt e)) (hkt:keyTy P st ks kt=true) {zero:V} (hz:zeroIs P e zero=true) {m k:V} {x y:Value} (hm:RV g m x) (hk:RV g k y) {v:V} {h':Heap}
  (hs:mentV h st ks m k zero=some (v,h')):∃ vv w',(Instr.mapEntry t x y).run P w = .ok vv w'∧RV g v vv∧Step g h w g h' w':=by
 obtain ⟨z,hz,hrz⟩:=zeroIs_rv (g:=g) hz
 have tup2:∀ (u:V) (uu:Value) (n:Nat),RV g u uu→RV g (.tup [u,.int .i64 n]) (.tuple #[uu,goInt n]):=fun u uu n hu => .tup _ _ (.cons _ _ _ _ hu (.cons _ _ _ _ (.d _ _ (.int _ _)) .nil))
 unfold mentV at hs
 split at hs
 ·rename_i b es hme
  split at hs
  ·rename_i hc
   simp only [Bool.and_eq_true] at hc
   obtain ⟨rfl,hb,p,ents,rfl,hp,hh,he⟩:=map_obj hr hme hm
   obtain ⟨d,hd⟩:=keyDesc hkt
   have hck:=checkKey_run (P:=P) hkt (shape_key hc.1 hk) false w
   cases hf:findK h st ks k es 0 with
   | none=>simp [hf] at hs
   | some r =>
    obtain ⟨r',hfa,hmatch⟩:=find_run (P:=P) hr hkt hk es ents.toList 0 0 r he hf
    have hfk:=run_findKey_asking (P:=P) w hd y ents.toList hfa
    cases r with
    | none =>
     cases r' with
     | some p=>exact hmatch.elim
     | none =>
      simp only [hf,Option.some.injEq,Prod.mk.injEq] at hs
      obtain ⟨rfl,rfl⟩:=hs
      have he':EntsR g 0 (es++[(k,zero)]) (ents.push { key:=y,val:=z,born:=es.length }).toList:=by
       have:=he.push hk hrz
       simpa using this
      refine ⟨_,_,?_,tup2 _ _ _ hrz,map_step hr hb hp hh he'⟩
      simp only [Instr.mapEntry,Sem.run_bind,run_underlying hu,Result.andThen_ok,Sem.run_pure,MapKept.run_getObj_map hh,hck,hfk,hz]
      rw [MapKept.run_setObj_map _ hh]
      simp
    | some q =>
     obtain ⟨n,u0⟩:=q
     cases r' with
     | none=>exact hmatch.elim
     | some q' =>
      obtain ⟨n',uu⟩:=q'
      obtain ⟨rfl,_,hrv,k',hk',hsame⟩:=hmatch
      simp only [hf,Option.some.injEq,Prod.mk.injEq] at hs
      obtain ⟨rfl,rfl⟩:=hs
      obtain ⟨en,hen,hkk,hvv,hborn⟩:=he.get (i:=n) (by simpa using hk')
      have hen':ents[n]?=some en:=by simpa using hen
      have hstay:=stays_run (P:=P) hr hk hkk hsame
      have he':EntsR g 0 (es.set n (k,u0)) (ents.modify n fun e=>{ e with key:=y }).toList:=by
       have:=he.set hk hvv n
       have e2:(ents.modify n fun e=>{ e with key:=y }).toList=ents.toList.modify n fun e=>{ e with key:=y,val:=en.val }:=by
        apply List.ext_getElem?
        intro i
        simp only [Array.toList_modify,List.getElem?_modify]
        by_cases hi:n=i
        ·subst hi
         simp [hen]
        ·simp [hi]
       rw [e2]
       exact this
      have hstep:=map_step hr hb hp hh he'
      simp only [List.length_set] at hstep
      refine ⟨_,_,?_,tup2 _ _ _ hrv,hstep⟩
      simp only [Instr.mapEntry,Sem.run_bind,run_underlying hu,Result.andThen_ok,Sem.run_pure,MapKept.run_getObj_map hh,hck,hfk,hen',Option.map_some,Option.getD_some,hstay]
      rw [MapKept.run_setObj_map _ hh]
      simp [hborn]
  ·cases hs
 ·cases hs
theorem mest_run (hr:Rep g h w) {t:TypeId} {m i u:V} {x y z:Value} (hm:RV g m x) (hi:RV g i y) (hv:RV g u z) {h':Heap} (hs:mestV h m i u=some h'):∃ w',(Instr.entryStore t x y z).run P w = .ok () w'∧Step g h w g h' w':=by
 unfold mestV at hs
 split at hs
 ·rename_i b es k n hme
  split at hs
  ·rename_i hc
   obtain ⟨rfl,hb,p,ents,rfl,hp,hh,he⟩:=map_obj hr hme hm
   obtain rfl:=hi.int_inv
   split at hs
   ·rename_i k0 v0 hk
    cases hs
    obtain ⟨en,hen,hkk,_,_⟩:=he.get hk
    have hlt:=(List.getElem?_eq_some_iff.1 hk).1
    have hidx:=he.idx hlt
    simp only [Nat.zero_add] at hidx
    have hn:((n.toNat:Nat):Int)=n:=by omega
    rw [hn] at hidx
    have hidx':ents.findIdx? (fun e=>(e.born:Int) == n)=some n.toNat:=by
     have e0:ents=ents.toList.toArray:=by simp
     rw [e0,List.findIdx?_toArray]; exact hidx
    have he':EntsR g 0 (es.set n.toNat (k0,u)) (ents.modify n.toNat fun e=>{ e with val:=z }).toList:=by
     have:=he.set hkk hv n.toNat
     have e2:(ents.modify n.toNat fun e=>{ e with val:=z }).toList=ents.toList.modify n.toNat fun e=>{ e with key:=en.key,val:=z }:=by
      apply List.ext_getElem?
      intro i
      simp only [Array.toList_modify,List.getElem?_modify]
      by_cases hi:n.toNat=i
      ·subst hi
       simp [hen]
      ·simp [hi]
     rw [e2]
     exact this
    have hstep:=map_step hr hb hp hh he'
    simp only [List.length_set] at hstep
    refine ⟨_,?_,hstep⟩
    simp only [Instr.entryStore,Sem.run_bind,Result.andThen_ok,Sem.run_pure,MapKept.run_getObj_map hh,asInt,asIntOf,hidx']
    rw [MapKept.run_setObj_map _ hh]
   ·cases hs
  ·cases hs
 ·cases hs
theorem mkm_run (hr:Rep g h w) {t:TypeId}:∃ vv w' g',(Instr.makeMap t none).run P w = .ok vv w'∧RV g' (.map h.length) vv∧Step g h w g' (h++[.map []]) w':=by
 refine ⟨_,w.alloc (.map #[] 0),_,by simp [Instr.makeMap,run_newObj_alloc,Result.andThen],.map _ ⟨w.heap.size,0,0⟩ G.put_same,
  Step.newO hr rfl (Nat.le_refl _) rfl rfl rfl (by simp) (fun i hi=>am_old w _ i hi) ⟨_,G.put_same,?_,#[],0,am_new w _,rfl,trivial⟩⟩
 show g.M w.heap.size=none
 cases hM:g.M w.heap.size with
 | none=>rfl
 | some a =>
  obtain ⟨e,fz,hh⟩:=hr.mem _ _ hM
  have:=(Array.getElem?_eq_some_iff.1 hh).1
  omega
end
section
variable {P:Program} {g:G} {h:Heap} {w:World}
mutual
theorem RV.under {g g':G} {lo:Nat} (hM:g.M.le g'.M) (hβ:∀ b n p,b<lo→g.β b n=some p→g'.β b n=some p):∀ {v:V} {x:Value},RV g v x→belowV lo v=true→RV g' v x
 | _,_,.d v x h,_ => .d v x (h.mono hM)
 | _,_,.ref b off gen p h,hb => .ref b off gen p (hβ _ _ _ (by simpa [belowV] using hb) h)
 | _,_,.sl b off len gen sz ex p a cap h hs hle hc he hcr ha,hb => .sl b off len gen sz ex p a cap (hβ _ _ _ (by simpa [belowV] using hb) h) hs hle hc he hcr ha
 | _,_,.map b p h,hb => .map b p (hβ _ _ _ (by simpa [belowV] using hb) h)
 | _,_,.yf b p h,hb => .yf b p (hβ _ _ _ (by simpa [belowV] using hb) h)
 | _,_,.vs cs n sz a arr hs hm hn hl h1 h,hb => .vs cs n sz a arr hs (hM _ _ hm) hn hl h1 (RVs.underL hM hβ h (by simpa [belowV] using hb))
 | _,_,.func fn fi ca fi' ca' h1 h2,hb=>by
  simp only [belowV,Bool.and_eq_true] at hb
  exact .func fn fi ca fi' ca' (RVs.underL hM hβ h1 hb.1) (RVs.underL hM hβ h2 hb.2)
 | _,_,.iface t v v' h,hb => .iface t v v' (RV.under hM hβ h (by simpa [belowV] using hb))
 | _,_,.agg cs cs' h,hb => .agg cs cs' (RVs.underL hM hβ h (by simpa [belowV] using hb))
 | _,_,.tup cs cs' h,hb => .tup cs cs' (RVs.underL hM hβ h (by simpa [belowV] using hb))
theorem RVs.underL {g g':G} {lo:Nat} (hM:g.M.le g'.M) (hβ:∀ b n p,b<lo→g.β b n=some p→g'.β b n=some p):∀ {vs:List V} {xs:List Value},RVs g vs xs→belowL lo vs=true→RVs g' vs xs
 | _,_,.nil,_ => .nil
 | _,_,.cons v vs x xs h hs,hb=>by
  simp only [belowL,Bool.and_eq_true] at hb
  exact .cons v vs x xs (RV.under hM hβ h hb.1) (RVs.underL hM hβ hs hb.2)
end
theorem RVs.under {g g':G} {lo:Nat} (hM:g.M.le g'.M) (hβ:∀ b n p,b<lo→g.β b n=some p→g'.β b n=some p):∀ {vs:List V} {xs:List Value},RVs g vs xs→vs.all (belowV lo)=true→RVs g' vs xs
 | [],_,hv,_=>by cases hv; exact .nil
 | v :: vs,_,hv,hb=>by
  simp only [List.all_cons,Bool.and_eq_true] at hb
  cases hv with
  | cons _ _ x xs hx hxs=>exact .cons _ _ _ _ (hx.under hM hβ hb.1) (RVs.under hM hβ hxs hb.2)
theorem EntsR.under {g g':G} {lo:Nat} (hM:g.M.le g'.M) (hβ:∀ b n p,b<lo→g.β b n=some p→g'.β b n=some p):∀ {i:Nat} {es:List (V×V)} {xs:List MapEntry},EntsR g i es xs→es.all (fun (k,v)=>belowV lo k&&belowV lo v)=true→EntsR g' i es xs
 | _,[],[],_,_=>trivial
 | _,(k,v) :: es,e :: xs,⟨h1,h2,h3,h4⟩,hb=>by
  simp only [List.all_cons,Bool.and_eq_true] at hb
  exact ⟨h1.under hM hβ hb.1.1,h2.under hM hβ hb.1.2,h3,h4.under hM hβ hb.2⟩
 | _,[],_ :: _,h,_=>h.elim
 | _,(_,_) :: _,[],h,_=>h.elim
theorem Step.cut (hr:Rep g h w) {g1:G} {h1:Heap} {w1:World} (hs:Step g h w g1 h1 w1) (hle:h.length≤h1.length) (hc:closedTo h.length h1=true) :
  Step g h w ⟨g1.seen h1 w1 h.length,fun b n=>if b<h.length then g1.β b n else none,g1.Y⟩ (h1.take h.length) w1:=by
 have hβ:∀ b n p,b<h.length→g1.β b n=some p→(if b<h.length then g1.β b n else none)=some p:=fun b n p hb hp=>by rw [if_pos hb]; exact hp
 have hget:∀ b o,(h1.take h.length)[b]?=some o→b<h.length∧h1[b]?=some o:=by
  intro b o hb
  rw [List.getElem?_take] at hb
  split at hb
  ·exact ⟨by assumption,hb⟩
  ·cases hb
 have hat:∀ b o blk,b<h.length→(atB ⟨g1.seen h1 w1 h.length,fun b n=>if b<h.length then g1.β b n else none,g1.Y⟩ b o blk↔atB g1 b o blk):=by
  intro b o blk hlt
  cases o <;> simp [atB,hlt]
 have hlive:∀ blk,Live ⟨g1.seen h1 w1 h.length,fun b n=>if b<h.length then g1.β b n else none,g1.Y⟩ (h1.take h.length) blk→Live g1 h1 blk:=by
  rintro blk ⟨b,o,hb,ha⟩
  obtain ⟨hlt,hb'⟩:=hget b o hb
  exact ⟨b,o,hb',(hat b o blk hlt).1 ha⟩
 refine ⟨⟨fun blk arr hM=>(seen_mem hs.rep _ blk arr hM).1,?_,?_,?_,?_⟩,⟨Mem.le_trans hs.le.1 (seen_le hs.rep _),fun b n p hp => ?_,hs.le.3⟩,?_,?_,?_⟩
 ·intro b o hb
  obtain ⟨hlt,hb'⟩:=hget b o hb
  have ho:=hs.rep.obj b o hb'
  cases o with
  | cells n sz cs =>
   obtain ⟨h1',p,hp,h2,h3,h4⟩:=ho
   refine ⟨h1',p,hβ _ _ _ hlt hp,h2,h3,fun hroom => ?_⟩
   obtain ⟨hm,arr,e,lo,hi,hh,h5,h6,h8,h7⟩:=h4 hroom
   refine ⟨?_,arr,e,lo,hi,hh,h5,h6,h8,?_⟩
   ·show g1.seen h1 w1 h.length p.blk=none
    unfold G.seen
    rw [if_neg,hm]
    rintro ⟨b',o',hlo,hb2,ha⟩
    have:=hs.rep.one b b' _ _ p.blk hb' hb2 ⟨p,hp,hroom,rfl⟩ ha
    omega
   ·refine h7.under (lo:=h.length) (seen_le hs.rep _) hβ ?_
    simp only [closedTo,List.all_eq_true] at hc
    have:=hc (.cells n sz cs) (List.mem_of_getElem? hb)
    simpa [List.all_eq_true] using this
  | map es =>
   obtain ⟨p,hp,hm,ents,clock,hh,hcl,he⟩:=ho
   refine ⟨p,hβ _ _ _ hlt hp,?_,ents,clock,hh,hcl,?_⟩
   ·show g1.seen h1 w1 h.length p.blk=none
    unfold G.seen
    rw [if_neg,hm]
    rintro ⟨b',o',hlo,hb2,ha⟩
    have:=hs.rep.one b b' _ _ p.blk hb' hb2 ⟨p,hp,rfl⟩ ha
    omega
   ·refine he.under (lo:=h.length) (seen_le hs.rep _) hβ ?_
    simp only [closedTo,List.all_eq_true] at hc
    have:=hc (.map es) (List.mem_of_getElem? hb)
    simpa [List.all_eq_true] using this
  | loop y fi st pd =>
   obtain ⟨p,hp,hm,l,hh,yi,q1,q2,q3,q4,q5,q6,q7,q8,q9⟩:=ho
   refine ⟨p,hβ _ _ _ hlt hp,?_,l,hh,yi,q1,q2,q3,q4,q5,q6,q7,q8,?_⟩
   ·show g1.seen h1 w1 h.length p.blk=none
    unfold G.seen
    rw [if_neg,hm]
    rintro ⟨b',o',hlo,hb2,ha⟩
    have:=hs.rep.one b b' _ _ p.blk hb' hb2 ⟨p,hp,rfl⟩ ha
    omega
   ·refine q9.under (lo:=h.length) (seen_le hs.rep _) hβ ?_
    simp only [closedTo,List.all_eq_true] at hc
    have:=hc (.loop y fi st pd) (List.mem_of_getElem? hb)
    simpa [List.all_eq_true] using this
  | gone=>trivial
 ·intro b b' o o' blk h1' h2 h3 h4
  obtain ⟨hl1,hb1⟩:=hget b o h1'
  obtain ⟨hl2,hb2⟩:=hget b' o' h2
  exact hs.rep.one b b' o o' blk hb1 hb2 ((hat b o blk hl1).1 h3) ((hat b' o' blk hl2).1 h4)
 ·intro b n p hp
  simp only at hp
  split at hp
  ·rw [List.length_take]; omega
  ·cases hp
 ·intro b n sz cs m p hb hp
  obtain ⟨hlt,hb'⟩:=hget b _ hb
  simp only [if_pos hlt] at hp
  exact hs.rep.top b n sz cs m p hb' hp
 ·exact hβ _ _ _ (hr.old _ _ _ hp) (hs.le.2 _ _ _ hp)
 ·exact hs.fr
 ·intro blk arr hM
  obtain ⟨_,hm | hl⟩:=seen_mem hs.rep _ blk arr hM
  ·exact hs.newM blk arr hm
  ·rcases hs.newL blk hl with h2 | h2
   ·exact .inr (.inr h2)
   ·exact .inr (.inl h2)
 ·intro blk hl
  exact hs.newL blk (hlive blk hl)
def isNilSlice:Operand→Bool
 | .const (.slice none 0 0)=>true
 | _=>false
def methOk (P:Program) (name:String) (t n:Nat):Bool :=
 match P.info? t with
 | some ti=>match ti.methods.find? (·.name == name) with
  | some m=>m.path.isEmpty&&(match m.func with
   | some (f,pr)=>f == n&&(match P.underlying t with
    | some (.pointer _)=>pr
    | some _ => !pr
    | none=>false)
   | none=>false)
  | none=>false
 | none=>false
def chkE (P:Program) (okO:Operand→Opd→Bool):Op→EOp→Bool
 | .alloc t,.hnew (.c v)=>zeroIs P t v
 | .box t x,.hnew y=>okO x y
 | .alloc t,.hat (.c v)=>zeroIs P t v
 | .box t x,.hat y=>okO x y
 | .move x,.own _ | .assign x,.own _=>isNilSlice x
 | .move x,.frz y | .assign x,.frz y=>okO x y
 | .store t a x,.store a' x' size=>okO a a'&&okO x x'&&sizeIs P t size
 | .call ⟨.builtin .append,args,ts⟩,.app x y sz bytes fz=>chkApp P okO args ts x y sz bytes
 | .makeSlice t l c,.mks l' c' sz bytes zero=>okO l l'&&okO c c'&&(match P.underlying t with
   | some (.slice e)=>sizeIs P e sz&&(match P.info? e with | some i=>i.bytes == bytes | none=>false)&&zeroCellsIs P e zero&&zero.all isCell
   | _=>false)
 | .makeSlice t l c,.hmk _ l' c' sz bytes zero=>okO l l'&&okO c c'&&(match P.underlying t with
   | some (.slice e)=>sizeIs P e sz&&(match P.info? e with | some i=>i.bytes == bytes | none=>false)&&zeroCellsIs P e zero&&zero.all isCell
   | _=>false)
 | .buildSlice t n ps,.bslO n' sz zero ps'=>n == n'&&decide (n * sz≤2 ^ 24)&&okPartsS okO ps.toList ps'&&zero.length == sz &&
   (match P.underlying t with | some (.slice e)=>sizeIs P e sz&&zeroCellsIs P e zero | _=>false)
 | .convert s d x,.s2s y _=>okO x y&&s == d&&(match P.underlying s with | some (.slice e)=>(match P.underlying e with | some (.int .u8)=>true | _=>false) | _=>false)
 | .call ⟨.value f,args,_⟩,.call f' args' _=>okO f f'&&okL okO args.toList args'
 | .makeMap _ none,.mkm=>true
 | .mapUpdate t m k v,.mset st ks m' k' v' | .insert t m k v,.mset st ks m' k' v'=>okO m m'&&okO k k'&&okO v v'&&(match P.underlying t with | some (.map kt _)=>keyTy P st ks kt | _=>false)
 | .mapEntry t m k,.ment st ks m' k' zero=>okO m m'&&okO k k'&&(match P.underlying t with | some (.map kt e)=>keyTy P st ks kt&&zeroIs P e zero | _=>false)
 | .entryStore _ m i v,.mest m' i' v'=>okO m m'&&okO i i'&&okO v v'
 | .call ⟨.invoke x name,args,_⟩,.inv x' tbl args' _=>okO x x'&&okL okO args.toList args'&&tbl.all fun (t,n)=>methOk P name t n
 | .call ⟨.value y,args,_⟩,.mtv t nm fn x' tbl args' _=>okO y fn&&okL okO args.toList (x' :: args')&&(match P.underlying t with | some (.interface _)=>true | _=>false)&&tbl.all fun (u,n)=>methOk P nm u n
 | .call ⟨.builtin .copy,args,ts⟩,.cpy x' y' sz=>(match args.toList,ts.toList with
   | [x,y],t :: _=>okO x x'&&okO y y'&&(match P.underlying t with | some (.slice e)=>sizeIs P e sz | _=>false)
   | _,_=>false)
 | _,_=>false
def chkL (P:Program) (okO:Operand→Opd→Bool):Op→LOp→Bool
 | .load t a,.load a' size ag=>okO a a'&&tyOk P t size ag
 | .convert s d x,.b2s y=>okO x y&&(match P.underlying s,P.underlying d with
   | some (.slice e),some .string=>(match P.underlying e with | some (.int .u8)=>true | _=>false)
   | _,_=>false)
 | .call ⟨.value f,args,_⟩,.borrow f' args'=>okO f f'&&okL okO args.toList args'
 | .call ⟨.value f,args,_⟩,.ro f' args'=>okO f f'&&okL okO args.toList args'
 | .lookup t m k ok,.look st ks m' k' ok' zero=>okO m m'&&okO k k'&&ok == ok'&&(match P.underlying t with | some (.map kt e)=>keyTy P st ks kt&&zeroIs P e zero | _=>false)
 | .binOp op t x y _,.eqp neg x' y'=>(op == if neg then .neq else .eql)&&okO x x'&&okO y y'&&leafTy P .ptr t
 | _,_=>false
def EOp.isCall:EOp→Bool
 | .call .. | .inv .. | .mtv .. => true
 | _=>false
theorem run_method {name:String} {t n:Nat} (h:methOk P name t n=true) (k:Nat) (v:Value):(method (k+1) t v name).run P w = .ok (n,v) w:=by
 unfold methOk at h
 split at h
 case h_2=>cases h
 rename_i ti hti
 split at h
 case h_2=>cases h
 rename_i m hm
 simp only [Bool.and_eq_true] at h
 obtain ⟨hp,h⟩:=h
 split at h
 case h_2=>cases h
 rename_i f pr hf
 simp only [Bool.and_eq_true,beq_iff_eq] at h
 obtain ⟨rfl,h⟩:=h
 have hpath:m.path.toList=[]:=by simpa using hp
 cases hu:P.underlying t with
 | none=>simp [hu] at h
 | some u =>
  cases u <;> simp only [hu,Bool.not_eq_true'] at h <;> subst h <;> simp [method,typeInfo,go_sem,hti,hm,hpath,hf,follow,receiverAt,run_underlying hu,Place.get]
theorem lookN_mem {t n:Nat}:∀ {tbl:List (Nat×Nat)},lookN tbl t=some n→(t,n)∈tbl
 | [],h=>by simp [lookN] at h
 | (a,b) :: l,h=>by
  simp only [lookN] at h
  split at h
  ·rename_i he
   cases h
   subst he
   simp
  ·exact List.mem_cons_of_mem _ (lookN_mem h)
theorem copy_sound (hr:Rep g h w) {x y:V} {xv yv:Value} {sz:Nat} {v:V} {h':Heap} {dT sT ty e:TypeId} (hu:P.underlying dT=some (.slice e)) (hs:(P.info? e).map (·.size)=some sz) (hx:RV g x xv) (hy:RV g y yv) (hv:copyV h x y sz=some (v,h')) :
  ∃ vv w' g',(Builtin.copy_ #[dT,sT] ty #[xv,yv]).run P w = .ok vv w'∧RV g' v vv∧Step g h w g' h' w':=by
 unfold copyV at hv
 split at hv
 case h_2=>cases hv
 rename_i k ys hl hc
 split at hv
 case isFalse=>cases hv
 rename_i hk
 obtain ⟨hlenZ,arrZ,hfcZ,hrvZ,_⟩:=firstCells_sound (P:=P) hr hy hl hc hk
 have zero:∀ a n cap,xv = .slice a n cap→k=0→(some (V.int .i64 0,h):Option (V×Heap))=some (v,h')→∃ vv w' g',(Builtin.copy_ #[dT,sT] ty #[xv,yv]).run P w = .ok vv w'∧RV g' v vv∧Step g h w g' h' w':=by
  intro a n cap hxv hk0 he
  cases he
  subst hk0 hxv
  have hz:arrZ = #[]:=by
   have h1:arrZ.toList.length=0:=by rw [← hrvZ.length,hk]; simp
   exact Array.eq_empty_of_size_eq_zero (by simpa using h1)
  subst hz
  have hm:Nat.min 0 n=0:=Nat.zero_min n
  refine ⟨.int .i64 0,w,g,?_,.d _ _ (.int _ _),Step.refl hr⟩
  have hmm:Nat.min 0 n=0:=hm
  cases a <;> simp only [Builtin.copy_,List.getElem?_toArray,List.getElem?_cons_zero,List.getElem?_cons_succ,Sem.run_bind,run_underlying hu,Result.andThen_ok,hlenZ,hmm,run_sizeOf hs,hfcZ w rfl,storeCells,Sem.run_pure,goInt] <;> rfl
 split at hv
 ·split at hv
  ·rename_i hk0
   obtain rfl:=hx.nils_inv
   exact zero _ _ _ rfl hk0 hv
  ·cases hv
 case h_3=>cases hv
 rename_i b off len gen sz' ex
 split at hv
 ·rename_i hk0
  obtain ⟨p,a,cap,rfl,_⟩:=hx.sl_inv
  exact zero _ _ _ rfl hk0 hv
 split at hv
 case h_2=>cases hv
 rename_i n sz0 cs ho
 split at hv
 case isFalse=>cases hv
 rename_i hcond
 obtain ⟨rfl,rfl,rfl,hle,hkl,hpos,hk0⟩:=hcond
 cases hv
 obtain ⟨hlen,arrS,hfc,hrvS,hone⟩:=firstCells_sound (P:=P) hr hy hl hc hk
 obtain ⟨p,a,cap,rfl,hp,hps,hle0,hcap,hex,hcr,ha⟩:=hx.sl_inv
 obtain ⟨hb,hlen0,p',hp',hps',hnr,hrest⟩:=objCells_rep hr ho
 rw [hp] at hp'
 cases hp'
 obtain rfl:=ha (by omega)
 have hysl:arrS.toList.length=k * sz':=by rw [← hrvS.length,hk]
 have hmul:off * sz'+k * sz'≤gen * sz':=by rw [← Nat.add_mul]; exact Nat.mul_le_mul_right _ (by omega)
 have hsplen:(splice cs (off * sz') ys).length=cs.length:=by simp [splice]; omega
 have hkp:0<k * sz':=Nat.mul_pos hk0 hpos
 obtain ⟨hroom,_,arr,e',lo,hi,hh,hsz2,hfz,hasz,_,hone2,hrv,_⟩:=obj_range hr ho hp (off:=off * sz') (size:=k * sz') (by omega) hkp
 have hn:gen * sz'≤arr.size:=by rw [hasz]; exact Nat.mul_le_mul_right _ hnr
 have hst:=run_storeCells_blk (P:=P) p.blk (off * sz') e' lo hi arrS.toList 0 arr w hh (by simp at hysl ⊢; omega) (fun i hi'=>hfz.2 i (by omega)) (fun v hv=>hone v hv)
 have htk:=take_splice (cs:=arrS.toList) arr.toList (off * sz') (gen * sz') (by omega) (by simp; omega)
 refine ⟨.int .i64 k,w.setRow p.blk (arr.toList.take (off * sz')++arrS.toList++arr.toList.drop (off * sz'+arrS.toList.length)).toArray,g.put b gen p,?_,.d _ _ (.int _ _),?_⟩
 ·have hmin:Nat.min k len=k:=Nat.min_eq_left hkl
  simp only [Nat.add_zero] at hst
  have hmin':k.min len=k:=hmin
  simp only [Builtin.copy_,List.getElem?_toArray,List.getElem?_cons_zero,List.getElem?_cons_succ,Sem.run_bind,run_underlying hu,Result.andThen_ok,hlen,hmin',run_sizeOf hs,hfc w rfl,hst,Sem.run_pure,goInt]
 ·refine Step.write hr hb hp hroom (Nat.le_refl _) hnr (by rw [hsplen]; exact hlen0) hh hfz (arr':=(arr.toList.take (off * sz')++arrS.toList++arr.toList.drop (off * sz'+arrS.toList.length)).toArray) (by simp at hysl ⊢; omega) hasz ?_ ?_
  ·simp only [List.toList_toArray]
   rw [htk]
   intro u hu
   rcases List.mem_append.1 hu with hu | hu
   ·rcases List.mem_append.1 hu with hu | hu
    ·exact hone2 u (List.mem_of_mem_take hu)
    ·exact hone u hu
   ·exact hone2 u (List.mem_of_mem_drop hu)
  ·simp only [List.toList_toArray]
   rw [htk]
   unfold splice
   rw [hrvS.length]
   exact ((hrv.take (off * sz')).append hrvS).append (hrv.drop _)
section
variable {okO:Operand→Opd→Bool} {f:Opd→V} {ρ:Operand→Value} {o:Oper}
theorem isNilSlice_spec {x:Operand} (hx:isNilSlice x=true) (hk:∀ c,ρ (.const c)=c):ρ x = .slice none 0 0:=by
 unfold isNilSlice at hx
 split at hx
 ·exact hk _
 ·cases hx
theorem hnew_sound (hr:Rep g h w) (hρ:∀ x y,okO x y=true→RV g (f y) (ρ x)) (hf:∀ v,f (.c v)=v) {y:Opd} (hc:chkE P okO o.op (.hnew y)=true) (hcell:(cellsV (f y)).all isCell=true) :
  EGood P g h w (execOp ρ o) (.ref h.length 0 1) (h++[.cells 1 (cellsV (f y)).length (cellsV (f y))]):=by
 cases ho:o.op <;> simp only [ho] at hc
 case alloc t =>
  cases y <;> simp only [chkE,Bool.false_eq_true] at hc
  case c v =>
   rw [hf] at hcell ⊢
   obtain ⟨z,hz,hrv⟩:=zeroIs_rv (g:=g) hc
   obtain ⟨hrun,h1,h2⟩:=box_new (P:=P) (t:=t) hr hrv hcell
   refine ⟨_,_,_,.inl ?_,h1,h2⟩
   simp [execOp,ho,Instr.alloc,hz,hrun]
 case box t x =>
  have hx:okO x y=true:=by cases y <;> exact hc
  obtain ⟨hrun,h1,h2⟩:=box_new (P:=P) (t:=t) hr (hρ _ _ hx) hcell
  refine ⟨_,_,_,.inl ?_,h1,h2⟩
  simp [execOp,ho,Instr.box,hrun]
 all_goals (cases y <;> simp [chkE] at hc)
theorem hat_sound (hr:Rep g h w) (hρ:∀ x y,okO x y=true→RV g (f y) (ρ x)) (hf:∀ v,f (.c v)=v) {y:Opd} (hc:chkE P okO o.op (.hat y)=true) (hcell:(cellsV (f y)).all isCell=true) {b:Nat} (hb:h[b]?=some (.cells 0 (cellsV (f y)).length [])) :
  EGood P g h w (execOp ρ o) (.ref b 0 1) (h.set b (.cells 1 (cellsV (f y)).length (cellsV (f y)))):=by
 cases ho:o.op <;> simp only [ho] at hc
 case alloc t =>
  cases y <;> simp only [chkE,Bool.false_eq_true] at hc
  case c v =>
   rw [hf] at hcell hb ⊢
   obtain ⟨z,hz,hrv⟩:=zeroIs_rv (g:=g) hc
   obtain ⟨hrun,h1,h2⟩:=box_fill (P:=P) (t:=t) hr hrv hcell hb
   refine ⟨_,_,_,.inl ?_,h1,h2⟩
   simp [execOp,ho,Instr.alloc,hz,hrun]
 case box t x =>
  have hx:okO x y=true:=by cases y <;> exact hc
  obtain ⟨hrun,h1,h2⟩:=box_fill (P:=P) (t:=t) hr (hρ _ _ hx) hcell hb
  refine ⟨_,_,_,.inl ?_,h1,h2⟩
  simp [execOp,ho,Instr.box,hrun]
 all_goals (cases y <;> simp [chkE] at hc)
theorem eop_sound (hr:Rep g h w) (hρ:∀ x y,okO x y=true→RV g (f y) (ρ x)) (hk:∀ c,ρ (.const c)=c) (hf:∀ v,f (.c v)=v) {rec:Rec} {e:EOp} (hnc:e.isCall=false) {r:ERef} (hc:chkE P okO o.op e=true) (hv:eopV rec h f e=some r) :
  ∃ v h',r = .val v h'∧EGood P g h w (execOp ρ o) v h':=by
 cases e with
 | call fn args fz=>simp [EOp.isCall] at hnc
 | inv x tbl args fz=>simp [EOp.isCall] at hnc
 | mtv t nm fn x tbl args fz=>simp [EOp.isCall] at hnc
 | cpy x y sz =>
  simp only [eopV,Option.map_eq_some_iff] at hv
  obtain ⟨⟨v,h'⟩,hcp,rfl⟩:=hv
  refine ⟨v,h',rfl,?_⟩
  cases ho:o.op <;> simp only [chkE,ho,Bool.false_eq_true] at hc
  case call c =>
   obtain ⟨cl,args,ts⟩:=c
   cases cl <;> first | (simp [chkE] at hc; done) | skip
   case builtin b =>
    cases b <;> first | (simp [chkE] at hc; done) | skip
    simp only [chkE] at hc
    split at hc
    case h_2=>cases hc
    rename_i x' y' t ts' ha ht
    simp only [Bool.and_eq_true] at hc
    obtain ⟨⟨h1,h2⟩,h3⟩:=hc
    split at h3
    case h_2=>cases h3
    rename_i e hu
    have hsz:(P.info? e).map (·.size)=some sz:=by
     unfold sizeIs at h3
     split at h3
     ·rename_i i hi
      simp only [beq_iff_eq] at h3
      simp [hi,h3]
     ·cases h3
    obtain ⟨vv,w',g',hrun,hrv,hst⟩:=copy_sound (P:=P) (dT:=t) (sT:=t) (ty:=o.type) hr hu hsz (hρ _ _ h1) (hρ _ _ h2) hcp
    have ha':args = #[x',y']:=Array.toList_inj.1 (by simpa using ha)
    refine ⟨vv,w',g',.inl ?_,hrv,hst⟩
    have hts:(Builtin.copy_ ts o.type #[ρ x',ρ y']).run P w=(Builtin.copy_ #[t,t] o.type #[ρ x',ρ y']).run P w:=by
     have h0:ts[0]?=some t:=by
      have:ts.toList[0]?=some t:=by rw [ht]; rfl
      simpa using this
     simp [Builtin.copy_,h0]
    simp only [execOp,ho,resolve,invoke,builtin,Sem.run_bind,Sem.run_pure,Result.andThen_ok,ha']
    simp [hts,hrun]
 | hnew x =>
  simp only [eopV] at hv
  split at hv
  ·rename_i hcell
   cases hv
   exact ⟨_,_,rfl,hnew_sound hr hρ hf hc hcell⟩
  ·cases hv
 | hat x =>
  simp only [eopV] at hv
  split at hv
  ·rename_i hcell
   split at hv
   ·rename_i b hh
    cases hv
    obtain ⟨k,hk,hb⟩:=holeG_spec hh
    obtain rfl:b=k:=by omega
    exact ⟨_,_,rfl,hat_sound hr hρ hf hc hcell hb⟩
   ·cases hv
  ·cases hv
 | mkm =>
  simp only [eopV,Option.some.injEq] at hv
  subst hv
  refine ⟨_,_,rfl,?_⟩
  cases ho:o.op <;> simp only [chkE,ho,Bool.false_eq_true] at hc
  case makeMap t r =>
   cases r with
   | some r=>simp [chkE] at hc
   | none =>
    obtain ⟨vv,w',g',h1,h2,h3⟩:=mkm_run (P:=P) hr (t:=t)
    exact ⟨vv,w',g',.inl (by simp [execOp,ho,h1]),h2,h3⟩
 | mset st ks m k v =>
  simp only [eopV,Option.map_eq_some_iff] at hv
  obtain ⟨h',hst,rfl⟩:=hv
  refine ⟨_,_,rfl,?_⟩
  cases ho:o.op <;> simp only [chkE,ho,Bool.false_eq_true] at hc
  case mapUpdate t m' k' v' =>
   simp only [Bool.and_eq_true] at hc
   obtain ⟨⟨⟨h1,h2⟩,h3⟩,h4⟩:=hc
   split at h4
   ·rename_i kt e hu
    obtain ⟨w',hrun,hs⟩:=mset_run (P:=P) hr hu h4 (hρ _ _ h1) (hρ _ _ h2) (hρ _ _ h3) hst
    exact ⟨undef,w',g,.inr ⟨by simp [execOp,ho,hrun],rfl⟩,.d _ _ (.undef _),hs⟩
   ·cases h4
  case insert t m' k' v' =>
   simp only [Bool.and_eq_true] at hc
   obtain ⟨⟨⟨h1,h2⟩,h3⟩,h4⟩:=hc
   split at h4
   ·rename_i kt e hu
    obtain ⟨w',hrun,hs⟩:=mset_run (P:=P) hr hu h4 (hρ _ _ h1) (hρ _ _ h2) (hρ _ _ h3) hst
    exact ⟨undef,w',g,.inr ⟨by simp [execOp,ho,hrun],rfl⟩,.d _ _ (.undef _),hs⟩
   ·cases h4
 | ment st ks m k zero =>
  simp only [eopV,Option.map_eq_some_iff] at hv
  obtain ⟨⟨v,h'⟩,hst,rfl⟩:=hv
  refine ⟨_,_,rfl,?_⟩
  cases ho:o.op <;> simp only [chkE,ho,Bool.false_eq_true] at hc
  case mapEntry t m' k' =>
   simp only [Bool.and_eq_true] at hc
   obtain ⟨⟨h1,h2⟩,h4⟩:=hc
   split at h4
   ·rename_i kt e hu
    simp only [Bool.and_eq_true] at h4
    obtain ⟨vv,w',hrun,hv,hs⟩:=ment_run (P:=P) hr hu h4.1 h4.2 (hρ _ _ h1) (hρ _ _ h2) hst
    exact ⟨vv,w',g,.inl (by simp [execOp,ho,hrun]),hv,hs⟩
   ·cases h4
 | mest m i v =>
  simp only [eopV,Option.map_eq_some_iff] at hv
  obtain ⟨h',hst,rfl⟩:=hv
  refine ⟨_,_,rfl,?_⟩
  cases ho:o.op <;> simp only [chkE,ho,Bool.false_eq_true] at hc
  case entryStore t m' i' v' =>
   simp only [Bool.and_eq_true] at hc
   obtain ⟨w',hrun,hs⟩:=mest_run (P:=P) hr (t:=t) (hρ _ _ hc.1.1) (hρ _ _ hc.1.2) (hρ _ _ hc.2) hst
   exact ⟨undef,w',g,.inr ⟨by simp [execOp,ho,hrun],rfl⟩,.d _ _ (.undef _),hs⟩
 | own sz =>
  simp only [eopV,Option.some.injEq] at hv
  subst hv
  refine ⟨_,_,rfl,?_⟩
  obtain ⟨h1,h2⟩:=own_new hr sz
  cases ho:o.op <;> simp only [chkE,ho,Bool.false_eq_true] at hc
  case move x=>exact ⟨_,_,_,.inl (by simp [execOp,ho,isNilSlice_spec hc hk]),h1,h2⟩
  case assign x=>exact ⟨_,_,_,.inl (by simp [execOp,ho,isNilSlice_spec hc hk]),h1,h2⟩
 | frz y =>
  simp only [eopV,Option.map_eq_some_iff] at hv
  obtain ⟨⟨v,h'⟩,hfz,rfl⟩:=hv
  refine ⟨_,_,rfl,?_⟩
  cases ho:o.op <;> simp only [chkE,ho,Bool.false_eq_true] at hc
  case move x =>
   obtain ⟨g',h1,h2⟩:=frz_sound hr (hρ _ _ hc) hfz
   exact ⟨_,_,_,.inl (by simp [execOp,ho]),h1,h2⟩
  case assign x =>
   obtain ⟨g',h1,h2⟩:=frz_sound hr (hρ _ _ hc) hfz
   exact ⟨_,_,_,.inl (by simp [execOp,ho]),h1,h2⟩
 | store a x size =>
  simp only [eopV,Option.map_eq_some_iff] at hv
  obtain ⟨h',hst,rfl⟩:=hv
  refine ⟨_,_,rfl,?_⟩
  cases ho:o.op <;> simp only [chkE,ho,Bool.false_eq_true] at hc
  case store t a' x' =>
   simp only [Bool.and_eq_true] at hc
   obtain ⟨ad,ha,w',g',hrun,hs⟩:=store_sound (P:=P) hr (sizeIs_map hc.2) (hρ _ _ hc.1.1) (hρ _ _ hc.1.2) hst
   refine ⟨undef,w',g',.inr ⟨?_,rfl⟩,.d _ _ (.undef _),hs⟩
   simp [execOp,ho,Instr.storeAt,Instr.sureAddr,ha,hrun]
 | app x y sz bytes fz =>
  simp only [eopV] at hv
  split at hv
  ·rename_i v h' happ
   have key:EGood P g h w (execOp ρ o) v h':=by
    cases ho:o.op <;> simp only [chkE,ho,Bool.false_eq_true] at hc
    case call c =>
     obtain ⟨cl,args,ts⟩:=c
     cases cl <;> first | (simp [chkE] at hc; done) | skip
     case builtin b =>
      cases b <;> first | (simp [chkE] at hc; done) | skip
      simp only [chkE] at hc
      unfold chkApp at hc
      split at hc
      ·rename_i x' y' t t' ha ht
       simp only [Bool.and_eq_true] at hc
       obtain ⟨⟨⟨h1,h2⟩,h3⟩,h4⟩:=hc
       split at h3
       ·rename_i e hu
        simp only [Bool.and_eq_true] at h3
        obtain ⟨⟨h5,h6⟩,h7⟩:=h3
        cases hi:P.info? e with
        | none=>simp [hi] at h6
        | some inf =>
         cases hz:inf.zero with
         | none=>simp [hi,hz] at h7
         | some z =>
          simp only [hi,hz,beq_iff_eq,sizeIs] at h5 h6 h7
          obtain ⟨vv,w',g',hrun,hrv,hs⟩:=app_sound (P:=P) (okO:=okO) (ty:=o.type) hr hu h4 hi hz h5 h6 h7 (hρ _ _ h1) (hρ _ _ h2) happ
          have ha':args = #[x',y']:=Array.toList_inj.1 (by simpa using ha)
          have ht':ts = #[t,t']:=Array.toList_inj.1 (by simpa using ht)
          subst ha' ht'
          refine ⟨vv,w',g',.inl ?_,hrv,hs⟩
          have e1:(#[x',y']:Array Operand).map ρ = #[ρ x',ρ y']:=by simp
          simp only [execOp,ho,resolve,e1,Sem.run_bind,Sem.run_pure,Result.andThen_ok,invoke,builtin,hrun]
       ·cases h3
      ·cases hc
   split at hv
   ·simp only [Option.map_eq_some_iff] at hv
    obtain ⟨⟨v2,h2⟩,hfz,rfl⟩:=hv
    obtain ⟨vv,w',g',hrun,hrv,hs⟩:=key
    obtain ⟨g2,hv2,hs2⟩:=frz_sound hs.rep hrv hfz
    refine ⟨_,_,rfl,vv,w',g2,?_,hv2,hs.trans hs2⟩
    rcases hrun with hrun | ⟨hrun,rfl⟩
    ·exact .inl hrun
    ·simp [frzV,pureV] at hfz
     exact .inr ⟨hrun,hfz.1.symm⟩
   ·cases hv
    exact ⟨_,_,rfl,key⟩
  ·cases hv
 | mks n' c' sz bytes zero =>
  cases ho:o.op <;> simp only [chkE,ho,Bool.false_eq_true] at hc
  case makeSlice t l c =>
   simp only [Bool.and_eq_true] at hc
   obtain ⟨⟨h1,h2⟩,h3⟩:=hc
   simp only [eopV] at hv
   split at hv
   ·rename_i k1 a k2 b hx hy
    split at hv
    ·rename_i hcond
     obtain ⟨c1,c2,c3,c4,c5⟩:=hcond
     cases hv
     have ex:=(hx ▸ hρ _ _ h1).int_inv
     have ey:=(hy ▸ hρ _ _ h2).int_inv
     split at h3
     ·rename_i e hu
      simp only [Bool.and_eq_true] at h3
      obtain ⟨⟨⟨h3,h4⟩,h5⟩,h6⟩:=h3
      cases hi:P.info? e with
      | none=>simp [hi] at h4
      | some inf =>
       simp [hi] at h4
       exact ⟨_,_,rfl,mks_sound (P:=P) hr ho ex ey hu hi h4 (sizeIs_map h3) h5 h6 c1 c2 c3 c4 c5⟩
     ·cases h3
    ·cases hv
   ·cases hv
 | hmk kk n' c' sz bytes zero =>
  cases ho:o.op <;> simp only [chkE,ho,Bool.false_eq_true] at hc
  case makeSlice t l c =>
   simp only [Bool.and_eq_true] at hc
   obtain ⟨⟨h1,h2⟩,h3⟩:=hc
   simp only [eopV] at hv
   split at hv
   ·rename_i k1 a k2 b hx hy
    split at hv
    ·rename_i hcond
     obtain ⟨c1,c2,c3,c4,c5⟩:=hcond
     split at hv
     case h_2=>cases hv
     rename_i s0 hp
     split at hv
     case isFalse=>cases hv
     rename_i hs0
     subst hs0
     cases hv
     have ex:=(hx ▸ hρ _ _ h1).int_inv
     have ey:=(hy ▸ hρ _ _ h2).int_inv
     split at h3
     ·rename_i e hu
      simp only [Bool.and_eq_true] at h3
      obtain ⟨⟨⟨h3,h4⟩,h5⟩,h6⟩:=h3
      cases hi:P.info? e with
      | none=>simp [hi] at h4
      | some inf =>
       simp [hi] at h4
       exact ⟨_,_,rfl,hmk_sound (P:=P) hr ho ex ey hu hi h4 (sizeIs_map h3) h5 h6 hp c1 (by omega) (by omega) c3 c4 c5⟩
     ·cases h3
    ·cases hv
   ·cases hv
 | bslO len sz zero ps' =>
  cases ho:o.op <;> simp only [chkE,ho,Bool.false_eq_true] at hc
  case buildSlice t n ps =>
   simp only [Bool.and_eq_true,beq_iff_eq,decide_eq_true_eq] at hc
   obtain ⟨⟨⟨⟨rfl,hcap⟩,h2⟩,hzl⟩,h3⟩:=hc
   simp only [eopV] at hv
   split at hv
   ·rename_i cs hfill
    split at hv
    ·rename_i hp
     cases hv
     split at h3
     ·rename_i e hu
      simp only [Bool.and_eq_true] at h3
      exact ⟨_,_,rfl,bslO_sound (P:=P) hr hρ ho hcap h2 hzl hu (sizeIs_map h3.1) h3.2 hfill hp⟩
     ·cases h3
    ·cases hv
   ·cases hv
 | s2s y fz =>
  cases ho:o.op <;> simp only [chkE,ho,Bool.false_eq_true] at hc
  case convert s d x =>
   simp only [Bool.and_eq_true,beq_iff_eq] at hc
   obtain ⟨⟨h1,rfl⟩,h3⟩:=hc
   split at h3
   ·rename_i e hu
    split at h3
    ·rename_i he
     simp only [eopV] at hv
     split at hv
     ·rename_i b off len gen sz ex hy
      have hx:=hρ _ _ h1
      rw [hy] at hx
      split at hv
      ·rename_i n sz' cs hob
       split at hv
       ·rename_i hcond
        obtain ⟨rfl,hpos,hs1⟩:=hcond
        have hob':objCells h b=some (gen,sz,cs):=by
         obtain ⟨p,a,cap,-,hp,hps,-⟩:=hx.sl_inv
         obtain ⟨-,-,p',hp',hps',-⟩:=objCells_rep hr hob
         rw [hp] at hp'
         cases hp'
         rw [← hps,hps']
         exact hob
        obtain ⟨w',hrun,hs⟩:=mark_sound (P:=P) hr hx hob' hpos hs1 hu he
        have hrun':(execOp ρ o).run P w = .ok (.value (ρ x)) w':=by simp [execOp,ho,hrun]
        split at hv
        ·simp only [Option.map_eq_some_iff] at hv
         obtain ⟨⟨v2,h2⟩,hfz,rfl⟩:=hv
         obtain ⟨g2,hv2,hs2⟩:=frz_sound hs.rep hx hfz
         exact ⟨_,_,rfl,_,_,g2,.inl hrun',hv2,hs.trans hs2⟩
        ·cases hv
         exact ⟨_,_,rfl,_,_,g,.inl hrun',hx,hs⟩
       ·cases hv
      ·cases hv
     ·cases hv
    ·cases h3
   ·cases h3
end
end
def GlOk (gl:Nat→List V) (gs:List Nat) (M:Mem):Prop:=∀ n∈gs,∃ arr,M n=some arr∧RDs M (gl n) arr.toList
theorem GlOk.mono {gl:Nat→List V} {gs:List Nat} {M M':Mem} (h:GlOk gl gs M) (hM:M.le M'):GlOk gl gs M':=fun n hn=>by
 obtain ⟨arr,h1,h2⟩:=h n hn
 exact ⟨arr,hM _ _ h1,h2.mono hM⟩
def CallPost (g:G) (h:Heap) (w:World) (r:R) (h':Heap):Ending→World→Prop
 | .returned x,w'=>∃ v g',r = .ret v∧RV g' v x∧Step g h w g' h' w'
 | .panicked ch,w'=>∃ v x g',r = .pan v∧ch=[{ v:=x,recovered:=false }]∧RV g' v x∧Step g h w g' h' w'
 | .outgrown,_=>False
def Enters (P:Program) (n:Nat):Prop:=∀ (vs:Array Value) (w:World),(callFunc n vs).run P w = .ok (.enter n vs) w
def CallOK (P:Program) (gl:Nat→List V) (gs:List Nat) (Yt:Nat→Option YInfo) (call:Nat→List V→Heap→Option (R×Heap)):Prop :=
 ∀ n args h r h',call n args h=some (r,h')→Enters P n∧∀ g w (vs:Array Value),Rep g h w→GlOk gl gs g.M→g.Y=Yt→RVs g args vs.toList→Calls P n vs w (CallPost g h w r h')
def RoOK (P:Program) (gl:Nat→List V) (gs:List Nat) (Yt:Nat→Option YInfo) (ro:Nat→List V→Heap→Option R):Prop :=
 ∀ n args h r,ro n args h=some r→Enters P n∧∀ g w (vs:Array Value),Rep g h w→GlOk gl gs g.M→g.Y=Yt→RVs g args vs.toList→Calls P n vs w (CallPost g h w r h)
def FW (ro:Option Nat):Fence:={ Fence.wide with round:=ro }
def RoundPost (g:G) (h:Heap) (w:World) (out:Out) (h':Heap):Ending→World→Prop
 | .returned x,w'=>(∀ v,out ≠ .pan v)∧x = .bool (match out with | .norm=>true | _=>false)∧∃ g',Step g h w g' h' w'
 | .panicked ch,w'=>∃ v x g',out = .pan v∧ch=[{ v:=x,recovered:=false }]∧RV g' v x∧Step g h w g' h' w'
 | .outgrown,_=>False
def RoundOK (P:Program) (gl:Nat→List V) (gs:List Nat) (Yt:Nat→Option YInfo) (round:Nat→Nat→List V→Heap→Option (Out×Heap)):Prop :=
 ∀ y b args h out h',round y b args h=some (out,h')→∀ fi pd ys,h[b]?=some (.loop y fi .ready pd)→args=fi++ys→∀ g w (p:Place) (l:Loop) (vs:Array Value),Rep g h w→GlOk gl gs g.M→g.Y=Yt→g.β b 0=some p →
  w.heap[p.blk]?=some (.loop l)→LoopR g y fi .ready pd l→RVs g ys vs.toList→vs.size=l.params.size ∧
   RoundIn (FW none) 0 P p.blk l.fn ((l.params.zip vs).foldl (fun tmps (t,a)=>tmps.setIfInBounds t a) l.tmps) l.assign l.body w (RoundPost g h w out h')
structure RecS (P:Program) (gl:Nat→List V) (gs:List Nat) (Yt:Nat→Option YInfo) (rec:Rec):Prop where
 call:CallOK P gl gs Yt rec.call
 ro:RoOK P gl gs Yt rec.ro
 round:RoundOK P gl gs Yt rec.round
def OpPost (g:G) (h:Heap) (w:World) (r:ERef):Ending→World→Prop
 | .returned x,w'=>∃ v g' h',r = .val v h'∧RV g' v x∧Step g h w g' h' w'
 | .panicked ch,w'=>∃ v x g' h',r = .pan v h'∧ch=[{ v:=x,recovered:=false }]∧RV g' v x∧Step g h w g' h' w'
 | .outgrown,_=>False
def OpGood (P:Program) (g:G) (h:Heap) (w:World) (s:Sem Next) (r:ERef):Prop :=
 (∃ v h',r = .val v h'∧EGood P g h w s v h')∨∃ n vs,s.run P w = .ok (.enter n vs) w∧Calls P n vs w (OpPost g h w r)
section
variable {P:Program} {g:G} {h:Heap} {w:World}
theorem OpGood.upon {s:Sem Next} {r:ERef} (hg:OpGood P g h w s r) {o:Oper} {a:Act} {next:Act→World→Prop} {Q:Exit→Act→World→Prop}
  (hn:∀ v h' vv w' g',r = .val v h'→RV g' v vv→Step g h w g' h' w'→next (a.put o.dst vv) w')
  (hp:∀ v h' x w' g',r = .pan v h'→RV g' v x→Step g h w g' h' w'→Q (.panic [{ v:=x,recovered:=false }]) a w') :
  o.upon P a next Q (s.run P w):=by
 rcases hg with ⟨v,h',hr,vv,w',g',hrun,hv,hs⟩ | ⟨n,vs,hrun,hcall⟩
 ·rcases hrun with hrun | ⟨hrun,rfl⟩
  ·rw [hrun]; exact hn _ _ _ _ _ hr hv hs
  ·rw [hrun]; exact hn _ _ undef _ _ hr (.d _ _ (.undef _)) hs
 ·rw [hrun]
  refine hcall.mono fun e w' he => ?_
  cases e with
  | returned x =>
   obtain ⟨v,g',h',hr,hv,hs⟩:=he
   exact hn _ _ _ _ _ hr hv hs
  | panicked ch =>
   obtain ⟨v,x,g',h',hr,rfl,hv,hs⟩:=he
   exact hp _ _ _ _ _ hr hv hs
  | outgrown=>exact he.elim
theorem callsIn_FW {ro:Option Nat} {n:Nat} {f:FuncId} {args:Array Value} {R:Ending→World→Prop} (h:Calls P f args w R):CallsIn (FW ro) n P f args w R :=
 show CallsIn (FW none) n P f args w R from callsIn_wide.2 h
theorem upon_in {ro:Option Nat} {o:Oper} {a:Act} {next:Act→World→Prop} {Q:Exit→Act→World→Prop}:∀ {r:Result Next},o.upon P a next Q r→o.uponIn (FW ro) 0 P a next Q r
 | .ok (.value _) _,h | .ok .skip _,h | .ok (.defer _) _,h | .halt (.panic _) _,h=>h
 | .ok (.enter f args) w',h=>⟨fun e=>by simp [FW,Fence.wide] at e,callsIn_FW h⟩
 | .ok (.row row args) w',h=>⟨fun e=>by simp [FW,Fence.wide] at e,fun c cs _=>by
   obtain ⟨v,w'',hr,hs⟩:=h c cs
   exact ⟨v,w'',hr,stepsIn_wide.2 hs⟩⟩
theorem PGood.op {s:Sem Next} {v:V} (hr:Rep g h w) (hp:PGood P g w s v):OpGood P g h w s (.val v h):=by
 obtain ⟨vv,w',g',hrun,hv,hgr⟩:=hp
 exact .inl ⟨v,h,rfl,vv,w',g',.inl hrun,hv,hgr.step hr⟩
theorem asBytes_spec {cs:List V} {l:List UInt8} (hb:asBytes cs=some l) {xs:List Value} (hx:RVs g cs xs) :
  ∃ ns:List Int,xs=ns.map (Value.int .u8)∧l=ns.map fun n=>UInt8.ofNat n.toNat:=by
 induction cs generalizing l xs with
 | nil=>cases hx; simp [asBytes] at hb; exact ⟨[],rfl,by simp [hb]⟩
 | cons c cs ih =>
  cases hx with
  | cons _ _ x xs hx hxs =>
   cases c <;> first | (simp [asBytes] at hb; done) | skip
   case int k n =>
    cases k <;> first | (simp [asBytes] at hb; done) | skip
    simp only [asBytes,Option.map_eq_some_iff] at hb
    obtain ⟨l',hl',rfl⟩:=hb
    obtain ⟨ns,rfl,rfl⟩:=ih hl' hxs
    obtain rfl:=hx.int_inv
    exact ⟨n :: ns,rfl,rfl⟩
theorem bytes_fold (ns:List Int) (s:ByteArray):ns.foldl (fun r n=>r.push (UInt8.ofNat n.toNat)) s=⟨(s.data.toList++ns.map fun n=>UInt8.ofNat n.toNat).toArray⟩:=by
 induction ns generalizing s with
 | nil=>simp
 | cons n ns ih =>
  simp only [List.foldl_cons,ih,List.map_cons]
  congr 2
  have:(s.push (UInt8.ofNat n.toNat)).data=s.data.push (UInt8.ofNat n.toNat):=rfl
  rw [this]
  simp
theorem b2s_sound (hr:Rep g h w) {x:V} {xv:Value} {k:Nat} {cs:List V} {l:List UInt8} (hx:RV g x xv) (hns:∀ s,x ≠ .str s) (hl:sliceLen x=some k) (hc:sliceCells h x=some cs) (hk:cs.length=k)
  (hb:asBytes cs=some l):∃ a len cap,xv = .slice a len cap∧(Conv.bytesToString xv).run P w = .ok (.string ⟨l.toArray⟩) w:=by
 obtain ⟨hlen,arr,hfc,hrv,_⟩:=firstCells_sound (P:=P) hr (sz:=1) hx hl hc (by omega)
 obtain ⟨ns,hxs,rfl⟩:=asBytes_spec hb hrv
 have hform:∃ a cap,xv = .slice a k cap:=by
  cases x <;> simp only [sliceLen,reduceCtorEq,Option.some.injEq] at hl
  case nils=>subst hl; exact ⟨none,0,hx.nils_inv⟩
  case str s=>exact absurd rfl (hns s)
  case sv es ex=>obtain ⟨a,cap,sz,xs,rfl,_⟩:=hx.sv_inv; exact ⟨a,cap,by rw [hl]⟩
  case sl b off len gen sz ex=>obtain ⟨p,a,cap,rfl,_⟩:=hx.sl_inv; exact ⟨a,cap,by rw [hl]⟩
  case vs cs n sz=>obtain ⟨a,arr,rfl,_⟩:=hx.vs_inv; exact ⟨some a,n,by rw [hl]⟩
 obtain ⟨a,cap,rfl⟩:=hform
 refine ⟨a,k,cap,rfl,?_⟩
 have hf:=hfc w rfl
 cases a with
 | none =>
  simp [Builtin.firstCells] at hf
  have:ns=[]:=by
   have h1:arr.toList=[]:=by rw [hf]
   rw [hxs] at h1
   simpa using h1
  subst this
  simp [Conv.bytesToString]
  rfl
 | some a =>
  have hload:(loadCells a k).run P w = .ok (ns.map (Value.int .u8)).toArray w:=by
   have e1:arr=(ns.map (Value.int .u8)).toArray:=Array.toList_inj.1 (by simpa using hxs)
   rw [← e1]
   simpa [Builtin.firstCells] using hf
  rw [run_bytesToString w a k cap ns hload,bytes_fold]
  simp
section
variable {okO:Operand→Opd→Bool} {f:Opd→V} {ρ:Operand→Value} {o:Oper}
theorem call_run (hρ:∀ x y,okO x y=true→RV g (f y) (ρ x)) {x:Operand} {args ts} (ho:o.op = .call ⟨.value x,args,ts⟩) {x':Opd} {args':List Opd} (h1:okO x x'=true) (h2:okL okO args.toList args'=true)
  {n:Nat} {as:List V} (hc:callee (f x') (args'.map f)=some (n,as)):∃ vs:Array Value,RVs g as vs.toList∧(execOp ρ o).run P w=(callFunc n vs).run P w:=by
 unfold callee at hc
 split at hc
 ·rename_i n' fi ca hf
  cases hc
  obtain ⟨fi',ca',hx,hfi,hca⟩:=(hf ▸ hρ _ _ h1).func_inv
  refine ⟨fi'++args.map ρ++ca',?_,?_⟩
  ·simp only [Array.toList_append,Array.toList_map]
   exact (hfi.append (okL_rvs hρ _ _ h2)).append hca
  ·simp [execOp,ho,resolve,hx,Deferred.ofValue,invoke]
 ·cases hc
theorem ecallF_good {gl:Nat→List V} {gs:List Nat} {Yt:Nat→Option YInfo} {rec:Rec} (hrec:CallOK P gl gs Yt rec.call) (hr:Rep g h w) (hgl:GlOk gl gs g.M) (hY:g.Y=Yt) {fv:V} {args:List V} {n:Nat} {as:List V} (hc:callee fv args=some (n,as))
  {vs:Array Value} (hvs:RVs g as vs.toList) {s:Sem Next} (hrun:s.run P w=(callFunc n vs).run P w) {fz:Bool} {r:ERef} (hv:ecallF rec h fz fv args=some r):OpGood P g h w s r:=by
 unfold ecallF at hv
 rw [hc] at hv
 simp only at hv
 split at hv
 ·rename_i v h' hcall
  obtain ⟨hent,hsound⟩:=hrec _ _ _ _ _ hcall
  refine .inr ⟨n,vs,by rw [hrun,hent],(hsound g w vs hr hgl hY hvs).mono fun e w' he => ?_⟩
  cases e with
  | outgrown=>exact he
  | panicked ch=>obtain ⟨_,_,_,hh,_⟩:=he; cases hh
  | returned x =>
   obtain ⟨v',g',hh,hv',hs⟩:=he
   cases hh
   split at hv
   ·split at hv
    ·rename_i hcond
     simp only [Option.map_eq_some_iff] at hv
     obtain ⟨v2,hview,rfl⟩:=hv
     have hcut:=Step.cut hr hs hcond.1 hcond.2
     exact ⟨v2,_,_,rfl,.d _ _ (viewW_rd hs.rep hv' hview),hcut⟩
    ·cases hv
   ·cases hv
    exact ⟨v,g',h',rfl,hv',hs⟩
 ·rename_i v h' hcall
  cases hv
  obtain ⟨hent,hsound⟩:=hrec _ _ _ _ _ hcall
  refine .inr ⟨n,vs,by rw [hrun,hent],(hsound g w vs hr hgl hY hvs).mono fun e w' he => ?_⟩
  cases e with
  | outgrown=>exact he
  | returned x=>obtain ⟨_,_,hh,_⟩:=he; cases hh
  | panicked ch =>
   obtain ⟨v',x,g',hh,rfl,hv',hs⟩:=he
   cases hh
   exact ⟨v,x,g',h',rfl,rfl,hv',hs⟩
 ·cases hv
theorem call_sound {gl:Nat→List V} {gs:List Nat} {Yt:Nat→Option YInfo} {rec:Rec} (hrec:CallOK P gl gs Yt rec.call) (hr:Rep g h w) (hgl:GlOk gl gs g.M) (hY:g.Y=Yt) (hρ:∀ x y,okO x y=true→RV g (f y) (ρ x))
  {x:Operand} {args ts} (ho:o.op = .call ⟨.value x,args,ts⟩) {x':Opd} {args':List Opd} (h1:okO x x'=true) (h2:okL okO args.toList args'=true) {fz:Bool} {r:ERef} (hv:ecallF rec h fz (f x') (args'.map f)=some r) :
  OpGood P g h w (execOp ρ o) r:=by
 have hcl:∃ n as,callee (f x') (args'.map f)=some (n,as):=by
  unfold ecallF at hv
  split at hv
  ·rename_i n as hc; exact ⟨n,as,hc⟩
  ·cases hv
 obtain ⟨n,as,hc⟩:=hcl
 obtain ⟨vs,hvs,hrun⟩:=call_run (P:=P) (w:=w) hρ ho h1 h2 hc
 exact ecallF_good hrec hr hgl hY hc hvs hrun hv
theorem inv_run (hρ:∀ x y,okO x y=true→RV g (f y) (ρ x)) {x:Operand} {name:String} {args ts} (ho:o.op = .call ⟨.invoke x name,args,ts⟩) {x':Opd} {args':List Opd} {tbl:List (Nat×Nat)} (h1:okO x x'=true) (h2:okL okO args.toList args'=true) (h3:(tbl.all fun (t,n)=>methOk P name t n)=true)
  {fv:V} (hm:methV tbl (f x')=some fv) {n:Nat} {as:List V} (hc:callee fv (args'.map f)=some (n,as)):∃ vs:Array Value,RVs g as vs.toList∧(execOp ρ o).run P w=(callFunc n vs).run P w:=by
 unfold methV at hm
 split at hm
 case h_2=>cases hm
 rename_i t v hf
 simp only [Option.map_eq_some_iff] at hm
 obtain ⟨n',hl,rfl⟩:=hm
 simp only [callee,Option.some.injEq,Prod.mk.injEq] at hc
 obtain ⟨rfl,rfl⟩:=hc
 obtain ⟨v',hx,hv'⟩:=(hf ▸ hρ _ _ h1).iface_inv
 refine ⟨#[v']++args.map ρ,?_,?_⟩
 ·simp only [Array.toList_append,Array.toList_map,List.append_nil]
  exact RVs.append (.cons _ _ _ _ hv' .nil) (okL_rvs hρ _ _ h2)
 ·have hmo:=List.all_eq_true.1 h3 _ (lookN_mem hl)
  have hrm:=fun k=>run_method (P:=P) (w:=w) hmo k v'
  have hfuel:∃ k,P.types.size+Made.depth=k+1:=⟨P.types.size+Made.depth - 1,by simp [Made.depth]⟩
  obtain ⟨k,hk⟩:=hfuel
  have h0:(#[Value.iface t v']++Array.map ρ args)[0]?=some (.iface t v'):=by rw [Array.getElem?_append_left (by simp)]; rfl
  have hext:(#[Value.iface t v']++args.map ρ).extract 1 (#[Value.iface t v']++args.map ρ).size=args.map ρ:=by
   apply Array.ext'
   simp
   exact List.take_of_length_le (by simp)
  simp only [execOp,ho,resolve,hx,Sem.run_bind,Sem.run_pure,Result.andThen_ok,invoke,h0,callMethod,run_program,hk,hrm,hext]
theorem inv_sound {gl:Nat→List V} {gs:List Nat} {Yt:Nat→Option YInfo} {rec:Rec} (hrec:CallOK P gl gs Yt rec.call) (hr:Rep g h w) (hgl:GlOk gl gs g.M) (hY:g.Y=Yt) (hρ:∀ x y,okO x y=true→RV g (f y) (ρ x))
  {x:Operand} {name:String} {args ts} (ho:o.op = .call ⟨.invoke x name,args,ts⟩) {x':Opd} {args':List Opd} {tbl:List (Nat×Nat)} (h1:okO x x'=true) (h2:okL okO args.toList args'=true) (h3:(tbl.all fun (t,n)=>methOk P name t n)=true)
  {fz:Bool} {r:ERef} {fv:V} (hm:methV tbl (f x')=some fv) (hv:ecallF rec h fz fv (args'.map f)=some r) :
  OpGood P g h w (execOp ρ o) r:=by
 have hcl:∃ n as,callee fv (args'.map f)=some (n,as):=by
  unfold ecallF at hv
  split at hv
  ·rename_i n as hc; exact ⟨n,as,hc⟩
  ·cases hv
 obtain ⟨n,as,hc⟩:=hcl
 obtain ⟨vs,hvs,hrun⟩:=inv_run (P:=P) (w:=w) hρ ho h1 h2 h3 hm hc
 exact ecallF_good hrec hr hgl hY hc hvs hrun hv
theorem mtv_run (hρ:∀ x y,okO x y=true→RV g (f y) (ρ x)) {y:Operand} {args ts} (ho:o.op = .call ⟨.value y,args,ts⟩) {fn x':Opd} {args':List Opd} {tbl:List (Nat×Nat)} {t0:Nat} {nm:String} (h0:okO y fn=true) (h2:okL okO args.toList (x' :: args')=true)
  (hi:∃ ms,P.underlying t0=some (.interface ms)) (h3:(tbl.all fun (t,n)=>methOk P nm t n)=true) (hfn:f fn = .func (.methodOf t0 nm) [] [])
  {fv:V} (hm:methV tbl (f x')=some fv) {n:Nat} {as:List V} (hc:callee fv (args'.map f)=some (n,as)):∃ vs:Array Value,RVs g as vs.toList∧(execOp ρ o).run P w=(callFunc n vs).run P w:=by
 unfold methV at hm
 split at hm
 case h_2=>cases hm
 rename_i t v hf
 simp only [Option.map_eq_some_iff] at hm
 obtain ⟨n',hl,rfl⟩:=hm
 simp only [callee,Option.some.injEq,Prod.mk.injEq] at hc
 obtain ⟨rfl,rfl⟩:=hc
 have hrv:=okL_rvs hρ _ _ h2
 obtain ⟨rest,hrest⟩:∃ rest:List Value,∃ w0,args.toList.map ρ=w0 :: rest∧RV g (f x') w0∧RVs g (args'.map f) rest:=by
  generalize args.toList.map ρ=l at hrv
  cases hrv with
  | cons _ _ w0 rest h1 h2=>exact ⟨rest,w0,rfl,h1,h2⟩
 obtain ⟨w0,hargs,hw0,hrest⟩:=hrest
 obtain ⟨v',rfl,hv'⟩:=(hf ▸ hw0).iface_inv
 obtain ⟨fi',ca',hx,hfi,hca⟩:=(hfn ▸ hρ _ _ h0).func_inv
 have hfi0:fi' = #[]:=by
  cases hfi0:fi'.toList with
  | nil=>exact Array.toList_eq_nil_iff.1 hfi0
  | cons a l=>rw [hfi0] at hfi; cases hfi
 have hca0:ca' = #[]:=by
  cases hca0:ca'.toList with
  | nil=>exact Array.toList_eq_nil_iff.1 hca0
  | cons a l=>rw [hca0] at hca; cases hca
 subst hfi0 hca0
 have hA:args.map ρ = #[Value.iface t v']++rest.toArray:=by
  apply Array.ext'
  simp [hargs]
 refine ⟨#[v']++rest.toArray,?_,?_⟩
 ·simp only [Array.toList_append,List.append_nil]
  exact RVs.append (.cons _ _ _ _ hv' .nil) hrest
 ·obtain ⟨ms,hi⟩:=hi
  have hmo:=List.all_eq_true.1 h3 _ (lookN_mem hl)
  have hrm:=fun k=>run_method (P:=P) (w:=w) hmo k v'
  have hfuel:∃ k,P.types.size+Made.depth=k+1:=⟨P.types.size+Made.depth - 1,by simp [Made.depth]⟩
  obtain ⟨k,hk⟩:=hfuel
  have h0:(#[Value.iface t v']++rest.toArray)[0]?=some (.iface t v'):=by rw [Array.getElem?_append_left (by simp)]; rfl
  have hext:(#[Value.iface t v']++rest.toArray).extract 1 (#[Value.iface t v']++rest.toArray).size=rest.toArray:=by
   apply Array.ext'
   simp
  have hE:(#[]:Array Value)++(#[Value.iface t v']++rest.toArray) = #[Value.iface t v']++rest.toArray:=Array.empty_append
  simp only [execOp,ho,resolve,hx,Deferred.ofValue,hA,hE,Sem.run_bind,Sem.run_pure,Result.andThen_ok,invoke,h0,run_underlying hi,callMethod,run_program,hk,hrm,hext]
theorem mtv_sound {gl:Nat→List V} {gs:List Nat} {Yt:Nat→Option YInfo} {rec:Rec} (hrec:CallOK P gl gs Yt rec.call) (hr:Rep g h w) (hgl:GlOk gl gs g.M) (hY:g.Y=Yt) (hρ:∀ x y,okO x y=true→RV g (f y) (ρ x))
  {y:Operand} {args ts} (ho:o.op = .call ⟨.value y,args,ts⟩) {fn x':Opd} {args':List Opd} {tbl:List (Nat×Nat)} {t0:Nat} {nm:String} (h0:okO y fn=true) (h2:okL okO args.toList (x' :: args')=true)
  (hi:∃ ms,P.underlying t0=some (.interface ms)) (h3:(tbl.all fun (t,n)=>methOk P nm t n)=true) (hfn:f fn = .func (.methodOf t0 nm) [] [])
  {fz:Bool} {r:ERef} {fv:V} (hm:methV tbl (f x')=some fv) (hv:ecallF rec h fz fv (args'.map f)=some r) :
  OpGood P g h w (execOp ρ o) r:=by
 have hcl:∃ n as,callee fv (args'.map f)=some (n,as):=by
  unfold ecallF at hv
  split at hv
  ·rename_i n as hc; exact ⟨n,as,hc⟩
  ·cases hv
 obtain ⟨n,as,hc⟩:=hcl
 obtain ⟨vs,hvs,hrun⟩:=mtv_run (P:=P) (w:=w) hρ ho h0 h2 hi h3 hfn hm hc
 exact ecallF_good hrec hr hgl hY hc hvs hrun hv
def Ref.at (h:Heap):Ref→ERef
 | .val v => .val v h
 | .pan v => .pan v h
theorem pcall_sound {gl:Nat→List V} {gs:List Nat} {Yt:Nat→Option YInfo} {rec:Rec} (hrec:CallOK P gl gs Yt rec.call) (hr:Rep g h w) (hgl:GlOk gl gs g.M) (hY:g.Y=Yt) (hρ:∀ x y,okO x y=true→RV g (f y) (ρ x))
  {x:Operand} {args ts} (ho:o.op = .call ⟨.value x,args,ts⟩) {x':Opd} {args':List Opd} (h1:okO x x'=true) (h2:okL okO args.toList args'=true) {r:Ref} (hv:pcall rec (f x') (args'.map f)=some r) :
  OpGood P g h w (execOp ρ o) (r.at h):=by
 unfold pcall at hv
 split at hv
 ·rename_i n as hc
  obtain ⟨vs,hvs,hrun⟩:=call_run (P:=P) (w:=w) hρ ho h1 h2 hc
  split at hv
  ·rename_i hpure
   have hvs':RVs g.pure as vs.toList:=(hvs.toRDs hpure).rvs (g:=g.pure)
   split at hv
   ·rename_i v h' hcall
    obtain ⟨hent,hsound⟩:=hrec _ _ _ _ _ hcall
    refine .inr ⟨n,vs,by rw [hrun,hent],(hsound g.pure w vs hr.pure hgl hY hvs').mono fun e w' he => ?_⟩
    cases e with
    | outgrown=>exact he
    | panicked ch=>obtain ⟨_,_,_,hh,_⟩:=he; cases hh
    | returned x =>
     obtain ⟨v',g',hh,hv',hs⟩:=he
     cases hh
     simp only [Option.map_eq_some_iff] at hv
     obtain ⟨v2,hview,rfl⟩:=hv
     exact ⟨v2,_,_,rfl,.d _ _ (viewW_rd hs.rep hv' hview),Step.back hr hs⟩
   ·rename_i v h' hcall
    split at hv
    ·rename_i hpv
     cases hv
     obtain ⟨hent,hsound⟩:=hrec _ _ _ _ _ hcall
     refine .inr ⟨n,vs,by rw [hrun,hent],(hsound g.pure w vs hr.pure hgl hY hvs').mono fun e w' he => ?_⟩
     cases e with
     | outgrown=>exact he
     | returned x=>obtain ⟨_,_,hh,_⟩:=he; cases hh
     | panicked ch =>
      obtain ⟨v',x,g',hh,rfl,hv',hs⟩:=he
      cases hh
      exact ⟨v,x,_,h,rfl,rfl,.d _ _ ((hv'.toRD hpv).mono (seen_le hs.rep 0)),Step.back hr hs⟩
    ·cases hv
   ·cases hv
  ·cases hv
 ·cases hv
theorem bcall_sound {gl:Nat→List V} {gs:List Nat} {Yt:Nat→Option YInfo} {rec:Rec} (hrec:CallOK P gl gs Yt rec.call) (hr:Rep g h w) (hgl:GlOk gl gs g.M) (hY:g.Y=Yt) (hρ:∀ x y,okO x y=true→RV g (f y) (ρ x))
  {x:Operand} {args ts} (ho:o.op = .call ⟨.value x,args,ts⟩) {x':Opd} {args':List Opd} (h1:okO x x'=true) (h2:okL okO args.toList args'=true) {r:Ref} (hv:bcall rec h (f x') (args'.map f)=some r) :
  OpGood P g h w (execOp ρ o) (r.at h):=by
 unfold bcall at hv
 split at hv
 ·rename_i n as hc
  obtain ⟨vs,hvs,hrun⟩:=call_run (P:=P) (w:=w) hρ ho h1 h2 hc
  split at hv
  ·rename_i as' hview
   have hvs':RVs ⟨g.seen h w 0,fun _ _=>none,g.Y⟩ as' vs.toList:=(views_rd hr hvs hview).rvs (g:=⟨g.seen h w 0,fun _ _=>none,g.Y⟩)
   have hgl':GlOk gl gs (g.seen h w 0):=hgl.mono (seen_le hr 0)
   split at hv
   ·rename_i v h' hcall
    split at hv
    ·rename_i hpl
     cases hv
     obtain ⟨hent,hsound⟩:=hrec _ _ _ _ _ hcall
     refine .inr ⟨n,vs,by rw [hrun,hent],(hsound _ w vs hr.lent hgl' hY hvs').mono fun e w' he => ?_⟩
     cases e with
     | outgrown=>exact he
     | panicked ch=>obtain ⟨_,_,_,hh,_⟩:=he; cases hh
     | returned x =>
      obtain ⟨v',g',hh,hv',hs⟩:=he
      cases hh
      exact ⟨v,g,h,rfl,hv'.plain hpl,Step.given hr hs⟩
    ·cases hv
   ·rename_i v h' hcall
    split at hv
    ·rename_i hpl
     cases hv
     obtain ⟨hent,hsound⟩:=hrec _ _ _ _ _ hcall
     refine .inr ⟨n,vs,by rw [hrun,hent],(hsound _ w vs hr.lent hgl' hY hvs').mono fun e w' he => ?_⟩
     cases e with
     | outgrown=>exact he
     | returned x=>obtain ⟨_,_,hh,_⟩:=he; cases hh
     | panicked ch =>
      obtain ⟨v',x,g',hh,rfl,hv',hs⟩:=he
      cases hh
      exact ⟨v,x,g,h,rfl,rfl,hv'.plain hpl,Step.given hr hs⟩
    ·cases hv
   ·cases hv
  ·cases hv
 ·cases hv
theorem rocall_sound {gl:Nat→List V} {gs:List Nat} {Yt:Nat→Option YInfo} {rec:Rec} (hrec:RoOK P gl gs Yt rec.ro) (hr:Rep g h w) (hgl:GlOk gl gs g.M) (hY:g.Y=Yt) (hρ:∀ x y,okO x y=true→RV g (f y) (ρ x))
  {x:Operand} {args ts} (ho:o.op = .call ⟨.value x,args,ts⟩) {x':Opd} {args':List Opd} (h1:okO x x'=true) (h2:okL okO args.toList args'=true) {r:Ref} (hv:rocall rec h (f x') (args'.map f)=some r) :
  OpGood P g h w (execOp ρ o) (r.at h):=by
 unfold rocall at hv
 split at hv
 ·rename_i n as hc
  obtain ⟨vs,hvs,hrun⟩:=call_run (P:=P) (w:=w) hρ ho h1 h2 hc
  split at hv
  ·rename_i v hcall
   cases hv
   obtain ⟨hent,hsound⟩:=hrec _ _ _ _ hcall
   refine .inr ⟨n,vs,by rw [hrun,hent],(hsound g w vs hr hgl hY hvs).mono fun e w' he => ?_⟩
   cases e with
   | outgrown=>exact he
   | panicked ch=>obtain ⟨_,_,_,hh,_⟩:=he; cases hh
   | returned x =>
    obtain ⟨v',g',hh,hv',hs⟩:=he
    cases hh
    exact ⟨v,g',h,rfl,hv',hs⟩
  ·rename_i v hcall
   cases hv
   obtain ⟨hent,hsound⟩:=hrec _ _ _ _ hcall
   refine .inr ⟨n,vs,by rw [hrun,hent],(hsound g w vs hr hgl hY hvs).mono fun e w' he => ?_⟩
   cases e with
   | outgrown=>exact he
   | returned x=>obtain ⟨_,_,hh,_⟩:=he; cases hh
   | panicked ch =>
    obtain ⟨v',x,g',hh,rfl,hv',hs⟩:=he
    cases hh
    exact ⟨v,x,g',h,rfl,rfl,hv',hs⟩
  ·cases hv
 ·cases hv
theorem ycall_sound {gl:Nat→List V} {gs:List Nat} {Yt:Nat→Option YInfo} {rec:Rec} (hrec:RoundOK P gl gs Yt rec.round) (hr:Rep g h w) (hgl:GlOk gl gs g.M) (hY:g.Y=Yt) (hρ:∀ x y,okO x y=true→RV g (f y) (ρ x))
  {x:Operand} {args ts} (ho:o.op = .call ⟨.value x,args,ts⟩) {x':Opd} {args':List Opd} (h1:okO x x'=true) (h2:okL okO args.toList args'=true) {b:Nat} (hb:f x' = .yf b) {r:ERef} (hv:ycall rec h b (args'.map f)=some r) :
  ∃ l fn tmps assign body,(execOp ρ o).run P w = .ok (.round l fn tmps assign body) w∧RoundIn (FW none) 0 P l fn tmps assign body w (OpPost g h w r):=by
 unfold ycall at hv
 split at hv
 ·rename_i y fi pd hob
  obtain ⟨p,hx,hp⟩:=(hb ▸ hρ _ _ h1).yf_inv
  obtain ⟨p',hp',hm,l,hh,hl⟩:=hr.obj b _ hob
  rw [hp] at hp'
  cases hp'
  have hvs:RVs g (args'.map f) (args.map ρ).toList:=by
   rw [Array.toList_map]
   exact okL_rvs hρ _ _ h2
  cases hrd:rec.round y b (fi++args'.map f) h with
  | none=>simp [hrd] at hv
  | some q =>
   obtain ⟨out,h'⟩:=q
   obtain ⟨hsz,hround⟩:=hrec _ _ _ _ _ _ hrd fi pd _ hob rfl g w p l (args.map ρ) hr hgl hY hp hh hl hvs
   refine ⟨p.blk,l.fn,_,l.assign,l.body,?_,hround.mono fun e w' he => ?_⟩
   ·simp [execOp,ho,resolve,hx,Deferred.ofValue,invoke,run_yield hh hsz]
   ·cases e with
    | outgrown=>exact he
    | returned x =>
     obtain ⟨hne,rfl,g',hs⟩:=he
     cases out with
     | pan v=>exact absurd rfl (hne v)
     | norm=>simp only [hrd,Option.some.injEq] at hv; subst hv; exact ⟨_,g',h',rfl,.d _ _ (.bool _),hs⟩
     | ret=>simp only [hrd,Option.some.injEq] at hv; subst hv; exact ⟨_,g',h',rfl,.d _ _ (.bool _),hs⟩
     | exit i=>simp only [hrd,Option.some.injEq] at hv; subst hv; exact ⟨_,g',h',rfl,.d _ _ (.bool _),hs⟩
    | panicked ch =>
     obtain ⟨v,x,g',rfl,rfl,hv',hs⟩:=he
     simp only [hrd,Option.some.injEq] at hv
     subst hv
     exact ⟨v,x,g',h',rfl,rfl,hv',hs⟩
 ·cases hv
theorem lop_sound {gl:Nat→List V} {gs:List Nat} {Yt:Nat→Option YInfo} {rec:Rec} (hrec:CallOK P gl gs Yt rec.call) (hro:RoOK P gl gs Yt rec.ro) (hr:Rep g h w) (hgl:GlOk gl gs g.M) (hY:g.Y=Yt) (hρ:∀ x y,okO x y=true→RV g (f y) (ρ x)) {l:LOp} {r:Ref}
  (hc:chkL P okO o.op l=true) (hv:lopV rec h f l=some r):OpGood P g h w (execOp ρ o) (r.at h):=by
 cases l with
 | load a size ag =>
  cases ho:o.op <;> simp only [chkL,ho,Bool.false_eq_true] at hc
  case load t x =>
   simp only [Bool.and_eq_true] at hc
   simp only [lopV,Option.map_eq_some_iff] at hv
   obtain ⟨v,hv,rfl⟩:=hv
   obtain ⟨ad,hx,vv,hrun,hvv⟩:=load_sound (P:=P) hr hc.2 (hρ _ _ hc.1) hv
   exact .inl ⟨v,h,rfl,vv,w,g,.inl (by simp [execOp,ho,Instr.loadAt,Instr.sureAddr,hx,hrun]),hvv,Step.refl hr⟩
 | b2s x =>
  cases ho:o.op <;> simp only [chkL,ho,Bool.false_eq_true] at hc
  case convert s d y =>
   simp only [Bool.and_eq_true] at hc
   obtain ⟨h1,h2⟩:=hc
   split at h2
   ·rename_i e hs hd
    split at h2
    ·rename_i he
     simp only [lopV] at hv
     split at hv
     ·rename_i k cs hl hcells
      split at hv
      ·cases hv
      ·rename_i hns
       split at hv
       ·rename_i hk
        simp only [Option.map_eq_some_iff] at hv
        obtain ⟨l,hb,rfl⟩:=hv
        obtain ⟨a,len,cap,hx,hrun⟩:=b2s_sound (P:=P) hr (hρ _ _ h1) (fun s hss=>hns s hss) hl hcells hk hb
        refine .inl ⟨_,h,rfl,_,w,g,.inl ?_,.d _ _ (.str _),Step.refl hr⟩
        rw [hx] at hrun
        simp [execOp,ho,hx,run_convert_bytes_string w s d e a len cap hs he hd,hrun]
       ·cases hv
     ·cases hv
    ·cases h2
   ·cases h2
 | borrow fn args =>
  cases ho:o.op <;> simp only [chkL,ho,Bool.false_eq_true] at hc
  case call c =>
   obtain ⟨cl,args',ts⟩:=c
   cases cl <;> simp only [chkL,Bool.false_eq_true] at hc
   case value x =>
    simp only [Bool.and_eq_true] at hc
    exact bcall_sound hrec hr hgl hY hρ ho hc.1 hc.2 hv
 | ro fn args =>
  cases ho:o.op <;> simp only [chkL,ho,Bool.false_eq_true] at hc
  case call c =>
   obtain ⟨cl,args',ts⟩:=c
   cases cl <;> simp only [chkL,Bool.false_eq_true] at hc
   case value x =>
    simp only [Bool.and_eq_true] at hc
    exact rocall_sound hro hr hgl hY hρ ho hc.1 hc.2 hv
 | look st ks m k ok zero =>
  cases ho:o.op <;> simp only [chkL,ho,Bool.false_eq_true] at hc
  case lookup t x y ok' =>
   simp only [Bool.and_eq_true,beq_iff_eq] at hc
   obtain ⟨⟨⟨h1,h2⟩,rfl⟩,h4⟩:=hc
   simp only [lopV,Option.map_eq_some_iff] at hv
   obtain ⟨v,hv,rfl⟩:=hv
   split at h4
   ·rename_i kt e hu
    simp only [Bool.and_eq_true] at h4
    obtain ⟨vv,hrun,hvv⟩:=look_run (P:=P) hr hu h4.1 h4.2 (hρ _ _ h1) (hρ _ _ h2) hv
    exact .inl ⟨v,h,rfl,vv,w,g,.inl (by simp [execOp,ho,hrun]),hvv,Step.refl hr⟩
   ·cases h4
 | eqp neg x' y' =>
  cases ho:o.op <;> simp [chkL,ho] at hc
  case binOp op t x y yt =>
   obtain ⟨⟨⟨hop,h1⟩,h2⟩,h3⟩:=hc
   simp only [lopV,Option.map_eq_some_iff] at hv
   obtain ⟨b,hv,rfl⟩:=hv
   have heq:=eq_ptr (P:=P) hr h3 (hρ _ _ h1) (hρ _ _ h2) hv 9999
   obtain ⟨e,i,hu,_,_⟩:=leaf_ptr h3
   refine .inl ⟨_,h,rfl,.bool (b != neg),w,g,.inl ?_,.d _ _ (.bool _),Step.refl hr⟩
   have hform:∀ {v v':V} {z z':Value},RV g v z→RV g v' z'→samePtr h v v'=some b→(∃ a a',z = .pointer a∧z' = .pointer a'):=by
    intro v v' z z' hz hz' hs
    unfold samePtr at hs
    split at hs
    ·obtain ⟨p,_,rfl⟩:=hz.ref_inv
     obtain ⟨p',_,rfl⟩:=hz'.ref_inv
     exact ⟨_,_,rfl,rfl⟩
    ·obtain rfl:=hz.nilp_inv
     obtain rfl:=hz'.nilp_inv
     exact ⟨_,_,rfl,rfl⟩
    ·obtain rfl:=hz.nilp_inv
     obtain ⟨p',_,rfl⟩:=hz'.ref_inv
     exact ⟨_,_,rfl,rfl⟩
    ·obtain ⟨p',_,rfl⟩:=hz.ref_inv
     obtain rfl:=hz'.nilp_inv
     exact ⟨_,_,rfl,rfl⟩
    ·cases hs
   obtain ⟨a,a',ex,ey⟩:=hform (hρ _ _ h1) (hρ _ _ h2) hv
   rw [ex,ey] at heq
   have hg:(eqGuard op t x y (.pointer a) (.pointer a')).run P w = .ok () w:=by
    cases op <;> simp [eqGuard]
   simp only [execOp,ho,ex,ey,Sem.run_bind,hg,Result.andThen_ok,eqv_run hop heq ⟨rfl,rfl⟩,Sem.run_pure]
end
end
structure Cx where
 P:Program
 gl:Nat→List V
 gs:List Nat
 slots:List Nat
 prom:List Bool
 nt:Nat
 g0:G
 h0:Heap
 w0:World
 fn:FuncId:=0
 root:Code:=.skip
 tab:Nat→Option (FuncId×List Bool×List Nat):=fun _=>none
def Cx.pr (cx:Cx) (s:Nat):Bool:=cx.prom.getD s false
def PromR (g:G) (h:Heap) (w:World) (n0 blk:Nat) (v:V) (x:Value):Prop :=
 x = .pointer (some ⟨blk,0,none⟩)∧n0≤blk∧g.M blk=none∧¬ Live g h blk∧∃ arr e lo hi,w.heap[blk]?=some (.cells arr e (lo,hi))∧(∀ i,i<arr.size→¬ (lo≤i∧i<hi)) ∧
  RVs g (cellsV v) arr.toList∧∀ u∈arr.toList,u.oneCell'=true
structure SlR (cx:Cx) (sl:List V) (g:G) (h:Heap) (w:World) (tmps:Array Value):Prop where
 len:sl.length=cx.slots.length
 size:tmps.size=cx.nt
 val:∀ s t v,cx.slots[s]?=some t→sl[s]?=some v→cx.pr s=false→RV g v (tmps.getD t undef)
 prm:∀ s t v,cx.slots[s]?=some t→sl[s]?=some v→cx.pr s=true→v ≠ .undef→∃ blk,PromR g h w cx.w0.heap.size blk v (tmps.getD t undef)
 one:∀ s s' t t' v v' blk,cx.slots[s]?=some t→cx.slots[s']?=some t'→sl[s]?=some v→sl[s']?=some v'→cx.pr s=true→cx.pr s'=true→v ≠ .undef→v' ≠ .undef →
  tmps.getD t undef = .pointer (some ⟨blk,0,none⟩)→tmps.getD t' undef = .pointer (some ⟨blk,0,none⟩)→s=s'
section
variable {cx:Cx} {sl:List V} {g g':G} {h h':Heap} {w w':World} {tmps:Array Value}
theorem PromR.step {n0 blk:Nat} {v:V} {x:Value} (hp:PromR g h w n0 blk v x) (hs:Step g h w g' h' w'):PromR g' h' w' n0 blk v x:=by
 obtain ⟨h1,h2,h3,h4,arr,e,lo,hi,h5,h6,h7,h8⟩:=hp
 have hlt:blk<w.heap.size:=(Array.getElem?_eq_some_iff.1 h5).1
 refine ⟨h1,h2,?_,fun hl => ?_,arr,e,lo,hi,by rw [hs.fr.block blk hlt h4]; exact h5,h6,h7.mono hs.le,h8⟩
 ·cases hM:g'.M blk with
  | none=>rfl
  | some a =>
   rcases hs.newM blk a hM with h' | h' | h'
   ·rw [h3] at h'; cases h'
   ·omega
   ·exact (h4 h').elim
 ·rcases hs.newL blk hl with h' | h'
  ·exact h4 h'
  ·omega
theorem SlR.step (hr:SlR cx sl g h w tmps) (hs:Step g h w g' h' w'):SlR cx sl g' h' w' tmps :=
 ⟨hr.len,hr.size,fun s t v h1 h2 h3=>(hr.val s t v h1 h2 h3).mono hs.le,fun s t v h1 h2 h3 h4=>let ⟨blk,hp⟩:=hr.prm s t v h1 h2 h3 h4; ⟨blk,hp.step hs⟩,hr.one⟩
theorem getD_put {d t:Nat} (v:Value) (h:d≠t):(tmps.setIfInBounds d v).getD t undef=tmps.getD t undef:=by
 simp [Array.getElem?_setIfInBounds_ne h]
theorem getD_put_same {d:Nat} (v:Value) (h:d<tmps.size):(tmps.setIfInBounds d v).getD d undef=v:=by
 simp [h]
theorem SlR.put (hr:SlR cx sl g h w tmps) {d:Nat} (hd:d ∉ cx.slots) (v:Value):SlR cx sl g h w (tmps.setIfInBounds d v):=by
 have hne:∀ s t,cx.slots[s]?=some t→(tmps.setIfInBounds d v).getD t undef=tmps.getD t undef:=fun s t hs=>getD_put v (fun e=>hd (e ▸ List.mem_of_getElem? hs))
 refine ⟨hr.len,by simp [hr.size],fun s t u h1 h2 h3 => ?_,fun s t u h1 h2 h3 h4 => ?_,fun s s' t t' u u' blk h1 h2 h3 h4 h5 h6 h7 h8 h9 h10 => ?_⟩
 ·rw [hne s t h1]; exact hr.val s t u h1 h2 h3
 ·rw [hne s t h1]; exact hr.prm s t u h1 h2 h3 h4
 ·rw [hne s t h1] at h9; rw [hne s' t' h2] at h10; exact hr.one s s' t t' u u' blk h1 h2 h3 h4 h5 h6 h7 h8 h9 h10
theorem nodup_ne {l:List Nat} (hn:l.Nodup) {s s' t t':Nat} (h1:l[s]?=some t) (h2:l[s']?=some t') (hne:s≠s'):t≠t':=by
 intro e
 subst e
 obtain ⟨a1,a2⟩:=List.getElem?_eq_some_iff.1 h1
 obtain ⟨b1,b2⟩:=List.getElem?_eq_some_iff.1 h2
 exact hne ((List.getElem_inj hn).1 (a2.trans b2.symm))
theorem set_get {sl:List V} {s i:Nat} {v u:V} (h:(sl.set s v)[i]?=some u):(i=s∧u=v)∨(i≠s∧sl[i]?=some u):=by
 by_cases hi:s=i
 ·subst hi
  have hlt:s<sl.length:=by
   have:=(List.getElem?_eq_some_iff.1 h).1
   simpa using this
  rw [List.getElem?_set_self hlt] at h
  exact .inl ⟨rfl,by simpa using h.symm⟩
 ·rw [List.getElem?_set_ne hi] at h
  exact .inr ⟨fun e=>hi e.symm,h⟩
theorem SlR.setSlot (hn:cx.slots.Nodup) (hr:SlR cx sl g h w tmps) {s d:Nat} (hs:cx.slots[s]?=some d) (hp:cx.pr s=false) (hd:d<cx.nt) {v:V} {x:Value} (hv:RV g v x):SlR cx (sl.set s v) g h w (tmps.setIfInBounds d x):=by
 have hne:∀ s' t,s'≠s→cx.slots[s']?=some t→(tmps.setIfInBounds d x).getD t undef=tmps.getD t undef:=fun s' t hss ht=>getD_put x (fun e=>nodup_ne hn ht hs hss e.symm)
 have hps:∀ s',cx.pr s'=true→s'≠s:=fun s' h1 h2=>by rw [h2,hp] at h1; cases h1
 refine ⟨by simp [hr.len],by simp [hr.size],fun s' t u h1 h2 h3 => ?_,fun s' t u h1 h2 h3 h4 => ?_,fun s1 s2 t t' u u' blk h1 h2 h3 h4 h5 h6 h7 h8 h9 h10 => ?_⟩
 ·rcases set_get h2 with ⟨rfl,rfl⟩ | ⟨hss,h2'⟩
  ·rw [hs] at h1; cases h1
   rw [getD_put_same x (by rw [hr.size]; exact hd)]
   exact hv
  ·rw [hne s' t hss h1]; exact hr.val s' t u h1 h2' h3
 ·rcases set_get h2 with ⟨rfl,rfl⟩ | ⟨hss,h2'⟩
  ·exact absurd rfl (hps _ h3)
  ·rw [hne s' t hss h1]; exact hr.prm s' t u h1 h2' h3 h4
 ·rcases set_get h3 with ⟨rfl,rfl⟩ | ⟨ha,h3'⟩
  ·exact absurd rfl (hps _ h5)
  ·rcases set_get h4 with ⟨rfl,rfl⟩ | ⟨hb,h4'⟩
   ·exact absurd rfl (hps _ h6)
   ·rw [hne _ _ ha h1] at h9; rw [hne _ _ hb h2] at h10
    exact hr.one s1 s2 t t' u u' blk h1 h2 h3' h4' h5 h6 h7 h8 h9 h10
theorem SlR.drop (hr:SlR cx sl g h w tmps) (s:Nat):SlR cx (sl.set s .undef) g h w tmps:=by
 refine ⟨by simp [hr.len],hr.size,fun s' t u h1 h2 h3 => ?_,fun s' t u h1 h2 h3 h4 => ?_,fun s1 s2 t t' u u' blk h1 h2 h3 h4 h5 h6 h7 h8 h9 h10 => ?_⟩
 ·rcases set_get h2 with ⟨rfl,rfl⟩ | ⟨hss,h2'⟩
  ·exact .d _ _ (.undef _)
  ·exact hr.val s' t u h1 h2' h3
 ·rcases set_get h2 with ⟨rfl,rfl⟩ | ⟨hss,h2'⟩
  ·exact absurd rfl h4
  ·exact hr.prm s' t u h1 h2' h3 h4
 ·rcases set_get h3 with ⟨rfl,rfl⟩ | ⟨ha,h3'⟩
  ·exact absurd rfl h7
  ·rcases set_get h4 with ⟨rfl,rfl⟩ | ⟨hb,h4'⟩
   ·exact absurd rfl h8
   ·exact hr.one s1 s2 t t' u u' blk h1 h2 h3' h4' h5 h6 h7 h8 h9 h10
theorem SlR.get (hr:SlR cx sl g h w tmps) {s t:Nat} (hs:cx.slots[s]?=some t) (hp:cx.pr s=false):RV g (sl.getD s .undef) (tmps.getD t undef):=by
 cases hv:sl[s]? with
 | none=>simp [List.getD,hv]; exact .d _ _ (.undef _)
 | some v=>simp only [List.getD,hv,Option.getD_some]; exact hr.val s t v hs hv hp
theorem Step.priv {g0:G} {h0:Heap} {w0:World} (hs:Step g0 h0 w0 g h w) {blk:Nat} (h1:w0.heap.size≤blk) (h2:g.M blk=none) (h3:¬ Live g h blk)
  (hos:w'.os=w.os) (htp:w'.tape=w.tape) (hou:w'.output=w.output) (hsz:w.heap.size≤w'.heap.size) (hw:∀ i,i<w.heap.size→i≠blk→w'.heap[i]?=w.heap[i]?):Step g0 h0 w0 g h w':=by
 refine ⟨⟨?_,?_,hs.rep.one,hs.rep.old,hs.rep.top⟩,hs.le,⟨hos.trans hs.fr.os,htp.trans hs.fr.tape,hou.trans hs.fr.output,Nat.le_trans hs.fr.size hsz,fun i hi hl => ?_⟩,hs.newM,hs.newL⟩
 ·intro b arr hM
  obtain ⟨e,fz,hh⟩:=hs.rep.mem b arr hM
  have hne:b≠blk:=fun e=>by subst e; rw [h2] at hM; cases hM
  exact ⟨e,fz,by rw [hw b (Array.getElem?_eq_some_iff.1 hh).1 hne]; exact hh⟩
 ·intro b o hb
  refine (hs.rep.obj b o hb).mono (G.le_refl g) (fun k ha=>(hs.rep.live_lt ⟨b,o,hb,ha⟩).2) (fun k ha => ?_)
  have hl:Live g h k:=⟨b,o,hb,ha⟩
  exact hw k (hs.rep.live_lt hl).1 (fun e=>h3 (e ▸ hl))
 ·rw [hw i (Nat.lt_of_lt_of_le hi hs.fr.size) (by omega)]
  exact hs.fr.block i hi hl
theorem PromR.other {n0 blk blk':Nat} {v:V} {x:Value} (hp:PromR g h w n0 blk v x) (hne:blk≠blk') (hw:∀ i,i<w.heap.size→i≠blk'→w'.heap[i]?=w.heap[i]?):PromR g h w' n0 blk v x:=by
 obtain ⟨h1,h2,h3,h4,arr,e,lo,hi,h5,h6,h7,h8⟩:=hp
 exact ⟨h1,h2,h3,h4,arr,e,lo,hi,by rw [hw blk (Array.getElem?_eq_some_iff.1 h5).1 hne]; exact h5,h6,h7,h8⟩
theorem SlR.fresh (hn:cx.slots.Nodup) (hr:SlR cx sl g h w tmps) (hrep:Rep g h w) (hle:cx.w0.heap.size≤w.heap.size) {s d:Nat} (hs:cx.slots[s]?=some d) (hp:cx.pr s=true) (hd:d<cx.nt) {v:V} {arr:Array Value} {t:TypeId}
  (hrv:RVs g (cellsV v) arr.toList) (hone:∀ u∈arr.toList,u.oneCell'=true) :
  SlR cx (sl.set s v) g h (w.alloc (.cells arr t (0,0))) (tmps.setIfInBounds d (.pointer (some ⟨w.heap.size,0,none⟩))):=by
 have hne:∀ s' t,s'≠s→cx.slots[s']?=some t→(tmps.setIfInBounds d (.pointer (some ⟨w.heap.size,0,none⟩))).getD t undef=tmps.getD t undef:=fun s' t hss ht=>getD_put _ (fun e=>nodup_ne hn ht hs hss e.symm)
 have hold:∀ i,i<w.heap.size→i≠w.heap.size→(w.alloc (.cells arr t (0,0))).heap[i]?=w.heap[i]?:=fun i hi _=>am_old w _ i hi
 have hlt:∀ blk v x,PromR g h w cx.w0.heap.size blk v x→blk<w.heap.size:=fun blk v x hp=>by
  obtain ⟨_,_,_,_,arr,e,lo,hi,h5,_⟩:=hp
  exact (Array.getElem?_eq_some_iff.1 h5).1
 have hsame:=getD_put_same (tmps:=tmps) (d:=d) (.pointer (some ⟨w.heap.size,0,none⟩)) (by rw [hr.size]; exact hd)
 refine ⟨by simp [hr.len],by simp [hr.size],fun s' t' u h1 h2 h3 => ?_,fun s' t' u h1 h2 h3 h4 => ?_,fun s1 s2 t1 t2 u u' blk h1 h2 h3 h4 h5 h6 h7 h8 h9 h10 => ?_⟩
 ·rcases set_get h2 with ⟨rfl,rfl⟩ | ⟨hss,h2'⟩
  ·rw [hp] at h3; cases h3
  ·rw [hne s' t' hss h1]; exact hr.val s' t' u h1 h2' h3
 ·rcases set_get h2 with ⟨rfl,rfl⟩ | ⟨hss,h2'⟩
  ·rw [hs] at h1; cases h1
   refine ⟨w.heap.size,hsame,hle,?_,fun hl => ?_,arr,t,0,0,am_new w _,by omega,hrv,hone⟩
   ·cases hM:g.M w.heap.size with
    | none=>rfl
    | some a =>
     obtain ⟨e,fz,hh⟩:=hrep.mem _ _ hM
     have:=(Array.getElem?_eq_some_iff.1 hh).1
     omega
   ·have:=(hrep.live_lt hl).1
    omega
  ·obtain ⟨blk,hpr⟩:=hr.prm s' t' u h1 h2' h3 h4
   rw [hne s' t' hss h1]
   exact ⟨blk,hpr.other (by have:=hlt _ _ _ hpr; omega) hold⟩
 ·rcases set_get h3 with ⟨rfl,rfl⟩ | ⟨ha,h3'⟩
  ·rcases set_get h4 with ⟨rfl,rfl⟩ | ⟨hb,h4'⟩
   ·rfl
   ·rw [hs] at h1; cases h1
    rw [hsame] at h9
    cases h9
    rw [hne _ _ hb h2] at h10
    obtain ⟨blk,hpr⟩:=hr.prm s2 t2 u' h2 h4' h6 h8
    have hlt':=hlt _ _ _ hpr
    rw [hpr.1] at h10
    cases h10
    omega
  ·rcases set_get h4 with ⟨rfl,rfl⟩ | ⟨hb,h4'⟩
   ·rw [hs] at h2; cases h2
    rw [hsame] at h10
    cases h10
    rw [hne _ _ ha h1] at h9
    obtain ⟨blk,hpr⟩:=hr.prm s1 t1 u h1 h3' h5 h7
    have hlt':=hlt _ _ _ hpr
    rw [hpr.1] at h9
    cases h9
    omega
   ·rw [hne _ _ ha h1] at h9; rw [hne _ _ hb h2] at h10
    exact hr.one s1 s2 t1 t2 u u' blk h1 h2 h3' h4' h5 h6 h7 h8 h9 h10
theorem SlR.wrote (hn:cx.slots.Nodup) (hr:SlR cx sl g h w tmps) {s t blk:Nat} {v v':V} (hs:cx.slots[s]?=some t) (hp:cx.pr s=true) (hv:sl[s]?=some v) (hu:v ≠ .undef) (hx:tmps.getD t undef = .pointer (some ⟨blk,0,none⟩))
  {arr arr':Array Value} {e:TypeId} {lo hi:Nat} (hh:w.heap[blk]?=some (.cells arr e (lo,hi))) (hsz:arr'.size=arr.size) (hrv:RVs g (cellsV v') arr'.toList) (hone:∀ u∈arr'.toList,u.oneCell'=true) :
  SlR cx (sl.set s v') g h (w.setRow blk arr') tmps:=by
 have hw:∀ i,i<w.heap.size→i≠blk→(w.setRow blk arr').heap[i]?=w.heap[i]?:=fun i _ hi=>by rw [setRow_other]; exact hi
 refine ⟨by simp [hr.len],hr.size,fun s' t' u h1 h2 h3 => ?_,fun s' t' u h1 h2 h3 h4 => ?_,fun s1 s2 t1 t2 u u' blk' h1 h2 h3 h4 h5 h6 h7 h8 h9 h10 => ?_⟩
 ·rcases set_get h2 with ⟨rfl,rfl⟩ | ⟨hss,h2'⟩
  ·rw [hp] at h3; cases h3
  ·exact hr.val s' t' u h1 h2' h3
 ·rcases set_get h2 with ⟨rfl,rfl⟩ | ⟨hss,h2'⟩
  ·rw [hs] at h1; cases h1
   obtain ⟨blk',a1,a2,a3,a4,arr0,e0,lo0,hi0,a5,a6,a7,a8⟩:=hr.prm s' t v hs hv hp hu
   rw [hx] at a1
   cases a1
   rw [hh] at a5
   cases a5
   exact ⟨blk,hx,a2,a3,a4,arr',e,lo,hi,setRow_heap w blk arr arr' e _ hh,by rw [hsz]; exact a6,hrv,hone⟩
  ·obtain ⟨blk',hpr⟩:=hr.prm s' t' u h1 h2' h3 h4
   refine ⟨blk',hpr.other (fun e => ?_) hw⟩
   subst e
   exact hss (hr.one s' s t' t u v blk' h1 hs h2' hv h3 hp h4 hu hpr.1 hx)
 ·have key:∀ {i:Nat} {u:V},(sl.set s v')[i]?=some u→u ≠ .undef→∃ u0,sl[i]?=some u0∧u0 ≠ .undef:=by
   intro i u hi hne
   rcases set_get hi with ⟨rfl,rfl⟩ | ⟨_,hi'⟩
   ·exact ⟨v,hv,hu⟩
   ·exact ⟨u,hi',hne⟩
  obtain ⟨u1,b1,b2⟩:=key h3 h7
  obtain ⟨u2,b3,b4⟩:=key h4 h8
  exact hr.one s1 s2 t1 t2 u1 u2 blk' h1 h2 b1 b3 h5 h6 b2 b4 h9 h10
end
end Go.Am
