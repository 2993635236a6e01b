/- THE CARD OF MeanEach: it returns true for every input of bulk at most 1048576; its arguments read behind the call as they read before. -/
import Derived.Test.YtloeagdggmolcaaGreatDoorX
import Derived.Test.YtloeagdggmolcaaGreatDoorPartC
set_option linter.unusedVariables false
set_option linter.unusedSimpArgs false
namespace Go.Proofs.YtloeagdggmolcaaGreatDoor.fnMeanEach
open Go.ChangeShapes Go.WideShapes Go.ChangeAt Go.RowKit Go.Am Go.Proofs.Mn
set_option maxRecDepth 100000 in
theorem contract (H:Type) (enc:TypeId×Value→H) (W:World) (base:Nat) (args:Array Value) (ds gs:List (DataW H)) (before:List MemPlace)
  (hval:∀ (j:Nat) t v,Tryz.f6.params[j]?=some t→args[j]?=some v→Value.okWide Tryz.prog W .any base t v)
  (hW:DataW.Whole enc Tryz.prog Tryz.f6.params.toList Rows.meanEachSpec.vars false W args.toList ds gs before) (hL:laidMetH Tryz.prog Rows.meanEachUptoRow.laid W) (hk:Rows.uptoSmall H (ds++gs)=true) :
  Calls Tryz.prog 6 args W fun e W'=>∃ v,e = .returned v∧Rows.meanEachSpec.post enc Tryz.prog Tryz.f6 false true false false W args v W':=by
 have hp:Tryz.f6.params.toList=[57,5,58]:=by rw [Tryz.params6]
 have hsz:=dszL_small hk
 have hlen:ds.length=3:=by
  obtain ⟨p,q,hA,_⟩:=hW
  rw [hp] at hA
  have:=trodAll_len hA
  simpa using this.2
 obtain ⟨d0,d1,d2,rfl⟩:∃ d0 d1 d2,ds=[d0,d1,d2]:=by
  match ds,hlen with
  | [d0,d1,d2],_=>exact ⟨d0,d1,d2,rfl⟩
 refine law_of_run (f:=6) (fn:=Tryz.f6) (P:=Tryz.prog) (gl:=gl) (gs:=[0,1,2,3]) (A:=Trmn.aprog) prog_ok Rows.meanEachSpec sPlain sLaidOut sRowed sLt (by kernel_rfl) (tb:=4) (by kernel_rfl) t4 rfl hval hW (sGl hL) rfl (fun hl hty => ?_)
 rw [hp]
 simp only [List.cons_append,dszL] at hsz
 have hty:∀ (j:Nat) t d,([57,5,58]:List TypeId)[j]?=some t→[d0,d1,d2][j]?=some d→∃ n,dty Tryz.prog n t d:=fun j t d h1 h2=>hty j t d (by rw [← hp] at h1; simpa using h1) h2
 obtain ⟨n0,k0⟩:=hty 0 57 d0 rfl rfl
 obtain ⟨n1,k1⟩:=hty 1 5 d1 rfl rfl
 obtain ⟨n2,k2⟩:=hty 2 58 d2 rfl rfl
 obtain ⟨l,v,h1,h2,h3,h4⟩:=ty_slint t57 t58 k0
 obtain ⟨m,e1,e2⟩:=ty5 k1
 obtain ⟨t,rfl,ht⟩:=dty_intk t58 k2
 simp only [dargs]
 rw [argOne (by kernel_rfl) h3,argOne (by kernel_rfl) e1,argOne (by kernel_rfl) (show dcells (DataW.lit (.int .i16 t))=[.int .i16 t] from rfl)]
 refine law_each l v h2 (fun x hx => ?_) m e2 t ?_
 ·have:=h1 x hx
  simp [Lit.wf,IntKind.has,IntKind.min,IntKind.max,IntKind.signed,IntKind.bits] at this
  omega
 ·simp [Lit.wf,IntKind.has,IntKind.min,IntKind.max,IntKind.signed,IntKind.bits] at ht
  omega
set_option maxRecDepth 100000 in
theorem reads (os:Os) {H:Type} (enc:TypeId×Value→H):DataW.whole enc Tryz.prog ((laidWorld os).forCall (fun _ _=>0) ⟨#[],#[.slice none 0 0,.int .u8 0,.int .i16 0],[]⟩).memory Tryz.f6.params.toList Rows.meanEachSpec.vars false (#[.slice none 0 0,.int .u8 0,.int .i16 0]:Array Value).toList 12=some ([.nil,.lit (.int .u8 0),.lit (.int .i16 0)],[],[]):=by kernel_rfl
theorem witness (os:Os) {H:Type} (enc:TypeId×Value→H):∃ (w:World) (tape:Tape) (i:Input),w.os=os∧(w.forCall tape i).Shaped Tryz.checked.prog∧i.vars=[]∧Input.okWide Tryz.checked.prog (w.forCall tape i) .any w.heap.size 6 i ∧
   (Rows.OpenSpec.upto Rows.meanEachSpec).preRow enc Tryz.checked.prog Tryz.f6 Rows.meanEachUptoRow.domain false Rows.meanEachUptoRow.laid (w.forCall tape i).memory i.args∧({ modest:=false }:Assume).holds Tryz.checked.prog (lone (Frame.enter Tryz.checked.prog 6 i.args .normal) [] (w.forCall tape i)):=by
 obtain ⟨w,tape,i,h1,h2,h3,h4,h5,h6,_⟩:=OpenSpec.witness_stopped_atRef (enc:=enc) (C:=Tryz.checked) (f:=6) (fn:=Tryz.f6) (s:=Rows.OpenSpec.upto Rows.meanEachSpec) (conds:=Rows.meanEachUptoRow.domain) (apart:=false) (laid:=Rows.meanEachUptoRow.laid) false (laidWorld os) #[.slice none 0 0,.int .u8 0,.int .i16 0] rfl (by kernel_rfl) (by kernel_rfl) (by kernel_rfl)
  (OpenSpec.preRow_of_cond 12 (reads os enc) (by kernel_rfl) (fun k hk=>by cases hk; kernel_rfl) (by kernel_rfl) (laid_met os _)) (fun _ _ _=>0)
 exact ⟨w,tape,i,h1,h2,h3,h4,h5,h6⟩
set_option maxRecDepth 100000 in
theorem liftedUpto (os:Os) (started:os.Started) (H:Type) (enc:TypeId×Value→H) (F:Stop.Interp) :
  ReturnsInHanded {} Tryz.checked os 6 .any ((Rows.OpenSpec.upto Rows.meanEachSpec).preRow enc Tryz.prog Tryz.f6 Rows.meanEachUptoRow.domain false Rows.meanEachUptoRow.laid) (((Rows.OpenSpec.upto Rows.meanEachSpec).at F).post enc Tryz.prog Tryz.f6 false true false false):=by
 refine returnsInHanded_of_row (C:=Tryz.checked) (s:=Rows.OpenSpec.upto Rows.meanEachSpec) sOwn started (by kernel_rfl) Tryz.func6
  (witness os enc) ?_
 intro W base args ds gs before hval hW _ hcond _ hL _ _
 exact contract H enc W base args ds gs before hval hW hL (hcond _ rfl)
theorem j1:(Rows.meanEachUptoRow.inPlace == Tryz.pinned.checked.prog.inPlace 6)=true:=by kernel_rfl
theorem j2:(Rows.meanEachUptoRow.unfollowed == Tryz.pinned.checked.prog.unfollowed 6)=true:=by kernel_rfl
theorem j3:(Rows.meanEachUptoRow.recurses == Tryz.pinned.checked.prog.recurses 6)=true:=by kernel_rfl
theorem j4:(Rows.meanEachUptoRow.named == Tryz.pinned.checked.prog.varsNamed 6)=true:=by kernel_rfl
set_option maxRecDepth 100000 in
theorem jf:joinedFacts Tryz.pinned.checked.prog 6 Tryz.f6 (Rows.OpenSpec.upto Rows.meanEachSpec).bare Rows.meanEachUptoRow=true:=by
 unfold joinedFacts
 rw [j1,j2,j3,j4]
 kernel_rfl
theorem saidUpto:Rows.MeanEachUptoSaid :=
 OpenClaim.holds_of_cond 6 Tryz.f6 rfl rfl rfl rfl rfl rfl rfl ⟨rfl,rfl,rfl,rfl,rfl⟩ rfl rfl rfl rfl rfl (by kernel_rfl) Tryz.func6 jf
  (of_decide_eq_true (by kernel_rfl)) (by unfold Func.isWrapper; first | (rw [if_pos (by decide +kernel)]; kernel_rfl) | (rw [if_neg (by decide +kernel)]; exact ⟨rfl,rfl⟩))
  (fun os started H enc _ F=>by rw [OpenClaim.pre_eq_preRow]; exact liftedUpto os started H enc F)
theorem plain (f:FuncId) (fn:Func) (hf:Tryz.pinned.checked.prog.funcNamed "sheafworks/sheafworkslaw13.MeanEach" = some f) (hfn:Tryz.pinned.checked.prog.funcs[f]?=some fn) :
  true=Tryz.pinned.checked.prog.looks []∧∀ (j:Nat) t,fn.params[j]?=some t→Tryz.pinned.checked.prog.wantsStandIn t=false:=by
 obtain rfl:f=6:=Option.some.inj ((show Tryz.prog.funcNamed "sheafworks/sheafworkslaw13.MeanEach" = some 6 by kernel_rfl).symm.trans hf) |>.symm
 obtain rfl:fn=Tryz.f6:=(Option.some.inj (Tryz.func6.symm.trans hfn)).symm
 refine ⟨by kernel_rfl,fun j t ht => ?_⟩
 have h1:∀ t∈([57,5,58]:List TypeId),Tryz.prog.wantsStandIn t=false:=fun t h=>by
  have:=List.all_eq_true.1 (show ([57,5,58]:List TypeId).all (fun t=>Tryz.prog.wantsStandIn t == false)=true by kernel_rfl) t h
  simpa using this
 rw [Tryz.params6] at ht
 exact h1 t (by simpa using Array.mem_of_getElem? ht)
theorem card:Rows.MeanEachUptoCardSaid :=
 Claim7.holds_tied_plain_at .later [] _ _ _ _ saidUpto (fun _ h=>by cases h) (by kernel_rfl) (fun _ h=>by cases h) meanEachUpto_row_tie rfl ⟨rfl,rfl⟩ (by kernel_rfl) rfl plain (by kernel_rfl)
end Go.Proofs.YtloeagdggmolcaaGreatDoor.fnMeanEach
