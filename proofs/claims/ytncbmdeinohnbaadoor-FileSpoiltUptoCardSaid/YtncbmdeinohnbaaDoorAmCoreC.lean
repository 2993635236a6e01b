/- The abstract machine: code, functions, runs are sound; runs without fuel. -/
import Derived.Test.YtncbmdeinohnbaaDoorAmCoreB
import Derived.ChangeSame
import Derived.RowKit3
import Derived.Test.YtncbmdeinohnbaaDoorAmCoreA
/- A region of a deferred function: it may recover. -/
set_option linter.unusedVariables false
set_option linter.unusedSimpArgs false
namespace Go.Am

/-- what is being recovered, and the caller's mode -/
def PnR (g : G) : Option (Option V) → FrameMode → Prop
  | some (some v), m => ∃ x, m = .panicking [{ v := x, recovered := false }] ∧ RV g v x
  | some none, m => m = .returning ∨ ∃ x, m = .panicking [{ v := x, recovered := true }]
  | none, _ => False

theorem PnR.mono {g g' : G} (hg : g.le g') {p : Option (Option V)} {m : FrameMode} (h : PnR g p m) : PnR g' p m := by
  match p, h with
  | some (some v), ⟨x, h1, h2⟩ => exact ⟨x, h1, h2.mono hg⟩
  | some none, h => exact h
  | none, h => exact h

def RowPostS (cx : Cx) (ops : Array Oper) (aops : List AOper) (c₀ : Go.Frame) (cs : List Go.Frame) (ro : ROut) (Q : Exit → Act → List Go.Frame → World → Prop) : Prop :=
  match ro with
  | .norm env c => ∀ g a w m, CR cx c g a w → ER cx ops aops env g a.tmps → PnR g c.pn m → Q .normal a ({ c₀ with mode := m } :: cs) w
  | .pan _ v c => ∀ g a w x m, CR cx c g a w → RV g v x → PnR g c.pn m → Q (.panic [{ v := x, recovered := false }]) a ({ c₀ with mode := m } :: cs) w

section
variable {cx : Cx} {ops : Array Oper} {aops : List AOper} {env env' : List V} {c : Cfg} {g g' : G} {a : Act} {w : World}

theorem row_soundS (hn : cx.slots.Nodup) {rec : Rec} (hrec : CallOK cx.P cx.gl cx.gs rec.call) (hreg : chkR cx ops aops = true) {Q : Exit → Act → List Go.Frame → World → Prop} {c₀ : Go.Frame} {cs : List Go.Frame} {ro : ROut} (hpost : RowPostS cx ops aops c₀ cs ro Q) :
    ∀ (os : List AOper) (j : Nat) (env : List V) (c : Cfg) (g : G) (a : Act) (w : World) (m : FrameMode), aops.drop j = os → env.length = j → PnR g c.pn m → CR cx c g a w → ER cx ops aops env g a.tmps →
      runOps rec cx.gl os env c = some ro → wpOpsS cx.P ops Q (List.range' j (ops.size - j)) a ({ c₀ with mode := m } :: cs) w := by
  have hsize : ops.size = aops.length := by
    simp only [chkR, Bool.and_eq_true, beq_iff_eq] at hreg
    exact hreg.1
  intro os
  induction os with
  | nil =>
    intro j env c g a w m hos hl hpn cr er hrun
    simp only [runOps, Option.some.injEq] at hrun
    subst hrun
    have hlen := congrArg List.length hos
    simp only [List.length_drop, List.length_nil] at hlen
    have : ops.size - j = 0 := by omega
    rw [this]
    simp only [List.range', wpOpsS]
    exact hpost g a w m cr er hpn
  | cons ao os ih =>
    intro j env c g a w m hos hl hpn cr er hrun
    have hlen := congrArg List.length hos
    simp only [List.length_drop, List.length_cons] at hlen
    have hlt : j < aops.length := by omega
    have haj : aops[j]? = some ao := by
      have := congrArg (fun l => l[0]?) hos
      simpa [List.getElem?_drop] using this
    have hos' : aops.drop (j + 1) = os := by
      have := congrArg (List.drop 1) hos
      simpa [List.drop_drop] using this
    obtain ⟨o, hj⟩ := chkR_op hreg haj
    obtain ⟨ao', e1, hchk, hg, _, _⟩ := chkR_spec hreg hj
    rw [haj] at e1
    cases e1
    have hrange : List.range' j (ops.size - j) = j :: List.range' (j + 1) (ops.size - (j + 1)) := by
      have : ops.size - j = (ops.size - (j + 1)) + 1 := by omega
      rw [this]
      rfl
    rw [hrange]
    simp only [wpOpsS, hj]
    simp only [runOps] at hrun
    split at hrun
    · rename_i hw
      rw [wanted_sound hreg er cr.sr.size hg hw, if_pos rfl]
      cases hst : stepOp rec cx.gl ao env c.slots c.pn c.h with
      | none => simp [hst] at hrun
      | some r =>
        by_cases hnr : ao.op = .rcv
        · have hchk' := hchk
          simp only [chkA, hnr, Bool.and_eq_true] at hchk'
          obtain ⟨hd, hnp, hc⟩ := hchk'
          have hrunop : (execOp a.eval o).run cx.P w = .ok .recover w := by
            split at hc
            · rename_i args ts ho
              simp [execOp, ho, resolve, invoke, builtin]
            · cases hc
          rw [hrunop]
          simp only
          have fin : ∀ (v : V) (x : Value) (m' : FrameMode) (p' : Option (Option V)), p'.isSome = true → (match putSlot ao.dst v with | .ok v wr _ _ _ => some (.ok v wr none p' none) | r => some r) = some r → RV g v x → PnR g p' m' →
              wpOpsS cx.P ops Q (List.range' (j + 1) (ops.size - (j + 1))) (a.put o.dst x) ({ c₀ with mode := m' } :: cs) w := by
            intro v x m' p' hp' hr hv hm'
            have hcr := CR.value hn cr hd hnp (Step.refl cr.step.rep) hv
            have hpa : ao.op.isPa = false := by rw [hnr]; rfl
            have hlr : ∀ tm, LR cx tm g ao v x := by
              intro tm
              unfold LR
              split
              · rename_i heq; simp [heq, AOp.isPa] at hpa
              · exact hv
            cases hds : ao.dst with
            | no =>
              simp only [hds, putSlot, Option.some.injEq] at hr
              subst hr
              simp only [hst] at hrun
              have er' := ER.next (env' := env ++ [v]) (x := x) (d := a.defers) hn hreg er cr.sr.size hj haj (G.le_refl g) (fun h => by rw [hds] at h; cases h) (append_get hl) (np_row hreg hj haj hl)
              refine ih (j + 1) (env ++ [v]) _ g _ w m' hos' (by simp [hl]) ?_ ?_ er' hrun
              · cases p' with
                | none => simp at hp'
                | some p' => simpa using hm'
              · simp only [hds, slotOf, Option.map_none] at hcr
                exact ⟨hcr.step, hcr.sr, hcr.df, hcr.gl⟩
            | loc =>
              simp only [hds, putSlot, Option.some.injEq] at hr
              subst hr
              simp only [hst] at hrun
              have er' := ER.next (env' := env ++ [v]) (x := x) (d := a.defers) hn hreg er cr.sr.size hj haj (G.le_refl g) (fun _ => hlr _) (append_get hl) (np_row hreg hj haj hl)
              refine ih (j + 1) (env ++ [v]) _ g _ w m' hos' (by simp [hl]) ?_ ?_ er' hrun
              · cases p' with
                | none => simp at hp'
                | some p' => simpa using hm'
              · simp only [hds, slotOf, Option.map_none] at hcr
                exact ⟨hcr.step, hcr.sr, hcr.df, hcr.gl⟩
            | slot s =>
              simp only [hds, putSlot, Option.some.injEq] at hr
              subst hr
              simp only [hst] at hrun
              have er' := ER.next (env' := env ++ [.undef]) (x := x) (d := a.defers) hn hreg er cr.sr.size hj haj (G.le_refl g) (fun h => by rw [hds] at h; cases h) (append_get hl) (np_row hreg hj haj hl)
              refine ih (j + 1) (env ++ [.undef]) _ g _ w m' hos' (by simp [hl]) ?_ ?_ er' hrun
              · cases p' with
                | none => simp at hp'
                | some p' => simpa using hm'
              · simp only [hds, slotOf, Option.map_some] at hcr
                exact ⟨hcr.step, hcr.sr, hcr.df, hcr.gl⟩
          simp only [stepOp, hnr] at hst
          split at hst
          · rename_i v hpv
            rw [hpv] at hpn
            obtain ⟨x, rfl, hv⟩ := hpn
            simp only [recoverD]
            exact fin v x (.panicking [{ v := x, recovered := true }]) (some none) rfl hst hv (.inr ⟨x, rfl⟩)
          · rename_i hpv
            rw [hpv] at hpn
            have hrd : recoverD ({ c₀ with mode := m } :: cs) = none := by
              rcases hpn with rfl | ⟨x, rfl⟩ <;> simp [recoverD]
            rw [hrd]
            simp only [Option.some.injEq] at hst
            have hcr := CR.value (x := .nilIface) (v := .nili) hn cr hd hnp (Step.refl cr.step.rep) (.d _ _ .nili)
            have hm' : PnR g c.pn m := by rw [hpv]; exact hpn
            have hpa : ao.op.isPa = false := by rw [hnr]; rfl
            have hlr : ∀ tm, LR cx tm g ao .nili .nilIface := by
              intro tm
              unfold LR
              split
              · rename_i heq; simp [heq, AOp.isPa] at hpa
              · exact .d _ _ .nili
            cases hds : ao.dst with
            | no =>
              simp only [hds, putSlot] at hst
              subst hst
              simp only [stepOp, hnr, hpv, hds, putSlot] at hrun
              have er' := ER.next (env' := env ++ [.nili]) (x := .nilIface) (d := a.defers) hn hreg er cr.sr.size hj haj (G.le_refl g) (fun h => by rw [hds] at h; cases h) (append_get hl) (np_row hreg hj haj hl)
              refine ih (j + 1) (env ++ [.nili]) _ g _ w m hos' (by simp [hl]) ?_ ?_ er' hrun
              · simpa [hpv] using hm'
              · simp only [hds, slotOf, Option.map_none] at hcr
                exact ⟨hcr.step, hcr.sr, hcr.df, hcr.gl⟩
            | loc =>
              simp only [hds, putSlot] at hst
              subst hst
              simp only [stepOp, hnr, hpv, hds, putSlot] at hrun
              have er' := ER.next (env' := env ++ [.nili]) (x := .nilIface) (d := a.defers) hn hreg er cr.sr.size hj haj (G.le_refl g) (fun _ => hlr _) (append_get hl) (np_row hreg hj haj hl)
              refine ih (j + 1) (env ++ [.nili]) _ g _ w m hos' (by simp [hl]) ?_ ?_ er' hrun
              · simpa [hpv] using hm'
              · simp only [hds, slotOf, Option.map_none] at hcr
                exact ⟨hcr.step, hcr.sr, hcr.df, hcr.gl⟩
            | slot s =>
              simp only [hds, putSlot] at hst
              subst hst
              simp only [stepOp, hnr, hpv, hds, putSlot] at hrun
              have er' := ER.next (env' := env ++ [.undef]) (x := .nilIface) (d := a.defers) hn hreg er cr.sr.size hj haj (G.le_refl g) (fun h => by rw [hds] at h; cases h) (append_get hl) (np_row hreg hj haj hl)
              refine ih (j + 1) (env ++ [.undef]) _ g _ w m hos' (by simp [hl]) ?_ ?_ er' hrun
              · simpa [hpv] using hm'
              · simp only [hds, slotOf, Option.map_some] at hcr
                exact ⟨hcr.step, hcr.sr, hcr.df, hcr.gl⟩
          · cases hst
        · have key : o.upon cx.P a (fun a' w' => wpOpsS cx.P ops Q (List.range' (j + 1) (ops.size - (j + 1))) a' ({ c₀ with mode := m } :: cs) w') (fun e a' w' => Q e a' ({ c₀ with mode := m } :: cs) w') ((execOp a.eval o).run cx.P w) := by
            refine op_core hn hrec cr er hchk hnr hst ⟨?_, ?_⟩
            · intro v wr df pn hp d x g' w' hr hle cr' hlr
              subst hr
              simp only [hst] at hrun
              have hp0 := stepOp_pn hnr hst
              subst hp0
              have er' := ER.next (env' := env ++ [v]) hn hreg er cr.sr.size hj haj hle hlr (append_get hl) (np_row hreg hj haj hl)
              refine ih (j + 1) (env ++ [v]) _ g' _ w' m hos' (by simp [hl]) ?_ (cr'.pn _) er' hrun
              simpa using hpn.mono hle
            · intro v hp x g' w' hr hle hv cr'
              subst hr
              simp only [hst, Option.some.injEq] at hrun
              subst hrun
              exact hpost g' a w' x m cr' hv (hpn.mono hle)
          generalize (execOp a.eval o).run cx.P w = r' at key ⊢
          split
          · exact key.elim
          · exact key
    · rename_i hw
      rw [wanted_sound hreg er cr.sr.size hg hw]
      simp only [Bool.false_eq_true, if_false]
      have er' := ER.next (env' := env ++ [.tup []]) (x := undef) (d := a.defers) hn hreg er cr.sr.size hj haj (G.le_refl g) (fun _ => LR.skip) (append_get hl) (np_row hreg hj haj hl)
      exact ih (j + 1) (env ++ [.tup []]) { c with slots := setSlot c.slots ((slotOf ao.dst).map (·, .tup [])) } g _ w m hos' (by simp [hl]) hpn (cr.skip hn hchk hw) er' hrun
    · cases hrun
end
end Go.Am
/- What an operation's outcome hangs on, and the row of outcomes of a region. -/
set_option linter.unusedVariables false
set_option linter.unusedSimpArgs false
namespace Go.Am

def POp.opds : POp → List Opd
  | .mov x | .part x _ _ _ | .fadr x _ | .not x | .neg x | .conv _ x | .nchk x | .mki _ x | .tas x _ _ _ | .ext x _ | .lenS _ x | .s2b x => [x]
  | .iadr x i _ | .iadrA x i _ _ | .index x i | .bin _ x i | .eqb _ x i | .eqn _ _ x i | .eqa _ _ x i | .maxI x i | .minI x i | .mkz x i _ _ _ => [x, i]
  | .pick c a b => [c, a, b]
  | .slc x lo hi mx _ _ => x :: (lo.toList ++ hi.toList ++ mx.toList)
  | .build _ ps => ps.map (·.2.2)
  | .bsl _ _ _ ps => ps.map (·.2)
  | .mkf _ fi ca => fi ++ ca

def LOp.opds : LOp → List Opd
  | .load a _ _ => [a]
  | .b2s x => [x]
  | .borrow f as => f :: as

def EOp.opds : EOp → List Opd
  | .hnew x | .frz x | .s2s x _ => [x]
  | .own _ => []
  | .store a x _ => [a, x]
  | .app x y _ _ _ => [x, y]
  | .mks n c _ _ _ => [n, c]
  | .bslO _ _ _ ps => ps.map (·.2)
  | .call f as _ => f :: as

def AOp.opds : AOp → List Opd
  | .p o => o.opds
  | .pc f as | .dfr f as => f :: as
  | .l o => o.opds
  | .e o => o.opds
  | .np x | .pu _ _ _ x | .pan x => [x]
  | .pa _ _ _ ix => (ix.map (·.1)).toList
  | .pl .. | .rcv => []

def AOp.base : AOp → Option Nat
  | .pa _ b _ _ | .pl _ b _ _ | .pu _ b _ _ => b
  | _ => none

def AOp.slotRef : AOp → Option Nat
  | .pa s _ _ _ | .pl s _ _ _ | .pu s _ _ _ => some s
  | _ => none

/-- does it see the heap? -/
def AOp.heapy : AOp → Bool
  | .l _ | .e _ => true
  | _ => false

def AOper.refsE (ao : AOper) : List Nat :=
  ao.op.opds.filterMap (fun | .r i => some i | _ => none) ++ ao.op.base.toList ++ (ao.guard.map (·.1)).toList

def AOper.refsS (ao : AOper) : List Nat :=
  ao.op.opds.filterMap (fun | .s i => some i | _ => none) ++ ao.op.slotRef.toList

theorem pop_congr {f f' : Opd → V} (p : POp) (h : ∀ x ∈ p.opds, f x = f' x) : popV f p = popV f' p := by
  cases p <;> simp only [POp.opds, List.mem_cons, List.not_mem_nil, or_false, forall_eq_or_imp, forall_eq] at h
  case build z ps =>
    have : ps.map (fun (o, n, x) => (o, n, f x)) = ps.map (fun (o, n, x) => (o, n, f' x)) := List.map_congr_left fun q hq => by
      obtain ⟨o, n, x⟩ := q
      simp only [h x (List.mem_map.2 ⟨_, hq, rfl⟩)]
    simp only [popV, this]
  case bsl len sz z ps =>
    have : ps.map (fun (i, x) => (i * sz, sz, f x)) = ps.map (fun (i, x) => (i * sz, sz, f' x)) := List.map_congr_left fun q hq => by
      obtain ⟨i, x⟩ := q
      simp only [h x (List.mem_map.2 ⟨_, hq, rfl⟩)]
    simp only [popV, this]
  case mkf fn fi ca =>
    have h1 : fi.map f = fi.map f' := List.map_congr_left fun x hx => h x (List.mem_append.2 (.inl hx))
    have h2 : ca.map f = ca.map f' := List.map_congr_left fun x hx => h x (List.mem_append.2 (.inr hx))
    simp only [popV, h1, h2]
  case slc x lo hi mx str sz =>
    obtain ⟨h0, h⟩ := h
    have h1 : lo.map f = lo.map f' := by cases lo <;> simp_all
    have h2 : hi.map f = hi.map f' := by cases hi <;> simp_all
    have h3 : mx.map f = mx.map f' := by cases mx <;> simp_all
    simp only [popV, h0, h1, h2, h3]
  all_goals (simp only [popV]; simp only [h])

theorem lop_congr {f f' : Opd → V} {rec : Rec} {hh : Heap} (l : LOp) (h : ∀ x ∈ l.opds, f x = f' x) : lopV rec hh f l = lopV rec hh f' l := by
  cases l <;> simp only [LOp.opds, List.mem_cons, List.not_mem_nil, or_false, forall_eq_or_imp, forall_eq] at h
  case load a size ag => simp only [lopV, h]
  case b2s x => simp only [lopV, h]
  case borrow fn as =>
    have h1 : as.map f = as.map f' := List.map_congr_left fun x hx => h.2 x hx
    simp only [lopV, h.1, h1]

theorem eop_congr {f f' : Opd → V} {rec : Rec} {hh : Heap} (e : EOp) (h : ∀ x ∈ e.opds, f x = f' x) : eopV rec hh f e = eopV rec hh f' e := by
  cases e <;> simp only [EOp.opds, List.mem_cons, List.not_mem_nil, or_false, forall_eq_or_imp, forall_eq] at h
  case own sz => rfl
  case bslO len sz z ps =>
    have : ps.map (fun (i, x) => (i * sz, sz, f x)) = ps.map (fun (i, x) => (i * sz, sz, f' x)) := List.map_congr_left fun q hq => by
      obtain ⟨i, x⟩ := q
      simp only [h x (List.mem_map.2 ⟨_, hq, rfl⟩)]
    simp only [eopV, this]
  case call fn as fz =>
    have h1 : as.map f = as.map f' := List.map_congr_left fun x hx => h.2 x hx
    simp only [eopV, h.1, h1]
  all_goals (simp only [eopV]; simp only [h])

theorem ev_congr {gl : Nat → List V} {env env' sl sl' : List V} {ao : AOper} (he : ∀ i ∈ ao.refsE, env[i]? = env'[i]?) (hs : ∀ s ∈ ao.refsS, sl[s]? = sl'[s]?) : ∀ x ∈ ao.op.opds, ev gl env sl x = ev gl env' sl' x := by
  intro x hx
  cases x with
  | s i =>
    have := hs i (List.mem_append.2 (.inl (List.mem_filterMap.2 ⟨_, hx, rfl⟩)))
    simp only [ev, List.getD, this]
  | r i =>
    have := he i (List.mem_append.2 (.inl (List.mem_append.2 (.inl (List.mem_filterMap.2 ⟨_, hx, rfl⟩)))))
    simp only [ev, List.getD, this]
  | c v => rfl
  | g n => rfl

theorem wanted_congr {env env' : List V} {ao : AOper} (he : ∀ i ∈ ao.refsE, env[i]? = env'[i]?) : wanted env ao.guard = wanted env' ao.guard := by
  cases hg : ao.guard with
  | none => rfl
  | some g =>
    obtain ⟨j, b⟩ := g
    have := he j (List.mem_append.2 (.inr (by simp [hg])))
    simp only [wanted, this]

theorem step_congr {rec : Rec} {gl : Nat → List V} {env env' sl sl' : List V} {ao : AOper} {pn pn' : Option (Option V)} {h h' : Heap} (hr : ao.op ≠ .rcv)
    (he : ∀ i ∈ ao.refsE, env[i]? = env'[i]?) (hs : ∀ s ∈ ao.refsS, sl[s]? = sl'[s]?) (hh : ao.op.heapy = true → h = h') :
    stepOp rec gl ao env sl pn h = stepOp rec gl ao env' sl' pn' h' := by
  have hev := ev_congr (gl := gl) he hs
  have hb : ∀ b, ao.op.base = b → pOff env b = pOff env' b := by
    intro b hb
    cases b with
    | none => rfl
    | some j =>
      have := he j (List.mem_append.2 (.inl (List.mem_append.2 (.inr (by simp [hb])))))
      simp only [pOff, this]
  have hsl : ∀ s, ao.op.slotRef = some s → sl[s]? = sl'[s]? := fun s hs' => hs s (List.mem_append.2 (.inr (by simp [hs'])))
  cases hop : ao.op <;> simp only [hop, AOp.opds] at hev
  case p p => simp only [stepOp, hop, pop_congr p hev]
  case pc fn as =>
    have h1 : as.map (ev gl env sl) = as.map (ev gl env' sl') := List.map_congr_left fun x hx => hev x (List.mem_cons_of_mem _ hx)
    have h0 := hev fn (List.mem_cons_self ..)
    simp only [stepOp, hop, h0, h1]
  case l l =>
    have := hh (by simp [hop, AOp.heapy])
    subst this
    simp only [stepOp, hop, lop_congr l hev]
  case e e =>
    have := hh (by simp [hop, AOp.heapy])
    subst this
    simp only [stepOp, hop, eop_congr e hev]
  case np x =>
    have := hev x (by simp)
    simp only [stepOp, hop, this]
  case pa s b k ix =>
    have h1 := hb b (by simp [hop, AOp.base])
    have h2 := hsl s (by simp [hop, AOp.slotRef])
    have hdf : defd sl s = defd sl' s := by simp only [defd, h2]
    cases ix with
    | none => simp only [stepOp, hop, hdf, h1]
    | some t =>
      obtain ⟨i, m, sz⟩ := t
      have := hev i (by simp)
      simp only [stepOp, hop, hdf, h1, this]
  case pl s b size ag =>
    have h1 := hb b (by simp [hop, AOp.base])
    have h2 := hsl s (by simp [hop, AOp.slotRef])
    have hdf : defd sl s = defd sl' s := by simp only [defd, h2]
    have hgd : sl.getD s .undef = sl'.getD s .undef := by simp only [List.getD, h2]
    simp only [stepOp, hop, hdf, h1]
    rw [hgd]
  case pu s b size x =>
    have h1 := hb b (by simp [hop, AOp.base])
    have h2 := hsl s (by simp [hop, AOp.slotRef])
    have := hev x (by simp)
    have hdf : defd sl s = defd sl' s := by simp only [defd, h2]
    have hgd : sl.getD s .undef = sl'.getD s .undef := by simp only [List.getD, h2]
    simp only [stepOp, hop, hdf, h1, this]
    rw [hgd]
  case pan x =>
    have := hev x (by simp)
    simp only [stepOp, hop, this]
  case dfr fn as =>
    have h1 : as.map (ev gl env sl) = as.map (ev gl env' sl') := List.map_congr_left fun x hx => hev x (List.mem_cons_of_mem _ hx)
    have h0 := hev fn (List.mem_cons_self ..)
    simp only [stepOp, hop, h0, h1]
  case rcv => exact absurd hop hr

/-! ### The row of outcomes -/
structure Eff where
  v : V
  wr : Option (Nat × V)
  df : Option (V × List V)
  hp : Option Heap

def Eff.on (e : Eff) (c : Cfg) : Cfg :=
  { c with slots := setSlot c.slots e.wr, dfs := pushD e.df c.dfs, h := e.hp.getD c.h }

/-- an operation's outcome, where nothing is recovered -/
inductive EffOp (rec : Rec) (gl : Nat → List V) (ao : AOper) (env : List V) (c : Cfg) : Eff → Prop
  | go (v : V) (wr : Option (Nat × V)) (df : Option (V × List V)) (hp : Option Heap) (hw : wanted env ao.guard = some true) (hs : stepOp rec gl ao env c.slots c.pn c.h = some (.ok v wr df none hp)) : EffOp rec gl ao env c ⟨v, wr, df, hp⟩
  | skip (hw : wanted env ao.guard = some false) : EffOp rec gl ao env c ⟨.tup [], (slotOf ao.dst).map (·, .tup []), none, none⟩

/-- the outcomes one by one, and the states between them -/
structure Tr (rec : Rec) (gl : Nat → List V) (aops : List AOper) (c0 : Cfg) (ro : ROut) (L : Nat) (env : List V) (cs : Nat → Cfg) : Prop where
  len : env.length = L
  le : L ≤ aops.length
  start : cs 0 = c0
  pn : ∀ i, i ≤ L → (cs i).pn = none
  ok : ∀ i, i < L → ∃ ao e, aops[i]? = some ao ∧ ao.op ≠ .rcv ∧ EffOp rec gl ao (env.take i) (cs i) e ∧ env[i]? = some e.v ∧ cs (i + 1) = e.on (cs i)
  fin : (L = aops.length ∧ ro = .norm env (cs L)) ∨ ∃ ao v hp, aops[L]? = some ao ∧ ao.op ≠ .rcv ∧ wanted env ao.guard = some true ∧ stepOp rec gl ao env (cs L).slots (cs L).pn (cs L).h = some (.pan v hp) ∧
    ro = .pan L v { cs L with h := hp.getD (cs L).h }

theorem tr_of_run {cx : Cx} {rec : Rec} {aops : List AOper} {ro : ROut} (hnrs : ∀ ao ∈ aops, ao.op ≠ .rcv) : ∀ (os : List AOper) (j : Nat) (env : List V) (c : Cfg), aops.drop j = os → env.length = j → j ≤ aops.length → c.pn = none → runOps rec cx.gl os env c = some ro →
    ∀ (c0 : Cfg) (cs : Nat → Cfg), cs 0 = c0 → cs j = c → (∀ i, i ≤ j → (cs i).pn = none) →
    (∀ i, i < j → ∃ ao e, aops[i]? = some ao ∧ ao.op ≠ .rcv ∧ EffOp rec cx.gl ao (env.take i) (cs i) e ∧ env[i]? = some e.v ∧ cs (i + 1) = e.on (cs i)) →
    ∃ L env' cs', Tr rec cx.gl aops c0 ro L env' cs' := by
  intro os
  induction os with
  | nil =>
    intro j env c hos hl hj hpn hrun c0 cs h0 hcj hpns hok
    simp only [runOps, Option.some.injEq] at hrun
    subst hrun
    have hlen := congrArg List.length hos
    simp only [List.length_drop, List.length_nil] at hlen
    have hjl : j = aops.length := by omega
    exact ⟨j, env, cs, hl, hj, h0, hpns, hok, .inl ⟨hjl, by rw [hcj]⟩⟩
  | cons ao os ih =>
    intro j env c hos hl hj hpn hrun c0 cs h0 hcj hpns hok
    have hlen := congrArg List.length hos
    simp only [List.length_drop, List.length_cons] at hlen
    have haj : aops[j]? = some ao := by
      have := congrArg (fun l => l[0]?) hos
      simpa [List.getElem?_drop] using this
    have hos' : aops.drop (j + 1) = os := by
      have := congrArg (List.drop 1) hos
      simpa [List.drop_drop] using this
    have more : ∀ e, EffOp rec cx.gl ao env c e → ao.op ≠ .rcv → runOps rec cx.gl os (env ++ [e.v]) (e.on c) = some ro → ∃ L env' cs', Tr rec cx.gl aops c0 ro L env' cs' := by
      intro e he hnr hrun'
      refine ih (j + 1) (env ++ [e.v]) (e.on c) hos' (by simp [hl]) (by omega) hpn hrun' c0 (fun i => if i = j + 1 then e.on c else cs i) (by simpa using h0) (by simp) ?_ ?_
      · intro i hi
        by_cases h : i = j + 1
        · simp only [h, if_true]; exact hpn
        · simp only [h, if_false]; exact hpns i (by omega)
      · intro i hi
        by_cases h : i = j
        · subst h
          refine ⟨ao, e, haj, hnr, ?_, ?_, ?_⟩
          · rw [List.take_left' hl]
            simpa [hcj] using he
          · rw [List.getElem?_append_right (by omega)]
            simp [hl]
          · simp [hcj]
        · obtain ⟨ao', e', h1, h2, h3, h4, h5⟩ := hok i (by omega)
          refine ⟨ao', e', h1, h2, ?_, ?_, ?_⟩
          · rw [List.take_append_of_le_length (by omega)]
            simpa [show ¬ i = j + 1 by omega] using h3
          · rw [List.getElem?_append_left (by omega)]
            exact h4
          · simp only [show ¬ i + 1 = j + 1 by omega, show ¬ i = j + 1 by omega, if_false]
            exact h5
    simp only [runOps] at hrun
    split at hrun
    · rename_i hw
      cases hst : stepOp rec cx.gl ao env c.slots c.pn c.h with
      | none => simp [hst] at hrun
      | some r =>
        have hnr : ao.op ≠ .rcv := by
          intro h
          simp [stepOp, h, hpn] at hst
        cases r with
        | ok v wr df pn hp =>
          have hp0 := stepOp_pn hnr hst
          subst hp0
          simp only [hst] at hrun
          refine more ⟨v, wr, df, hp⟩ (.go v wr df hp hw hst) hnr ?_
          simp only [Eff.on]
          simpa using hrun
        | pan v hp =>
          simp only [hst, Option.some.injEq] at hrun
          subst hrun
          refine ⟨j, env, cs, hl, hj, h0, hpns, hok, .inr ⟨ao, v, hp, haj, hnr, hw, by rw [hcj]; exact hst, ?_⟩⟩
          rw [hcj, hl]
    · rename_i hw
      have hnr := hnrs ao (List.mem_of_getElem? haj)
      refine more ⟨.tup [], (slotOf ao.dst).map (·, .tup []), none, none⟩ (.skip hw) hnr ?_
      simpa [Eff.on, pushD] using hrun
    · cases hrun
end Go.Am
/- A region whose operations may stand in another order: which orders come to the same. -/
set_option linter.unusedVariables false
set_option linter.unusedSimpArgs false
namespace Go.Am

def dedup : List Nat → List Nat
  | [] => []
  | x :: xs => let r := dedup xs; if r.contains x then r else x :: r

theorem mem_dedup {x : Nat} : ∀ {l : List Nat}, x ∈ dedup l → x ∈ l
  | [], h => by simp [dedup] at h
  | y :: ys, h => by
    simp only [dedup] at h
    split at h
    · exact List.mem_cons_of_mem _ (mem_dedup h)
    · rcases List.mem_cons.1 h with rfl | h
      · exact List.mem_cons_self ..
      · exact List.mem_cons_of_mem _ (mem_dedup h)

def direct (o : Oper) : List Nat := (o.after.toList.filter (Region.binds .any)).map (·.on)

/-- for each of the first operations: what stands ahead of it in every order -/
def befs (ops : Array Oper) : Nat → List (List Nat)
  | 0 => []
  | k + 1 => let acc := befs ops k; acc ++ [match ops[k]? with
    | some o => dedup (direct o ++ (direct o).flatMap fun i => acc.getD i [])
    | none => []]

theorem befs_length (ops : Array Oper) : ∀ k, (befs ops k).length = k
  | 0 => rfl
  | k + 1 => by simp [befs, befs_length ops k]

/-- what is closed under the direct edges is closed under these -/
theorem befs_closed {ops : Array Oper} {S : Nat → Prop} (hS : ∀ j o, S j → ops[j]? = some o → ∀ e ∈ o.after, Region.binds .any e = true → S e.on) :
    ∀ k j i, i ∈ (befs ops k).getD j [] → S j → S i := by
  have hd : ∀ j o, S j → ops[j]? = some o → ∀ i ∈ direct o, S i := by
    intro j o hj ho i hi
    simp only [direct, List.mem_map, List.mem_filter] at hi
    obtain ⟨e, ⟨he, hb⟩, rfl⟩ := hi
    exact hS j o hj ho e (by simpa using he) hb
  intro k
  induction k with
  | zero => intro j i hi; simp [befs] at hi
  | succ k ih =>
    intro j i hi hj
    have hlen := befs_length ops k
    by_cases hjk : j < k
    · refine ih j i ?_ hj
      simp only [befs, List.getD, List.getElem?_append_left (show j < (befs ops k).length by omega)] at hi
      exact hi
    · by_cases hjk2 : j = k
      · subst hjk2
        simp only [befs, List.getD, List.getElem?_append_right (show (befs ops j).length ≤ j by omega), hlen, Nat.sub_self] at hi
        simp only [List.getElem?_cons_zero, Option.getD_some] at hi
        cases ho : ops[j]? with
        | none => simp [ho] at hi
        | some o =>
          simp only [ho] at hi
          rcases List.mem_append.1 (mem_dedup hi) with h | h
          · exact hd j o hj ho i h
          · obtain ⟨d, hdm, hid⟩ := List.mem_flatMap.1 h
            exact ih d i hid (hd j o hj ho d hdm)
      · simp only [befs, List.getD] at hi
        rw [List.getElem?_eq_none (by simp [hlen]; omega)] at hi
        simp at hi

def AOper.hw (ao : AOper) : Bool :=
  match ao.op with
  | .e _ => true
  | _ => false

def AOper.dw (ao : AOper) : Bool :=
  match ao.op with
  | .dfr .. => true
  | _ => false

/-- do two operations come to the same in either order? -/
def indep (a b : AOper) : Bool :=
  (match a.writes with
   | some s => !b.refsS.contains s && b.writes != some s
   | none => true) &&
  (match b.writes with
   | some s => !a.refsS.contains s
   | none => true) &&
  !(a.hw && b.op.heapy) && !(b.hw && a.op.heapy) && !(a.dw && b.dw)

def AOp.isRcv : AOp → Bool
  | .rcv => true
  | _ => false

def chkD (cx : Cx) (ops : Array Oper) (aops : List AOper) (pok : List Nat) : Bool :=
  cx.P.follows .mixedOrders && (let B := befs ops ops.size
  (List.range ops.size).all fun j => match ops[j]?, aops[j]? with
    | some o, some ao => !ao.op.isRcv && o.after.all (fun e => !Region.binds .any e || decide (e.on < j)) && ao.refsE.all (fun i => decide (i < j) && (B.getD j []).contains i) &&
        (List.range j).all (fun i => (B.getD j []).contains i || (match aops[i]? with | some ai => indep ai ao | none => false)) &&
        (!pok.contains j || (List.range ops.size).all fun i => if i < j then (B.getD j []).contains i || (match aops[i]? with | some ai => !ai.hw && !ai.dw | none => false) else i == j || (B.getD i []).contains j)
    | _, _ => false)

/-- what the check says of one operation -/
structure DOk (ops : Array Oper) (aops : List AOper) (pok : List Nat) (j : Nat) (o : Oper) (ao : AOper) : Prop where
  nr : ao.op ≠ .rcv
  low : ∀ e ∈ o.after, Region.binds .any e = true → e.on < j
  env : ∀ i ∈ ao.refsE, i < j ∧ i ∈ (befs ops ops.size).getD j []
  free : ∀ i ai, i < j → aops[i]? = some ai → i ∈ (befs ops ops.size).getD j [] ∨ indep ai ao = true
  pan : j ∈ pok → ∀ i ai, aops[i]? = some ai → i < ops.size → (i < j → i ∈ (befs ops ops.size).getD j [] ∨ (ai.hw = false ∧ ai.dw = false)) ∧ (j < i → j ∈ (befs ops ops.size).getD i [])

section
variable {cx : Cx} {ops : Array Oper} {aops : List AOper} {pok : List Nat}

theorem chkD_spec (h : chkD cx ops aops pok = true) {j : Nat} {o : Oper} {ao : AOper} (hj : ops[j]? = some o) (haj : aops[j]? = some ao) : DOk ops aops pok j o ao := by
  simp only [chkD, Bool.and_eq_true, List.all_eq_true, List.mem_range] at h
  have := h.2 j (Array.getElem?_eq_some_iff.1 hj).1
  simp only [hj, haj, Bool.and_eq_true, Bool.not_eq_true', List.all_eq_true, List.mem_range, decide_eq_true_eq, Bool.or_eq_true, Array.all_eq_true_iff_forall_mem, List.contains_iff_mem] at this
  obtain ⟨⟨⟨⟨h1, h2⟩, h3⟩, h4⟩, h5⟩ := this
  refine ⟨fun e => by simp [e, AOp.isRcv] at h1, fun e he hb => ?_, fun i hi => h3 i hi, fun i ai hi hai => ?_, fun hp i ai hai hin => ⟨fun hlt => ?_, fun hlt => ?_⟩⟩
  · rcases h2 e he with h | h
    · rw [hb] at h; cases h
    · exact h
  · rcases h4 i hi with h | h
    · exact .inl h
    · rw [hai] at h; exact .inr h
  · rcases h5 with h | h
    · simp only [List.contains_eq_mem, decide_eq_false_iff_not] at h
      exact absurd hp h
    · have := h i hin
      rw [if_pos hlt, hai] at this
      simpa using this
  · rcases h5 with h | h
    · simp only [List.contains_eq_mem, decide_eq_false_iff_not] at h
      exact absurd hp h
    · have := h i hin
      rw [if_neg (by omega)] at this
      simp only [Bool.or_eq_true, beq_iff_eq, List.contains_iff_mem] at this
      rcases this with h | h
      · omega
      · exact h

theorem indep_spec {a b : AOper} (h : indep a b = true) : (∀ s, a.writes = some s → s ∉ b.refsS ∧ b.writes ≠ some s) ∧ (∀ s, b.writes = some s → s ∉ a.refsS) ∧ ¬ (a.hw = true ∧ b.op.heapy = true) ∧ ¬ (b.hw = true ∧ a.op.heapy = true) ∧ ¬ (a.dw = true ∧ b.dw = true) := by
  simp only [indep, Bool.and_eq_true, Bool.not_eq_true', Bool.and_eq_false_iff] at h
  obtain ⟨⟨⟨⟨h1, h2⟩, h3⟩, h4⟩, h5⟩ := h
  refine ⟨fun s hs => ?_, fun s hs => ?_, ?_, ?_, ?_⟩
  · rw [hs] at h1
    simp only [Bool.and_eq_true, Bool.not_eq_true', bne_iff_ne, ne_eq] at h1
    exact ⟨by simpa using h1.1, h1.2⟩
  · rw [hs] at h2
    simpa using h2
  · rintro ⟨x, y⟩; rcases h3 with h | h <;> simp_all
  · rintro ⟨x, y⟩; rcases h4 with h | h <;> simp_all
  · rintro ⟨x, y⟩; rcases h5 with h | h <;> simp_all

theorem hw_heapy {a : AOper} (h : a.hw = true) : a.op.heapy = true := by
  unfold AOper.hw at h
  split at h
  · rename_i heq; simp [heq, AOp.heapy]
  · cases h

/-- what an outcome writes -/
theorem eff_writes {rec : Rec} {gl : Nat → List V} {env : List V} {c : Cfg} {o : Oper} {ao : AOper} {e : Eff} (hchk : chkA cx ops aops o ao = true) (hnr : ao.op ≠ .rcv) (he : EffOp rec gl ao env c e) :
    (∀ s v, e.wr = some (s, v) → ao.writes = some s) ∧ (ao.hw = false → e.hp = none) ∧ (ao.dw = false → e.df = none) := by
  have hchk' := hchk
  simp only [chkA, Bool.and_eq_true] at hchk'
  have h2 := hchk'.2
  cases he with
  | skip hw =>
    refine ⟨fun s v h => ?_, fun _ => rfl, fun _ => rfl⟩
    cases hd : ao.dst with
    | no => simp [hd, slotOf] at h
    | loc => simp [hd, slotOf] at h
    | slot s' =>
      simp only [hd, slotOf, Option.map_some, Option.some.injEq, Prod.mk.injEq] at h
      obtain ⟨rfl, _⟩ := h
      unfold AOper.writes
      split
      · rename_i heq
        rw [heq] at h2
        simp [hd] at h2
      · simp [hd, slotOf]
  | go v wr df hp hw hs =>
    have hput : ∀ (v' : V) {v wr df hp}, putSlot ao.dst v' = .ok v wr df none hp → (∀ s u, wr = some (s, u) → slotOf ao.dst = some s) ∧ hp = none ∧ df = none := by
      intro v' v wr df hp h
      unfold putSlot at h
      split at h
      · rename_i s hd
        cases h
        refine ⟨fun s u h => ?_, rfl, rfl⟩
        cases h
        simp [hd, slotOf]
      · cases h
        exact ⟨fun s u h => (by cases h), rfl, rfl⟩
    cases hop : ao.op <;> simp only [stepOp, hop] at hs <;> simp only [AOper.writes, AOper.hw, AOper.dw, hop]
    case rcv => exact absurd hop hnr
    case p =>
      simp only [Option.map_eq_some_iff] at hs
      obtain ⟨_, _, hs⟩ := hs
      obtain ⟨a1, a2, a3⟩ := hput _ hs
      exact ⟨a1, fun _ => a2, fun _ => a3⟩
    case pc =>
      simp only [Option.map_eq_some_iff] at hs
      obtain ⟨r, _, hs⟩ := hs
      cases r with
      | val v =>
        obtain ⟨a1, a2, a3⟩ := hput _ hs
        exact ⟨a1, fun _ => a2, fun _ => a3⟩
      | pan v => cases hs
    case l =>
      simp only [Option.map_eq_some_iff] at hs
      obtain ⟨r, _, hs⟩ := hs
      cases r with
      | val v =>
        obtain ⟨a1, a2, a3⟩ := hput _ hs
        exact ⟨a1, fun _ => a2, fun _ => a3⟩
      | pan v => cases hs
    case e =>
      simp only [Option.map_eq_some_iff] at hs
      obtain ⟨r, _, hs⟩ := hs
      cases r with
      | val v =>
        simp only [ofERef] at hs
        split at hs
        · rename_i s hd
          cases hs
          exact ⟨fun s u h => (by cases h; simp [hd, slotOf]), fun h => (by cases h), fun _ => rfl⟩
        · cases hs
          exact ⟨fun s u h => (by cases h), fun h => (by cases h), fun _ => rfl⟩
      | pan v => cases hs
    case np =>
      split at hs
      · rename_i s hd
        split at hs
        · cases hs
          exact ⟨fun s u h => (by cases h; simp [hd, slotOf]), fun _ => rfl, fun _ => rfl⟩
        · cases hs
      · cases hs
    case pa =>
      split at hs
      · split at hs
        · split at hs
          · cases hs; exact ⟨fun s u h => (by cases h), fun _ => rfl, fun _ => rfl⟩
          · split at hs
            · split at hs
              · cases hs; exact ⟨fun s u h => (by cases h), fun _ => rfl, fun _ => rfl⟩
              · cases hs
            · cases hs
        · cases hs
      · cases hs
    case pl =>
      split at hs
      · split at hs
        · split at hs
          · simp only [Option.map_eq_some_iff] at hs
            obtain ⟨_, _, hs⟩ := hs
            obtain ⟨a1, a2, a3⟩ := hput _ hs
            exact ⟨a1, fun _ => a2, fun _ => a3⟩
          · cases hs
        · cases hs
      · cases hs
    case pu =>
      split at hs
      · split at hs
        · split at hs
          · cases hs
            exact ⟨fun s u h => (by cases h; rfl), fun _ => rfl, fun _ => rfl⟩
          · cases hs
        · cases hs
      · cases hs
    case pan =>
      split at hs <;> cases hs
    case dfr =>
      split at hs
      · cases hs
        exact ⟨fun s u h => (by cases h), fun _ => rfl, fun h => by cases h⟩
      · cases hs
end
end Go.Am
/- A region whose operations may stand in another order: every order comes to the same. -/
set_option linter.unusedVariables false
set_option linter.unusedSimpArgs false
namespace Go.Am
section
variable {cx : Cx} {ops : Array Oper} {aops : List AOper} {pok : List Nat} {rec : Rec} {c0 : Cfg} {ro : ROut} {L : Nat} {tenv : List V} {cs : Nat → Cfg}

abbrev On (l : Array Bool) (i : Nat) : Prop := l.getD i false = true

/-- the writers of something that are listed: those below m -/
def Upto (aops : List AOper) (l : Array Bool) (W : AOper → Prop) (m : Nat) : Prop := ∀ i ai, aops[i]? = some ai → W ai → (On l i ↔ i < m)

structure DInv (ops : Array Oper) (aops : List AOper) (L : Nat) (tenv : List V) (cs : Nat → Cfg) (l : Array Bool) (env : List V) (c : Cfg) : Prop where
  lsz : l.size = ops.size
  elen : env.length = ops.size
  on : ∀ i, On l i → env[i]? = tenv[i]?
  off : ∀ i u, ¬ On l i → env[i]? = some u → u = .undef
  closed : ∀ i o, On l i → ops[i]? = some o → ∀ e ∈ o.after, Region.binds .any e = true → On l e.on
  inL : ∀ i, On l i → i < L
  slots : ∀ s, ∃ m, m ≤ L ∧ Upto aops l (fun ai => ai.writes = some s) m ∧ c.slots[s]? = (cs m).slots[s]?
  heap : ∃ m, m ≤ L ∧ Upto aops l (fun ai => ai.hw = true) m ∧ c.h = (cs m).h
  dfs : ∃ m, m ≤ L ∧ Upto aops l (fun ai => ai.dw = true) m ∧ c.dfs = (cs m).dfs
  pn : c.pn = none

/-- what nobody writes stays -/
theorem tr_stays {α : Type} (F : Cfg → α) (W : AOper → Prop) (hW : ∀ i ai e, i < L → aops[i]? = some ai → EffOp rec cx.gl ai (tenv.take i) (cs i) e → ¬ W ai → F (e.on (cs i)) = F (cs i))
    (tr : Tr rec cx.gl aops c0 ro L tenv cs) : ∀ (d p : Nat), p + d ≤ L → (∀ i ai, p ≤ i → i < p + d → aops[i]? = some ai → ¬ W ai) → F (cs (p + d)) = F (cs p)
  | 0, p, _, _ => rfl
  | d + 1, p, hL, hn => by
    have ih := tr_stays F W hW tr d p (by omega) (fun i ai h1 h2 h3 => hn i ai h1 (by omega) h3)
    obtain ⟨ai, e, h1, _, h3, _, h5⟩ := tr.ok (p + d) (by omega)
    have := hW (p + d) ai e (by omega) h1 h3 (hn (p + d) ai (by omega) (by omega) h1)
    rw [show p + (d + 1) = p + d + 1 by omega, h5, this, ih]

theorem tr_same {α : Type} (F : Cfg → α) (W : AOper → Prop) (hW : ∀ i ai e, i < L → aops[i]? = some ai → EffOp rec cx.gl ai (tenv.take i) (cs i) e → ¬ W ai → F (e.on (cs i)) = F (cs i))
    (tr : Tr rec cx.gl aops c0 ro L tenv cs) {p q : Nat} (hp : p ≤ L) (hq : q ≤ L) (hn : ∀ i ai, ((p ≤ i ∧ i < q) ∨ (q ≤ i ∧ i < p)) → aops[i]? = some ai → ¬ W ai) : F (cs p) = F (cs q) := by
  rcases Nat.le_total p q with h | h
  · have := tr_stays F W hW tr (q - p) p (by omega) (fun i ai h1 h2 h3 => hn i ai (.inl ⟨h1, by omega⟩) h3)
    rw [show p + (q - p) = q by omega] at this
    exact this.symm
  · have := tr_stays F W hW tr (p - q) q (by omega) (fun i ai h1 h2 h3 => hn i ai (.inr ⟨h1, by omega⟩) h3)
    rwa [show q + (p - q) = p by omega] at this

theorem set_self (l : List V) (s : Nat) (v : V) : (l.set s v)[s]? = l[s]?.map fun _ => v := by
  by_cases h : s < l.length
  · rw [List.getElem?_set_self h, List.getElem?_eq_getElem h]; rfl
  · rw [List.getElem?_eq_none (by simp; omega), List.getElem?_eq_none (by omega)]; rfl

theorem on_slots {e : Eff} {c : Cfg} {s : Nat} (h : ∀ v, e.wr ≠ some (s, v)) : (e.on c).slots[s]? = c.slots[s]? := by
  simp only [Eff.on]
  cases hw : e.wr with
  | none => rfl
  | some p =>
    obtain ⟨s', v⟩ := p
    simp only [Am.setSlot]
    rw [List.getElem?_set_ne]
    intro he
    subst he
    exact h v hw

section
variable (hreg : chkR cx ops aops = true) (hd : chkD cx ops aops pok = true) (tr : Tr rec cx.gl aops c0 ro L tenv cs)
include hreg

theorem tr_op {i : Nat} {ai : AOper} (hai : aops[i]? = some ai) : ∃ o, ops[i]? = some o ∧ chkA cx ops aops o ai = true := by
  obtain ⟨o, ho⟩ := chkR_op hreg hai
  obtain ⟨ao', h1, h2, _⟩ := chkR_spec hreg ho
  rw [hai] at h1; cases h1
  exact ⟨o, ho, h2⟩

include hd

theorem keepS (s : Nat) : ∀ i ai e, i < L → aops[i]? = some ai → EffOp rec cx.gl ai (tenv.take i) (cs i) e → ¬ (ai.writes = some s) → (fun c : Cfg => c.slots[s]?) (e.on (cs i)) = (fun c : Cfg => c.slots[s]?) (cs i) := by
  intro i ai e _ hai he hw
  obtain ⟨o, ho, hchk⟩ := tr_op hreg hai
  obtain ⟨h1, _, _⟩ := eff_writes hchk (chkD_spec hd ho hai).nr he
  exact on_slots (fun v hv => hw (h1 s v hv))

theorem keepH : ∀ i ai e, i < L → aops[i]? = some ai → EffOp rec cx.gl ai (tenv.take i) (cs i) e → ¬ (ai.hw = true) → (fun c : Cfg => c.h) (e.on (cs i)) = (fun c : Cfg => c.h) (cs i) := by
  intro i ai e _ hai he hw
  obtain ⟨o, ho, hchk⟩ := tr_op hreg hai
  obtain ⟨_, h1, _⟩ := eff_writes hchk (chkD_spec hd ho hai).nr he
  simp [Eff.on, h1 (by simpa using hw)]

theorem keepD : ∀ i ai e, i < L → aops[i]? = some ai → EffOp rec cx.gl ai (tenv.take i) (cs i) e → ¬ (ai.dw = true) → (fun c : Cfg => c.dfs) (e.on (cs i)) = (fun c : Cfg => c.dfs) (cs i) := by
  intro i ai e _ hai he hw
  obtain ⟨o, ho, hchk⟩ := tr_op hreg hai
  obtain ⟨_, _, h1⟩ := eff_writes hchk (chkD_spec hd ho hai).nr he
  simp [Eff.on, h1 (by simpa using hw), pushD]

omit hreg hd in
/-- what stands ahead of an operation that is ready is listed -/
theorem ahead {l : Array Bool} {env : List V} {c : Cfg} (inv : DInv ops aops L tenv cs l env c) {j : Nat} {o : Oper} (hj : ops[j]? = some o) (hrd : ∀ e ∈ o.after, Region.binds .any e = true → On l e.on) {i : Nat} (hi : i ∈ (befs ops ops.size).getD j []) (hne : i ≠ j) : On l i := by
  have := befs_closed (ops := ops) (S := fun k => On l k ∨ k = j) (fun k ok hk hok e he hb => by
    rcases hk with hk | rfl
    · exact .inl (inv.closed k ok hk hok e he hb)
    · rw [hj] at hok; cases hok
      exact .inl (hrd e he hb)) ops.size j i hi (.inr rfl)
  rcases this with h | h
  · exact h
  · exact absurd h hne

omit hreg hd in
theorem behind {l : Array Bool} {env : List V} {c : Cfg} (inv : DInv ops aops L tenv cs l env c) {i j : Nat} (hi : j ∈ (befs ops ops.size).getD i []) (hl : On l i) : On l j :=
  befs_closed (ops := ops) (S := fun k => On l k) (fun k ok hk hok e he hb => inv.closed k ok hk hok e he hb) ops.size i j hi hl

omit hreg hd in
/-- who is ordered with j against W: the listed writers are those below j -/
theorem Upto.at_ready {l : Array Bool} {env : List V} {c : Cfg} (inv : DInv ops aops L tenv cs l env c) {j : Nat} {o : Oper} (hj : ops[j]? = some o) (hnl : ¬ On l j) (hrd : ∀ e ∈ o.after, Region.binds .any e = true → On l e.on) {W : AOper → Prop}
    (h1 : ∀ i ai, i < j → aops[i]? = some ai → W ai → i ∈ (befs ops ops.size).getD j []) (h2 : ∀ i ai, j < i → aops[i]? = some ai → W ai → j ∈ (befs ops ops.size).getD i []) : Upto aops l W j := by
  intro i ai hai hW
  constructor
  · intro hon
    rcases Nat.lt_trichotomy i j with h | h | h
    · exact h
    · subst h; exact absurd hon hnl
    · exact absurd (behind inv (h2 i ai h hai hW) hon) hnl
  · intro hlt
    exact ahead inv hj hrd (h1 i ai hlt hai hW) (by omega)

omit hreg hd in
theorem Upto.between {l : Array Bool} {W : AOper → Prop} {m m' : Nat} (h : Upto aops l W m) (h' : Upto aops l W m') : ∀ i ai, ((m ≤ i ∧ i < m') ∨ (m' ≤ i ∧ i < m)) → aops[i]? = some ai → ¬ W ai := by
  intro i ai hi hai hW
  have a := (h i ai hai hW).symm.trans (h' i ai hai hW)
  omega

theorem agreeS {l : Array Bool} {env : List V} {c : Cfg} (inv : DInv ops aops L tenv cs l env c) {s j : Nat} (hjL : j ≤ L) (hu : Upto aops l (fun ai => ai.writes = some s) j) (tr : Tr rec cx.gl aops c0 ro L tenv cs) : c.slots[s]? = (cs j).slots[s]? := by
  obtain ⟨m, hm, hum, he⟩ := inv.slots s
  rw [he]
  exact tr_same (fun c : Cfg => c.slots[s]?) _ (keepS hreg hd s) tr hm hjL (hum.between hu)

theorem agreeH {l : Array Bool} {env : List V} {c : Cfg} (inv : DInv ops aops L tenv cs l env c) {j : Nat} (hjL : j ≤ L) (hu : Upto aops l (fun ai => ai.hw = true) j) (tr : Tr rec cx.gl aops c0 ro L tenv cs) : c.h = (cs j).h := by
  obtain ⟨m, hm, hum, he⟩ := inv.heap
  rw [he]
  exact tr_same (fun c : Cfg => c.h) _ (keepH hreg hd) tr hm hjL (hum.between hu)

theorem agreeD {l : Array Bool} {env : List V} {c : Cfg} (inv : DInv ops aops L tenv cs l env c) {j : Nat} (hjL : j ≤ L) (hu : Upto aops l (fun ai => ai.dw = true) j) (tr : Tr rec cx.gl aops c0 ro L tenv cs) : c.dfs = (cs j).dfs := by
  obtain ⟨m, hm, hum, he⟩ := inv.dfs
  rw [he]
  exact tr_same (fun c : Cfg => c.dfs) _ (keepD hreg hd) tr hm hjL (hum.between hu)

/-- pairs that are not free are ordered -/
theorem ordered {i j : Nat} {ai aj : AOper} (hij : i < j) (hai : aops[i]? = some ai) (haj : aops[j]? = some aj) (h : indep ai aj = false) : i ∈ (befs ops ops.size).getD j [] := by
  obtain ⟨o, ho, _⟩ := tr_op hreg haj
  rcases (chkD_spec hd ho haj).free i ai hij hai with h' | h'
  · exact h'
  · rw [h] at h'; cases h'

theorem upS {l : Array Bool} {env : List V} {c : Cfg} (inv : DInv ops aops L tenv cs l env c) {j : Nat} {o : Oper} {aj : AOper} (hj : ops[j]? = some o) (haj : aops[j]? = some aj) (hnl : ¬ On l j) (hrd : ∀ e ∈ o.after, Region.binds .any e = true → On l e.on)
    {s : Nat} (hs : s ∈ aj.refsS ∨ aj.writes = some s) : Upto aops l (fun ai => ai.writes = some s) j := by
  refine Upto.at_ready inv hj hnl hrd (fun i ai hlt hai hW => ordered hreg hd hlt hai haj ?_) (fun i ai hlt hai hW => ordered hreg hd hlt haj hai ?_)
  · cases hi : indep ai aj with
    | false => rfl
    | true =>
      obtain ⟨a1, _⟩ := indep_spec hi
      rcases hs with h | h
      · exact absurd h (a1 s hW).1
      · exact absurd h (a1 s hW).2
  · cases hi : indep aj ai with
    | false => rfl
    | true =>
      obtain ⟨a1, a2, _⟩ := indep_spec hi
      rcases hs with h | h
      · exact absurd h (a2 s hW)
      · exact absurd hW (a1 s h).2

theorem upH {l : Array Bool} {env : List V} {c : Cfg} (inv : DInv ops aops L tenv cs l env c) {j : Nat} {o : Oper} {aj : AOper} (hj : ops[j]? = some o) (haj : aops[j]? = some aj) (hnl : ¬ On l j) (hrd : ∀ e ∈ o.after, Region.binds .any e = true → On l e.on)
    (hh : aj.op.heapy = true) : Upto aops l (fun ai => ai.hw = true) j := by
  refine Upto.at_ready inv hj hnl hrd (fun i ai hlt hai hW => ordered hreg hd hlt hai haj ?_) (fun i ai hlt hai hW => ordered hreg hd hlt haj hai ?_)
  · cases hi : indep ai aj with
    | false => rfl
    | true => exact absurd ⟨hW, hh⟩ (indep_spec hi).2.2.1
  · cases hi : indep aj ai with
    | false => rfl
    | true => exact absurd ⟨hW, hh⟩ (indep_spec hi).2.2.2.1

theorem upD {l : Array Bool} {env : List V} {c : Cfg} (inv : DInv ops aops L tenv cs l env c) {j : Nat} {o : Oper} {aj : AOper} (hj : ops[j]? = some o) (haj : aops[j]? = some aj) (hnl : ¬ On l j) (hrd : ∀ e ∈ o.after, Region.binds .any e = true → On l e.on)
    (hh : aj.dw = true) : Upto aops l (fun ai => ai.dw = true) j := by
  refine Upto.at_ready inv hj hnl hrd (fun i ai hlt hai hW => ordered hreg hd hlt hai haj ?_) (fun i ai hlt hai hW => ordered hreg hd hlt haj hai ?_)
  · cases hi : indep ai aj with
    | false => rfl
    | true => exact absurd ⟨hW, hh⟩ (indep_spec hi).2.2.2.2
  · cases hi : indep aj ai with
    | false => rfl
    | true => exact absurd ⟨hh, hW⟩ (indep_spec hi).2.2.2.2

omit hreg hd in
theorem on_set {l : Array Bool} {j i : Nat} (hj : j < l.size) : On (l.setIfInBounds j true) i ↔ On l i ∨ i = j := by
  unfold On
  by_cases h : j = i
  · subst h
    simp [hj]
  · simp [Array.getElem?_setIfInBounds_ne h, Ne.symm h]

/-- the invariant behind one more operation -/
theorem DInv.next {l : Array Bool} {env : List V} {c : Cfg} (inv : DInv ops aops L tenv cs l env c) {j : Nat} {o : Oper} {aj : AOper} (hj : ops[j]? = some o) (haj : aops[j]? = some aj) (hnl : ¬ On l j) (hrd : ∀ e ∈ o.after, Region.binds .any e = true → On l e.on)
    (hjL : j < L) {e : Eff} (he : EffOp rec cx.gl aj (tenv.take j) (cs j) e) (hev : tenv[j]? = some e.v) (hcs : cs (j + 1) = e.on (cs j)) (tr : Tr rec cx.gl aops c0 ro L tenv cs) :
    DInv ops aops L tenv cs (l.setIfInBounds j true) (env.set j e.v) (e.on c) := by
  have hjn : j < ops.size := (Array.getElem?_eq_some_iff.1 hj).1
  have hset : ∀ i, On (l.setIfInBounds j true) i ↔ On l i ∨ i = j := fun i => on_set (by rw [inv.lsz]; exact hjn)
  obtain ⟨o', ho', hchk⟩ := tr_op hreg haj
  obtain ⟨w1, w2, w3⟩ := eff_writes hchk (chkD_spec hd ho' haj).nr he
  have up : ∀ {W : AOper → Prop} {m : Nat}, Upto aops l W m → ¬ W aj → Upto aops (l.setIfInBounds j true) W m := by
    intro W m h hn i ai hai hW
    rw [hset]
    have hne : i ≠ j := fun e => by subst e; rw [haj] at hai; cases hai; exact hn hW
    have := h i ai hai hW
    constructor
    · rintro (h' | h')
      · exact this.1 h'
      · exact absurd h' hne
    · exact fun h' => .inl (this.2 h')
  have up1 : ∀ {W : AOper → Prop}, Upto aops l W j → Upto aops (l.setIfInBounds j true) W (j + 1) := by
    intro W h i ai hai hW
    rw [hset]
    have := h i ai hai hW
    constructor
    · rintro (h' | h')
      · have := this.1 h'; omega
      · omega
    · intro h'
      rcases Nat.lt_or_ge i j with h2 | h2
      · exact .inl (this.2 h2)
      · exact .inr (by omega)
  refine ⟨by simp [inv.lsz], by simp [inv.elen], ?_, ?_, ?_, ?_, ?_, ?_, ?_, inv.pn⟩
  · intro i hi
    by_cases h : i = j
    · subst h
      rw [List.getElem?_set_self (by rw [inv.elen]; exact hjn), hev]
    · rw [List.getElem?_set_ne (fun e => h e.symm)]
      rcases (hset i).1 hi with h' | h'
      · exact inv.on i h'
      · exact absurd h' h
  · intro i u hi hu
    have hne : i ≠ j := fun e => hi ((hset i).2 (.inr e))
    rw [List.getElem?_set_ne (fun e => hne e.symm)] at hu
    exact inv.off i u (fun h => hi ((hset i).2 (.inl h))) hu
  · intro i oi hi hoi ed hed hb
    rw [hset]
    rcases (hset i).1 hi with h' | rfl
    · exact .inl (inv.closed i oi h' hoi ed hed hb)
    · rw [hj] at hoi; cases hoi
      exact .inl (hrd ed hed hb)
  · intro i hi
    rcases (hset i).1 hi with h' | rfl
    · exact inv.inL i h'
    · exact hjL
  · intro s
    by_cases hw : aj.writes = some s
    · have hu := upS hreg hd inv hj haj hnl hrd (.inr hw)
      have hag := agreeS hreg hd inv (by omega) hu tr
      refine ⟨j + 1, by omega, up1 hu, ?_⟩
      rw [hcs]
      by_cases hx : ∃ v, e.wr = some (s, v)
      · obtain ⟨v, hv⟩ := hx
        simp only [Eff.on, hv, Am.setSlot, set_self, hag]
      · rw [on_slots (fun v hv => hx ⟨v, hv⟩), on_slots (fun v hv => hx ⟨v, hv⟩), hag]
    · obtain ⟨m, h1, h2, h3⟩ := inv.slots s
      exact ⟨m, h1, up h2 hw, by rw [on_slots (fun v hv => hw (w1 s v hv)), h3]⟩
  · by_cases hw : aj.hw = true
    · have hu := upH hreg hd inv hj haj hnl hrd (hw_heapy hw)
      have hag := agreeH hreg hd inv (by omega) hu tr
      refine ⟨j + 1, by omega, up1 hu, ?_⟩
      rw [hcs]
      simp only [Eff.on, hag]
    · obtain ⟨m, h1, h2, h3⟩ := inv.heap
      exact ⟨m, h1, up h2 hw, by simp only [Eff.on, w2 (by simpa using hw), Option.getD_none, h3]⟩
  · by_cases hw : aj.dw = true
    · have hu := upD hreg hd inv hj haj hnl hrd hw
      have hag := agreeD hreg hd inv (by omega) hu tr
      refine ⟨j + 1, by omega, up1 hu, ?_⟩
      rw [hcs]
      simp only [Eff.on, hag]
    · obtain ⟨m, h1, h2, h3⟩ := inv.dfs
      exact ⟨m, h1, up h2 hw, by simp only [Eff.on, w3 (by simpa using hw), pushD, h3]⟩

/-- an operation that is ready sees what it saw in the row -/
theorem sees {l : Array Bool} {env : List V} {c : Cfg} (inv : DInv ops aops L tenv cs l env c) {j : Nat} {o : Oper} {aj : AOper} (hj : ops[j]? = some o) (haj : aops[j]? = some aj) (hnl : ¬ On l j) (hrd : ∀ e ∈ o.after, Region.binds .any e = true → On l e.on)
    (hjL : j ≤ L) (tr : Tr rec cx.gl aops c0 ro L tenv cs) : wanted env aj.guard = wanted (tenv.take j) aj.guard ∧
      stepOp rec cx.gl aj env c.slots c.pn c.h = stepOp rec cx.gl aj (tenv.take j) (cs j).slots (cs j).pn (cs j).h := by
  have dok := chkD_spec hd hj haj
  have he : ∀ i ∈ aj.refsE, env[i]? = (tenv.take j)[i]? := by
    intro i hi
    obtain ⟨h1, h2⟩ := dok.env i hi
    rw [inv.on i (ahead inv hj hrd h2 (by omega)), List.getElem?_take_of_lt h1]
  refine ⟨wanted_congr he, step_congr dok.nr he (fun s hs => ?_) (fun hh => ?_)⟩
  · exact agreeS hreg hd inv hjL (upS hreg hd inv hj haj hnl hrd (.inl hs)) tr
  · exact agreeH hreg hd inv hjL (upH hreg hd inv hj haj hnl hrd hh) tr
end
end
end Go.Am
/- A region whose operations may stand in another order: that every order comes to what the row comes to. -/
set_option linter.unusedVariables false
set_option linter.unusedSimpArgs false
namespace Go.Am

/-- less is known of the slots -/
def Less (sl' sl : List V) : Prop := sl'.length = sl.length ∧ ∀ (s : Nat) (u : V), sl'[s]? = some u → u = .undef ∨ sl[s]? = some u

theorem SlR.weaken {cx : Cx} {sl sl' : List V} {g : G} {h : Heap} {w : World} {tmps : Array Value} (hr : SlR cx sl g h w tmps) (hl : Less sl' sl) : SlR cx sl' g h w tmps := by
  refine ⟨hl.1.trans hr.len, hr.size, fun s t u h1 h2 h3 => ?_, fun s t u h1 h2 h3 h4 => ?_, fun s1 s2 t t' u u' blk h1 h2 h3 h4 h5 h6 h7 h8 h9 h10 => ?_⟩
  · rcases hl.2 s u h2 with rfl | h
    · exact .d _ _ (.undef _)
    · exact hr.val s t u h1 h h3
  · rcases hl.2 s u h2 with rfl | h
    · exact absurd rfl h4
    · exact hr.prm s t u h1 h h3 h4
  · rcases hl.2 s1 u h3 with rfl | h
    · exact absurd rfl h7
    · rcases hl.2 s2 u' h4 with rfl | h'
      · exact absurd rfl h8
      · exact hr.one s1 s2 t t' u u' blk h1 h2 h h' h5 h6 h7 h8 h9 h10

theorem CR.weaken {cx : Cx} {c c' : Cfg} {g : G} {a : Act} {w : World} (cr : CR cx c g a w) (hs : Less c'.slots c.slots) (hh : c'.h = c.h) (hd : c'.dfs = c.dfs) : CR cx c' g a w :=
  ⟨by rw [hh]; exact cr.step, by rw [hh]; exact cr.sr.weaken hs, by rw [hd]; exact cr.df, cr.gl⟩

theorem Less.refl (sl : List V) : Less sl sl := ⟨rfl, fun _ _ h => .inr h⟩

theorem forget_spec : ∀ (ops : List AOper) (sl : List V), (forget ops sl).length = sl.length ∧ ∀ s u, (forget ops sl)[s]? = some u → u = .undef ∨ (sl[s]? = some u ∧ ∀ o ∈ ops, o.writes ≠ some s)
  | [], sl => ⟨rfl, fun s u h => .inr ⟨h, by simp⟩⟩
  | o :: os, sl => by
    have key : forget (o :: os) sl = forget os (match o.writes with | some s => sl.set s .undef | none => sl) := rfl
    rw [key]
    cases hw : o.writes with
    | none =>
      obtain ⟨h1, h2⟩ := forget_spec os sl
      refine ⟨h1, fun s u h => ?_⟩
      rcases h2 s u h with h | ⟨h3, h4⟩
      · exact .inl h
      · refine .inr ⟨h3, fun o' ho' => ?_⟩
        rcases List.mem_cons.1 ho' with rfl | ho'
        · rw [hw]; simp
        · exact h4 o' ho'
    | some s0 =>
      obtain ⟨h1, h2⟩ := forget_spec os (sl.set s0 .undef)
      refine ⟨by simpa using h1, fun s u h => ?_⟩
      rcases h2 s u h with h | ⟨h3, h4⟩
      · exact .inl h
      · rcases set_get h3 with ⟨rfl, rfl⟩ | ⟨hne, h5⟩
        · exact .inl rfl
        · refine .inr ⟨h5, fun o' ho' => ?_⟩
          rcases List.mem_cons.1 ho' with rfl | ho'
          · rw [hw]; simpa using fun e => hne e.symm
          · exact h4 o' ho'

theorem forget_less (ops : List AOper) (sl : List V) : Less (forget ops sl) sl :=
  ⟨(forget_spec ops sl).1, fun s u h => by
    rcases (forget_spec ops sl).2 s u h with h | h
    · exact .inl h
    · exact .inr h.1⟩

def RowPostD (cx : Cx) (ops : Array Oper) (aops : List AOper) (pok : List Nat) (ro : ROut) (Q : Exit → Act → World → Prop) : Prop :=
  match ro with
  | .norm env c => ∀ g a w, CR cx c g a w → ER cx ops aops env g a.tmps → Q .normal a w
  | .pan j v c => j ∈ pok ∧ ∀ g a w x, CR cx { c with slots := forget aops c.slots } g a w → RV g v x → Q (.panic [{ v := x, recovered := false }]) a w

section
variable {cx : Cx} {ops : Array Oper} {aops : List AOper} {pok : List Nat} {rec : Rec} {c0 : Cfg} {ro : ROut} {L : Nat} {tenv : List V} {cs : Nat → Cfg}

theorem count_set {l : Array Bool} {j : Nat} (hj : j < l.size) (hf : l.getD j false = false) : (l.setIfInBounds j true).toList.count false + 1 = l.toList.count false := by
  have hlj : l.toList[j]'(by simpa using hj) = false := by
    simp [hj] at hf
    simpa using hf
  have : ∀ (xs : List Bool) (k : Nat) (hk : k < xs.length), xs[k] = false → (xs.set k true).count false + 1 = xs.count false := by
    intro xs
    induction xs with
    | nil => intro k hk; simp at hk
    | cons x xs ih =>
      intro k hk h
      cases k with
      | zero => simp at h; subst h; simp
      | succ k =>
        have := ih k (by simpa using hk) (by simpa using h)
        simp only [List.set_cons_succ, List.count_cons]
        omega
  rw [Array.toList_setIfInBounds]
  exact this _ j (by simpa using hj) hlj

theorem all_on {l : Array Bool} (h : l.toList.count false = 0) {i : Nat} (hi : i < l.size) : On l i := by
  have h1 : false ∉ l.toList := List.count_eq_zero.1 h
  have h2 : l.getD i false = l[i] := by simp [hi]
  unfold On
  cases hb : l[i] with
  | true => rw [h2, hb]
  | false => exact absurd (by rw [← hb]; exact Array.getElem_mem_toList hi) h1

theorem any_sound (hn : cx.slots.Nodup) (hrec : CallOK cx.P cx.gl cx.gs rec.call) (hreg : chkR cx ops aops = true) (hd : chkD cx ops aops pok = true) (tr : Tr rec cx.gl aops c0 ro L tenv cs) {Q : Exit → Act → World → Prop} (hpost : RowPostD cx ops aops pok ro Q) :
    ∀ (fuel : Nat) (l : Array Bool) (env : List V) (c : Cfg) (g : G) (a : Act) (w : World), DInv ops aops L tenv cs l env c → CR cx c g a w → ER cx ops aops env g a.tmps → l.toList.count false ≤ fuel → wpAny cx.P .any ops Q fuel l a w := by
  have hsize : ops.size = aops.length := by
    simp only [chkR, Bool.and_eq_true, beq_iff_eq] at hreg
    exact hreg.1
  -- all listed
  have done : ∀ (l : Array Bool) (env : List V) (c : Cfg) (g : G) (a : Act) (w : World), DInv ops aops L tenv cs l env c → CR cx c g a w → ER cx ops aops env g a.tmps → (∀ i, i < ops.size → On l i) → Q .normal a w := by
    intro l env c g a w inv cr er hall
    rcases tr.fin with ⟨hL, rfl⟩ | ⟨ao, v, hp, hao, _⟩
    · have upL : ∀ {W : AOper → Prop}, Upto aops l W L := by
        intro W i ai hai _
        have := (List.getElem?_eq_some_iff.1 hai).1
        exact ⟨fun _ => by omega, fun _ => hall i (by omega)⟩
      refine hpost g a w (cr.weaken ?_ (agreeH hreg hd inv (Nat.le_refl L) upL tr).symm (agreeD hreg hd inv (Nat.le_refl L) upL tr).symm) ?_
      · have he : ∀ s, c.slots[s]? = (cs L).slots[s]? := fun s => agreeS hreg hd inv (Nat.le_refl L) upL tr
        have : (cs L).slots = c.slots := List.ext_getElem? (fun i => (he i).symm)
        rw [this]
        exact Less.refl _
      · have : tenv = env := by
          apply List.ext_getElem?
          intro i
          by_cases hi : i < ops.size
          · exact (inv.on i (hall i hi)).symm
          · rw [List.getElem?_eq_none (by rw [tr.len]; omega), List.getElem?_eq_none (by rw [inv.elen]; omega)]
        rw [this]
        exact er
    · have := (List.getElem?_eq_some_iff.1 hao).1
      have := inv.inL L (hall L (by omega))
      omega
  -- nothing ready: all listed
  have empty : ∀ (l : Array Bool) (env : List V) (c : Cfg), DInv ops aops L tenv cs l env c → Region.ready .any ops l = [] → ∀ i, i < ops.size → On l i := by
    intro l env c inv hrd i
    induction i using Nat.strongRecOn with
    | _ i ih =>
      intro hi
      by_cases hon : On l i
      · exact hon
      · exfalso
        obtain ⟨ai, hai⟩ : ∃ ai, aops[i]? = some ai := ⟨_, List.getElem?_eq_getElem (by omega)⟩
        have hoi : ops[i]? = some ops[i] := Array.getElem?_eq_getElem hi
        have dok := chkD_spec hd hoi hai
        have : i ∈ Region.ready .any ops l := by
          rw [mem_ready]
          refine ⟨?_, ops[i], hoi, fun e he hb => ih e.on (dok.low e he hb) (by have := dok.low e he hb; omega)⟩
          have hlt : i < l.size := by rw [inv.lsz]; exact hi
          unfold On at hon
          simp [hlt] at hon ⊢
          exact hon
        rw [hrd] at this
        cases this
  intro fuel
  induction fuel with
  | zero =>
    intro l env c g a w inv cr er hcnt
    have hall : ∀ i, i < ops.size → On l i := fun i hi => all_on (by omega) (by rw [inv.lsz]; exact hi)
    refine ⟨?_, done l env c g a w inv cr er hall⟩
    cases hr : Region.ready .any ops l with
    | nil => rfl
    | cons i is =>
      exfalso
      have hi : i ∈ Region.ready .any ops l := by rw [hr]; exact List.mem_cons_self ..
      rw [mem_ready] at hi
      obtain ⟨h1, o, ho, _⟩ := hi
      have hlt := (Array.getElem?_eq_some_iff.1 ho).1
      have := hall i hlt
      have hls : i < l.size := by rw [inv.lsz]; exact hlt
      unfold On at this
      simp [hls] at this h1
      rw [h1] at this
      cases this
  | succ fuel ih =>
    intro l env c g a w inv cr er hcnt
    refine ⟨fun hr => done l env c g a w inv cr er (empty l env c inv hr), fun j hjr => ?_⟩
    rw [mem_ready] at hjr
    obtain ⟨hjf, o, hj, hrd⟩ := hjr
    have hjn := (Array.getElem?_eq_some_iff.1 hj).1
    have hls : j < l.size := by rw [inv.lsz]; exact hjn
    have hjf' : l.getD j false = false := by simp [hls] at hjf ⊢; exact hjf
    have hnl : ¬ On l j := by unfold On; rw [hjf']; simp
    obtain ⟨ao, haj, hchk, hg, _, hnpok⟩ := chkR_spec hreg hj
    have dok := chkD_spec hd hj haj
    have hjL : j ≤ L := by
      rcases tr.fin with ⟨hL, _⟩ | ⟨aL, v, hp, haL, hnr, hw, hst, hro⟩
      · omega
      · by_cases h : j ≤ L
        · exact h
        · exfalso
          obtain ⟨oL, hoL⟩ := chkR_op hreg haL
          rw [hro] at hpost
          have := ((chkD_spec hd hoL haL).pan hpost.1 j ao haj hjn).2 (by omega)
          have hh := ahead inv hj hrd this (by omega)
          have := inv.inL L hh
          omega
    have hnp : ∀ (s : Nat) (y : Opd) (i : Nat) (ai : AOper) (s' : Nat) (b : Option Nat) (k : Nat) (ix : Option (Opd × Nat × Nat)) (u : V), ao.dst = .slot s → ao.op = .np y → aops[i]? = some ai → ai.op = .pa s b k ix → env[i]? = some u → u = V.undef := by
      intro s y i ai s' b k ix u h1 h2 h3 h4 h5
      by_cases hon : On l i
      · exfalso
        rcases Nat.lt_trichotomy i j with h | h | h
        · obtain ⟨d1, o1, g1⟩ := ao
          simp only at h1 h2
          subst h1 h2
          simp only [npOk, haj, List.all_eq_true, List.mem_range] at hnpok
          have := hnpok i h
          obtain ⟨d2, o2, g2⟩ := ai
          simp only at h4
          subst h4
          simp [h3] at this
        · subst h; exact hnl hon
        · have hid : indep ao ai = false := by
            cases hi : indep ao ai with
            | false => rfl
            | true =>
              have := ((indep_spec hi).1 s (by simp [AOper.writes, h2, h1, slotOf])).1
              exact absurd (by simp [AOper.refsS, h4, AOp.slotRef]) this
          have := ordered hreg hd h haj h3 hid
          exact hnl (behind inv this hon)
      · exact inv.off i u hon h5
    obtain ⟨hsw, hss⟩ := sees hreg hd inv hj haj hnl hrd hjL tr
    have hcount := count_set hls hjf'
    have hnext : ∀ i u v, (env.set j v)[i]? = some u → (i = j ∧ u = v) ∨ (i ≠ j ∧ env[i]? = some u) := fun i u v h => set_get h
    unfold wpOp
    simp only [hj]
    rcases Nat.lt_or_ge j L with hlt | hge
    · obtain ⟨ao', e, h1, hnr, heff, hev, hcs⟩ := tr.ok j hlt
      rw [haj] at h1
      cases h1
      have inv' := DInv.next hreg hd inv hj haj hnl hrd hlt heff hev hcs tr
      cases heff with
      | go v wr df hp hw hs =>
        have hst := hss.trans hs
        rw [wanted_sound hreg er cr.sr.size hg (hsw.trans hw), if_pos rfl]
        left
        unfold Oper.wp
        refine op_core hn hrec cr er hchk hnr hst ⟨?_, ?_⟩
        · intro v' wr' df' pn' hp' d x g' w' hr hle cr' hlr
          cases hr
          have er' := ER.next (env' := env.set j v) hn hreg er cr.sr.size hj haj hle hlr (fun i u h => hnext i u v h) hnp
          exact ih (l.setIfInBounds j true) (env.set j v) _ g' _ w' inv' cr' er' (by omega)
        · intro v' hp' x g' w' hr
          cases hr
      | skip hw =>
        rw [wanted_sound hreg er cr.sr.size hg (hsw.trans hw)]
        simp only [Bool.false_eq_true, if_false]
        have er' := ER.next (env' := env.set j (.tup [])) (x := undef) (d := a.defers) hn hreg er cr.sr.size hj haj (G.le_refl g) (fun _ => LR.skip) (fun i u h => hnext i u _ h) hnp
        exact ih (l.setIfInBounds j true) (env.set j (.tup [])) _ g _ w inv' (cr.skip hn hchk (hsw.trans hw)) er' (by omega)
    · have hjL' : j = L := by omega
      subst hjL'
      have htake : tenv.take j = tenv := List.take_of_length_le (by rw [tr.len]; exact Nat.le_refl _)
      rcases tr.fin with ⟨hL, _⟩ | ⟨aL, v, hp, haL, hnr, hw, hst, hro⟩
      · omega
      · rw [haj] at haL
        cases haL
        rw [htake] at hsw hss
        rw [hro] at hpost
        obtain ⟨hpk, hpost⟩ := hpost
        rw [wanted_sound hreg er cr.sr.size hg (hsw.trans hw), if_pos rfl]
        left
        unfold Oper.wp
        refine op_core hn hrec cr er hchk hnr (hss.trans hst) ⟨?_, ?_⟩
        · intro v' wr' df' pn' hp' d x g' w' hr
          cases hr
        · intro v' hp' x g' w' hr _ hv cr'
          cases hr
          have up : ∀ {W : AOper → Prop}, (∀ ai, W ai → ai.hw = true ∨ ai.dw = true) → Upto aops l W j := by
            intro W hW
            refine Upto.at_ready inv hj hnl hrd (fun i ai hlt hai hWi => ?_) (fun i ai hlt hai hWi => ?_)
            · have hin : i < ops.size := by have := (List.getElem?_eq_some_iff.1 hai).1; omega
              rcases (dok.pan hpk i ai hai hin).1 hlt with h | ⟨h1, h2⟩
              · exact h
              · rcases hW ai hWi with h | h
                · rw [h1] at h; cases h
                · rw [h2] at h; cases h
            · have hin : i < ops.size := by have := (List.getElem?_eq_some_iff.1 hai).1; omega
              exact (dok.pan hpk i ai hai hin).2 hlt
          have hH := agreeH hreg hd inv (Nat.le_refl j) (up (fun ai h => .inl h)) tr
          have hD := agreeD hreg hd inv (Nat.le_refl j) (up (fun ai h => .inr h)) tr
          refine hpost g' a w' x (cr'.weaken ?_ (by simp [hH]) (by simp [hD])) hv
          refine ⟨?_, fun s u hu => ?_⟩
          · have h1 := (forget_spec aops (cs j).slots).1
            simp only
            rw [h1]
            apply Nat.le_antisymm
            all_goals
              apply Nat.le_of_not_lt
              intro hlt'
            · obtain ⟨m, hm, _, he⟩ := inv.slots c.slots.length
              have e2 : (cs m).slots[c.slots.length]? = none := by rw [← he]; exact List.getElem?_eq_none (Nat.le_refl _)
              have hlen := tr_same (fun c : Cfg => c.slots.length) (fun _ => False) (fun i ai e hi hai he _ => by
                simp only [Eff.on]
                cases e.wr with
                | none => rfl
                | some p => simp [Am.setSlot]) tr hm (Nat.le_refl j) (fun _ _ _ _ => id)
              rw [List.getElem?_eq_none_iff] at e2
              omega
            · obtain ⟨m, hm, _, he⟩ := inv.slots (cs j).slots.length
              have hlen := tr_same (fun c : Cfg => c.slots.length) (fun _ => False) (fun i ai e hi hai he _ => by
                simp only [Eff.on]
                cases e.wr with
                | none => rfl
                | some p => simp [Am.setSlot]) tr hm (Nat.le_refl j) (fun _ _ _ _ => id)
              have e2 : (cs m).slots[(cs j).slots.length]? = none := List.getElem?_eq_none (by omega)
              rw [e2, List.getElem?_eq_none_iff] at he
              omega
          · rcases (forget_spec aops (cs j).slots).2 s u hu with h | ⟨h1, h2⟩
            · exact .inl h
            · right
              have hu' : Upto aops l (fun ai => ai.writes = some s) j := by
                intro i ai hai hW
                exact absurd hW (h2 ai (List.mem_of_getElem? hai))
              rw [agreeS hreg hd inv (Nat.le_refl j) hu' tr]
              exact h1
end
end Go.Am
/- Regions and code. -/
set_option linter.unusedVariables false
set_option linter.unusedSimpArgs false
namespace Go.Am

def flOk (ops : Array Oper) (aops : List AOper) : Option (Nat × Nat) → Bool
  | none => true
  | some (t, j) => locTmp ops aops j == some t && !paOf aops j

def chkC (cx : Cx) : Code → ACode → Bool
  | x, .frz s a => (match cx.slots[s]? with | some _ => !cx.pr s | none => false) && chkC cx x a
  | .skip, .skip | .ret, .ret => true
  | .region _ ops draw, .reg draw' fl pok aops => draw == draw' && chkR cx ops aops && (!draw || chkD cx ops aops pok) && flOk ops aops fl
  | .seq x y, .seq a b => chkC cx x a && chkC cx y b
  | .cond (.tmp t) x y, .ite t' a b => t == t' && chkC cx x a && chkC cx y b
  | .block id x, .block id' a => id == id' && chkC cx x a
  | .loop x, .loop a => chkC cx x a
  | .exit i, .exit i' => i == i'
  | _, _ => false

theorem chkC_frz {cx : Cx} {x : Code} {s : Nat} {a : ACode} (h : chkC cx x (.frz s a) = true) : (∃ t, cx.slots[s]? = some t ∧ cx.pr s = false) ∧ chkC cx x a = true := by
  have h' : ((match cx.slots[s]? with | some _ => !cx.pr s | none => false) && chkC cx x a) = true := by
    cases x <;> simpa [chkC] using h
  simp only [Bool.and_eq_true] at h'
  obtain ⟨h1, h2⟩ := h'
  refine ⟨?_, h2⟩
  cases hs : cx.slots[s]? with
  | none => simp [hs] at h1
  | some t => exact ⟨t, rfl, by simpa [hs] using h1⟩

def FlagR (flag : Option (Nat × V)) (g : G) (a : Act) : Prop := ∀ t v, flag = some (t, v) → RV g v (a.tmps.getD t undef)

def OutE (g : G) : Out → Exit → Prop
  | .norm, .normal => True
  | .exit i, .exit i' => i = i'
  | .ret, .ret => True
  | .pan v, .panic ch => ∃ x, ch = [{ v := x, recovered := false }] ∧ RV g v x
  | _, _ => False

def OutP (cx : Cx) (c : Cfg) (out : Out) (e : Exit) (a : Act) (w : World) : Prop := ∃ g, CR cx c g a w ∧ FlagR c.flag g a ∧ OutE g out e

theorem CR.drawn {cx : Cx} {c : Cfg} {g : G} {a : Act} {w : World} (cr : CR cx c g a w) (n : Nat) : CR cx c g a { w with drawn := n } :=
  ⟨⟨cr.step.rep.of_heap rfl, cr.step.le, ⟨cr.step.fr.os, cr.step.fr.tape, cr.step.fr.output, cr.step.fr.size, cr.step.fr.block⟩, cr.step.newM, cr.step.newL⟩,
    ⟨cr.sr.len, cr.sr.size, cr.sr.val, fun s t v h1 h2 h3 h4 => cr.sr.prm s t v h1 h2 h3 h4, cr.sr.one⟩, cr.df, cr.gl⟩

section
variable {cx : Cx} {c c' : Cfg} {g : G} {a : Act} {w : World} {rec : Rec} {out : Out}

theorem flag_of {ops : Array Oper} {aops : List AOper} {env : List V} {fl : Option (Nat × Nat)} (h : flOk ops aops fl = true) (er : ER cx ops aops env g a.tmps) : FlagR (fl.map fun (t, j) => (t, env.getD j .undef)) g a := by
  intro t v ht
  cases fl with
  | none => simp at ht
  | some p =>
    obtain ⟨t', j⟩ := p
    simp only [Option.map_some, Option.some.injEq, Prod.mk.injEq] at ht
    obtain ⟨rfl, rfl⟩ := ht
    simp only [flOk, Bool.and_eq_true, beq_iff_eq, Bool.not_eq_true'] at h
    cases hv : env[j]? with
    | none => simp [List.getD, hv]; exact .d _ _ (.undef _)
    | some v =>
      simp only [List.getD, hv, Option.getD_some]
      obtain ⟨o, ao, h1, h2, _, _⟩ := locTmp_spec h.1
      have := er j v t' ao hv h.1 h2
      have hp := h.2
      simp only [paOf, h2] at hp
      unfold LR at this
      split at this
      · rename_i heq; simp [heq, AOp.isPa] at hp
      · exact this

theorem ER.nil {ops : Array Oper} {aops : List AOper} {tm : Array Value} : ER cx ops aops [] g tm := by
  intro j v d ao h
  simp at h

theorem reg_sound (hn : cx.slots.Nodup) (hrec : CallOK cx.P cx.gl cx.gs rec.call) {id : Nat} {ops : Array Oper} {draw draw' : Bool} {fl : Option (Nat × Nat)} {pok : List Nat} {aops : List AOper} (hchk : chkC cx (.region id ops draw) (.reg draw' fl pok aops) = true)
    (cr : CR cx c g a w) (hpn : c.pn = none) (hrun : regA rec cx.gl draw' fl pok aops c = some (out, c')) : (Code.region id ops draw).wp cx.P (OutP cx c' out) a w := by
  simp only [chkC, Bool.and_eq_true, beq_iff_eq] at hchk
  obtain ⟨⟨⟨rfl, hreg⟩, hd⟩, hfl⟩ := hchk
  unfold regA at hrun
  split at hrun
  · cases hrun
  · cases hro : runOps rec cx.gl aops [] c with
    | none => simp [hro] at hrun
    | some ro =>
      cases draw with
      | false =>
        refine wp_region ?_
        rw [List.range_eq_range']
        refine row_sound hn hrec hreg (ro := ro) ?_ aops 0 [] c g a w rfl rfl hpn cr .nil hro
        cases ro with
        | norm env c1 =>
          simp only [hro, Option.some.injEq, Prod.mk.injEq] at hrun
          obtain ⟨rfl, rfl⟩ := hrun
          intro g' a' w' cr' er'
          exact ⟨g', ⟨cr'.step, cr'.sr, cr'.df, cr'.gl⟩, flag_of hfl er', trivial⟩
        | pan j v c1 =>
          simp only [hro, Bool.false_and, Bool.false_eq_true, if_false, Option.some.injEq, Prod.mk.injEq] at hrun
          obtain ⟨rfl, rfl⟩ := hrun
          intro g' a' w' x cr' hv
          exact ⟨g', cr'.weaken (forget_less _ _) rfl rfl, fun t v h => (by cases h), x, rfl, hv⟩
      | true =>
        simp only [Bool.not_true, Bool.false_or] at hd
        have hm : cx.P.follows .mixedOrders = true := by
          simp only [chkD, Bool.and_eq_true] at hd
          exact hd.1
        have hnrs : ∀ ao ∈ aops, ao.op ≠ .rcv := by
          intro ao hao
          obtain ⟨i, hi, rfl⟩ := List.mem_iff_getElem.1 hao
          have hai : aops[i]? = some aops[i] := List.getElem?_eq_getElem hi
          obtain ⟨o, ho⟩ := chkR_op hreg hai
          exact (chkD_spec hd ho hai).nr
        obtain ⟨L, tenv, cs, tr⟩ := tr_of_run (cx := cx) hnrs aops 0 [] c rfl rfl (Nat.zero_le _) hpn hro c (fun _ => c) rfl rfl (fun _ _ => hpn) (fun i hi => absurd hi (by omega))
        refine wp_region_any hm ?_
        have hoff : ∀ i, ¬ On (Array.replicate ops.size false) i := by
          intro i h
          unfold On at h
          by_cases hi : i < ops.size <;> simp [hi] at h
        have up : ∀ W, Upto aops (Array.replicate ops.size false) W 0 := fun W i ai _ _ => ⟨fun h => absurd h (hoff i), fun h => absurd h (by omega)⟩
        refine any_sound hn hrec hreg hd tr (ro := ro) ?_ ops.size _ (List.replicate ops.size .undef) c g a _ ⟨by simp, by simp, fun i h => absurd h (hoff i), ?_, fun i o h => absurd h (hoff i), fun i h => absurd h (hoff i),
          fun s => ⟨0, Nat.zero_le _, up _, by rw [tr.start]⟩, ⟨0, Nat.zero_le _, up _, by rw [tr.start]⟩, ⟨0, Nat.zero_le _, up _, by rw [tr.start]⟩, hpn⟩ (cr.drawn _) ?_ ?_
        · cases ro with
          | norm env c1 =>
            simp only [hro, Option.some.injEq, Prod.mk.injEq] at hrun
            obtain ⟨rfl, rfl⟩ := hrun
            intro g' a' w' cr' er'
            exact ⟨g', ⟨cr'.step, cr'.sr, cr'.df, cr'.gl⟩, flag_of hfl er', trivial⟩
          | pan j v c1 =>
            simp only [hro, Bool.true_and] at hrun
            split at hrun
            · cases hrun
            · rename_i hpk
              cases hrun
              refine ⟨by simpa using hpk, fun g' a' w' x cr' hv => ?_⟩
              exact ⟨g', ⟨cr'.step, cr'.sr, cr'.df, cr'.gl⟩, fun t v h => (by cases h), x, rfl, hv⟩
        · intro i u _ hu
          rw [List.getElem?_replicate] at hu
          split at hu
          · exact (Option.some.inj hu).symm
          · cases hu
        · intro j v d ao hv hl hao
          rw [List.getElem?_replicate] at hv
          split at hv
          · obtain rfl := (Option.some.inj hv)
            unfold LR
            split
            · exact .inl rfl
            · exact .d _ _ (.undef _)
          · cases hv
        · exact Nat.le_trans List.count_le_length (by simp)

/-- a loop at its head -/
def wpLoop (P : Program) (x : Code) (Q : Exit → Act → World → Prop) (a : Act) (w : World) : Prop :=
  ∀ (b : Go.Frame) (k : List Item) (cs : List Go.Frame), ∃ e a' w', Q e a' w' ∧ Arrives P (lone (b.at a (.code x :: .inLoop x :: k)) cs w) b k cs e a' w'

theorem wpLoop_round {P : Program} {x : Code} {Q : Exit → Act → World → Prop} (h : x.wp P (Exit.then (wpLoop P x Q) Q) a w) : wpLoop P x Q a w := by
  intro b k cs
  obtain ⟨e, a₁, w₁, hq, harr⟩ := h b (.inLoop x :: k) cs
  cases e with
  | normal =>
    obtain ⟨e₂, a₂, w₂, hq₂, harr₂⟩ := hq b k cs
    exact ⟨e₂, a₂, w₂, hq₂, .of_steps (Steps.trans harr (.one step_inLoop)) harr₂⟩
  | exit id => exact ⟨_, a₁, w₁, hq, .pass (x := .inLoop x) rfl (fun _ _ => .inl (by simp)) harr⟩
  | goto l => exact ⟨_, a₁, w₁, hq, .pass (x := .inLoop x) rfl (fun _ _ => .inl (by simp)) harr⟩
  | ret => exact ⟨_, a₁, w₁, hq, .pass (x := .inLoop x) rfl (fun _ _ => .inl (by simp)) harr⟩
  | panic ch => exact ⟨_, a₁, w₁, hq, .pass (x := .inLoop x) rfl (fun _ _ => .inl (by simp)) harr⟩
  | outgrown => exact ⟨_, a₁, w₁, hq, .pass (x := .inLoop x) rfl (fun _ _ => .inl (by simp)) harr⟩

theorem wp_of_wpLoop {P : Program} {x : Code} {Q : Exit → Act → World → Prop} (h : wpLoop P x Q a w) : (Code.loop x).wp P Q a w := by
  intro b k cs
  obtain ⟨e, a', w', hq, harr⟩ := h b k cs
  exact ⟨e, a', w', hq, .of_steps (.one step_loop) harr⟩

def LoopOK (P : Program) (gl : Nat → List V) (gs : List Nat) (loop : ACode → Cfg → Option (Out × Cfg)) : Prop :=
  ∀ (cx : Cx) (x : Code) (b : ACode) (c c' : Cfg) (out : Out) (g : G) (a : Act) (w : World), cx.P = P → cx.gl = gl → cx.gs = gs → cx.slots.Nodup → chkC cx x b = true → loop b c = some (out, c') → c.pn = none → CR cx c g a w → FlagR c.flag g a →
    wpLoop P x (OutP cx c' out) a w

theorem FlagR.none {a : Act} : FlagR none g a := fun t v h => by cases h

theorem exec_pn : ∀ (b : ACode) (c c' : Cfg) (out : Out), c.pn = none → (∀ b c c' out, rec.loop b c = some (out, c') → c.pn = none → c'.pn = none) → exec rec cx.gl b c = some (out, c') → c'.pn = none := by
  have hrow : ∀ (os : List AOper) (env : List V) (c : Cfg) (ro : ROut), c.pn = none → runOps rec cx.gl os env c = some ro → (match ro with | .norm _ c => c.pn = none | .pan _ _ c => c.pn = none) := by
    intro os
    induction os with
    | nil =>
      intro env c ro hpn h
      simp only [runOps, Option.some.injEq] at h
      subst h
      exact hpn
    | cons o os ih =>
      intro env c ro hpn h
      simp only [runOps] at h
      split at h
      · cases hst : stepOp rec cx.gl o env c.slots c.pn c.h with
        | none => simp [hst] at h
        | some r =>
          have hnr : o.op ≠ .rcv := by
            intro e
            simp [stepOp, e, hpn] at hst
          cases r with
          | ok v wr df pn hp =>
            have := stepOp_pn hnr hst
            subst this
            simp only [hst] at h
            exact ih _ _ _ (by simp [hpn]) h
          | pan v hp =>
            simp only [hst, Option.some.injEq] at h
            subst h
            exact hpn
      · exact ih _ _ _ (by exact hpn) h
      · cases h
  intro b
  induction b with
  | skip => intro c c' out hpn _ h; simp only [exec, Option.some.injEq, Prod.mk.injEq] at h; rw [← h.2]; exact hpn
  | ret => intro c c' out hpn _ h; simp only [exec, Option.some.injEq, Prod.mk.injEq] at h; rw [← h.2]; exact hpn
  | exit i => intro c c' out hpn _ h; simp only [exec, Option.some.injEq, Prod.mk.injEq] at h; rw [← h.2]; exact hpn
  | reg draw fl pok ops =>
    intro c c' out hpn _ h
    simp only [exec, regA] at h
    split at h
    · cases h
    · cases hro : runOps rec cx.gl ops [] c with
      | none => simp [hro] at h
      | some ro =>
        have := hrow ops [] c ro hpn hro
        cases ro with
        | norm env c1 => simp only [hro, Option.some.injEq, Prod.mk.injEq] at h; rw [← h.2]; exact this
        | pan j v c1 =>
          simp only [hro] at h
          split at h
          · cases h
          · simp only [Option.some.injEq, Prod.mk.injEq] at h; rw [← h.2]; exact this
  | seq a b iha ihb =>
    intro c c' out hpn hl h
    simp only [exec] at h
    split at h
    · rename_i c1 h1
      exact ihb _ _ _ (iha _ _ _ hpn hl h1) hl h
    · exact iha _ _ _ hpn hl h
  | ite t a b iha ihb =>
    intro c c' out hpn hl h
    simp only [exec] at h
    split at h
    · split at h
      · split at h
        · exact iha _ _ _ (by exact hpn) hl h
        · exact ihb _ _ _ (by exact hpn) hl h
      · cases h
    · cases h
  | block id a iha =>
    intro c c' out hpn hl h
    simp only [exec, hpn, Option.isSome_none, Bool.false_eq_true, if_false] at h
    split at h
    · rename_i i c1 h1
      have := iha _ _ _ hpn hl h1
      split at h <;> (simp only [Option.some.injEq, Prod.mk.injEq] at h; rw [← h.2]; exact this)
    · exact iha _ _ _ hpn hl h
  | loop a iha =>
    intro c c' out hpn hl h
    simp only [exec, hpn, Option.isSome_none, Bool.false_eq_true, if_false] at h
    exact hl _ _ _ _ h hpn
  | frz s a iha =>
    intro c c' out hpn hl h
    simp only [exec] at h
    split at h
    · exact iha _ _ _ (by exact hpn) hl h
    · cases h

theorem CR.noflag (cr : CR cx c g a w) (f : Option (Nat × V)) : CR cx { c with flag := f } g a w := ⟨cr.step, cr.sr, cr.df, cr.gl⟩

/-- the ghost step: a slot's slice is written no more -/
theorem CR.frz (cr : CR cx c g a w) {s t : Nat} (hs : cx.slots[s]? = some t) (hp : cx.pr s = false) {v : V} {h : Heap} (hf : frzV c.h (c.slots.getD s .undef) = some (v, h)) : ∃ g', g.le g' ∧ CR cx { c with slots := c.slots.set s v, h := h } g' a w := by
  obtain ⟨g', hv, hst⟩ := frz_sound cr.step.rep (cr.sr.get hs hp) hf
  have sr := cr.sr.step hst
  refine ⟨g', hst.le, cr.step.trans hst, ⟨by simp [sr.len], sr.size, fun s' t' u h1 h2 h3 => ?_, fun s' t' u h1 h2 h3 h4 => ?_, fun s1 s2 t1 t2 u u' blk h1 h2 h3 h4 h5 h6 h7 h8 h9 h10 => ?_⟩, cr.df.mono hst.le, cr.gl.mono hst.le.1⟩
  · rcases set_get h2 with ⟨rfl, rfl⟩ | ⟨_, h2'⟩
    · rw [hs] at h1; cases h1
      exact hv
    · exact sr.val s' t' u h1 h2' h3
  · rcases set_get h2 with ⟨rfl, rfl⟩ | ⟨_, h2'⟩
    · rw [hp] at h3; cases h3
    · exact sr.prm s' t' u h1 h2' h3 h4
  · rcases set_get h3 with ⟨rfl, rfl⟩ | ⟨_, h3'⟩
    · rw [hp] at h5; cases h5
    · rcases set_get h4 with ⟨rfl, rfl⟩ | ⟨_, h4'⟩
      · rw [hp] at h6; cases h6
      · exact sr.one s1 s2 t1 t2 u u' blk h1 h2 h3' h4' h5 h6 h7 h8 h9 h10

theorem exec_sound (hn : cx.slots.Nodup) (hrec : CallOK cx.P cx.gl cx.gs rec.call) (hloop : LoopOK cx.P cx.gl cx.gs rec.loop) (hlpn : ∀ b c c' out, rec.loop b c = some (out, c') → c.pn = none → c'.pn = none) :
    ∀ (b : ACode) (x : Code) (c c' : Cfg) (out : Out) (g : G) (a : Act) (w : World), chkC cx x b = true → exec rec cx.gl b c = some (out, c') → c.pn = none → CR cx c g a w → FlagR c.flag g a → x.wp cx.P (OutP cx c' out) a w := by
  intro b
  induction b with
  | skip =>
    intro x c c' out g a w hchk h hpn cr fr
    cases x <;> simp only [chkC, Bool.false_eq_true] at hchk
    simp only [exec, Option.some.injEq, Prod.mk.injEq] at h
    obtain ⟨rfl, rfl⟩ := h
    exact wp_skip ⟨g, cr, fr, trivial⟩
  | ret =>
    intro x c c' out g a w hchk h hpn cr fr
    cases x <;> simp only [chkC, Bool.false_eq_true] at hchk
    simp only [exec, Option.some.injEq, Prod.mk.injEq] at h
    obtain ⟨rfl, rfl⟩ := h
    exact wp_ret ⟨g, cr, fr, trivial⟩
  | exit i =>
    intro x c c' out g a w hchk h hpn cr fr
    cases x <;> simp only [chkC, Bool.false_eq_true] at hchk
    simp only [beq_iff_eq] at hchk
    simp only [exec, Option.some.injEq, Prod.mk.injEq] at h
    obtain ⟨rfl, rfl⟩ := h
    exact wp_exit ⟨g, cr, fr, hchk.symm⟩
  | reg draw fl pok ops =>
    intro x c c' out g a w hchk h hpn cr fr
    cases x <;> first | (simp only [chkC, Bool.false_eq_true] at hchk; done) | skip
    exact reg_sound hn hrec hchk cr hpn h
  | seq p q ihp ihq =>
    intro x c c' out g a w hchk h hpn cr fr
    cases x <;> simp only [chkC, Bool.false_eq_true] at hchk
    simp only [Bool.and_eq_true] at hchk
    simp only [exec] at h
    refine wp_seq ?_
    split at h
    · rename_i c1 h1
      have hpn1 := exec_pn p c c1 .norm hpn hlpn h1
      refine wp_mono (ihp _ c c1 .norm g a w hchk.1 h1 hpn cr fr) (fun e a' w' ho => ?_)
      obtain ⟨g1, cr1, fr1, he⟩ := ho
      cases e <;> simp only [OutE] at he
      exact ihq _ c1 c' out g1 a' w' hchk.2 h hpn1 cr1 fr1
    · rename_i r hr
      refine wp_mono (ihp _ c c' out g a w hchk.1 h hpn cr fr) (fun e a' w' ho => ?_)
      obtain ⟨g1, cr1, fr1, he⟩ := ho
      cases e with
      | normal =>
        cases out <;> simp only [OutE] at he
        exact absurd h (hr c')
      | _ => exact ⟨g1, cr1, fr1, he⟩
  | ite t p q ihp ihq =>
    intro x c c' out g a w hchk h hpn cr fr
    cases x <;> first | (simp only [chkC, Bool.false_eq_true] at hchk; done) | skip
    rename_i co x y
    cases co <;> simp only [chkC, Bool.false_eq_true] at hchk
    simp only [Bool.and_eq_true, beq_iff_eq] at hchk
    obtain ⟨⟨rfl, h1⟩, h2⟩ := hchk
    simp only [exec] at h
    split at h
    · rename_i u v hf
      split at h
      · rename_i hu
        subst hu
        have hb := (fr u (.bool v) hf).bool_inv
        refine wp_cond (t := v) (by rw [eval_tmp, hb]) ?_
        cases v with
        | true => exact ihp _ _ c' out g a w h1 h hpn (cr.noflag _) FlagR.none
        | false => exact ihq _ _ c' out g a w h2 h hpn (cr.noflag _) FlagR.none
      · cases h
    · cases h
  | block id p ihp =>
    intro x c c' out g a w hchk h hpn cr fr
    cases x <;> simp only [chkC, Bool.false_eq_true] at hchk
    simp only [Bool.and_eq_true, beq_iff_eq] at hchk
    obtain ⟨rfl, h1⟩ := hchk
    simp only [exec] at h
    refine wp_block ?_
    split at h
    · rename_i i c1 hx
      refine wp_mono (ihp _ c c1 (.exit i) g a w h1 hx hpn cr fr) (fun e a' w' ho => ?_)
      obtain ⟨g1, cr1, fr1, he⟩ := ho
      cases e <;> simp only [OutE] at he
      subst he
      simp only [Exit.inBlock]
      split at h
      · rename_i hi
        cases h
        rw [if_pos hi]
        exact ⟨g1, cr1, fr1, trivial⟩
      · rename_i hi
        cases h
        rw [if_neg hi]
        exact ⟨g1, cr1, fr1, rfl⟩
    · rename_i r hr
      refine wp_mono (ihp _ c c' out g a w h1 h hpn cr fr) (fun e a' w' ho => ?_)
      obtain ⟨g1, cr1, fr1, he⟩ := ho
      cases e with
      | exit i =>
        cases out <;> simp only [OutE] at he
        exact absurd h (hr _ _)
      | _ => exact ⟨g1, cr1, fr1, he⟩
  | loop p ihp =>
    intro x c c' out g a w hchk h hpn cr fr
    cases x <;> simp only [chkC, Bool.false_eq_true] at hchk
    simp only [exec, hpn, Option.isSome_none, Bool.false_eq_true, if_false] at h
    exact wp_of_wpLoop (hloop cx _ p c c' out g a w rfl rfl rfl hn hchk h hpn cr fr)
  | frz s p ihp =>
    intro x c c' out g a w hchk h hpn cr fr
    have hchk' : ((match cx.slots[s]? with | some _ => !cx.pr s | none => false) && chkC cx x p) = true := by
      cases x <;> simpa [chkC] using hchk
    simp only [Bool.and_eq_true] at hchk'
    obtain ⟨h1, h2⟩ := hchk'
    simp only [exec] at h
    split at h
    · rename_i v hh hf
      cases hs : cx.slots[s]? with
      | none => simp [hs] at h1
      | some t =>
        simp only [hs, Bool.not_eq_true'] at h1
        obtain ⟨g', hle, cr'⟩ := cr.frz hs h1 hf
        exact ihp x _ c' out g' a w h2 h hpn cr' (fun t v hv => (fr t v hv).mono hle)
    · cases h
end
end Go.Am
/- Functions: calls, deferred calls, results. -/
set_option linter.unusedVariables false
set_option linter.unusedSimpArgs false
namespace Go.Am

def OutPS (cx : Cx) (c : Cfg) (out : Out) (c₀ : Go.Frame) (cs : List Go.Frame) (e : Exit) (a : Act) (cs' : List Go.Frame) (w : World) : Prop :=
  ∃ g m, CR cx c g a w ∧ FlagR c.flag g a ∧ OutE g out e ∧ PnR g c.pn m ∧ cs' = { c₀ with mode := m } :: cs

section
variable {cx : Cx} {c c' : Cfg} {g : G} {a : Act} {w : World} {rec : Rec} {out : Out}

theorem PnR.known {p : Option (Option V)} {m : FrameMode} (h : PnR g p m) : p.isSome = true := by
  cases p with
  | none => exact h.elim
  | some _ => rfl

theorem wpS_mono {P : Program} {x : Code} {Q Q' : Exit → Act → List Go.Frame → World → Prop} {a : Act} {cs : List Go.Frame} {w : World} (h : x.wpS P Q a cs w) (hq : ∀ e a cs w, Q e a cs w → Q' e a cs w) : x.wpS P Q' a cs w :=
  fun b k h1 h2 => let ⟨e, a', cs', w', q, r⟩ := h b k h1 h2; ⟨e, a', cs', w', hq _ _ _ _ q, r⟩

def Exit.inBlockS (id : Nat) (Q : Exit → Act → List Go.Frame → World → Prop) : Exit → Act → List Go.Frame → World → Prop
  | .exit id', a, cs, w => if id' = id then Q .normal a cs w else Q (.exit id') a cs w
  | e, a, cs, w => Q e a cs w

theorem wpS_block {P : Program} {Q : Exit → Act → List Go.Frame → World → Prop} {a : Act} {cs : List Go.Frame} {w : World} {id : Nat} {c : Code} (h : c.wpS P (Exit.inBlockS id Q) a cs w) : (Code.block id c).wpS P Q a cs w := by
  intro b k hb hr
  obtain ⟨e, a₁, cs₁, w₁, hq, harr⟩ := h b (.inBlock id :: k) hb hr
  cases e with
  | normal => exact ⟨.normal, a₁, cs₁, w₁, hq, .head step_block (Steps.trans harr (.one step_inBlock))⟩
  | exit id' =>
    by_cases hid : id' = id
    · simp only [Exit.inBlockS, hid, if_true] at hq
      exact ⟨.normal, a₁, cs₁, w₁, hq, .head step_block (harr k (by simp [exitTo, hid]))⟩
    · simp only [Exit.inBlockS, hid, if_false] at hq
      refine ⟨.exit id', a₁, cs₁, w₁, hq, fun k' hk => .head step_block (harr k' ?_)⟩
      have : (id == id') = false := by simp; exact fun h => hid h.symm
      simp [exitTo, this, hk]
  | goto l => exact ⟨_, a₁, cs₁, w₁, hq, fun k' hk => .head step_block (harr k' (by simp [gotoIn, hk]))⟩
  | ret => exact ⟨_, a₁, cs₁, w₁, hq, .of_steps (.one step_block) harr⟩
  | panic ch => exact ⟨_, a₁, cs₁, w₁, hq, .of_steps (.one step_block) harr⟩
  | outgrown => exact ⟨_, a₁, cs₁, w₁, hq, .of_steps (e := .outgrown) (.one step_block) harr⟩

theorem exec_soundS (hn : cx.slots.Nodup) (hrec : CallOK cx.P cx.gl cx.gs rec.call) {c₀ : Go.Frame} {cs : List Go.Frame} :
    ∀ (b : ACode) (x : Code) (c c' : Cfg) (out : Out) (g : G) (a : Act) (w : World) (m : FrameMode), chkC cx x b = true → exec rec cx.gl b c = some (out, c') → PnR g c.pn m → CR cx c g a w → FlagR c.flag g a →
      x.wpS cx.P (OutPS cx c' out c₀ cs) a ({ c₀ with mode := m } :: cs) w := by
  intro b
  induction b with
  | skip =>
    intro x c c' out g a w m hchk h hpn cr fr
    cases x <;> simp only [chkC, Bool.false_eq_true] at hchk
    simp only [exec, Option.some.injEq, Prod.mk.injEq] at h
    obtain ⟨rfl, rfl⟩ := h
    exact wpS_of_wp (wp_skip ⟨g, m, cr, fr, trivial, hpn, rfl⟩)
  | ret =>
    intro x c c' out g a w m hchk h hpn cr fr
    cases x <;> simp only [chkC, Bool.false_eq_true] at hchk
    simp only [exec, Option.some.injEq, Prod.mk.injEq] at h
    obtain ⟨rfl, rfl⟩ := h
    exact wpS_of_wp (wp_ret ⟨g, m, cr, fr, trivial, hpn, rfl⟩)
  | exit i =>
    intro x c c' out g a w m hchk h hpn cr fr
    cases x <;> simp only [chkC, Bool.false_eq_true] at hchk
    simp only [beq_iff_eq] at hchk
    simp only [exec, Option.some.injEq, Prod.mk.injEq] at h
    obtain ⟨rfl, rfl⟩ := h
    exact wpS_of_wp (wp_exit ⟨g, m, cr, fr, hchk.symm, hpn, rfl⟩)
  | reg draw fl pok aops =>
    intro x c c' out g a w m hchk h hpn cr fr
    cases x <;> first | (simp only [chkC, Bool.false_eq_true] at hchk; done) | skip
    rename_i id ops draw'
    simp only [chkC, Bool.and_eq_true, beq_iff_eq] at hchk
    obtain ⟨⟨⟨rfl, hreg⟩, hd⟩, hfl⟩ := hchk
    simp only [exec, regA] at h
    split at h
    · cases h
    · rename_i hnd
      have hdf : draw' = false := by
        cases draw' with
        | false => rfl
        | true => simp [hpn.known] at hnd
      subst hdf
      cases hro : runOps rec cx.gl aops [] c with
      | none => simp [hro] at h
      | some ro =>
        refine wpS_region ?_
        rw [List.range_eq_range']
        refine row_soundS hn hrec hreg (ro := ro) ?_ aops 0 [] c g a w m rfl rfl hpn cr .nil hro
        cases ro with
        | norm env c1 =>
          simp only [hro, Option.some.injEq, Prod.mk.injEq] at h
          obtain ⟨rfl, rfl⟩ := h
          intro g' a' w' m' cr' er' hm'
          exact ⟨g', m', ⟨cr'.step, cr'.sr, cr'.df, cr'.gl⟩, flag_of hfl er', trivial, hm', rfl⟩
        | pan j v c1 =>
          simp only [hro, Bool.false_and, Bool.false_eq_true, if_false, Option.some.injEq, Prod.mk.injEq] at h
          obtain ⟨rfl, rfl⟩ := h
          intro g' a' w' x m' cr' hv hm'
          exact ⟨g', m', cr'.weaken (forget_less _ _) rfl rfl, fun t v h => (by cases h), ⟨x, rfl, hv⟩, hm', rfl⟩
  | seq p q ihp ihq =>
    intro x c c' out g a w m hchk h hpn cr fr
    cases x <;> simp only [chkC, Bool.false_eq_true] at hchk
    simp only [Bool.and_eq_true] at hchk
    simp only [exec] at h
    refine wpS_seq ?_
    split at h
    · rename_i c1 h1
      refine wpS_mono (ihp _ c c1 .norm g a w m hchk.1 h1 hpn cr fr) (fun e a' cs' w' ho => ?_)
      obtain ⟨g1, m1, cr1, fr1, he, hp1, rfl⟩ := ho
      cases e <;> simp only [OutE] at he
      exact ihq _ c1 c' out g1 a' w' m1 hchk.2 h hp1 cr1 fr1
    · rename_i r hr
      refine wpS_mono (ihp _ c c' out g a w m hchk.1 h hpn cr fr) (fun e a' cs' w' ho => ?_)
      obtain ⟨g1, m1, cr1, fr1, he, hp1, rfl⟩ := ho
      cases e with
      | normal =>
        cases out <;> simp only [OutE] at he
        exact absurd h (hr c')
      | _ => exact ⟨g1, m1, cr1, fr1, he, hp1, rfl⟩
  | ite t p q ihp ihq =>
    intro x c c' out g a w m hchk h hpn cr fr
    cases x <;> first | (simp only [chkC, Bool.false_eq_true] at hchk; done) | skip
    rename_i co x y
    cases co <;> simp only [chkC, Bool.false_eq_true] at hchk
    simp only [Bool.and_eq_true, beq_iff_eq] at hchk
    obtain ⟨⟨rfl, h1⟩, h2⟩ := hchk
    simp only [exec] at h
    split at h
    · rename_i u v hf
      split at h
      · rename_i hu
        subst hu
        have hb := (fr u (.bool v) hf).bool_inv
        refine wpS_cond (t := v) (by rw [eval_tmp, hb]) ?_
        cases v with
        | true => exact ihp _ _ c' out g a w m h1 h hpn (cr.noflag _) FlagR.none
        | false => exact ihq _ _ c' out g a w m h2 h hpn (cr.noflag _) FlagR.none
      · cases h
    · cases h
  | block id p ihp =>
    intro x c c' out g a w m hchk h hpn cr fr
    cases x <;> simp only [chkC, Bool.false_eq_true] at hchk
    simp only [Bool.and_eq_true, beq_iff_eq] at hchk
    obtain ⟨rfl, h1⟩ := hchk
    simp only [exec] at h
    refine wpS_block ?_
    split at h
    · rename_i i c1 hx
      refine wpS_mono (ihp _ c c1 (.exit i) g a w m h1 hx hpn cr fr) (fun e a' cs' w' ho => ?_)
      obtain ⟨g1, m1, cr1, fr1, he, hp1, hcs⟩ := ho
      cases e <;> simp only [OutE] at he
      subst he
      simp only [Exit.inBlockS]
      split at h
      · rename_i hi
        cases h
        rw [if_pos hi]
        exact ⟨g1, m1, cr1, fr1, trivial, hp1, hcs⟩
      · rename_i hi
        cases h
        rw [if_neg hi]
        exact ⟨g1, m1, cr1, fr1, rfl, hp1, hcs⟩
    · rename_i r hr
      refine wpS_mono (ihp _ c c' out g a w m h1 h hpn cr fr) (fun e a' cs' w' ho => ?_)
      obtain ⟨g1, m1, cr1, fr1, he, hp1, hcs⟩ := ho
      cases e with
      | exit i =>
        cases out <;> simp only [OutE] at he
        exact absurd h (by subst he; exact hr _ _)
      | _ => exact ⟨g1, m1, cr1, fr1, he, hp1, hcs⟩
  | loop p ihp =>
    intro x c c' out g a w m hchk h hpn cr fr
    simp [exec, hpn.known] at h
  | frz s p ihp =>
    intro x c c' out g a w m hchk h hpn cr fr
    obtain ⟨⟨t, hs, h1⟩, h2⟩ := chkC_frz hchk
    simp only [exec] at h
    split at h
    · rename_i v hh hf
      obtain ⟨g', hle, cr'⟩ := cr.frz hs h1 hf
      exact ihp x _ c' out g' a w m h2 h (hpn.mono hle) cr' (fun t v hv => (fr t v hv).mono hle)
    · cases h
end

/-! ### Results -/
def chkRes (cx : Cx) : List ResultVar → List ARes → Bool
  | [], [] => true
  | .tmp t :: vs, .slot s :: rs => cx.slots[s]? == some t && !cx.pr s && chkRes cx vs rs
  | .cell t ty :: vs, .cell s size ag :: rs => cx.slots[s]? == some t && !cx.pr s && tyOk cx.P ty size ag && chkRes cx vs rs
  | .cell t ty :: vs, .prom s size ag :: rs => cx.slots[s]? == some t && cx.pr s && tyOk cx.P ty size ag && chkRes cx vs rs
  | _, _ => false

def resF (tmps : Array Value) : ResultVar → Sem Value
  | .tmp t => pure (tmps.getD t undef)
  | .cell a t => do loadVar t (← asAddr (tmps.getD a undef))

theorem results_eq (fn : Func) (tmps : Array Value) : results fn tmps = (do let vs ← fn.results.mapM (resF tmps); pure (if h : vs.size = 1 then vs[0] else .tuple vs)) := by
  unfold results
  congr 1

section
variable {cx : Cx} {sl : List V} {g : G} {h : Heap} {w : World} {tmps : Array Value}

theorem res_sound (hr : Rep g h w) (sr : SlR cx sl g h w tmps) : ∀ (vs : List ResultVar) (rs : List ARes) (out : List V), chkRes cx vs rs = true → resL h sl rs = some out →
    ∃ xs, (vs.mapM (resF tmps)).run cx.P w = .ok xs w ∧ RVs g out xs
  | [], [], out, hc, ho => by
    simp only [resL, Option.some.injEq] at ho
    subst ho
    exact ⟨[], by simp, .nil⟩
  | v :: vs, r :: rs, out, hc, ho => by
    simp only [resL] at ho
    split at ho
    · rename_i u us hu hus
      cases ho
      have one : chkRes cx vs rs = true ∧ ∃ x, (resF tmps v).run cx.P w = .ok x w ∧ RV g u x := by
        cases v with
        | tmp t =>
          cases r <;> simp only [chkRes, Bool.false_eq_true] at hc
          case slot s =>
            simp only [Bool.and_eq_true, beq_iff_eq, Bool.not_eq_true'] at hc
            simp only [resV, Option.some.injEq] at hu
            subst hu
            exact ⟨hc.2, _, by simp [resF], sr.get hc.1.1 hc.1.2⟩
        | cell t ty =>
          cases r <;> simp only [chkRes, Bool.false_eq_true] at hc
          case cell s size ag =>
            simp only [Bool.and_eq_true, beq_iff_eq, Bool.not_eq_true'] at hc
            simp only [resV] at hu
            obtain ⟨ad, hx, vv, hrun, hvv⟩ := load_sound (P := cx.P) hr hc.1.2 (sr.get hc.1.1.1 hc.1.1.2) hu
            exact ⟨hc.2, vv, by simp only [resF, hx, asAddr, Sem.run_bind, Sem.run_pure, Result.andThen_ok, hrun], hvv⟩
          case prom s size ag =>
            simp only [Bool.and_eq_true, beq_iff_eq] at hc
            simp only [resV] at hu
            split at hu
            · rename_i hcond
              obtain ⟨hdef, hsz⟩ := hcond
              obtain ⟨v, hv, hne⟩ := defd_spec hdef
              have hgd : sl.getD s .undef = v := by simp [List.getD, hv]
              rw [hgd] at hu hsz
              obtain ⟨blk, hx, _, _, _, arr, e, lo, hi, hh, _, hrv, _⟩ := sr.prm s t v hc.1.1.1 hv hc.1.1.2 hne
              have ht := hc.1.2
              have hlen := hrv.length
              simp only [Array.length_toList] at hlen
              refine ⟨hc.2, ?_⟩
              by_cases h0 : size = 0
              · have hag : ag = true := by
                  cases ag with
                  | true => rfl
                  | false => have := mkV_one hu rfl; omega
                subst hag
                subst h0
                have hcs : cellsV v = [] := List.length_eq_zero_iff.1 hsz
                rw [hcs] at hu
                simp only [mkV, if_true, Option.some.injEq] at hu
                subst hu
                exact ⟨.agg #[], by simp only [resF, hx, asAddr, Sem.run_bind, Sem.run_pure, Result.andThen_ok, run_loadVar_none ht], .agg _ _ (by simpa using RVs.nil)⟩
              · obtain ⟨vv, hrun, hvv⟩ := run_loadVar_blk (P := cx.P) ht hh (off := 0) (by omega) (fun ha => by subst ha; have := mkV_one hu rfl; omega)
                refine ⟨vv, by simp only [resF, hx, asAddr, Sem.run_bind, Sem.run_pure, Result.andThen_ok, hrun], ?_⟩
                refine mkV_rv hrv hu vv ?_
                have hfull : arr.toList.take size = arr.toList := List.take_of_length_le (by simp; omega)
                cases ag with
                | true => simpa [hfull] using hvv
                | false => simpa using hvv
            · cases hu
      obtain ⟨hcs, x, hx, hrv⟩ := one
      obtain ⟨xs, hxs, hrvs⟩ := res_sound hr sr vs rs us hcs hus
      exact ⟨x :: xs, by simp [hx, hxs], .cons _ _ _ _ hrv hrvs⟩
    · cases ho
  | [], _ :: _, _, hc, _ => by simp [chkRes] at hc
  | v :: _, [], _, hc, _ => by cases v <;> simp [chkRes] at hc

theorem result_sound (hr : Rep g h w) (sr : SlR cx sl g h w tmps) {fn : Func} {rs : List ARes} {v : V} (hc : chkRes cx fn.results.toList rs = true) (ho : resultV h sl rs = some v) :
    ∃ x, (results fn tmps).run cx.P w = .ok x w ∧ RV g v x := by
  unfold resultV at ho
  cases hres : resL h sl rs with
  | none => simp [hres] at ho
  | some out =>
    obtain ⟨xs, hxs, hrv⟩ := res_sound hr sr _ _ out hc hres
    have hrun : (fn.results.mapM (resF tmps)).run cx.P w = .ok xs.toArray w := by
      rw [Array.mapM_eq_mapM_toList, map_eq_pure_bind]
      simp only [Sem.run_bind, hxs, Result.andThen_ok, Sem.run_pure]
    rw [results_eq]
    simp only [Sem.run_bind, hrun, Result.andThen_ok, Sem.run_pure]
    refine ⟨_, rfl, ?_⟩
    rw [hres] at ho
    cases hrv with
    | nil =>
      simp at ho
      subst ho
      exact .tup _ _ .nil
    | cons u us x xs h1 h2 =>
      cases h2 with
      | nil =>
        simp at ho
        subst ho
        simpa using h1
      | cons u2 us2 x2 xs2 h3 h4 =>
        simp at ho
        subst ho
        simp
        exact .tup _ _ (.cons _ _ _ _ h1 (.cons _ _ _ _ h3 h4))
end
end Go.Am
/- Functions: that a run of the abstract machine is a run of the program. -/
set_option linter.unusedVariables false
set_option linter.unusedSimpArgs false
namespace Go.Am

def ModeR (g : G) : Option V → FrameMode → Prop
  | none, m => m = .returning
  | some v, m => ∃ x, m = .panicking [{ v := x, recovered := false }] ∧ RV g v x

theorem ModeR.mono {g g' : G} (hg : g.le g') {u : Option V} {m : FrameMode} (h : ModeR g u m) : ModeR g' u m := by
  cases u with
  | none => exact h
  | some v => obtain ⟨x, h1, h2⟩ := h; exact ⟨x, h1, h2.mono hg⟩

theorem ModeR.pn {g : G} {u : Option V} {m : FrameMode} (h : ModeR g u m) : PnR g (some u) m := by
  cases u with
  | none => exact .inl h
  | some v => exact h

theorem PnR.after {g : G} {u : Option V} {m : FrameMode} (h : PnR g (some u) m) : ModeR g u (settle m) := by
  cases u with
  | none =>
    rcases h with rfl | ⟨x, rfl⟩
    · rfl
    · rfl
  | some v =>
    obtain ⟨x, rfl, hv⟩ := h
    exact ⟨x, rfl, hv⟩

def DcallOK (P : Program) (gl : Nat → List V) (gs : List Nat) (dcall : Nat → List V → Option V → Heap → Option (Option V × Heap)) : Prop :=
  ∀ n args u h u' h', dcall n args u h = some (u', h') → Enters P n ∧ ∀ g w (vs : Array Value) m, Rep g h w → GlOk gl gs g.M → RVs g args vs.toList → ModeR g u m →
    CallsD P n vs m w fun e m' w' => ∃ g', Step g h w g' h' w' ∧ (∃ x, e = .returned x) ∧ PnR g' (some u') m'

structure RecOK (P : Program) (gl : Nat → List V) (gs : List Nat) (rec : Rec) : Prop where
  call : CallOK P gl gs rec.call
  dcall : DcallOK P gl gs rec.dcall
  loop : LoopOK P gl gs rec.loop
  lpn : ∀ b c c' out, rec.loop b c = some (out, c') → c.pn = none → c'.pn = none

/-! ### The check of a function -/
def promOk (af : AFunc) : Bool :=
  (List.range af.slots.length).all fun s => !af.prom.getD s false || (match af.slots[s]? with | some t => decide (af.nparams ≤ t) | none => false)

noncomputable def Cx.of (P : Program) (gl : Nat → List V) (gs : List Nat) (fn : Func) (af : AFunc) (g : G) (h : Heap) (w : World) : Cx := ⟨P, gl, gs, af.slots, af.prom, fn.ntmps, g, h, w⟩

def chkF (P : Program) (gs : List Nat) (W : World) (fn : Func) (code : Code) (af : AFunc) : Bool :=
  decide (af.nparams ≤ fn.ntmps) && decide af.slots.Nodup && promOk af && chkC ⟨P, fun _ => [], gs, af.slots, af.prom, fn.ntmps, ⟨fun _ => none, fun _ _ => none⟩, [], W⟩ code af.body &&
    chkRes ⟨P, fun _ => [], gs, af.slots, af.prom, fn.ntmps, ⟨fun _ => none, fun _ _ => none⟩, [], W⟩ fn.results.toList af.results && !(fn.name == "runtime.NumGoroutine")

theorem chkR_any {P : Program} {gl gl' : Nat → List V} {gs sl : List Nat} {pr : List Bool} {nt : Nat} {g0 g0' : G} {h0 h0' : Heap} {w0 w0' : World} {ops : Array Oper} {aops : List AOper} :
    chkR ⟨P, gl, gs, sl, pr, nt, g0, h0, w0⟩ ops aops = chkR ⟨P, gl', gs, sl, pr, nt, g0', h0', w0'⟩ ops aops := rfl
theorem chkD_any {P : Program} {gl gl' : Nat → List V} {gs sl : List Nat} {pr : List Bool} {nt : Nat} {g0 g0' : G} {h0 h0' : Heap} {w0 w0' : World} {ops : Array Oper} {aops : List AOper} {pok : List Nat} :
    chkD ⟨P, gl, gs, sl, pr, nt, g0, h0, w0⟩ ops aops pok = chkD ⟨P, gl', gs, sl, pr, nt, g0', h0', w0'⟩ ops aops pok := rfl

theorem chkC_any {P : Program} {gl gl' : Nat → List V} {gs sl : List Nat} {pr : List Bool} {nt : Nat} {g0 g0' : G} {h0 h0' : Heap} {w0 w0' : World} : ∀ (a : ACode) (x : Code),
    chkC ⟨P, gl, gs, sl, pr, nt, g0, h0, w0⟩ x a = chkC ⟨P, gl', gs, sl, pr, nt, g0', h0', w0'⟩ x a := by
  intro a
  induction a with
  | skip => intro x; cases x <;> rfl
  | ret => intro x; cases x <;> rfl
  | exit i => intro x; cases x <;> rfl
  | reg d fl pok ops => intro x; cases x <;> rfl
  | seq p q ihp ihq =>
    intro x
    cases x <;> first | rfl | skip
    simp only [chkC]
    rw [ihp, ihq]
  | ite t p q ihp ihq =>
    intro x
    cases x <;> first | rfl | skip
    rename_i co y z
    cases co <;> first | rfl | skip
    simp only [chkC]
    rw [ihp, ihq]
  | block id p ihp =>
    intro x
    cases x <;> first | rfl | skip
    simp only [chkC]
    rw [ihp]
  | loop p ihp =>
    intro x
    cases x <;> first | rfl | skip
    simp only [chkC]
    rw [ihp]
  | frz s p ihp =>
    intro x
    have : ∀ cx : Cx, chkC cx x (.frz s p) = ((match cx.slots[s]? with | some _ => !cx.pr s | none => false) && chkC cx x p) := by
      intro cx
      cases x <;> rfl
    rw [this, this, ihp]
    rfl

theorem chkRes_any {P : Program} {gl gl' : Nat → List V} {gs sl : List Nat} {pr : List Bool} {nt : Nat} {g0 g0' : G} {h0 h0' : Heap} {w0 w0' : World} : ∀ (vs : List ResultVar) (rs : List ARes),
    chkRes ⟨P, gl, gs, sl, pr, nt, g0, h0, w0⟩ vs rs = chkRes ⟨P, gl', gs, sl, pr, nt, g0', h0', w0'⟩ vs rs
  | [], [] => rfl
  | [], _ :: _ => rfl
  | v :: vs, [] => by cases v <;> rfl
  | v :: vs, r :: rs => by
    have := chkRes_any (P := P) (gl := gl) (gl' := gl') (gs := gs) (sl := sl) (pr := pr) (nt := nt) (g0 := g0) (g0' := g0') (h0 := h0) (h0' := h0') (w0 := w0) (w0' := w0') vs rs
    cases v <;> cases r <;> first | rfl | skip
    all_goals
      simp only [chkRes]
      rw [this]
      rfl

/-- the program's functions, and theirs in the abstract machine -/
def ProgOK (P : Program) (gs : List Nat) (W : World) (A : Nat → Option AFunc) : Prop :=
  ∀ f af, A f = some af → ∃ fn code, P.funcs[f]? = some fn ∧ fn.body = some code ∧ chkF P gs W fn code af = true

section
variable {P : Program} {gl : Nat → List V} {gs : List Nat} {W : World} {A : Nat → Option AFunc} {rec : Rec} {g g0 : G} {h h0 : Heap} {w w0 : World}

theorem leave_sound (hrec : DcallOK P gl gs rec.dcall) {cx : Cx} (hP : cx.P = P) {fn : Func} {rs : List ARes} (hres : chkRes cx fn.results.toList rs = true) {slots : List V} {tmps : Array Value} {r : R} {h' : Heap} :
    ∀ (ds : List (V × List V)) (u : Option V) (h : Heap) (g : G) (w : World) (m : FrameMode) (ds' : List Deferred), leave rec rs slots ds u h = some (r, h') → Step g0 h0 w0 g h w → SlR cx slots g h w tmps → GlOk gl gs g.M → DfR P g ds ds' → ModeR g u m →
      Leaves P fn tmps (CallPost g0 h0 w0 r h') ds' m w := by
  intro ds
  induction ds with
  | nil =>
    intro u h g w m ds' hl hs sr hgl hdf hm
    cases ds' with
    | cons d ds' => exact hdf.elim
    | nil =>
      cases u with
      | none =>
        obtain rfl := hm
        simp only [leave, Option.map_eq_some_iff] at hl
        obtain ⟨v, hv, he⟩ := hl
        cases he
        obtain ⟨x, hx, hrv⟩ := result_sound hs.rep sr hres hv
        rw [hP] at hx
        exact ⟨x, hx, v, g, rfl, hrv, hs⟩
      | some v =>
        obtain ⟨x, rfl, hv⟩ := hm
        simp only [leave, Option.some.injEq, Prod.mk.injEq] at hl
        obtain ⟨rfl, rfl⟩ := hl
        exact ⟨v, x, g, rfl, rfl, hv, hs⟩
  | cons d ds ih =>
    intro u h g w m ds' hl hs sr hgl hdf hm
    obtain ⟨f, as⟩ := d
    cases ds' with
    | nil => simp [DfR] at hdf
    | cons d' ds' =>
      obtain ⟨⟨n, vs, fv, cap, us, h1, h2, h3, h4⟩, hdf'⟩ := hdf
      simp only [leave, h1] at hl
      split at hl
      · rename_i u' h1' hd
        obtain ⟨hent, hsound⟩ := hrec _ _ _ _ _ _ hd
        refine ⟨?_, fv, cap, n, us, h2, by rw [h4, hent], (hsound g w us m hs.rep hgl h3 hm).mono fun e m' w' he => ?_⟩
        · cases u with
          | none => rw [hm]; simp
          | some v => obtain ⟨x, rfl, _⟩ := hm; simp
        · obtain ⟨g', hst, ⟨x, rfl⟩, hpn⟩ := he
          exact ih u' h1' g' w' (settle m') ds' hl (hs.trans hst) (sr.step hst) (hgl.mono hst.le.1) (hdf'.mono hst.le) hpn.after
      · cases hl

theorem getD_nil (args : List V) (t : Nat) (h : args.length ≤ t) : args.getD t .undef = .undef := by
  simp [List.getD, List.getElem?_eq_none h]

/-- the slots at a function's start -/
theorem init_slots (hr : Rep g h w) {fn : Func} {af : AFunc} (hp : promOk af = true) (hnt : af.nparams ≤ fn.ntmps) {args : List V} (hlen : args.length = af.nparams) {vs : Array Value} (hv : RVs g args vs.toList) :
    SlR (Cx.of P gl gs fn af g h w) (initSlots af.slots args) g h w (vs ++ Array.replicate (fn.ntmps - vs.size) undef) := by
  have hl := hv.length
  simp only [Array.length_toList] at hl
  have hget : ∀ (s t : Nat) (v : V), af.slots[s]? = some t → (initSlots af.slots args)[s]? = some v → v = args.getD t .undef := by
    intro s t v h1 h2
    simp only [initSlots, List.getElem?_map, h1, Option.map_some, Option.some.injEq] at h2
    exact h2.symm
  have hprom : ∀ (s t : Nat) (v : V), af.slots[s]? = some t → (initSlots af.slots args)[s]? = some v → (Cx.of P gl gs fn af g h w).pr s = true → v = .undef := by
    intro s t v h1 h2 h3
    rw [hget s t v h1 h2]
    apply getD_nil
    simp only [promOk, List.all_eq_true, List.mem_range] at hp
    have := hp s (List.getElem?_eq_some_iff.1 h1).1
    simp only [h1] at this
    have h3' : af.prom.getD s false = true := h3
    rw [h3'] at this
    simp at this
    omega
  refine ⟨by simp [initSlots, Cx.of], ?_, fun s t v h1 h2 h3 => ?_, fun s t v h1 h2 h3 h4 => absurd (hprom s t v h1 h2 h3) h4, fun s s' t t' v v' blk h1 h2 h3 h4 h5 h6 h7 => absurd (hprom s t v h1 h3 h5) h7⟩
  · simp only [Array.size_append, Array.size_replicate, Cx.of]
    omega
  · rw [hget s t v h1 h2]
    by_cases ht : t < args.length
    · obtain ⟨x, hx, hrv⟩ := hv.get (List.getElem?_eq_getElem ht)
      have e1 : args.getD t .undef = args[t] := by simp [List.getD, List.getElem?_eq_getElem ht]
      have hx' : vs[t]? = some x := by simpa using hx
      have hts : t < vs.size := by omega
      have e2 : (vs ++ Array.replicate (fn.ntmps - vs.size) undef).getD t undef = x := by
        simp only [Array.getD_eq_getD_getElem?, Array.getElem?_append_left hts, hx', Option.getD_some]
      rw [e1, e2]
      exact hrv
    · rw [getD_nil _ _ (by omega)]
      exact .d _ _ (.undef _)

theorem enters_of {f : Nat} {fn : Func} {code : Code} (hf : P.funcs[f]? = some fn) (hb : fn.body = some code) (hn : (fn.name == "runtime.NumGoroutine") = false) : Enters P f := by
  intro vs w
  simp [callFunc, hf, hn, hb]
  intro h
  simp [h] at hn

theorem call_step (hprog : ProgOK P gs W A) (hrec : RecOK P gl gs rec) : CallOK P gl gs (callF rec gl A) := by
  intro f args h r h' hcall
  unfold callF at hcall
  split at hcall
  · rename_i af hA
    obtain ⟨fn, code, hf, hb, hchk⟩ := hprog f af hA
    simp only [chkF, Bool.and_eq_true, decide_eq_true_eq, Bool.not_eq_true'] at hchk
    obtain ⟨⟨⟨⟨⟨hnt, hnd⟩, hpo⟩, hc⟩, hres⟩, hname⟩ := hchk
    split at hcall
    · rename_i hlen
      refine ⟨enters_of hf hb hname, fun g w vs hr hgl hv => ?_⟩
      have hc' : chkC (Cx.of P gl gs fn af g h w) code af.body = true := by rw [← hc]; exact chkC_any _ _
      have hres' : chkRes (Cx.of P gl gs fn af g h w) fn.results.toList af.results = true := by rw [← hres]; exact chkRes_any _ _
      have cr : CR (Cx.of P gl gs fn af g h w) { slots := initSlots af.slots args, h := h } g { tmps := vs ++ Array.replicate (fn.ntmps - vs.size) undef, defers := [] } w :=
        ⟨Step.refl hr, init_slots hr hpo hnt hlen hv, trivial, hgl⟩
      refine calls_of_wp_defers hf hb ?_
      have key : ∀ out c, exec rec gl af.body { slots := initSlots af.slots args, h := h } = some (out, c) → (∀ e a' w', OutP (Cx.of P gl gs fn af g h w) c out e a' w' → bodyPostD P fn (CallPost g h w r h') e a' w') →
          code.wp P (bodyPostD P fn (CallPost g h w r h')) { tmps := vs ++ Array.replicate (fn.ntmps - vs.size) undef, defers := [] } w := by
        intro out c hx hpost
        exact wp_mono (exec_sound (cx := Cx.of P gl gs fn af g h w) hnd hrec.call hrec.loop hrec.lpn af.body code _ c out g _ w hc' hx rfl cr FlagR.none) hpost
      split at hcall
      · rename_i c hx
        refine key _ c hx (fun e a' w' ho => ?_)
        obtain ⟨g1, cr1, _, he⟩ := ho
        cases e <;> simp only [OutE] at he
        exact leave_sound hrec.dcall rfl hres' c.dfs none c.h g1 w' .returning a'.defers hcall cr1.step cr1.sr cr1.gl cr1.df rfl
      · rename_i c hx
        refine key _ c hx (fun e a' w' ho => ?_)
        obtain ⟨g1, cr1, _, he⟩ := ho
        cases e <;> simp only [OutE] at he
        exact leave_sound hrec.dcall rfl hres' c.dfs none c.h g1 w' .returning a'.defers hcall cr1.step cr1.sr cr1.gl cr1.df rfl
      · rename_i v c hx
        refine key _ c hx (fun e a' w' ho => ?_)
        obtain ⟨g1, cr1, _, he⟩ := ho
        cases e <;> simp only [OutE] at he
        obtain ⟨x, rfl, hvx⟩ := he
        exact leave_sound hrec.dcall rfl hres' c.dfs (some v) c.h g1 w' _ a'.defers hcall cr1.step cr1.sr cr1.gl cr1.df ⟨x, rfl, hvx⟩
      · cases hcall
    · cases hcall
  · cases hcall

theorem dcall_step (hprog : ProgOK P gs W A) (hrec : RecOK P gl gs rec) : DcallOK P gl gs (dcallF rec gl A) := by
  intro f args u h u' h' hcall
  unfold dcallF at hcall
  split at hcall
  · rename_i af hA
    obtain ⟨fn, code, hf, hb, hchk⟩ := hprog f af hA
    simp only [chkF, Bool.and_eq_true, decide_eq_true_eq, Bool.not_eq_true'] at hchk
    obtain ⟨⟨⟨⟨⟨hnt, hnd⟩, hpo⟩, hc⟩, hres⟩, hname⟩ := hchk
    split at hcall
    · rename_i hlen
      refine ⟨enters_of hf hb hname, fun g w vs m hr hgl hv hm => ?_⟩
      have hc' : chkC (Cx.of P gl gs fn af g h w) code af.body = true := by rw [← hc]; exact chkC_any _ _
      have hres' : chkRes (Cx.of P gl gs fn af g h w) fn.results.toList af.results = true := by rw [← hres]; exact chkRes_any _ _
      have cr : CR (Cx.of P gl gs fn af g h w) { slots := initSlots af.slots args, pn := some u, h := h } g { tmps := vs ++ Array.replicate (fn.ntmps - vs.size) undef, defers := [] } w :=
        ⟨Step.refl hr, init_slots hr hpo hnt hlen hv, trivial, hgl⟩
      refine callsD_of_wpS hf hb (fun c₀ cs hu => ?_)
      have hc0 : c₀ = { c₀ with mode := m } := by cases c₀; simp only at hu; subst hu; rfl
      have key : ∀ out c, exec rec gl af.body { slots := initSlots af.slots args, pn := some u, h := h } = some (out, c) → (∀ e a' cs' w', OutPS (Cx.of P gl gs fn af g h w) c out c₀ cs e a' cs' w' →
            bodyPostS P fn c₀ cs (fun e m' w' => ∃ g', Step g h w g' h' w' ∧ (∃ x, e = .returned x) ∧ PnR g' (some u') m') e a' cs' w') →
          code.wpS P (bodyPostS P fn c₀ cs (fun e m' w' => ∃ g', Step g h w g' h' w' ∧ (∃ x, e = .returned x) ∧ PnR g' (some u') m')) { tmps := vs ++ Array.replicate (fn.ntmps - vs.size) undef, defers := [] } (c₀ :: cs) w := by
        intro out c hx hpost
        have := exec_soundS (cx := Cx.of P gl gs fn af g h w) hnd hrec.call (c₀ := c₀) (cs := cs) af.body code _ c out g _ w m hc' hx hm.pn cr FlagR.none
        rw [← hc0] at this
        exact wpS_mono this hpost
      have fin : ∀ c, (match c.dfs, c.pn, resultV c.h c.slots af.results with | [], some u', some _ => some (u', c.h) | _, _, _ => none) = some (u', h') → ∀ (a' : Act) (w' : World) (g1 : G) (m1 : FrameMode), CR (Cx.of P gl gs fn af g h w) c g1 a' w' → PnR g1 c.pn m1 →
          a'.defers = [] ∧ ∃ u1, ({ c₀ with mode := m1 } : Go.Frame) :: cs = { c₀ with mode := u1 } :: cs ∧ ∃ v, (results fn a'.tmps).run P w' = .ok v w' ∧ ∃ g', Step g h w g' h' w' ∧ (∃ x, Ending.returned v = .returned x) ∧ PnR g' (some u') u1 := by
        intro c hm a' w' g1 m1 cr1 hp1
        split at hm
        · rename_i u2 v2 hd hpn hv2
          cases hm
          have hde : a'.defers = [] := by
            have := cr1.df
            rw [hd] at this
            cases hh : a'.defers with
            | nil => rfl
            | cons d ds => rw [hh] at this; exact this.elim
          obtain ⟨x, hx, _⟩ := result_sound cr1.step.rep cr1.sr hres' hv2
          rw [hpn] at hp1
          exact ⟨hde, m1, rfl, x, hx, g1, cr1.step, ⟨x, rfl⟩, hp1⟩
        · cases hm
      split at hcall
      · rename_i c hx
        refine key _ c hx (fun e a' cs' w' ho => ?_)
        obtain ⟨g1, m1, cr1, _, he, hp1, rfl⟩ := ho
        cases e <;> simp only [OutE] at he
        exact fin c hcall a' w' g1 m1 cr1 hp1
      · rename_i c hx
        refine key _ c hx (fun e a' cs' w' ho => ?_)
        obtain ⟨g1, m1, cr1, _, he, hp1, rfl⟩ := ho
        cases e <;> simp only [OutE] at he
        exact fin c hcall a' w' g1 m1 cr1 hp1
      · cases hcall
    · cases hcall
  · cases hcall

theorem loop_step (hrec : RecOK P gl gs rec) : LoopOK P gl gs (loopF rec gl) := by
  intro cx x b c c' out g a w hP hgl hgs hn hchk hl hpn cr fr
  subst hP hgl hgs
  unfold loopF at hl
  refine wpLoop_round ?_
  split at hl
  · rename_i c1 hx
    have hpn1 := exec_pn (cx := cx) b c c1 .norm hpn hrec.lpn hx
    refine wp_mono (exec_sound hn hrec.call hrec.loop hrec.lpn b x c c1 .norm g a w hchk hx hpn cr fr) (fun e a' w' ho => ?_)
    obtain ⟨g1, cr1, fr1, he⟩ := ho
    cases e <;> simp only [OutE] at he
    exact hrec.loop cx x b c1 c' out g1 a' w' rfl rfl rfl hn hchk hl hpn1 cr1 fr1
  · rename_i r hr
    refine wp_mono (exec_sound hn hrec.call hrec.loop hrec.lpn b x c c' out g a w hchk hl hpn cr fr) (fun e a' w' ho => ?_)
    obtain ⟨g1, cr1, fr1, he⟩ := ho
    cases e with
    | normal =>
      cases out <;> simp only [OutE] at he
      exact absurd hl (hr c')
    | _ => exact ⟨g1, cr1, fr1, he⟩

theorem lpn_step (hrec : RecOK P gl gs rec) : ∀ b c c' out, loopF rec gl b c = some (out, c') → c.pn = none → c'.pn = none := by
  intro b c c' out hl hpn
  have hx := fun b c c' out => exec_pn (cx := ⟨P, gl, gs, [], [], 0, ⟨fun _ => none, fun _ _ => none⟩, [], default⟩) (rec := rec) b c c' out
  unfold loopF at hl
  split at hl
  · rename_i c1 h1
    exact hrec.lpn _ _ _ _ hl (hx _ _ _ _ hpn hrec.lpn h1)
  · exact hx _ _ _ _ hpn hrec.lpn hl

theorem run_ok (hprog : ProgOK P gs W A) : ∀ n, RecOK P gl gs (run gl A n)
  | 0 => ⟨fun _ _ _ _ _ h => by simp [run] at h, fun _ _ _ _ _ _ h => by simp [run] at h, fun _ _ _ _ _ _ _ _ _ _ _ _ _ _ h => by simp [run] at h, fun _ _ _ _ h => by simp [run] at h⟩
  | n + 1 => ⟨call_step hprog (run_ok hprog n), dcall_step hprog (run_ok hprog n), loop_step (run_ok hprog n), lpn_step (run_ok hprog n)⟩

/-- a run of the abstract machine is a run of the program -/
theorem run_calls (hprog : ProgOK P gs W A) {n f : Nat} {args : List V} {r : R} {h' : Heap} (hrun : (run gl A n).call f args h = some (r, h')) (hr : Rep g h w) (hgl : GlOk gl gs g.M) {vs : Array Value} (hv : RVs g args vs.toList) :
    Calls P f vs w (CallPost g h w r h') :=
  ((run_ok hprog n).call f args h r h' hrun).2 g w vs hr hgl hv
end
end Go.Am
/- From a run to what a row asks. -/
set_option linter.unusedVariables false
set_option linter.unusedSimpArgs false
namespace Go.Am
open Go.ChangeShapes Go.WideShapes Go.RowKit

theorem frame_kept {w w' : World} (hf : Frame (fun _ => False) w w') (may : MemPlace → Prop) : w.keptBut w' may := by
  refine ⟨hf.os, hf.output, fun i hi => ?_⟩
  have := hf.block i hi (fun h => h)
  rw [this]
  cases hh : w.heap[i]? with
  | none => trivial
  | some o =>
    cases o <;> simp

theorem frame_frozen {w w' : World} (hf : Frame (fun _ => False) w w') (a : Addr) (ha : a.block < w.heap.size) : w'.frozen? a = w.frozen? a := by
  simp only [World.frozen?, hf.block a.block ha (fun h => h)]

theorem Step.frame_nil {g g' : G} {h' : Heap} {w w' : World} (hs : Step g [] w g' h' w') : Frame (fun _ => False) w w' :=
  ⟨hs.fr.os, hs.fr.tape, hs.fr.output, hs.fr.size, fun i hi _ => hs.fr.block i hi Live_nil⟩

section
variable {P : Program} {H : Type} {enc : TypeId × Value → H}

/-- the row's end where old blocks stand as they stood (new blocks may bear any mark) -/
theorem post_of_frame {f : Func} {s : ChangeSpec} {apart fresh handsOn again : Bool} {W W' : World} {args : Array Value} {v : Value} {ds gs : List (DataW H)} {before pa pv : List MemPlace}
    (hW : DataW.Whole enc P f.params.toList s.vars apart W args.toList ds gs before)
    (hres : ∀ (b : Nat) (sp : Nat → Bool) (hd : Bool), DataW.TrodAll enc P W' b sp hd f.resultTypes.toList (v.resultList f.resultTypes.size) (s.fn H (ds ++ gs)).results [])
    (hargs : ∀ sp : Nat → Bool, (∀ p ∈ before, sp p.block = true) → DataW.TrodAll enc P W' 0 sp true f.params.toList args.toList (s.fn H (ds ++ gs)).args pa)
    (hvars : ∀ sp : Nat → Bool, (∀ p ∈ before, sp p.block = true) → DataW.TrodVars enc P W' sp s.vars (s.fn H (ds ++ gs)).vars pv)
    (hps : before = pa ++ pv) (hk : W.keptBut W' (· ∈ before)) (hfz : ∀ a : Addr, a.block < W.heap.size → W'.frozen? a = W.frozen? a)
    (hok : ∀ (j : Nat) (t : TypeId) (r : Value), f.resultTypes[j]? = some t → (v.resultList f.resultTypes.size)[j]? = some r → Value.okWide P W' .any 0 t r) :
    s.post enc P f apart fresh handsOn again W args v W' := by
  have hold : ∀ p ∈ before, (fun b => decide (b < W.heap.size)) p.block = true := fun p hp => by simpa using hW.lt p hp
  refine ⟨ds, gs, before, [], pa, pv, hW, hres _ _ _, hargs _ hold, hvars _ hold, World.keptBut_mono (fun p hp => ⟨hp, ?_⟩) hk, fun _ => ?_⟩
  · rw [hps, List.mem_append] at hp
    exact Or.inr hp
  · have hlt := hW.lt
    obtain ⟨_, _, _, _, _, hz, hn⟩ := hW
    refine ⟨hok, _, _, ([] ++ pa) ++ pv, ⟨[] ++ pa, pv, trodAll_append (hargs _ (fun _ _ => rfl)) (hres _ _ _), hvars _ (fun _ _ => rfl), rfl, ?_, ?_⟩, ?_⟩
    · intro b off hp
      have hin : MemPlace.cell b off ∈ before := by rw [hps]; simpa using hp
      rw [hfz _ (hlt _ hin)]
      exact hz b off hin
    · intro ha
      have := hn ha
      rw [hps] at this
      simpa using this
    · intro p hp _
      rw [hps]
      simpa using hp
end
end Go.Am
/- Runs without fuel: what a run of some length gives. -/
set_option linter.unusedVariables false
set_option linter.unusedSimpArgs false
namespace Go.Am

structure Rec.Le (r s : Rec) : Prop where
  call : ∀ f a h x, r.call f a h = some x → s.call f a h = some x
  dcall : ∀ f a u h x, r.dcall f a u h = some x → s.dcall f a u h = some x
  loop : ∀ b c x, r.loop b c = some x → s.loop b c = some x

theorem Rec.Le.refl (r : Rec) : r.Le r := ⟨fun _ _ _ _ h => h, fun _ _ _ _ _ h => h, fun _ _ _ h => h⟩
theorem Rec.Le.trans {r s t : Rec} (a : r.Le s) (b : s.Le t) : r.Le t :=
  ⟨fun f x h y e => b.call f x h y (a.call f x h y e), fun f x u h y e => b.dcall f x u h y (a.dcall f x u h y e), fun x c y e => b.loop x c y (a.loop x c y e)⟩

open Classical in
/-- the limit of a chain -/
noncomputable def limOf (R : Nat → Rec) : Rec where
  call f a h := if p : ∃ x n, (R n).call f a h = some x then some p.choose else none
  dcall f a u h := if p : ∃ x n, (R n).dcall f a u h = some x then some p.choose else none
  loop b c := if p : ∃ x n, (R n).loop b c = some x then some p.choose else none

section
variable {R : Nat → Rec} {α β : Type}

/-- monotone, and what the limit gives some run gives -/
structure Cont (R : Nat → Rec) {α : Type} (G : Rec → Option α) : Prop where
  mono : ∀ r s, r.Le s → ∀ x, G r = some x → G s = some x
  lim : ∀ x, G (limOf R) = some x → ∃ n, G (R n) = some x

theorem Cont.const (o : Option α) : Cont R (fun _ => o) := ⟨fun _ _ _ _ h => h, fun _ h => ⟨0, h⟩⟩
theorem Cont.of_eq {G G' : Rec → Option α} (h : ∀ r, G r = G' r) (hc : Cont R G') : Cont R G := by
  have : G = G' := funext h
  rw [this]; exact hc

theorem chain_le (hR : ∀ n, (R n).Le (R (n + 1))) : ∀ {n m : Nat}, n ≤ m → (R n).Le (R m) := by
  intro n m h
  induction h with
  | refl => exact Rec.Le.refl _
  | step _ ih => exact ih.trans (hR _)

theorem Cont.bind (hR : ∀ n, (R n).Le (R (n + 1))) {G : Rec → Option α} {K : α → Rec → Option β} (hG : Cont R G) (hK : ∀ y, Cont R (K y)) : Cont R (fun r => (G r).bind fun y => K y r) := by
  refine ⟨fun r s hrs x h => ?_, fun x h => ?_⟩
  · simp only [Option.bind_eq_some_iff] at h ⊢
    obtain ⟨y, h1, h2⟩ := h
    exact ⟨y, hG.mono r s hrs y h1, (hK y).mono r s hrs x h2⟩
  · simp only [Option.bind_eq_some_iff] at h ⊢
    obtain ⟨y, h1, h2⟩ := h
    obtain ⟨n, hn⟩ := hG.lim y h1
    obtain ⟨m, hm⟩ := (hK y).lim x h2
    exact ⟨n + m, y, hG.mono _ _ (chain_le hR (Nat.le_add_right n m)) y hn, (hK y).mono _ _ (chain_le hR (Nat.le_add_left m n)) x hm⟩

theorem Cont.map (hR : ∀ n, (R n).Le (R (n + 1))) {G : Rec → Option α} (f : α → β) (hG : Cont R G) : Cont R (fun r => (G r).map f) :=
  .of_eq (fun r => by cases G r <;> rfl) (hG.bind hR (K := fun y _ => some (f y)) fun y => .const _)

theorem Cont.call (f : Nat) (a : List V) (h : Heap) : Cont R (fun r => r.call f a h) := by
  refine ⟨fun r s hrs x e => hrs.call f a h x e, fun x e => ?_⟩
  simp only [limOf] at e
  split at e
  · rename_i p
    cases e
    exact p.choose_spec
  · cases e

theorem Cont.dcall (f : Nat) (a : List V) (u : Option V) (h : Heap) : Cont R (fun r => r.dcall f a u h) := by
  refine ⟨fun r s hrs x e => hrs.dcall f a u h x e, fun x e => ?_⟩
  simp only [limOf] at e
  split at e
  · rename_i p
    cases e
    exact p.choose_spec
  · cases e

theorem Cont.loop (b : ACode) (c : Cfg) : Cont R (fun r => r.loop b c) := by
  refine ⟨fun r s hrs x e => hrs.loop b c x e, fun x e => ?_⟩
  simp only [limOf] at e
  split at e
  · rename_i p
    cases e
    exact p.choose_spec
  · cases e

section
variable (hR : ∀ n, (R n).Le (R (n + 1)))
include hR

theorem cont_pcall (f : V) (args : List V) : Cont R (fun r => pcall r f args) := by
  unfold pcall
  cases callee f args with
  | none => exact .const _
  | some p =>
    obtain ⟨n, as⟩ := p
    simp only
    split
    · refine .of_eq (fun r => ?_) ((Cont.call n as []).bind hR (K := fun y _ => match y with
        | (.ret v, h) => (viewV 0 h v).map .val
        | (.pan v, h) => if pureV v then some (.pan v) else none) fun y => .const _)
      cases r.call n as [] with
      | none => rfl
      | some y => obtain ⟨x, h⟩ := y; cases x <;> rfl
    · exact .const _

theorem cont_bcall (h : Heap) (f : V) (args : List V) : Cont R (fun r => bcall r h f args) := by
  unfold bcall
  cases callee f args with
  | none => exact .const _
  | some p =>
    obtain ⟨n, as⟩ := p
    simp only
    cases viewL 0 h as with
    | none => exact .const _
    | some as' =>
      simp only
      refine .of_eq (fun r => ?_) ((Cont.call n as' []).bind hR (K := fun y _ => match y with
        | (.ret v, _) => if plainV v then some (.val v) else none
        | (.pan v, _) => if plainV v then some (.pan v) else none) fun y => .const _)
      cases r.call n as' [] with
      | none => rfl
      | some y => obtain ⟨x, h⟩ := y; cases x <;> rfl

theorem cont_ecall (h : Heap) (fz : Bool) (f : V) (args : List V) : Cont R (fun r => ecall r h fz f args) := by
  unfold ecall
  cases callee f args with
  | none => exact .const _
  | some p =>
    obtain ⟨n, as⟩ := p
    simp only
    refine .of_eq (fun r => ?_) ((Cont.call n as h).bind hR (K := fun y _ => match y with
      | (.ret v, h') =>
        if fz then (if h.length ≤ h'.length ∧ closedTo h.length h' then (viewV h.length h' v).map fun v => .val v (h'.take h.length) else none)
        else some (.val v h')
      | (.pan v, h') => some (.pan v h')) fun y => .const _)
    cases r.call n as h with
    | none => rfl
    | some y => obtain ⟨x, h⟩ := y; cases x <;> rfl

theorem cont_lop (h : Heap) (f : Opd → V) (l : LOp) : Cont R (fun r => lopV r h f l) := by
  cases l with
  | borrow fn args => exact cont_bcall hR h _ _
  | _ => exact .const _

theorem cont_eop (h : Heap) (f : Opd → V) (e : EOp) : Cont R (fun r => eopV r h f e) := by
  cases e with
  | call fn args fz => exact cont_ecall hR h _ _ _
  | _ => exact .const _

theorem cont_step (gl : Nat → List V) (o : AOper) (env slots : List V) (pn : Option (Option V)) (h : Heap) : Cont R (fun r => stepOp r gl o env slots pn h) := by
  unfold stepOp
  cases o.op with
  | pc fn args => exact (cont_pcall hR _ _).map hR _
  | l op => exact (cont_lop hR h _ op).map hR _
  | e op => exact (cont_eop hR h _ op).map hR _
  | _ => exact .const _

theorem cont_ops (gl : Nat → List V) : ∀ (os : List AOper) (env : List V) (c : Cfg), Cont R (fun r => runOps r gl os env c)
  | [], env, c => .const _
  | o :: os, env, c => by
    simp only [runOps]
    cases wanted env o.guard with
    | none => exact .const _
    | some b =>
      cases b with
      | false => exact cont_ops gl os _ _
      | true =>
        simp only
        refine .of_eq (fun r => ?_) ((cont_step hR gl o env c.slots c.pn c.h).bind hR (K := fun y r => match y with
          | .ok v wr df pn hp => runOps r gl os (env ++ [v]) { c with slots := setSlot c.slots wr, dfs := pushD df c.dfs, pn := pn.or c.pn, h := hp.getD c.h }
          | .pan v hp => some (.pan env.length v { c with h := hp.getD c.h })) fun y => ?_)
        · cases stepOp r gl o env c.slots c.pn c.h with
          | none => rfl
          | some y => cases y <;> rfl
        · cases y with
          | ok v wr df pn hp => exact cont_ops gl os _ _
          | pan v hp => exact .const _

theorem cont_reg (gl : Nat → List V) (draw : Bool) (fl : Option (Nat × Nat)) (pok : List Nat) (ops : List AOper) (c : Cfg) : Cont R (fun r => regA r gl draw fl pok ops c) := by
  unfold regA
  split
  · exact .const _
  · refine .of_eq (fun r => ?_) ((cont_ops hR gl ops [] c).bind hR (K := fun y _ => match y with
      | .norm env c' => some (.norm, { c' with flag := fl.map fun (t, j) => (t, env.getD j .undef) })
      | .pan j v c' => if draw && !pok.contains j then none else some (.pan v, { c' with slots := forget ops c'.slots, flag := none })) fun y => .const _)
    cases runOps r gl ops [] c with
    | none => rfl
    | some y => cases y <;> rfl

theorem cont_exec (gl : Nat → List V) : ∀ (b : ACode) (c : Cfg), Cont R (fun r => exec r gl b c)
  | .skip, c | .ret, c | .exit _, c => by simp only [exec]; exact .const _
  | .reg draw fl pok ops, c => by simp only [exec]; exact cont_reg hR gl draw fl pok ops c
  | .seq a b, c => by
    simp only [exec]
    refine .of_eq (fun r => ?_) ((cont_exec gl a c).bind hR (K := fun y r => match y with
      | (.norm, c') => exec r gl b c'
      | y => some y) fun y => ?_)
    · cases exec r gl a c with
      | none => rfl
      | some y => obtain ⟨o, c'⟩ := y; cases o <;> rfl
    · obtain ⟨o, c'⟩ := y
      cases o with
      | norm => exact cont_exec gl b c'
      | _ => exact .const _
  | .ite t a b, c => by
    simp only [exec]
    split
    · split
      · split
        · exact cont_exec gl a _
        · exact cont_exec gl b _
      · exact .const _
    · exact .const _
  | .block id a, c => by
    simp only [exec]
    · refine .of_eq (fun r => ?_) ((cont_exec gl a c).bind hR (K := fun y _ => match y with
        | (.exit i, c') => if i = id then some (.norm, c') else some (.exit i, c')
        | y => some y) fun y => .const _)
      cases exec r gl a c with
      | none => rfl
      | some y => obtain ⟨o, c'⟩ := y; cases o <;> rfl
  | .loop a, c => by
    simp only [exec]
    split
    · exact .const _
    · exact .loop a c
  | .frz s a, c => by
    simp only [exec]
    cases frzV c.h (c.slots.getD s .undef) with
    | none => exact .const _
    | some p => exact cont_exec gl a _

theorem cont_leave (rs : List ARes) (slots : List V) : ∀ (ds : List (V × List V)) (u : Option V) (h : Heap), Cont R (fun r => leave r rs slots ds u h)
  | [], none, h => .const _
  | [], some v, h => .const _
  | (f, args) :: ds, u, h => by
    cases hc : callee f args with
    | none => exact .of_eq (fun r => by simp only [leave, hc]) (.const none)
    | some p =>
      obtain ⟨n, as⟩ := p
      refine .of_eq (fun r => ?_) ((Cont.dcall n as u h).bind hR (K := fun y r => leave r rs slots ds y.1 y.2) fun y => cont_leave rs slots ds y.1 y.2)
      simp only [leave, hc]
      cases r.dcall n as u h with
      | none => rfl
      | some y => rfl

theorem cont_callF (gl : Nat → List V) (A : Nat → Option AFunc) (f : Nat) (args : List V) (h : Heap) : Cont R (fun r => callF r gl A f args h) := by
  unfold callF
  cases A f with
  | none => exact .const _
  | some af =>
    simp only
    split
    · refine .of_eq (fun r => ?_) ((cont_exec hR gl af.body { slots := initSlots af.slots args, h := h }).bind hR (K := fun y r => match y with
        | (.norm, c) => leave r af.results c.slots c.dfs none c.h
        | (.ret, c) => leave r af.results c.slots c.dfs none c.h
        | (.pan v, c) => leave r af.results c.slots c.dfs (some v) c.h
        | (.exit _, _) => none) fun y => ?_)
      · cases exec r gl af.body { slots := initSlots af.slots args, h := h } with
        | none => rfl
        | some y => obtain ⟨o, c'⟩ := y; cases o <;> rfl
      · obtain ⟨o, c'⟩ := y
        cases o with
        | exit i => exact .const _
        | _ => exact cont_leave hR _ _ _ _ _
    · exact .const _

theorem cont_dcallF (gl : Nat → List V) (A : Nat → Option AFunc) (f : Nat) (args : List V) (u : Option V) (h : Heap) : Cont R (fun r => dcallF r gl A f args u h) := by
  unfold dcallF
  cases A f with
  | none => exact .const _
  | some af =>
    simp only
    split
    · refine .of_eq (fun r => ?_) ((cont_exec hR gl af.body { slots := initSlots af.slots args, pn := some u, h := h }).bind hR (K := fun y r => match y with
        | (.norm, c) | (.ret, c) => match c.dfs, c.pn, resultV c.h c.slots af.results with
          | [], some u', some _ => some (u', c.h)
          | _, _, _ => none
        | _ => none) fun y => .const _)
      cases exec r gl af.body { slots := initSlots af.slots args, pn := some u, h := h } with
      | none => rfl
      | some y => obtain ⟨o, c'⟩ := y; cases o <;> rfl
    · exact .const _

theorem cont_loopF (gl : Nat → List V) (b : ACode) (c : Cfg) : Cont R (fun r => loopF r gl b c) := by
  unfold loopF
  refine .of_eq (fun r => ?_) ((cont_exec hR gl b c).bind hR (K := fun y r => match y with
    | (.norm, c') => r.loop b c'
    | y => some y) fun y => ?_)
  · cases exec r gl b c with
    | none => rfl
    | some y => obtain ⟨o, c'⟩ := y; cases o <;> rfl
  · obtain ⟨o, c'⟩ := y
    cases o with
    | norm => exact .loop b c'
    | _ => exact .const _
end
end
end Go.Am
/- Runs without fuel: the equations. -/
set_option linter.unusedVariables false
namespace Go.Am

theorem mono_of {α : Type} {G : Rec → Option α} (h : ∀ R : Nat → Rec, (∀ n, (R n).Le (R (n + 1))) → Cont R G) {r s : Rec} (hrs : r.Le s) {x : α} (e : G r = some x) : G s = some x :=
  (h (fun _ => r) (fun _ => Rec.Le.refl r)).mono r s hrs x e

section
variable (gl : Nat → List V) (A : Nat → Option AFunc)

theorem run_le : ∀ n, (run gl A n).Le (run gl A (n + 1))
  | 0 => ⟨fun _ _ _ _ h => (by simp [run] at h), fun _ _ _ _ _ h => (by simp [run] at h), fun _ _ _ h => (by simp [run] at h)⟩
  | n + 1 => ⟨fun f a h x e => mono_of (fun R hR => cont_callF hR gl A f a h) (run_le n) e, fun f a u h x e => mono_of (fun R hR => cont_dcallF hR gl A f a u h) (run_le n) e,
      fun b c x e => mono_of (fun R hR => cont_loopF hR gl b c) (run_le n) e⟩

/-- the machine without fuel -/
noncomputable def lim : Rec := limOf (run gl A)

theorem run_le_lim (n : Nat) : (run gl A n).Le (lim gl A) := by
  refine ⟨fun f a h x e => ?_, fun f a u h x e => ?_, fun b c x e => ?_⟩
  · have p : ∃ x n, (run gl A n).call f a h = some x := ⟨x, n, e⟩
    have : (lim gl A).call f a h = some p.choose := by simp only [lim, limOf, dif_pos p]
    rw [this]
    obtain ⟨m, hm⟩ := p.choose_spec
    have h1 := (chain_le (run_le gl A) (Nat.le_add_right n m)).call f a h x e
    have h2 := (chain_le (run_le gl A) (Nat.le_add_left m n)).call f a h _ hm
    rw [h1] at h2
    exact h2.symm
  · have p : ∃ x n, (run gl A n).dcall f a u h = some x := ⟨x, n, e⟩
    have : (lim gl A).dcall f a u h = some p.choose := by simp only [lim, limOf, dif_pos p]
    rw [this]
    obtain ⟨m, hm⟩ := p.choose_spec
    have h1 := (chain_le (run_le gl A) (Nat.le_add_right n m)).dcall f a u h x e
    have h2 := (chain_le (run_le gl A) (Nat.le_add_left m n)).dcall f a u h _ hm
    rw [h1] at h2
    exact h2.symm
  · have p : ∃ x n, (run gl A n).loop b c = some x := ⟨x, n, e⟩
    have : (lim gl A).loop b c = some p.choose := by simp only [lim, limOf, dif_pos p]
    rw [this]
    obtain ⟨m, hm⟩ := p.choose_spec
    have h1 := (chain_le (run_le gl A) (Nat.le_add_right n m)).loop b c x e
    have h2 := (chain_le (run_le gl A) (Nat.le_add_left m n)).loop b c _ hm
    rw [h1] at h2
    exact h2.symm

theorem opt_ext {α : Type} {a b : Option α} (h1 : ∀ x, a = some x → b = some x) (h2 : ∀ x, b = some x → a = some x) : a = b := by
  cases a with
  | some x => exact (h1 x rfl).symm
  | none => cases b with
    | none => rfl
    | some y => exact h2 y rfl

theorem lim_call (f : Nat) (a : List V) (h : Heap) : (lim gl A).call f a h = callF (lim gl A) gl A f a h := by
  refine opt_ext (fun x e => ?_) (fun x e => ?_)
  · obtain ⟨n, hn⟩ := (Cont.call (R := run gl A) f a h).lim x e
    cases n with
    | zero => simp [run] at hn
    | succ n => exact mono_of (fun R hR => cont_callF hR gl A f a h) (run_le_lim gl A n) hn
  · obtain ⟨n, hn⟩ := (cont_callF (run_le gl A) gl A f a h).lim x e
    exact (run_le_lim gl A (n + 1)).call f a h x hn

theorem lim_dcall (f : Nat) (a : List V) (u : Option V) (h : Heap) : (lim gl A).dcall f a u h = dcallF (lim gl A) gl A f a u h := by
  refine opt_ext (fun x e => ?_) (fun x e => ?_)
  · obtain ⟨n, hn⟩ := (Cont.dcall (R := run gl A) f a u h).lim x e
    cases n with
    | zero => simp [run] at hn
    | succ n => exact mono_of (fun R hR => cont_dcallF hR gl A f a u h) (run_le_lim gl A n) hn
  · obtain ⟨n, hn⟩ := (cont_dcallF (run_le gl A) gl A f a u h).lim x e
    exact (run_le_lim gl A (n + 1)).dcall f a u h x hn

theorem lim_loop (b : ACode) (c : Cfg) : (lim gl A).loop b c = loopF (lim gl A) gl b c := by
  refine opt_ext (fun x e => ?_) (fun x e => ?_)
  · obtain ⟨n, hn⟩ := (Cont.loop (R := run gl A) b c).lim x e
    cases n with
    | zero => simp [run] at hn
    | succ n => exact mono_of (fun R hR => cont_loopF hR gl b c) (run_le_lim gl A n) hn
  · obtain ⟨n, hn⟩ := (cont_loopF (run_le gl A) gl b c).lim x e
    exact (run_le_lim gl A (n + 1)).loop b c x hn

/-- what the machine without fuel gives, a run of some length gives -/
theorem lim_run {f : Nat} {a : List V} {h : Heap} {x : R × Heap} (e : (lim gl A).call f a h = some x) : ∃ n, (run gl A n).call f a h = some x :=
  (Cont.call (R := run gl A) f a h).lim x e
/-- and the other way -/
theorem run_lim {n f : Nat} {a : List V} {h : Heap} {x : R × Heap} (e : (run gl A n).call f a h = some x) : (lim gl A).call f a h = some x :=
  (run_le_lim gl A n).call f a h x e
end
end Go.Am
