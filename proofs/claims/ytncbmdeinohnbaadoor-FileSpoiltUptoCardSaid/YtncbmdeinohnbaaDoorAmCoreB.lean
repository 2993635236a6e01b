/- The abstract machine: slots, regions. -/
import Derived.Test.YtncbmdeinohnbaaDoorAmCoreA
import Derived.Laws.BytesString
/- Operations on the abstract heap: append, and what passes the check. -/
set_option linter.unusedVariables false
set_option linter.unusedSimpArgs false
namespace Go.Am
section
variable {P : Program} {g : G} {h : Heap} {w : World}

theorem flatten_len {es : List (List V)} {sz : Nat} (h : es.all (fun e => e.length == sz) = true) : es.flatten.length = es.length * sz := by
  induction es with
  | nil => simp
  | cons e es ih =>
    simp only [List.all_cons, Bool.and_eq_true, beq_iff_eq] at h
    simp [ih h.2, h.1, Nat.add_mul]; omega

/-- a new object that append makes -/
theorem app_new (hr : Rep g h w) {sz m C : Nat} {cs : List V} {arr : Array Value} {e : TypeId} (hcs : cs.length = m * sz) (hC : m ≤ C) (hpos : 0 < C) (hsz : arr.size = C * sz)
    (hrv : RVs g cs (arr.toList.take (m * sz))) (hone : ∀ u ∈ arr.toList.take (m * sz), u.oneCell' = true) :
    RV (g.put h.length m ⟨w.heap.size, C, sz⟩) (.sl h.length 0 m m sz false) (.slice (some ⟨w.heap.size, 0, none⟩) m C) ∧
      Step g h w (g.put h.length m ⟨w.heap.size, C, sz⟩) (h ++ [.cells m sz cs]) (w.drew.alloc (.cells arr e (0, 0))) := by
  refine ⟨.sl _ _ _ _ _ _ ⟨w.heap.size, C, sz⟩ _ _ G.put_same rfl (by omega) hC (by simp) (by simp) (by simp), ?_⟩
  refine Step.new hr m sz cs C hcs hC rfl rfl rfl (by simp) (fun i hi => heap_alloc_old w.drew _ i hi) (fun _ => ?_)
  exact ⟨arr, e, 0, 0, heap_alloc_new w.drew _, hsz, ⟨Nat.le_refl _, by omega⟩, hone, hrv⟩

theorem app_sound (hr : Rep g h w) {okO : Operand → Opd → Bool} {t t' ty e : TypeId} {sz bytes : Nat} (hu : P.underlying t = some (.slice e)) (hu' : (match P.underlying t' with | some (.slice _) | some .string => true | _ => false) = true)
    {inf : TypeInfo} {z : Value} (hi : P.info? e = some inf) (hz : inf.zero = some z) (hs : inf.size = sz) (hb : Nat.max inf.bytes 1 = bytes) (hzs : z.cells.size = sz)
    {x y v : V} {xv yv : Value} {h' : Heap} (hx : RV g x xv) (hy : RV g y yv) (hv : appV h x y sz bytes = some (v, h')) :
    ∃ vv w' g', (Builtin.append_ #[t, t'] ty #[xv, yv]).run P w = .ok vv w' ∧ RV g' v vv ∧ Step g h w g' h' w' := by
  unfold appV at hv
  split at hv
  · rename_i k ys hl hc
    split at hv
    · rename_i hk
      split at hv
      · -- nil
        split at hv
        · rename_i hroom
          obtain rfl := hx.nils_inv
          obtain ⟨new, hrv, hone, hin, hgrow⟩ := run_append (ty := ty) hr hu hu' hi hz hs hb (a := none) (len := 0) (cap := 0) hy hl hc hk (by simpa using hroom) [] (by simp)
            (fun _ => ⟨#[], fun w' _ => by simp [Builtin.firstCells], .nil, by simp⟩) (Nat.le_refl 0)
          split at hv
          · rename_i hk0
            cases hv
            subst hk0
            refine ⟨.slice none 0 0, w, g, ?_, .d _ _ .nils, Step.refl hr⟩
            have := hin (by omega)
            simpa using this
          · rename_i hk0
            cases hv
            obtain ⟨arr, C, hC, hsz, hrv', hone', hrun⟩ := hgrow (by omega)
            simp only [Nat.zero_add, List.nil_append] at hrv' hone' hC
            obtain ⟨h1, h2⟩ := app_new (e := e) hr (m := k) hk hC (by omega) (hsz hzs) hrv' hone'
            exact ⟨_, _, _, hrun, by simpa using h1, h2⟩
        · cases hv
      · -- a frozen slice of all of its array
        rename_i es
        split at hv
        · rename_i hcond
          obtain ⟨hroom, hall⟩ := hcond
          obtain ⟨hlen, old, hold, holdrv, holdone⟩ := firstCells_sound (P := P) hr (y := .sv es true) (k := es.length) (sz := sz) (ys := es.flatten) hx rfl rfl (flatten_len hall)
          obtain ⟨a, cap, sz', xs, rfl, hcap, he, _⟩ := hx.sv_inv
          obtain rfl := he rfl
          obtain ⟨new, hrv, hone, hin, hgrow⟩ := run_append (ty := ty) hr hu hu' hi hz hs hb (a := a) (len := es.length) (cap := es.length) hy hl hc hk hroom es.flatten (flatten_len hall)
            (fun _ => ⟨old, hold, holdrv, holdone⟩) (Nat.le_refl _)
          split at hv
          · rename_i hk0
            cases hv
            subst hk0
            have hys : ys = [] := List.length_eq_zero_iff.1 (by simpa using hk)
            subst hys
            have hn : new.toList = [] := by cases hq : new.toList with
              | nil => rfl
              | cons _ _ => rw [hq] at hrv; cases hrv
            have := hin (by omega)
            refine ⟨_, w, g, ?_, hx, Step.refl hr⟩
            rw [this, hn]
            cases a <;> simp [storeCells]
          · rename_i hk0
            cases hv
            obtain ⟨arr, C, hC, hsz, hrv', hone', hrun⟩ := hgrow (by omega)
            obtain ⟨h1, h2⟩ := app_new (e := e) hr (m := es.length + k) (cs := es.flatten ++ ys) (by rw [List.length_append, flatten_len hall, hk, Nat.add_mul]) hC (by omega) (hsz hzs) hrv' hone'
            exact ⟨_, _, _, hrun, h1, h2⟩
        · cases hv
      · -- a slice of an object
        rename_i b off len gen s2 ex
        split at hv
        · rename_i n sz' cs ho
          split at hv
          · rename_i hcond
            obtain ⟨rfl, rfl, rfl, hroom, hle⟩ := hcond
            have hsc : sliceCells h (.sl b off len gen s2 ex) = some ((cs.drop (off * s2)).take (len * s2)) := by
              simp [sliceCells, ho, hle]
            obtain ⟨hb', hlen, -⟩ := objCells_rep hr ho
            have hofs : off * s2 + len * s2 ≤ cs.length := by
              have : (off + len) * s2 ≤ gen * s2 := Nat.mul_le_mul_right _ hle
              rw [Nat.add_mul] at this
              omega
            have hxl : ((cs.drop (off * s2)).take (len * s2)).length = len * s2 := by simp; omega
            obtain ⟨hlenx, old, hold, holdrv, holdone⟩ := firstCells_sound (P := P) hr (y := .sl b off len gen s2 ex) (k := len) (sz := s2) hx rfl hsc hxl
            obtain ⟨p, a, cap, rfl, hp, hps, hle0, hcap, hex, hcr, ha⟩ := hx.sl_inv
            obtain ⟨new, hrv, hone, hin, hgrow⟩ := run_append (ty := ty) hr hu hu' hi hz hs hb (a := a) (len := len) (cap := cap) hy hl hc hk hroom _ hxl
              (fun _ => ⟨old, hold, holdrv, holdone⟩) hcap
            split at hv
            · rename_i hk0
              cases hv
              subst hk0
              have hys : ys = [] := List.length_eq_zero_iff.1 (by simpa using hk)
              subst hys
              have hn : new.toList = [] := by cases hq : new.toList with
                | nil => rfl
                | cons _ _ => rw [hq] at hrv; cases hrv
              have := hin (by omega)
              refine ⟨_, w, g, ?_, hx, Step.refl hr⟩
              rw [this, hn]
              cases a <;> simp [storeCells]
            · rename_i hk0
              split at hv
              · rename_i hall
                obtain ⟨rfl, rfl⟩ := hall
                cases hv
                have hfull : (cs.drop (0 * s2)).take (len * s2) = cs := by simp [← hlen]
                have hcs' : (cs ++ ys).length = (len + k) * s2 := by rw [List.length_append, hlen, hk, Nat.add_mul]
                by_cases hin' : len + k ≤ cap
                · -- in place
                  have hcapos : 0 < cap := by omega
                  obtain rfl := ha hcapos
                  have hrun := hin hin'
                  have hrp : 0 < p.room := by omega
                  obtain ⟨-, -, p', hp', hps', hnr, hrest⟩ := objCells_rep hr ho
                  rw [hp] at hp'
                  cases hp'
                  obtain ⟨hm, arr, e', lo, hi', hh, hasz, hfz, hone2, hrv2⟩ := hrest hrp
                  have hnl := hrv.length
                  have hfit : (len + k) * s2 ≤ arr.size := by rw [hasz]; exact Nat.mul_le_mul_right _ (by omega)
                  have hnlen : new.toList.length = k * s2 := by omega
                  have hst := run_storeCells_blk (P := P) p.blk (len * s2) e' lo hi' new.toList 0 arr w hh (by rw [hnlen]; rw [Nat.add_mul] at hfit; omega) hfz.2 hone
                  simp only [Nat.add_zero] at hst
                  have htk : (arr.toList.take (len * s2) ++ new.toList ++ arr.toList.drop (len * s2 + new.toList.length)).take ((len + k) * s2) = arr.toList.take (len * s2) ++ new.toList := by
                    rw [List.take_left']
                    simp only [List.length_append, List.length_take, Array.length_toList, hnlen]
                    rw [Nat.add_mul] at hfit ⊢
                    omega
                  refine ⟨.slice (some ⟨p.blk, 0 * s2, none⟩) (len + k) cap, w.setRow p.blk (arr.toList.take (len * s2) ++ new.toList ++ arr.toList.drop (len * s2 + new.toList.length)).toArray, g.put b (len + k) p, ?_, ?_, ?_⟩
                  · rw [hrun]
                    simp only [add_none, Nat.zero_mul, Nat.zero_add]
                    rw [hst]
                    rfl
                  · exact .sl _ _ _ _ _ _ p _ _ G.put_same hps (by omega) hin' (by simp) (by omega) (fun _ => by simp)
                  · refine Step.write hr hb' hp hrp (by omega) (by omega) hcs' hh hfz ?_ hasz ?_ ?_
                    · simp only [List.size_toArray, List.length_append, List.length_take, List.length_drop, Array.length_toList, hnlen]
                      rw [Nat.add_mul] at hfit
                      omega
                    · simp only [List.toList_toArray]
                      rw [htk]
                      intro u hu
                      rcases List.mem_append.1 hu with hu | hu
                      · exact hone2 u hu
                      · exact hone u hu
                    · simp only [List.toList_toArray]
                      rw [htk]
                      exact hrv2.append hrv
                · -- in a new block
                  obtain ⟨arr, C, hC, hsz, hrv', hone', hrun⟩ := hgrow (by omega)
                  rw [hfull] at hrv'
                  refine ⟨_, _, g.put b (len + k) ⟨w.heap.size, C, s2⟩, hrun, ?_, ?_⟩
                  · exact .sl _ _ _ _ _ _ ⟨w.heap.size, C, s2⟩ _ _ G.put_same rfl (by omega) hC (by simp) (by simp) (by simp)
                  · exact Step.move hr hb' (by omega) C hC hcs' rfl rfl rfl (by simp) (fun i hi => heap_alloc_old w.drew _ i hi) (heap_alloc_new w.drew _) ⟨Nat.le_refl _, by omega⟩ (hsz hzs) hone' hrv'
              · split at hv
                · rename_i hexx
                  cases hv
                  have := hex hexx
                  obtain ⟨arr, C, hC, hsz, hrv', hone', hrun⟩ := hgrow (by omega)
                  obtain ⟨h1, h2⟩ := app_new (e := e) hr (m := len + k) (cs := (cs.drop (off * s2)).take (len * s2) ++ ys) (by rw [List.length_append, hxl, hk, Nat.add_mul]) hC (by omega) (hsz hzs) hrv' hone'
                  exact ⟨_, _, _, hrun, h1, h2⟩
                · cases hv
          · cases hv
        · cases hv
      · cases hv
    · cases hv
  · cases hv

/-! ### a slice that nobody writes any more -/
theorem slice_chunks {cs : List V} {n sz off len : Nat} (hlen : cs.length = n * sz) (hle : off + len ≤ n) :
    (chunks sz len (cs.drop (off * sz))) = chunks sz len ((cs.drop (off * sz)).take (len * sz)) := by
  have key : ∀ (m : Nat) (l : List V), chunks sz m l = chunks sz m (l.take (m * sz)) := by
    intro m
    induction m with
    | zero => intro l; rfl
    | succ m ih =>
      intro l
      simp only [chunks]
      congr 1
      · rw [List.take_take, Nat.min_eq_left (by rw [Nat.add_mul]; omega)]
      · rw [ih (l.drop sz), ih ((l.take ((m + 1) * sz)).drop sz), List.drop_take]
        rw [List.take_take]
        congr 1
        rw [Nat.min_eq_left (by rw [Nat.add_mul]; omega)]
  exact key len _

/-- what a slice of an object is seen as, when its block is in memory that nobody writes -/
theorem sl_view {g' : G} {b off len sz n : Nat} {ex : Bool} {cs : List V} {p : Place} {xv : Value} (hx : RV g (.sl b off len n sz ex) xv) (hp : g.β b n = some p) (hle : off + len ≤ n) (hlen : cs.length = n * sz) (hnr : n ≤ p.room) (hps : p.sz = sz) (hpure : pureL cs = true)
    (hM : g.M.le g'.M)
    (hrest : 0 < p.room → ∃ arr, g'.M p.blk = some arr ∧ arr.size = p.room * sz ∧ (∀ u ∈ arr.toList.take (n * sz), u.oneCell' = true) ∧ RVs g cs (arr.toList.take (n * sz))) :
    RD g'.M (.sv (chunks sz len (cs.drop (off * sz))) ex) xv := by
  obtain ⟨p', a, cap, rfl, hp', hps', hle0, hcap, hex, hcr, ha⟩ := hx.sl_inv
  rw [hp] at hp'
  cases hp'
  have hcl := chunks_length sz len (cs.drop (off * sz))
  by_cases h0 : len = 0
  · subst h0
    exact .sv _ _ _ _ _ rfl (Nat.zero_le _) hex (fun h => absurd h (by omega)) sz [] (fun _ _ h => absurd h (by omega)) (by simp) (.nil sz)
  · obtain ⟨arr, hMb, hasz, hone, hrv⟩ := hrest (by omega)
    have hmul : (off + len) * sz ≤ n * sz := Nat.mul_le_mul_right _ hle
    have hmul2 : n * sz ≤ p.room * sz := Nat.mul_le_mul_right _ hnr
    rw [Nat.add_mul] at hmul
    have hsub : (arr.toList.drop (off * sz)).take (len * sz) = ((arr.toList.take (n * sz)).drop (off * sz)).take (len * sz) := by
      rw [List.drop_take, List.take_take, Nat.min_eq_left (by omega)]
    have hrvp : RVs g ((cs.drop (off * sz)).take (len * sz)) ((arr.toList.drop (off * sz)).take (len * sz)) := by
      rw [hsub]; exact (hrv.drop _).take _
    have hpp : pureL ((cs.drop (off * sz)).take (len * sz)) = true := by
      have h1 : ∀ (l : List V) (k : Nat), pureL l = true → pureL (l.drop k) = true := by
        intro l k
        induction k generalizing l with
        | zero => intro h; simpa using h
        | succ k ih =>
          intro h
          cases l with
          | nil => rfl
          | cons v l => simp only [pureL, Bool.and_eq_true] at h; simpa using ih l h.2
      have h2 : ∀ (l : List V) (k : Nat), pureL l = true → pureL (l.take k) = true := by
        intro l k
        induction k generalizing l with
        | zero => intro _; rfl
        | succ k ih =>
          intro h
          cases l with
          | nil => rfl
          | cons v l => simp only [pureL, Bool.and_eq_true] at h; simp [pureL, h.1, ih l h.2]
      exact h2 _ _ (h1 _ _ hpure)
    have hrd : RDs g'.M ((cs.drop (off * sz)).take (len * sz)) ((arr.toList.drop (off * sz)).take (len * sz)) := (hrvp.toRDs hpp).mono hM
    have hrde := chunks_rde sz len _ _ hrd (by simp; omega)
    rw [← slice_chunks hlen hle] at hrde
    have hxl : ((arr.toList.drop (off * sz)).take (len * sz)).length = len * sz := by simp; omega
    obtain rfl := ha (by omega)
    refine .sv _ _ _ _ _ hcl hcap hex (fun _ => ⟨_, arr, rfl, rfl, hMb⟩) sz _ ?_ ?_ hrde
    · intro ad arr' _ h1 h2
      cases h1
      simp only at h2
      rw [hMb] at h2
      cases h2
      rw [hxl]
    · intro u hu
      apply hone
      rw [hsub] at hu
      exact List.mem_of_mem_drop (List.mem_of_mem_take hu)

theorem viewV_sl {lo b off len gen sz : Nat} {ex : Bool} {v : V} (hv : viewV lo h (.sl b off len gen sz ex) = some v) :
    ∃ cs, objCells h b = some (gen, sz, cs) ∧ lo ≤ b ∧ off + len ≤ gen ∧ pureL cs = true ∧ v = .sv (chunks sz len (cs.drop (off * sz))) ex := by
  unfold viewV at hv
  split at hv
  · rename_i n s cs ho
    split at hv
    · rename_i hc
      obtain ⟨h1, rfl, h2, rfl, h3⟩ := hc
      cases hv
      exact ⟨cs, ho, h1, h2, h3, rfl⟩
    · cases hv
  · cases hv

theorem frz_sound (hr : Rep g h w) {x v : V} {xv : Value} {h' : Heap} (hx : RV g x xv) (hv : frzV h x = some (v, h')) : ∃ g', RV g' v xv ∧ Step g h w g' h' w := by
  unfold frzV at hv
  split at hv
  · rename_i b off len gen sz ex
    split at hv
    · rename_i v' hview
      cases hv
      obtain ⟨cs, ho, _, hle, hpure, rfl⟩ := viewV_sl hview
      obtain ⟨hb, hobj⟩ := objCells_rep hr ho
      obtain ⟨_, p, hp, _⟩ := hobj
      obtain ⟨g', hstep, hrest, hnr, hps, hlen⟩ := Step.kill hr hb hp
      refine ⟨g', .d _ _ (sl_view hx hp hle hlen hnr hps hpure hstep.le.1 (fun hroom => ?_)), hstep⟩
      obtain ⟨arr, e, lo, hi, hh, h1, h2, h3, h4⟩ := hrest hroom
      exact ⟨arr, h1, h2, h3, h4⟩
    · cases hv
  · split at hv
    · cases hv
      exact ⟨g, hx, Step.refl hr⟩
    · cases hv
end
end Go.Am
/- Operations on the abstract heap: what makes objects, and what passes the check. -/
set_option linter.unusedVariables false
set_option linter.unusedSimpArgs false
namespace Go.Am
section
variable {P : Program} {g : G} {h : Heap} {w : World}

/-- what an operation that writes comes to -/
def EGood (P : Program) (g : G) (h : Heap) (w : World) (s : Sem Next) (v : V) (h' : Heap) : Prop :=
  ∃ vv w' g', (s.run P w = .ok (.value vv) w' ∨ (s.run P w = .ok .skip w' ∧ v = .undef)) ∧ RV g' v vv ∧ Step g h w g' h' w'

/-- a row of its own -/
theorem row_new (hr : Rep g h w) {n sz : Nat} {cs : List V} {arr : Array Value} {e : TypeId} (hcs : cs.length = n * sz) (hsz : arr.size = n * sz) (hrv : RVs g cs arr.toList) (hone : ∀ u ∈ arr.toList, u.oneCell' = true) (d : Nat) :
    Step g h w (g.put h.length n ⟨w.heap.size, n, sz⟩) (h ++ [.cells n sz cs]) { (w.alloc (.cells arr e (0, 0))) with drawn := d } := by
  have ht : arr.toList.take (n * sz) = arr.toList := List.take_of_length_le (by simp; omega)
  refine Step.new hr n sz cs n hcs (Nat.le_refl _) rfl rfl rfl (by simp) (fun i hi => heap_alloc_old w _ i hi) (fun _ => ?_)
  exact ⟨arr, e, 0, 0, heap_alloc_new w _, hsz, ⟨Nat.le_refl _, by omega⟩, by rw [ht]; exact hone, by rw [ht]; exact hrv⟩

theorem row_sl (hr : Rep g h w) {n sz : Nat} : RV (g.put h.length n ⟨w.heap.size, n, sz⟩) (.sl h.length 0 n n sz false) (.slice (some ⟨w.heap.size, 0, none⟩) n n) :=
  .sl _ _ _ _ _ _ ⟨w.heap.size, n, sz⟩ _ _ G.put_same rfl (by omega) (Nat.le_refl _) (by simp) (by simp) (by simp)

theorem box_new (hr : Rep g h w) {t : TypeId} {x : V} {xv : Value} (hx : RV g x xv) (hc : (cellsV x).all isCell = true) :
    (newVar t xv).run P w = .ok ⟨w.heap.size, 0, none⟩ (w.alloc (.cells xv.cells t (0, 0))) ∧ RV (g.put h.length 1 ⟨w.heap.size, 1, (cellsV x).length⟩) (.ref h.length 0 1) (.pointer (some ⟨w.heap.size, 0, none⟩)) ∧
      Step g h w (g.put h.length 1 ⟨w.heap.size, 1, (cellsV x).length⟩) (h ++ [.cells 1 (cellsV x).length (cellsV x)]) (w.alloc (.cells xv.cells t (0, 0))) := by
  obtain ⟨h1, h2⟩ := hx.cells hc
  refine ⟨by simp [newVar, newRow], .ref _ _ _ _ G.put_same, ?_⟩
  have hl := h1.length
  exact row_new (e := t) hr (by simp) (by simp at hl ⊢; omega) h1 h2 w.drawn

theorem own_new (hr : Rep g h w) (sz : Nat) : RV (g.put h.length 0 ⟨w.heap.size, 0, sz⟩) (.sl h.length 0 0 0 sz false) (.slice none 0 0) ∧ Step g h w (g.put h.length 0 ⟨w.heap.size, 0, sz⟩) (h ++ [.cells 0 sz []]) w := by
  refine ⟨.sl _ _ _ _ _ _ ⟨w.heap.size, 0, sz⟩ _ _ G.put_same rfl (by omega) (Nat.le_refl _) (by simp) (by simp) (by simp), ?_⟩
  exact Step.new hr 0 sz [] 0 (by simp) (Nat.le_refl _) rfl rfl rfl (Nat.le_refl _) (fun _ _ => rfl) (fun h => absurd h (by omega))

theorem fill_length : ∀ (qs : List (Nat × Nat × V)) (a b : List V), fill a qs = some b → b.length = a.length := by
  intro qs
  induction qs with
  | nil => intro a b h; simp [fill] at h; rw [h]
  | cons q qs ih =>
    intro a b h
    obtain ⟨o1, s1, v1⟩ := q
    unfold fill at h
    split at h
    · rename_i hcond
      have := ih _ _ h
      rw [this]
      simp [splice]; omega
    · cases h

section
variable {okO : Operand → Opd → Bool} {f : Opd → V} {ρ : Operand → Value} {o : Oper}

/-- a slice of given parts, in a row of its own -/
theorem bslO_sound (hr : Rep g h w) (hρ : ∀ x y, okO x y = true → RV g (f y) (ρ x)) {t : TypeId} {n sz : Nat} {ps : Array (Nat × Operand)} (ho : o.op = .buildSlice t n ps) {zero : List V} {ps' : List (Nat × Opd)} {e : TypeId}
    (hcap : n * sz ≤ 2 ^ 24) (h2 : okPartsS okO ps.toList ps' = true) (hzl : zero.length = sz) (hu : P.underlying t = some (.slice e)) (hsz : (P.info? e).map (·.size) = some sz) (hzc : zeroCellsIs P e zero = true)
    {cs : List V} (hfill : fill (List.replicate n zero).flatten (ps'.map fun q => (q.1 * sz, sz, f q.2)) = some cs) (hcell : cs.all isCell = true) :
    EGood P g h w (execOp ρ o) (.sl h.length 0 n n sz false) (h ++ [.cells n sz cs]) := by
  obtain ⟨z, hz, hzr⟩ := zeroCellsIs_rvs (g := g) hzc
  have hzs : z.cells.size = sz := by have := hzr.length; simp at this; omega
  have hcl : cs.length = n * sz := by
    rw [fill_length _ _ _ hfill]
    simp [hzl]
  have hparts := okPartsS_r (g := g) (f := f) hρ sz _ _ h2
  have hpl : (ps.map fun (i, x) => (i, ρ x)).toList = ps.toList.map fun p => (p.1, ρ p.2) := by simp
  have fin : ∀ cells0 : Array Value, RVs g (List.replicate n zero).flatten cells0.toList →
      (∀ r', Instr.fill (fun i => some (i * sz, sz)) cells0 (ps.map fun (i, x) => (i, ρ x)).toList = some r' →
        (execOp ρ o).run P w = .ok (.value (.slice (some ⟨w.heap.size, 0, none⟩) n n)) { (w.alloc (.cells r' e (0, 0))) with drawn := w.drawn }) →
      EGood P g h w (execOp ρ o) (.sl h.length 0 n n sz false) (h ++ [.cells n sz cs]) := by
    intro cells0 hrv0 hrun
    obtain ⟨r', hrr0, hrr⟩ := fill_rv _ _ _ cells0 _ cs hrv0 hparts hfill
    have h' := hrun r' (by rw [hpl]; exact hrr0)
    have hlr := hrr.length
    exact ⟨_, _, _, .inl h', row_sl hr, row_new (e := e) hr hcl (by simp at hlr; omega) hrr (rvs_one hrr hcell) w.drawn⟩
  by_cases h0 : n * sz = 0
  · refine fin #[] ?_ ?_
    · have : (List.replicate n zero).flatten = [] := by
        rcases Nat.mul_eq_zero.1 h0 with rfl | h
        · rfl
        · have : zero = [] := List.length_eq_zero_iff.1 (by omega)
          subst this
          simp
      rw [this]
      exact RVs.nil
    · intro r' hrr
      simp only [execOp, ho, Instr.buildSlice, Sem.run_bind, run_underlying hu, Result.andThen_ok, run_sizeOf hsz, h0]
      simp only [show ¬ (0 > 2 ^ 24) by decide, if_false, if_true, Sem.run_bind, Sem.run_pure, Result.andThen_ok]
      have : (Array.map (fun x => (#[] : Array Value)[x % (#[] : Array Value).size]!) (Array.range 0)) = #[] := by simp
      rw [this, hrr]
      simp [newRow]
      rfl
  · have hpos : 0 < z.cells.size := by rw [hzs]; exact Nat.pos_of_ne_zero (fun h => h0 (by simp [h]))
    refine fin ((Array.range (n * sz)).map (z.cells[· % z.cells.size]!)) ?_ ?_
    · have := zeros_flat n z.cells hpos
      rw [hzs] at this
      rw [hzs, this]
      exact (replicate_rds hzr n).rvs
    · intro r' hrr
      simp only [execOp, ho, Instr.buildSlice, Sem.run_bind, run_underlying hu, Result.andThen_ok, run_sizeOf hsz]
      rw [if_neg (by omega), if_neg h0]
      simp only [Sem.run_bind, Sem.run_pure, Result.andThen_ok, hz]
      rw [hrr]
      simp [newRow]
      rfl

theorem mks_sound (hr : Rep g h w) {t : TypeId} {l c : Operand} (ho : o.op = .makeSlice t l c) {a : Int} {k1 k2 : IntKind} (ex : ρ l = .int k1 a) (ey : ρ c = .int k2 a) {sz bytes : Nat} {zero : List V} {e : TypeId}
    (hu : P.underlying t = some (.slice e)) {inf : TypeInfo} (hi : P.info? e = some inf) (hb : inf.bytes = bytes) (hsz : (P.info? e).map (·.size) = some sz) (hzc : zeroCellsIs P e zero = true) (hcell : zero.all isCell = true)
    (c1 : 0 ≤ a) (c3 : a * bytes ≤ room) (c4 : a ≤ 9223372036854775807) (hzl : zero.length = sz) :
    EGood P g h w (execOp ρ o) (.sl h.length 0 a.toNat a.toNat sz false) (h ++ [.cells a.toNat sz (List.replicate a.toNat zero).flatten]) := by
  obtain ⟨z, hz, hzr⟩ := zeroCellsIs_rvs (g := g) hzc
  have hzs : z.cells.size = sz := by have := hzr.length; simp at this; omega
  have hw : IntKind.i64.wrap a = a := by
    simp only [IntKind.wrap, IntKind.bits, IntKind.signed, Bool.true_and]
    have : a % (2 ^ 64 : Int) = a := by omega
    simp only [this]
    split
    · rename_i h; simp at h; omega
    · rfl
  have hbig : ¬ ((bytes : Int) * a > 2 ^ 48) := by
    have : a * bytes ≤ 2 ^ 47 := by simpa [room] using c3
    have e1 : (bytes : Int) * a = a * bytes := Int.mul_comm _ _
    rw [e1]
    omega
  have hti : ∀ w, (typeInfo e).run P w = .ok inf w := fun w => by simp [typeInfo, hi]
  have hrd := (replicate_rds hzr a.toNat).rvs (g := g)
  have hfl : ((List.replicate a.toNat zero).flatten).length = a.toNat * sz := by simp [hzl]
  have hcl : (List.replicate a.toNat zero).flatten.all isCell = true := by
    rw [List.all_eq_true]
    intro u hu
    obtain ⟨l, hl, hul⟩ := List.mem_flatten.1 hu
    rw [List.eq_of_mem_replicate hl] at hul
    exact List.all_eq_true.1 hcell u hul
  have fin : ∀ arr : Array Value, arr.toList = (List.replicate a.toNat z.cells.toList).flatten →
      (execOp ρ o).run P w = .ok (.value (.slice (some ⟨w.heap.size, 0, none⟩) a.toNat a.toNat)) { (w.alloc (.cells arr e (0, 0))) with drawn := w.drawn } →
      EGood P g h w (execOp ρ o) (.sl h.length 0 a.toNat a.toNat sz false) (h ++ [.cells a.toNat sz (List.replicate a.toNat zero).flatten]) := by
    intro arr harr hrun
    have hrv : RVs g (List.replicate a.toNat zero).flatten arr.toList := by rw [harr]; exact hrd
    have hl := hrv.length
    exact ⟨_, _, _, .inl hrun, row_sl hr, row_new (e := e) hr hfl (by simp at hl ⊢; rw [← hzl]; omega) hrv (rvs_one hrv hcl) w.drawn⟩
  have hpre : (a < 0 || (inf.bytes : Int) * a > 2 ^ 48) = false := by
    rw [hb]
    simp only [Bool.or_eq_false_iff, decide_eq_false_iff_not]
    exact ⟨by omega, hbig⟩
  by_cases h0 : a.toNat * sz = 0
  · refine fin #[] ?_ ?_
    · have := hrd.length
      rw [hfl, h0] at this
      simpa using (List.length_eq_zero_iff.1 this.symm).symm
    · simp only [execOp, ho, ex, ey, Instr.makeSlice, asInt, asIntOf, Sem.run_bind, run_underlying hu, Result.andThen_ok, Sem.run_pure, hti, hw, hpre, run_sizeOf hsz, run_askRoom]
      simp [h0, newRow, show ¬ a < 0 by omega, run_sizeOf hsz, Array.range_zero']
      rfl
  · have hpos : 0 < z.cells.size := by rw [hzs]; exact Nat.pos_of_ne_zero (fun h => h0 (by simp [h]))
    refine fin ((Array.range (a.toNat * sz)).map (z.cells[· % z.cells.size]!)) ?_ ?_
    · have := zeros_flat a.toNat z.cells hpos
      rw [hzs] at this
      rw [hzs, this]
    · simp only [execOp, ho, ex, ey, Instr.makeSlice, asInt, asIntOf, Sem.run_bind, run_underlying hu, Result.andThen_ok, Sem.run_pure, hti, hw, hpre, run_sizeOf hsz, run_askRoom]
      simp [h0, newRow, show ¬ a < 0 by omega, hz, run_sizeOf hsz]
      rfl
end

theorem freeze_heap {w : World} {blk n : Nat} {arr : Array Value} {e : TypeId} {lo hi : Nat} (hh : w.heap[blk]? = some (.cells arr e (lo, hi))) :
    (w.freeze { block := blk, off := n } 1).heap[blk]? = some (.cells arr e (if lo == hi then (n, n + 1) else (min lo n, max hi (n + 1)))) ∧ (w.freeze { block := blk, off := n } 1).heap.size = w.heap.size ∧
      ∀ i, i ≠ blk → (w.freeze { block := blk, off := n } 1).heap[i]? = w.heap[i]? := by
  unfold World.freeze
  simp only [Nat.one_ne_zero, if_false]
  refine ⟨?_, by simp, fun i hi => ?_⟩
  · simp [Array.getElem?_modify, hh]
  · simp [Array.getElem?_modify, Ne.symm hi]

/-- the mark on a row that is an object's -/
theorem mark_sound (hr : Rep g h w) {b off len gen sz cs} {ex : Bool} {xv : Value} (hx : RV g (.sl b off len gen sz ex) xv) (ho : objCells h b = some (gen, sz, cs)) (hpos : 0 < len) {t e : TypeId} (hu : P.underlying t = some (.slice e)) (he : P.underlying e = some (.int .u8)) :
    ∃ w', (convert t t xv).run P w = .ok xv w' ∧ Step g h w g h w' := by
  obtain ⟨p, a, cap, rfl, hp, hps, hle, hcap, hex, hcr, ha⟩ := hx.sl_inv
  obtain rfl := ha (by omega)
  obtain ⟨hb, hlen, p', hp', hps', hnr, hrest⟩ := objCells_rep hr ho
  rw [hp] at hp'
  cases hp'
  obtain ⟨hm, arr, e', lo, hi, hh, hasz, hfz, hone, hrv⟩ := hrest (by omega)
  obtain ⟨f1, f2, f3⟩ := freeze_heap (n := arr.size) hh
  refine ⟨w.freeze { block := p.blk, off := arr.size } 1, ?_, ?_⟩
  · simp [convert, run_underlying hu, run_underlying he, markStringish, World.shape?, hh]
  · have hput : g.put b gen p = g := by
      have : (g.put b gen p).β = g.β := by
        funext b' n'
        simp only [G.put]
        split
        · rename_i hc
          obtain ⟨rfl, rfl⟩ := hc
          exact hp.symm
        · rfl
      cases g
      simp only [G.put] at this ⊢
      rw [this]
    have hother : ∀ b' o blk, b' ≠ b → h[b']? = some o → atB g b' o blk → blk ≠ p.blk := by
      intro b' o blk hne hbo ha hee
      subst hee
      exact hne (hr.one b' b o _ _ hbo hb ha ⟨p, hp, by omega, rfl⟩)
    have hlive : Live g h p.blk := ⟨b, _, hb, p, hp, by omega, rfl⟩
    refine ⟨⟨?_, ?_, hr.one, hr.old, hr.top⟩, G.le_refl g, ⟨rfl, rfl, rfl, by rw [f2]; exact Nat.le_refl _, fun i _ hl => f3 i (fun hh => hl (hh ▸ hlive))⟩, fun _ _ h => .inl h, fun _ h => .inl h⟩
    · intro blk a hM
      have hne : blk ≠ p.blk := fun he => by subst he; rw [hm] at hM; cases hM
      obtain ⟨e1, fz, h1⟩ := hr.mem blk a hM
      exact ⟨e1, fz, by rw [f3 _ hne]; exact h1⟩
    · intro b' o hbo
      by_cases hbb : b' = b
      · subst hbb
        rw [hb] at hbo
        cases hbo
        by_cases hlh : lo = hi
        · have h1 : (lo == hi) = true := by simpa using hlh
          rw [h1] at f1
          exact ⟨hlen, p, hp, hps, hnr, fun _ => ⟨hm, arr, e', _, _, f1, hasz, ⟨by omega, fun i hi' => by omega⟩, hone, hrv⟩⟩
        · have h1 : (lo == hi) = false := by simpa using hlh
          rw [h1] at f1
          have h3 : arr.size ≤ lo := by
            rcases Nat.lt_or_ge lo arr.size with h3 | h3
            · have h4 := hfz.2 lo h3
              have := hfz.1
              omega
            · exact h3
          exact ⟨hlen, p, hp, hps, hnr, fun _ => ⟨hm, arr, e', _, _, f1, hasz, ⟨by omega, fun i hi' => by omega⟩, hone, hrv⟩⟩
      · exact (hr.obj b' o hbo).mono (G.le_refl g) (fun blk ha => (hr.live_lt ⟨b', o, hbo, ha⟩).2) (fun blk ha => f3 _ (hother b' o blk hbb hbo ha))
end
end Go.Am
/- What a call's result is seen as, when the objects that it made are written no more. -/
set_option linter.unusedVariables false
set_option linter.unusedSimpArgs false
namespace Go.Am
section
variable {P : Program} {g : G} {h : Heap} {w : World}

open Classical in
/-- the blocks of the objects from lo on, as they are -/
noncomputable def G.seen (g : G) (h : Heap) (w : World) (lo : Nat) : Mem := fun blk =>
  if (∃ b o, lo ≤ b ∧ h[b]? = some o ∧ atB g b o blk) then (match w.heap[blk]? with | some (.cells arr _ _) => some arr | _ => none) else g.M blk

theorem seen_le (hr : Rep g h w) (lo : Nat) : g.M.le (g.seen h w lo) := by
  intro blk arr hM
  unfold G.seen
  split
  · rename_i hc
    obtain ⟨b, o, _, hb, ha⟩ := hc
    have := (hr.live_lt ⟨b, o, hb, ha⟩).2
    rw [hM] at this
    cases this
  · exact hM

theorem seen_mem (hr : Rep g h w) (lo : Nat) (blk : Nat) (arr : Array Value) (hM : g.seen h w lo blk = some arr) :
    (∃ e fz, w.heap[blk]? = some (.cells arr e fz)) ∧ (g.M blk = some arr ∨ Live g h blk) := by
  unfold G.seen at hM
  split at hM
  · rename_i hc
    obtain ⟨b, o, _, hb, ha⟩ := hc
    split at hM
    · rename_i a' e' fz' hh
      cases hM
      exact ⟨⟨_, _, hh⟩, .inr ⟨b, o, hb, ha⟩⟩
    · cases hM
  · exact ⟨hr.mem blk arr hM, .inl hM⟩

theorem seen_obj (hr : Rep g h w) {lo b n sz : Nat} {cs : List V} (hlo : lo ≤ b) (hb : h[b]? = some (.cells n sz cs)) {p : Place} (hp : g.β b n = some p) (hroom : 0 < p.room) :
    ∃ arr, g.seen h w lo p.blk = some arr ∧ arr.size = p.room * sz ∧ (∀ u ∈ arr.toList.take (n * sz), u.oneCell' = true) ∧ RVs g cs (arr.toList.take (n * sz)) := by
  obtain ⟨_, p', hp', _, _, hrest⟩ := hr.obj b _ hb
  rw [hp] at hp'
  cases hp'
  obtain ⟨_, arr, e, lo', hi', hh, h1, _, h2, h3⟩ := hrest hroom
  refine ⟨arr, ?_, h1, h2, h3⟩
  unfold G.seen
  rw [if_pos ⟨b, _, hlo, hb, p, hp, hroom, rfl⟩, hh]

mutual
theorem view_rd (hr : Rep g h w) {lo : Nat} : ∀ {v v' : V} {x : Value}, RV g v x → viewV lo h v = some v' → RD (g.seen h w lo) v' x
  | v, v', x, hv, he => by
    cases v with
    | sl b off len gen sz ex =>
      obtain ⟨cs, ho, hlo, hle, hpure, rfl⟩ := viewV_sl he
      obtain ⟨hb, hlen, p, hp, hps, hnr, _⟩ := objCells_rep hr ho
      have := sl_view (g := g) (g' := ⟨g.seen h w lo, g.β⟩) hv hp hle hlen hnr hps hpure (seen_le hr lo) (fun hroom => seen_obj hr hlo hb hp hroom)
      exact this
    | ref b off gen => simp [viewV] at he
    | map b => simp [viewV] at he
    | func fn fi ca =>
      simp only [viewV] at he
      split at he
      · rename_i hp
        simp only [Bool.and_eq_true] at hp
        cases he
        obtain ⟨fi', ca', rfl, h1, h2⟩ := hv.func_inv
        exact .func _ _ _ _ _ ((h1.toRDs hp.1).mono (seen_le hr lo)) ((h2.toRDs hp.2).mono (seen_le hr lo))
      · cases he
    | iface t v =>
      simp only [viewV, Option.map_eq_some_iff] at he
      obtain ⟨u, hu, rfl⟩ := he
      obtain ⟨x', rfl, hx'⟩ := hv.iface_inv
      exact .iface _ _ _ (view_rd hr hx' hu)
    | agg cs =>
      simp only [viewV, Option.map_eq_some_iff] at he
      obtain ⟨u, hu, rfl⟩ := he
      obtain ⟨x', rfl, hx'⟩ := hv.agg_inv
      exact .agg _ _ (views_rd hr hx' hu)
    | tup cs =>
      simp only [viewV, Option.map_eq_some_iff] at he
      obtain ⟨u, hu, rfl⟩ := he
      obtain ⟨x', rfl, hx'⟩ := hv.tup_inv
      exact .tup _ _ (views_rd hr hx' hu)
    | _ =>
      simp only [viewV, Option.some.injEq] at he
      subst he
      cases hv with
      | d _ _ h => exact h.mono (seen_le hr lo)
theorem views_rd (hr : Rep g h w) {lo : Nat} : ∀ {vs vs' : List V} {xs : List Value}, RVs g vs xs → viewL lo h vs = some vs' → RDs (g.seen h w lo) vs' xs
  | [], vs', xs, hv, he => by
    simp only [viewL, Option.some.injEq] at he
    subst he
    cases hv
    exact .nil
  | v :: vs, vs', xs, hv, he => by
    simp only [viewL] at he
    split at he
    · rename_i v' vs'' h1 h2
      cases he
      cases hv with
      | cons _ _ x xs hx hxs => exact .cons _ _ _ _ (view_rd hr hx h1) (views_rd hr hxs h2)
    · cases he
end

/-- a world whose memory that nobody writes is seen alone -/
def G.pure (g : G) : G := ⟨g.M, fun _ _ => none⟩

theorem Rep.pure (hr : Rep g h w) : Rep g.pure [] w := by
  refine ⟨hr.mem, ?_, ?_, ?_, ?_⟩
  · intro b o hb; simp at hb
  · intro b b' o o' blk hb; simp at hb
  · intro b n p hp; simp [G.pure] at hp
  · intro b n sz cs m p hb; simp at hb

theorem Live_nil {g : G} {blk : Nat} : ¬ Live g [] blk := by
  rintro ⟨b, o, hb, _⟩
  simp at hb

/-- behind a call in a heap of its own: what it hands back, in the heap of before -/
theorem Step.back (hr : Rep g h w) {g1 : G} {h1 : Heap} {w1 : World} (hs : Step g.pure [] w g1 h1 w1) :
    Step g h w ⟨g1.seen h1 w1 0, g.β⟩ h w1 := by
  have hold : ∀ i, i < w.heap.size → w1.heap[i]? = w.heap[i]? := fun i hi => hs.fr.block i hi Live_nil
  have hM0 : ∀ blk arr, g1.seen h1 w1 0 blk = some arr → g.M blk = some arr ∨ w.heap.size ≤ blk := by
    intro blk arr hM
    obtain ⟨_, hm | hl⟩ := seen_mem hs.rep 0 blk arr hM
    · rcases hs.newM blk arr hm with h2 | h2 | h2
      · exact .inl h2
      · exact .inr h2
      · exact (Live_nil h2).elim
    · rcases hs.newL blk hl with h2 | h2
      · exact (Live_nil h2).elim
      · exact .inr h2
  have hle : g.le ⟨g1.seen h1 w1 0, g.β⟩ := ⟨Mem.le_trans hs.le.1 (seen_le hs.rep 0), fun _ _ _ h => h⟩
  refine ⟨⟨fun blk arr hM => (seen_mem hs.rep 0 blk arr hM).1, ?_, ?_, hr.old, hr.top⟩, hle, ⟨hs.fr.os, hs.fr.tape, hs.fr.output, hs.fr.size, fun i hi _ => hold i hi⟩, ?_, ?_⟩
  · intro b o hb
    refine (hr.obj b o hb).mono hle (fun blk ha => ?_) (fun blk ha => hold _ (hr.live_lt ⟨b, o, hb, ha⟩).1)
    obtain ⟨hlt, hm⟩ := hr.live_lt ⟨b, o, hb, ha⟩
    cases hM : g1.seen h1 w1 0 blk with
    | none => exact hM
    | some arr =>
      rcases hM0 blk arr hM with h2 | h2
      · rw [hm] at h2; cases h2
      · omega
  · intro b b' o o' blk h1' h2 h3 h4
    exact hr.one b b' o o' blk h1' h2 ((atB_congr rfl b o blk).1 h3) ((atB_congr rfl b' o' blk).1 h4)
  · intro blk arr hM
    rcases hM0 blk arr hM with h2 | h2
    · exact .inl h2
    · exact .inr (.inl h2)
  · intro blk hl
    exact .inl ((Live_congr rfl h blk).1 hl)

/-- behind a call that saw the slices as they are: the heap is as it was -/
theorem Rep.lent (hr : Rep g h w) : Rep ⟨g.seen h w 0, fun _ _ => none⟩ [] w := by
  refine ⟨fun blk arr hM => (seen_mem hr 0 blk arr hM).1, ?_, ?_, ?_, ?_⟩
  · intro b o hb; simp at hb
  · intro b b' o o' blk hb; simp at hb
  · intro b n p hp; simp at hp
  · intro b n sz cs m p hb; simp at hb

theorem Step.given (hr : Rep g h w) {g1 : G} {h1 : Heap} {w1 : World} (hs : Step ⟨g.seen h w 0, fun _ _ => none⟩ [] w g1 h1 w1) : Step g h w g h w1 := by
  have hold : ∀ i, i < w.heap.size → w1.heap[i]? = w.heap[i]? := fun i hi => hs.fr.block i hi Live_nil
  refine ⟨⟨?_, ?_, hr.one, hr.old, hr.top⟩, G.le_refl g, ⟨hs.fr.os, hs.fr.tape, hs.fr.output, hs.fr.size, fun i hi _ => hold i hi⟩, fun _ _ h => .inl h, fun _ h => .inl h⟩
  · intro blk arr hM
    obtain ⟨e, fz, hh⟩ := hr.mem blk arr hM
    exact ⟨e, fz, by rw [hold _ (Array.getElem?_eq_some_iff.1 hh).1]; exact hh⟩
  · intro b o hb
    exact (hr.obj b o hb).mono (G.le_refl g) (fun blk ha => (hr.live_lt ⟨b, o, hb, ha⟩).2) (fun blk ha => hold _ (hr.live_lt ⟨b, o, hb, ha⟩).1)

mutual
theorem RV.plain {g g' : G} : ∀ {v : V} {x : Value}, RV g v x → plainV v = true → RV g' v x
  | v, x, hv, hp => by
    cases v with
    | iface t v =>
      obtain ⟨x', rfl, hx'⟩ := hv.iface_inv
      simp only [plainV] at hp
      exact .iface _ _ _ (RV.plain hx' hp)
    | agg cs =>
      obtain ⟨x', rfl, hx'⟩ := hv.agg_inv
      simp only [plainV] at hp
      exact .agg _ _ (RVs.plain hx' hp)
    | tup cs =>
      obtain ⟨x', rfl, hx'⟩ := hv.tup_inv
      simp only [plainV] at hp
      exact .tup _ _ (RVs.plain hx' hp)
    | bool b => obtain rfl := hv.bool_inv; exact .d _ _ (.bool b)
    | int k n => obtain rfl := hv.int_inv; exact .d _ _ (.int k n)
    | str s => obtain rfl := hv.str_inv; exact .d _ _ (.str s)
    | nilp => obtain rfl := hv.nilp_inv; exact .d _ _ .nilp
    | nils => obtain rfl := hv.nils_inv; exact .d _ _ .nils
    | nilm => obtain rfl := hv.nilm_inv; exact .d _ _ .nilm
    | nilf => obtain rfl := hv.nilf_inv; exact .d _ _ .nilf
    | nili => obtain rfl := hv.nili_inv; exact .d _ _ .nili
    | undef => simp [plainV] at hp
    | ref b off gen => simp [plainV] at hp
    | pv cs => simp [plainV] at hp
    | sl b off len gen sz ex => simp [plainV] at hp
    | sv es ex => simp [plainV] at hp
    | map b => simp [plainV] at hp
    | func f fi ca => simp [plainV] at hp
theorem RVs.plain {g g' : G} : ∀ {vs : List V} {xs : List Value}, RVs g vs xs → plainL vs = true → RVs g' vs xs
  | [], _, hv, _ => by cases hv; exact .nil
  | v :: vs, _, hv, hp => by
    simp only [plainL, Bool.and_eq_true] at hp
    cases hv with
    | cons _ _ x xs hx hxs => exact .cons _ _ _ _ (RV.plain hx hp.1) (RVs.plain hxs hp.2)
end
end
end Go.Am
/- Operations that read or write the abstract heap: the check, and that what passes it comes to the same. -/
set_option linter.unusedVariables false
set_option linter.unusedSimpArgs false
namespace Go.Am
section
variable {P : Program} {g : G} {h : Heap} {w : World}

theorem RV.underC {g g' : G} {lo : Nat} (hM : g.M.le g'.M) (hβ : ∀ b n p, b < lo → g.β b n = some p → g'.β b n = some p) {v : V} {x : Value} (hv : RV g v x) (hb : belowC lo v = true) : RV g' v x := by
  cases v with
  | ref b off gen =>
    obtain ⟨p, hp, rfl⟩ := hv.ref_inv
    simp only [belowC, decide_eq_true_eq] at hb
    exact .ref _ _ _ p (hβ _ _ _ hb hp)
  | sl b off len gen sz ex =>
    obtain ⟨p, a, cap, rfl, hp, hps, hle, hcap, hex, hcr, ha⟩ := hv.sl_inv
    simp only [belowC, decide_eq_true_eq] at hb
    exact .sl _ _ _ _ _ _ p a cap (hβ _ _ _ hb hp) hps hle hcap hex hcr ha
  | map b =>
    obtain ⟨p, rfl, hp⟩ := hv.map_inv
    simp only [belowC, decide_eq_true_eq] at hb
    exact .map _ p (hβ _ _ _ hb hp)
  | _ =>
    simp only [belowC] at hb
    exact .d _ _ ((hv.toRD hb).mono hM)

theorem RVs.underC {g g' : G} {lo : Nat} (hM : g.M.le g'.M) (hβ : ∀ b n p, b < lo → g.β b n = some p → g'.β b n = some p) : ∀ {vs : List V} {xs : List Value}, RVs g vs xs → vs.all (belowC lo) = true → RVs g' vs xs
  | [], _, hv, _ => by cases hv; exact .nil
  | v :: vs, _, hv, hb => by
    simp only [List.all_cons, Bool.and_eq_true] at hb
    cases hv with
    | cons _ _ x xs hx hxs => exact .cons _ _ _ _ (hx.underC hM hβ hb.1) (RVs.underC hM hβ hxs hb.2)

theorem RV.under {g g' : G} {lo : Nat} (hM : g.M.le g'.M) (hβ : ∀ b n p, b < lo → g.β b n = some p → g'.β b n = some p) : ∀ {v : V} {x : Value}, RV g v x → belowV lo v = true → RV g' v x
  | v, x, hv, hb => by
    cases v with
    | iface t u =>
      obtain ⟨x', rfl, hx'⟩ := hv.iface_inv
      simp only [belowV] at hb
      exact .iface _ _ _ (RV.under hM hβ hx' hb)
    | agg cs =>
      obtain ⟨x', rfl, hx'⟩ := hv.agg_inv
      simp only [belowV] at hb
      exact .agg _ _ (hx'.underC hM hβ hb)
    | _ =>
      simp only [belowV] at hb
      exact hv.underC hM hβ hb

theorem RVs.under {g g' : G} {lo : Nat} (hM : g.M.le g'.M) (hβ : ∀ b n p, b < lo → g.β b n = some p → g'.β b n = some p) : ∀ {vs : List V} {xs : List Value}, RVs g vs xs → vs.all (belowV lo) = true → RVs g' vs xs
  | [], _, hv, _ => by cases hv; exact .nil
  | v :: vs, _, hv, hb => by
    simp only [List.all_cons, Bool.and_eq_true] at hb
    cases hv with
    | cons _ _ x xs hx hxs => exact .cons _ _ _ _ (hx.under hM hβ hb.1) (RVs.under hM hβ hxs hb.2)

/-- behind a call whose new objects are seen in its result alone -/
theorem Step.cut (hr : Rep g h w) {g1 : G} {h1 : Heap} {w1 : World} (hs : Step g h w g1 h1 w1) (hle : h.length ≤ h1.length) (hc : closedTo h.length h1 = true) :
    Step g h w ⟨g1.seen h1 w1 h.length, fun b n => if b < h.length then g1.β b n else none⟩ (h1.take h.length) w1 := by
  have hβ : ∀ b n p, b < h.length → g1.β b n = some p → (if b < h.length then g1.β b n else none) = some p := fun b n p hb hp => by rw [if_pos hb]; exact hp
  have hget : ∀ b o, (h1.take h.length)[b]? = some o → b < h.length ∧ h1[b]? = some o := by
    intro b o hb
    rw [List.getElem?_take] at hb
    split at hb
    · exact ⟨by assumption, hb⟩
    · cases hb
  have hat : ∀ b o blk, b < h.length → (atB ⟨g1.seen h1 w1 h.length, fun b n => if b < h.length then g1.β b n else none⟩ b o blk ↔ atB g1 b o blk) := by
    intro b o blk hlt
    cases o <;> simp [atB, hlt]
  have hlive : ∀ blk, Live ⟨g1.seen h1 w1 h.length, fun b n => if b < h.length then g1.β b n else none⟩ (h1.take h.length) blk → Live g1 h1 blk := by
    rintro blk ⟨b, o, hb, ha⟩
    obtain ⟨hlt, hb'⟩ := hget b o hb
    exact ⟨b, o, hb', (hat b o blk hlt).1 ha⟩
  refine ⟨⟨fun blk arr hM => (seen_mem hs.rep _ blk arr hM).1, ?_, ?_, ?_, ?_⟩, ⟨Mem.le_trans hs.le.1 (seen_le hs.rep _), fun b n p hp => ?_⟩, ?_, ?_, ?_⟩
  · intro b o hb
    obtain ⟨hlt, hb'⟩ := hget b o hb
    have ho := hs.rep.obj b o hb'
    cases o with
    | cells n sz cs =>
      obtain ⟨h1', p, hp, h2, h3, h4⟩ := ho
      refine ⟨h1', p, hβ _ _ _ hlt hp, h2, h3, fun hroom => ?_⟩
      obtain ⟨hm, arr, e, lo, hi, hh, h5, h6, h8, h7⟩ := h4 hroom
      refine ⟨?_, arr, e, lo, hi, hh, h5, h6, h8, ?_⟩
      · show g1.seen h1 w1 h.length p.blk = none
        unfold G.seen
        rw [if_neg, hm]
        rintro ⟨b', o', hlo, hb2, ha⟩
        have := hs.rep.one b b' _ _ p.blk hb' hb2 ⟨p, hp, hroom, rfl⟩ ha
        omega
      · refine h7.under (lo := h.length) (seen_le hs.rep _) hβ ?_
        simp only [closedTo, List.all_eq_true] at hc
        have := hc (.cells n sz cs) (List.mem_of_getElem? hb)
        simpa [List.all_eq_true] using this
    | map es => exact ho.elim
    | gone => trivial
  · intro b b' o o' blk h1' h2 h3 h4
    obtain ⟨hl1, hb1⟩ := hget b o h1'
    obtain ⟨hl2, hb2⟩ := hget b' o' h2
    exact hs.rep.one b b' o o' blk hb1 hb2 ((hat b o blk hl1).1 h3) ((hat b' o' blk hl2).1 h4)
  · intro b n p hp
    simp only at hp
    split at hp
    · rw [List.length_take]; omega
    · cases hp
  · intro b n sz cs m p hb hp
    obtain ⟨hlt, hb'⟩ := hget b _ hb
    simp only [if_pos hlt] at hp
    exact hs.rep.top b n sz cs m p hb' hp
  · exact hβ _ _ _ (hr.old _ _ _ hp) (hs.le.2 _ _ _ hp)
  · exact hs.fr
  · intro blk arr hM
    obtain ⟨_, hm | hl⟩ := seen_mem hs.rep _ blk arr hM
    · exact hs.newM blk arr hm
    · rcases hs.newL blk hl with h2 | h2
      · exact .inr (.inr h2)
      · exact .inr (.inl h2)
  · intro blk hl
    exact hs.newL blk (hlive blk hl)

/-! ### The check -/
def isNilSlice : Operand → Bool
  | .const (.slice none 0 0) => true
  | _ => false

def chkE (P : Program) (okO : Operand → Opd → Bool) : Op → EOp → Bool
  | .alloc t, .hnew (.c v) => zeroIs P t v
  | .box t x, .hnew y => okO x y
  | .move x, .own _ | .assign x, .own _ => isNilSlice x
  | .move x, .frz y | .assign x, .frz y => okO x y
  | .store t a x, .store a' x' size => okO a a' && okO x x' && sizeIs P t size
  | .call ⟨.builtin .append, args, ts⟩, .app x y sz bytes fz => chkApp P okO args ts x y sz bytes
  | .makeSlice t l c, .mks l' c' sz bytes zero => okO l l' && okO c c' && (match P.underlying t with
      | some (.slice e) => sizeIs P e sz && (match P.info? e with | some i => i.bytes == bytes | none => false) && zeroCellsIs P e zero && zero.all isCell
      | _ => false)
  | .buildSlice t n ps, .bslO n' sz zero ps' => n == n' && decide (n * sz ≤ 2 ^ 24) && okPartsS okO ps.toList ps' && zero.length == sz &&
      (match P.underlying t with | some (.slice e) => sizeIs P e sz && zeroCellsIs P e zero | _ => false)
  | .convert s d x, .s2s y _ => okO x y && s == d && (match P.underlying s with | some (.slice e) => (match P.underlying e with | some (.int .u8) => true | _ => false) | _ => false)
  | .call ⟨.value f, args, _⟩, .call f' args' _ => okO f f' && okL okO args.toList args'
  | _, _ => false

def chkL (P : Program) (okO : Operand → Opd → Bool) : Op → LOp → Bool
  | .load t a, .load a' size ag => okO a a' && tyOk P t size ag
  | .convert s d x, .b2s y => okO x y && (match P.underlying s, P.underlying d with
      | some (.slice e), some .string => (match P.underlying e with | some (.int .u8) => true | _ => false)
      | _, _ => false)
  | .call ⟨.value f, args, _⟩, .borrow f' args' => okO f f' && okL okO args.toList args'
  | _, _ => false

def EOp.isCall : EOp → Bool
  | .call .. => true
  | _ => false

section
variable {okO : Operand → Opd → Bool} {f : Opd → V} {ρ : Operand → Value} {o : Oper}

theorem isNilSlice_spec {x : Operand} (hx : isNilSlice x = true) (hk : ∀ c, ρ (.const c) = c) : ρ x = .slice none 0 0 := by
  unfold isNilSlice at hx
  split at hx
  · exact hk _
  · cases hx

theorem hnew_sound (hr : Rep g h w) (hρ : ∀ x y, okO x y = true → RV g (f y) (ρ x)) (hf : ∀ v, f (.c v) = v) {y : Opd} (hc : chkE P okO o.op (.hnew y) = true) (hcell : (cellsV (f y)).all isCell = true) :
    EGood P g h w (execOp ρ o) (.ref h.length 0 1) (h ++ [.cells 1 (cellsV (f y)).length (cellsV (f y))]) := by
  cases ho : o.op <;> simp only [ho] at hc
  case alloc t =>
    cases y <;> simp only [chkE, Bool.false_eq_true] at hc
    case c v =>
      rw [hf] at hcell ⊢
      obtain ⟨z, hz, hrv⟩ := zeroIs_rv (g := g) hc
      obtain ⟨hrun, h1, h2⟩ := box_new (P := P) (t := t) hr hrv hcell
      refine ⟨_, _, _, .inl ?_, h1, h2⟩
      simp [execOp, ho, Instr.alloc, hz, hrun]
  case box t x =>
    have hx : okO x y = true := by cases y <;> exact hc
    obtain ⟨hrun, h1, h2⟩ := box_new (P := P) (t := t) hr (hρ _ _ hx) hcell
    refine ⟨_, _, _, .inl ?_, h1, h2⟩
    simp [execOp, ho, Instr.box, hrun]
  all_goals (cases y <;> simp [chkE] at hc)

theorem eop_sound (hr : Rep g h w) (hρ : ∀ x y, okO x y = true → RV g (f y) (ρ x)) (hk : ∀ c, ρ (.const c) = c) (hf : ∀ v, f (.c v) = v) {rec : Rec} {e : EOp} (hnc : e.isCall = false) {r : ERef} (hc : chkE P okO o.op e = true) (hv : eopV rec h f e = some r) :
    ∃ v h', r = .val v h' ∧ EGood P g h w (execOp ρ o) v h' := by
  cases e with
  | call fn args fz => simp [EOp.isCall] at hnc
  | hnew x =>
    simp only [eopV] at hv
    split at hv
    · rename_i hcell
      cases hv
      exact ⟨_, _, rfl, hnew_sound hr hρ hf hc hcell⟩
    · cases hv
  | own sz =>
    simp only [eopV, Option.some.injEq] at hv
    subst hv
    refine ⟨_, _, rfl, ?_⟩
    obtain ⟨h1, h2⟩ := own_new hr sz
    cases ho : o.op <;> simp only [chkE, ho, Bool.false_eq_true] at hc
    case move x => exact ⟨_, _, _, .inl (by simp [execOp, ho, isNilSlice_spec hc hk]), h1, h2⟩
    case assign x => exact ⟨_, _, _, .inl (by simp [execOp, ho, isNilSlice_spec hc hk]), h1, h2⟩
  | frz y =>
    simp only [eopV, Option.map_eq_some_iff] at hv
    obtain ⟨⟨v, h'⟩, hfz, rfl⟩ := hv
    refine ⟨_, _, rfl, ?_⟩
    cases ho : o.op <;> simp only [chkE, ho, Bool.false_eq_true] at hc
    case move x =>
      obtain ⟨g', h1, h2⟩ := frz_sound hr (hρ _ _ hc) hfz
      exact ⟨_, _, _, .inl (by simp [execOp, ho]), h1, h2⟩
    case assign x =>
      obtain ⟨g', h1, h2⟩ := frz_sound hr (hρ _ _ hc) hfz
      exact ⟨_, _, _, .inl (by simp [execOp, ho]), h1, h2⟩
  | store a x size =>
    simp only [eopV, Option.map_eq_some_iff] at hv
    obtain ⟨h', hst, rfl⟩ := hv
    refine ⟨_, _, rfl, ?_⟩
    cases ho : o.op <;> simp only [chkE, ho, Bool.false_eq_true] at hc
    case store t a' x' =>
      simp only [Bool.and_eq_true] at hc
      obtain ⟨ad, ha, w', g', hrun, hs⟩ := store_sound (P := P) hr (sizeIs_map hc.2) (hρ _ _ hc.1.1) (hρ _ _ hc.1.2) hst
      refine ⟨undef, w', g', .inr ⟨?_, rfl⟩, .d _ _ (.undef _), hs⟩
      simp [execOp, ho, Instr.storeAt, Instr.sureAddr, ha, hrun]
  | app x y sz bytes fz =>
    simp only [eopV] at hv
    split at hv
    · rename_i v h' happ
      have key : EGood P g h w (execOp ρ o) v h' := by
        cases ho : o.op <;> simp only [chkE, ho, Bool.false_eq_true] at hc
        case call c =>
          obtain ⟨cl, args, ts⟩ := c
          cases cl <;> first | (simp [chkE] at hc; done) | skip
          case builtin b =>
            cases b <;> first | (simp [chkE] at hc; done) | skip
            simp only [chkE] at hc
            unfold chkApp at hc
            split at hc
            · rename_i x' y' t t' ha ht
              simp only [Bool.and_eq_true] at hc
              obtain ⟨⟨⟨h1, h2⟩, h3⟩, h4⟩ := hc
              split at h3
              · rename_i e hu
                simp only [Bool.and_eq_true] at h3
                obtain ⟨⟨h5, h6⟩, h7⟩ := h3
                cases hi : P.info? e with
                | none => simp [hi] at h6
                | some inf =>
                  cases hz : inf.zero with
                  | none => simp [hi, hz] at h7
                  | some z =>
                    simp only [hi, hz, beq_iff_eq, sizeIs] at h5 h6 h7
                    obtain ⟨vv, w', g', hrun, hrv, hs⟩ := app_sound (P := P) (okO := okO) (ty := o.type) hr hu h4 hi hz h5 h6 h7 (hρ _ _ h1) (hρ _ _ h2) happ
                    have ha' : args = #[x', y'] := Array.toList_inj.1 (by simpa using ha)
                    have ht' : ts = #[t, t'] := Array.toList_inj.1 (by simpa using ht)
                    subst ha' ht'
                    refine ⟨vv, w', g', .inl ?_, hrv, hs⟩
                    have e1 : (#[x', y'] : Array Operand).map ρ = #[ρ x', ρ y'] := by simp
                    simp only [execOp, ho, resolve, e1, Sem.run_bind, Sem.run_pure, Result.andThen_ok, invoke, builtin, hrun]
              · cases h3
            · cases hc
      split at hv
      · simp only [Option.map_eq_some_iff] at hv
        obtain ⟨⟨v2, h2⟩, hfz, rfl⟩ := hv
        obtain ⟨vv, w', g', hrun, hrv, hs⟩ := key
        obtain ⟨g2, hv2, hs2⟩ := frz_sound hs.rep hrv hfz
        refine ⟨_, _, rfl, vv, w', g2, ?_, hv2, hs.trans hs2⟩
        rcases hrun with hrun | ⟨hrun, rfl⟩
        · exact .inl hrun
        · simp [frzV, pureV] at hfz
          exact .inr ⟨hrun, hfz.1.symm⟩
      · cases hv
        exact ⟨_, _, rfl, key⟩
    · cases hv
  | mks n' c' sz bytes zero =>
    cases ho : o.op <;> simp only [chkE, ho, Bool.false_eq_true] at hc
    case makeSlice t l c =>
      simp only [Bool.and_eq_true] at hc
      obtain ⟨⟨h1, h2⟩, h3⟩ := hc
      simp only [eopV] at hv
      split at hv
      · rename_i k1 a k2 b hx hy
        split at hv
        · rename_i hcond
          obtain ⟨c1, rfl, c3, c4, c5⟩ := hcond
          cases hv
          have ex := (hx ▸ hρ _ _ h1).int_inv
          have ey := (hy ▸ hρ _ _ h2).int_inv
          split at h3
          · rename_i e hu
            simp only [Bool.and_eq_true] at h3
            obtain ⟨⟨⟨h3, h4⟩, h5⟩, h6⟩ := h3
            cases hi : P.info? e with
            | none => simp [hi] at h4
            | some inf =>
              simp [hi] at h4
              exact ⟨_, _, rfl, mks_sound (P := P) hr ho ex ey hu hi h4 (sizeIs_map h3) h5 h6 c1 c3 c4 c5⟩
          · cases h3
        · cases hv
      · cases hv
  | bslO len sz zero ps' =>
    cases ho : o.op <;> simp only [chkE, ho, Bool.false_eq_true] at hc
    case buildSlice t n ps =>
      simp only [Bool.and_eq_true, beq_iff_eq, decide_eq_true_eq] at hc
      obtain ⟨⟨⟨⟨rfl, hcap⟩, h2⟩, hzl⟩, h3⟩ := hc
      simp only [eopV] at hv
      split at hv
      · rename_i cs hfill
        split at hv
        · rename_i hp
          cases hv
          split at h3
          · rename_i e hu
            simp only [Bool.and_eq_true] at h3
            exact ⟨_, _, rfl, bslO_sound (P := P) hr hρ ho hcap h2 hzl hu (sizeIs_map h3.1) h3.2 hfill hp⟩
          · cases h3
        · cases hv
      · cases hv
  | s2s y fz =>
    cases ho : o.op <;> simp only [chkE, ho, Bool.false_eq_true] at hc
    case convert s d x =>
      simp only [Bool.and_eq_true, beq_iff_eq] at hc
      obtain ⟨⟨h1, rfl⟩, h3⟩ := hc
      split at h3
      · rename_i e hu
        split at h3
        · rename_i he
          simp only [eopV] at hv
          split at hv
          · rename_i b off len gen sz ex hy
            have hx := hρ _ _ h1
            rw [hy] at hx
            split at hv
            · rename_i n sz' cs hob
              split at hv
              · rename_i hcond
                obtain ⟨rfl, hpos⟩ := hcond
                have hob' : objCells h b = some (gen, sz, cs) := by
                  obtain ⟨p, a, cap, -, hp, hps, -⟩ := hx.sl_inv
                  obtain ⟨-, -, p', hp', hps', -⟩ := objCells_rep hr hob
                  rw [hp] at hp'
                  cases hp'
                  rw [← hps, hps']
                  exact hob
                obtain ⟨w', hrun, hs⟩ := mark_sound (P := P) hr hx hob' hpos hu he
                have hrun' : (execOp ρ o).run P w = .ok (.value (ρ x)) w' := by simp [execOp, ho, hrun]
                split at hv
                · simp only [Option.map_eq_some_iff] at hv
                  obtain ⟨⟨v2, h2⟩, hfz, rfl⟩ := hv
                  obtain ⟨g2, hv2, hs2⟩ := frz_sound hs.rep hx hfz
                  exact ⟨_, _, rfl, _, _, g2, .inl hrun', hv2, hs.trans hs2⟩
                · cases hv
                  exact ⟨_, _, rfl, _, _, g, .inl hrun', hx, hs⟩
              · cases hv
            · cases hv
          · cases hv
        · cases h3
      · cases h3
end
end
end Go.Am
/- Operations that read the heap, and calls. -/
set_option linter.unusedVariables false
set_option linter.unusedSimpArgs false
namespace Go.Am

/-- the blocks of the globals that are read -/
def GlOk (gl : Nat → List V) (gs : List Nat) (M : Mem) : Prop := ∀ n ∈ gs, ∃ arr, M n = some arr ∧ RDs M (gl n) arr.toList

theorem GlOk.mono {gl : Nat → List V} {gs : List Nat} {M M' : Mem} (h : GlOk gl gs M) (hM : M.le M') : GlOk gl gs M' := fun n hn => by
  obtain ⟨arr, h1, h2⟩ := h n hn
  exact ⟨arr, hM _ _ h1, h2.mono hM⟩

def CallPost (g : G) (h : Heap) (w : World) (r : R) (h' : Heap) : Ending → World → Prop
  | .returned x, w' => ∃ v g', r = .ret v ∧ RV g' v x ∧ Step g h w g' h' w'
  | .panicked ch, w' => ∃ v x g', r = .pan v ∧ ch = [{ v := x, recovered := false }] ∧ RV g' v x ∧ Step g h w g' h' w'
  | .outgrown, _ => False

/-- a function that is entered -/
def Enters (P : Program) (n : Nat) : Prop := ∀ (vs : Array Value) (w : World), (callFunc n vs).run P w = .ok (.enter n vs) w

def CallOK (P : Program) (gl : Nat → List V) (gs : List Nat) (call : Nat → List V → Heap → Option (R × Heap)) : Prop :=
  ∀ n args h r h', call n args h = some (r, h') → Enters P n ∧ ∀ g w (vs : Array Value), Rep g h w → GlOk gl gs g.M → RVs g args vs.toList → Calls P n vs w (CallPost g h w r h')

def OpPost (g : G) (h : Heap) (w : World) (r : ERef) : Ending → World → Prop
  | .returned x, w' => ∃ v g' h', r = .val v h' ∧ RV g' v x ∧ Step g h w g' h' w'
  | .panicked ch, w' => ∃ v x g' h', r = .pan v h' ∧ ch = [{ v := x, recovered := false }] ∧ RV g' v x ∧ Step g h w g' h' w'
  | .outgrown, _ => False

/-- what an operation comes to: a value, or a call -/
def OpGood (P : Program) (g : G) (h : Heap) (w : World) (s : Sem Next) (r : ERef) : Prop :=
  (∃ v h', r = .val v h' ∧ EGood P g h w s v h') ∨ ∃ n vs, s.run P w = .ok (.enter n vs) w ∧ Calls P n vs w (OpPost g h w r)

section
variable {P : Program} {g : G} {h : Heap} {w : World}

theorem OpGood.upon {s : Sem Next} {r : ERef} (hg : OpGood P g h w s r) {o : Oper} {a : Act} {next : Act → World → Prop} {Q : Exit → Act → World → Prop}
    (hn : ∀ v h' vv w' g', r = .val v h' → RV g' v vv → Step g h w g' h' w' → next (a.put o.dst vv) w')
    (hp : ∀ v h' x w' g', r = .pan v h' → RV g' v x → Step g h w g' h' w' → Q (.panic [{ v := x, recovered := false }]) a w') :
    o.upon P a next Q (s.run P w) := by
  rcases hg with ⟨v, h', hr, vv, w', g', hrun, hv, hs⟩ | ⟨n, vs, hrun, hcall⟩
  · rcases hrun with hrun | ⟨hrun, rfl⟩
    · rw [hrun]; exact hn _ _ _ _ _ hr hv hs
    · rw [hrun]; exact hn _ _ undef _ _ hr (.d _ _ (.undef _)) hs
  · rw [hrun]
    refine hcall.mono fun e w' he => ?_
    cases e with
    | returned x =>
      obtain ⟨v, g', h', hr, hv, hs⟩ := he
      exact hn _ _ _ _ _ hr hv hs
    | panicked ch =>
      obtain ⟨v, x, g', h', hr, rfl, hv, hs⟩ := he
      exact hp _ _ _ _ _ hr hv hs
    | outgrown => exact he.elim

theorem PGood.op {s : Sem Next} {v : V} (hr : Rep g h w) (hp : PGood P g w s v) : OpGood P g h w s (.val v h) := by
  obtain ⟨vv, w', g', hrun, hv, hgr⟩ := hp
  exact .inl ⟨v, h, rfl, vv, w', g', .inl hrun, hv, hgr.step hr⟩

theorem asBytes_spec {cs : List V} {l : List UInt8} (hb : asBytes cs = some l) {xs : List Value} (hx : RVs g cs xs) :
    ∃ ns : List Int, xs = ns.map (Value.int .u8) ∧ l = ns.map fun n => UInt8.ofNat n.toNat := by
  induction cs generalizing l xs with
  | nil => cases hx; simp [asBytes] at hb; exact ⟨[], rfl, by simp [hb]⟩
  | cons c cs ih =>
    cases hx with
    | cons _ _ x xs hx hxs =>
      cases c <;> first | (simp [asBytes] at hb; done) | skip
      case int k n =>
        cases k <;> first | (simp [asBytes] at hb; done) | skip
        simp only [asBytes, Option.map_eq_some_iff] at hb
        obtain ⟨l', hl', rfl⟩ := hb
        obtain ⟨ns, rfl, rfl⟩ := ih hl' hxs
        obtain rfl := hx.int_inv
        exact ⟨n :: ns, rfl, rfl⟩

theorem bytes_fold (ns : List Int) (s : ByteArray) : ns.foldl (fun r n => r.push (UInt8.ofNat n.toNat)) s = ⟨(s.data.toList ++ ns.map fun n => UInt8.ofNat n.toNat).toArray⟩ := by
  induction ns generalizing s with
  | nil => simp
  | cons n ns ih =>
    simp only [List.foldl_cons, ih, List.map_cons]
    congr 2
    have : (s.push (UInt8.ofNat n.toNat)).data = s.data.push (UInt8.ofNat n.toNat) := rfl
    rw [this]
    simp

theorem b2s_sound (hr : Rep g h w) {x : V} {xv : Value} {k : Nat} {cs : List V} {l : List UInt8} (hx : RV g x xv) (hns : ∀ s, x ≠ .str s) (hl : sliceLen x = some k) (hc : sliceCells h x = some cs) (hk : cs.length = k)
    (hb : asBytes cs = some l) : ∃ a len cap, xv = .slice a len cap ∧ (Conv.bytesToString xv).run P w = .ok (.string ⟨l.toArray⟩) w := by
  obtain ⟨hlen, arr, hfc, hrv, _⟩ := firstCells_sound (P := P) hr (sz := 1) hx hl hc (by omega)
  obtain ⟨ns, hxs, rfl⟩ := asBytes_spec hb hrv
  have hform : ∃ a cap, xv = .slice a k cap := by
    cases x <;> simp only [sliceLen, reduceCtorEq, Option.some.injEq] at hl
    case nils => subst hl; exact ⟨none, 0, hx.nils_inv⟩
    case str s => exact absurd rfl (hns s)
    case sv es ex => obtain ⟨a, cap, sz, xs, rfl, _⟩ := hx.sv_inv; exact ⟨a, cap, by rw [hl]⟩
    case sl b off len gen sz ex => obtain ⟨p, a, cap, rfl, _⟩ := hx.sl_inv; exact ⟨a, cap, by rw [hl]⟩
  obtain ⟨a, cap, rfl⟩ := hform
  refine ⟨a, k, cap, rfl, ?_⟩
  have hf := hfc w rfl
  cases a with
  | none =>
    simp [Builtin.firstCells] at hf
    have : ns = [] := by
      have h1 : arr.toList = [] := by rw [hf]
      rw [hxs] at h1
      simpa using h1
    subst this
    simp [Conv.bytesToString]
    rfl
  | some a =>
    have hload : (loadCells a k).run P w = .ok (ns.map (Value.int .u8)).toArray w := by
      have e1 : arr = (ns.map (Value.int .u8)).toArray := Array.toList_inj.1 (by simpa using hxs)
      rw [← e1]
      simpa [Builtin.firstCells] using hf
    rw [run_bytesToString w a k cap ns hload, bytes_fold]
    simp

section
variable {okO : Operand → Opd → Bool} {f : Opd → V} {ρ : Operand → Value} {o : Oper}

theorem call_run (hρ : ∀ x y, okO x y = true → RV g (f y) (ρ x)) {x : Operand} {args ts} (ho : o.op = .call ⟨.value x, args, ts⟩) {x' : Opd} {args' : List Opd} (h1 : okO x x' = true) (h2 : okL okO args.toList args' = true)
    {n : Nat} {as : List V} (hc : callee (f x') (args'.map f) = some (n, as)) : ∃ vs : Array Value, RVs g as vs.toList ∧ (execOp ρ o).run P w = (callFunc n vs).run P w := by
  unfold callee at hc
  split at hc
  · rename_i n' fi ca hf
    cases hc
    obtain ⟨fi', ca', hx, hfi, hca⟩ := (hf ▸ hρ _ _ h1).func_inv
    refine ⟨fi' ++ args.map ρ ++ ca', ?_, ?_⟩
    · simp only [Array.toList_append, Array.toList_map]
      exact (hfi.append (okL_rvs hρ _ _ h2)).append hca
    · simp [execOp, ho, resolve, hx, Deferred.ofValue, invoke]
  · cases hc

theorem call_sound {gl : Nat → List V} {gs : List Nat} {rec : Rec} (hrec : CallOK P gl gs rec.call) (hr : Rep g h w) (hgl : GlOk gl gs g.M) (hρ : ∀ x y, okO x y = true → RV g (f y) (ρ x))
    {x : Operand} {args ts} (ho : o.op = .call ⟨.value x, args, ts⟩) {x' : Opd} {args' : List Opd} (h1 : okO x x' = true) (h2 : okL okO args.toList args' = true) {fz : Bool} {r : ERef} (hv : ecall rec h fz (f x') (args'.map f) = some r) :
    OpGood P g h w (execOp ρ o) r := by
  unfold ecall at hv
  split at hv
  · rename_i n as hc
    obtain ⟨vs, hvs, hrun⟩ := call_run (P := P) (w := w) hρ ho h1 h2 hc
    split at hv
    · rename_i v h' hcall
      obtain ⟨hent, hsound⟩ := hrec _ _ _ _ _ hcall
      refine .inr ⟨n, vs, by rw [hrun, hent], (hsound g w vs hr hgl hvs).mono fun e w' he => ?_⟩
      cases e with
      | outgrown => exact he
      | panicked ch => obtain ⟨_, _, _, hh, _⟩ := he; cases hh
      | returned x =>
        obtain ⟨v', g', hh, hv', hs⟩ := he
        cases hh
        split at hv
        · split at hv
          · rename_i hcond
            simp only [Option.map_eq_some_iff] at hv
            obtain ⟨v2, hview, rfl⟩ := hv
            have hcut := Step.cut hr hs hcond.1 hcond.2
            exact ⟨v2, _, _, rfl, .d _ _ (view_rd hs.rep hv' hview), hcut⟩
          · cases hv
        · cases hv
          exact ⟨v, g', h', rfl, hv', hs⟩
    · rename_i v h' hcall
      cases hv
      obtain ⟨hent, hsound⟩ := hrec _ _ _ _ _ hcall
      refine .inr ⟨n, vs, by rw [hrun, hent], (hsound g w vs hr hgl hvs).mono fun e w' he => ?_⟩
      cases e with
      | outgrown => exact he
      | returned x => obtain ⟨_, _, hh, _⟩ := he; cases hh
      | panicked ch =>
        obtain ⟨v', x, g', hh, rfl, hv', hs⟩ := he
        cases hh
        exact ⟨v, x, g', h', rfl, rfl, hv', hs⟩
    · cases hv
  · cases hv

def Ref.at (h : Heap) : Ref → ERef
  | .val v => .val v h
  | .pan v => .pan v h

theorem pcall_sound {gl : Nat → List V} {gs : List Nat} {rec : Rec} (hrec : CallOK P gl gs rec.call) (hr : Rep g h w) (hgl : GlOk gl gs g.M) (hρ : ∀ x y, okO x y = true → RV g (f y) (ρ x))
    {x : Operand} {args ts} (ho : o.op = .call ⟨.value x, args, ts⟩) {x' : Opd} {args' : List Opd} (h1 : okO x x' = true) (h2 : okL okO args.toList args' = true) {r : Ref} (hv : pcall rec (f x') (args'.map f) = some r) :
    OpGood P g h w (execOp ρ o) (r.at h) := by
  unfold pcall at hv
  split at hv
  · rename_i n as hc
    obtain ⟨vs, hvs, hrun⟩ := call_run (P := P) (w := w) hρ ho h1 h2 hc
    split at hv
    · rename_i hpure
      have hvs' : RVs g.pure as vs.toList := (hvs.toRDs hpure).rvs (g := g.pure)
      split at hv
      · rename_i v h' hcall
        obtain ⟨hent, hsound⟩ := hrec _ _ _ _ _ hcall
        refine .inr ⟨n, vs, by rw [hrun, hent], (hsound g.pure w vs hr.pure hgl hvs').mono fun e w' he => ?_⟩
        cases e with
        | outgrown => exact he
        | panicked ch => obtain ⟨_, _, _, hh, _⟩ := he; cases hh
        | returned x =>
          obtain ⟨v', g', hh, hv', hs⟩ := he
          cases hh
          simp only [Option.map_eq_some_iff] at hv
          obtain ⟨v2, hview, rfl⟩ := hv
          exact ⟨v2, _, _, rfl, .d _ _ (view_rd hs.rep hv' hview), Step.back hr hs⟩
      · rename_i v h' hcall
        split at hv
        · rename_i hpv
          cases hv
          obtain ⟨hent, hsound⟩ := hrec _ _ _ _ _ hcall
          refine .inr ⟨n, vs, by rw [hrun, hent], (hsound g.pure w vs hr.pure hgl hvs').mono fun e w' he => ?_⟩
          cases e with
          | outgrown => exact he
          | returned x => obtain ⟨_, _, hh, _⟩ := he; cases hh
          | panicked ch =>
            obtain ⟨v', x, g', hh, rfl, hv', hs⟩ := he
            cases hh
            exact ⟨v, x, _, h, rfl, rfl, .d _ _ ((hv'.toRD hpv).mono (seen_le hs.rep 0)), Step.back hr hs⟩
        · cases hv
      · cases hv
    · cases hv
  · cases hv

theorem bcall_sound {gl : Nat → List V} {gs : List Nat} {rec : Rec} (hrec : CallOK P gl gs rec.call) (hr : Rep g h w) (hgl : GlOk gl gs g.M) (hρ : ∀ x y, okO x y = true → RV g (f y) (ρ x))
    {x : Operand} {args ts} (ho : o.op = .call ⟨.value x, args, ts⟩) {x' : Opd} {args' : List Opd} (h1 : okO x x' = true) (h2 : okL okO args.toList args' = true) {r : Ref} (hv : bcall rec h (f x') (args'.map f) = some r) :
    OpGood P g h w (execOp ρ o) (r.at h) := by
  unfold bcall at hv
  split at hv
  · rename_i n as hc
    obtain ⟨vs, hvs, hrun⟩ := call_run (P := P) (w := w) hρ ho h1 h2 hc
    split at hv
    · rename_i as' hview
      have hvs' : RVs ⟨g.seen h w 0, fun _ _ => none⟩ as' vs.toList := (views_rd hr hvs hview).rvs (g := ⟨g.seen h w 0, fun _ _ => none⟩)
      have hgl' : GlOk gl gs (g.seen h w 0) := hgl.mono (seen_le hr 0)
      split at hv
      · rename_i v h' hcall
        split at hv
        · rename_i hpl
          cases hv
          obtain ⟨hent, hsound⟩ := hrec _ _ _ _ _ hcall
          refine .inr ⟨n, vs, by rw [hrun, hent], (hsound _ w vs hr.lent hgl' hvs').mono fun e w' he => ?_⟩
          cases e with
          | outgrown => exact he
          | panicked ch => obtain ⟨_, _, _, hh, _⟩ := he; cases hh
          | returned x =>
            obtain ⟨v', g', hh, hv', hs⟩ := he
            cases hh
            exact ⟨v, g, h, rfl, hv'.plain hpl, Step.given hr hs⟩
        · cases hv
      · rename_i v h' hcall
        split at hv
        · rename_i hpl
          cases hv
          obtain ⟨hent, hsound⟩ := hrec _ _ _ _ _ hcall
          refine .inr ⟨n, vs, by rw [hrun, hent], (hsound _ w vs hr.lent hgl' hvs').mono fun e w' he => ?_⟩
          cases e with
          | outgrown => exact he
          | returned x => obtain ⟨_, _, hh, _⟩ := he; cases hh
          | panicked ch =>
            obtain ⟨v', x, g', hh, rfl, hv', hs⟩ := he
            cases hh
            exact ⟨v, x, g, h, rfl, rfl, hv'.plain hpl, Step.given hr hs⟩
        · cases hv
      · cases hv
    · cases hv
  · cases hv

theorem lop_sound {gl : Nat → List V} {gs : List Nat} {rec : Rec} (hrec : CallOK P gl gs rec.call) (hr : Rep g h w) (hgl : GlOk gl gs g.M) (hρ : ∀ x y, okO x y = true → RV g (f y) (ρ x)) {l : LOp} {r : Ref}
    (hc : chkL P okO o.op l = true) (hv : lopV rec h f l = some r) : OpGood P g h w (execOp ρ o) (r.at h) := by
  cases l with
  | load a size ag =>
    cases ho : o.op <;> simp only [chkL, ho, Bool.false_eq_true] at hc
    case load t x =>
      simp only [Bool.and_eq_true] at hc
      simp only [lopV, Option.map_eq_some_iff] at hv
      obtain ⟨v, hv, rfl⟩ := hv
      obtain ⟨ad, hx, vv, hrun, hvv⟩ := load_sound (P := P) hr hc.2 (hρ _ _ hc.1) hv
      exact .inl ⟨v, h, rfl, vv, w, g, .inl (by simp [execOp, ho, Instr.loadAt, Instr.sureAddr, hx, hrun]), hvv, Step.refl hr⟩
  | b2s x =>
    cases ho : o.op <;> simp only [chkL, ho, Bool.false_eq_true] at hc
    case convert s d y =>
      simp only [Bool.and_eq_true] at hc
      obtain ⟨h1, h2⟩ := hc
      split at h2
      · rename_i e hs hd
        split at h2
        · rename_i he
          simp only [lopV] at hv
          split at hv
          · rename_i k cs hl hcells
            split at hv
            · cases hv
            · rename_i hns
              split at hv
              · rename_i hk
                simp only [Option.map_eq_some_iff] at hv
                obtain ⟨l, hb, rfl⟩ := hv
                obtain ⟨a, len, cap, hx, hrun⟩ := b2s_sound (P := P) hr (hρ _ _ h1) (fun s hss => hns s hss) hl hcells hk hb
                refine .inl ⟨_, h, rfl, _, w, g, .inl ?_, .d _ _ (.str _), Step.refl hr⟩
                rw [hx] at hrun
                simp [execOp, ho, hx, run_convert_bytes_string w s d e a len cap hs he hd, hrun]
              · cases hv
          · cases hv
        · cases h2
      · cases h2
  | borrow fn args =>
    cases ho : o.op <;> simp only [chkL, ho, Bool.false_eq_true] at hc
    case call c =>
      obtain ⟨cl, args', ts⟩ := c
      cases cl <;> simp only [chkL, Bool.false_eq_true] at hc
      case value x =>
        simp only [Bool.and_eq_true] at hc
        exact bcall_sound hrec hr hgl hρ ho hc.1 hc.2 hv
end
end
end Go.Am
/- What the slots of an activation are in the temporaries, and in private blocks. -/
set_option linter.unusedVariables false
set_option linter.unusedSimpArgs false
namespace Go.Am

/-- what stands fixed while a function runs -/
structure Cx where
  P : Program
  gl : Nat → List V
  gs : List Nat
  slots : List Nat
  prom : List Bool
  nt : Nat
  g0 : G
  h0 : Heap
  w0 : World

def Cx.pr (cx : Cx) (s : Nat) : Bool := cx.prom.getD s false

/-- a variable of its own, in a block that nobody else knows -/
def PromR (g : G) (h : Heap) (w : World) (n0 blk : Nat) (v : V) (x : Value) : Prop :=
  x = .pointer (some ⟨blk, 0, none⟩) ∧ n0 ≤ blk ∧ g.M blk = none ∧ ¬ Live g h blk ∧ ∃ arr e lo hi, w.heap[blk]? = some (.cells arr e (lo, hi)) ∧ (∀ i, i < arr.size → ¬ (lo ≤ i ∧ i < hi)) ∧
    RVs g (cellsV v) arr.toList ∧ ∀ u ∈ arr.toList, u.oneCell' = true

structure SlR (cx : Cx) (sl : List V) (g : G) (h : Heap) (w : World) (tmps : Array Value) : Prop where
  len : sl.length = cx.slots.length
  size : tmps.size = cx.nt
  val : ∀ s t v, cx.slots[s]? = some t → sl[s]? = some v → cx.pr s = false → RV g v (tmps.getD t undef)
  prm : ∀ s t v, cx.slots[s]? = some t → sl[s]? = some v → cx.pr s = true → v ≠ .undef → ∃ blk, PromR g h w cx.w0.heap.size blk v (tmps.getD t undef)
  one : ∀ s s' t t' v v' blk, cx.slots[s]? = some t → cx.slots[s']? = some t' → sl[s]? = some v → sl[s']? = some v' → cx.pr s = true → cx.pr s' = true → v ≠ .undef → v' ≠ .undef →
    tmps.getD t undef = .pointer (some ⟨blk, 0, none⟩) → tmps.getD t' undef = .pointer (some ⟨blk, 0, none⟩) → s = s'

section
variable {cx : Cx} {sl : List V} {g g' : G} {h h' : Heap} {w w' : World} {tmps : Array Value}

theorem PromR.step {n0 blk : Nat} {v : V} {x : Value} (hp : PromR g h w n0 blk v x) (hs : Step g h w g' h' w') : PromR g' h' w' n0 blk v x := by
  obtain ⟨h1, h2, h3, h4, arr, e, lo, hi, h5, h6, h7, h8⟩ := hp
  have hlt : blk < w.heap.size := (Array.getElem?_eq_some_iff.1 h5).1
  refine ⟨h1, h2, ?_, fun hl => ?_, arr, e, lo, hi, by rw [hs.fr.block blk hlt h4]; exact h5, h6, h7.mono hs.le, h8⟩
  · cases hM : g'.M blk with
    | none => rfl
    | some a =>
      rcases hs.newM blk a hM with h' | h' | h'
      · rw [h3] at h'; cases h'
      · omega
      · exact (h4 h').elim
  · rcases hs.newL blk hl with h' | h'
    · exact h4 h'
    · omega

theorem SlR.step (hr : SlR cx sl g h w tmps) (hs : Step g h w g' h' w') : SlR cx sl g' h' w' tmps :=
  ⟨hr.len, hr.size, fun s t v h1 h2 h3 => (hr.val s t v h1 h2 h3).mono hs.le, fun s t v h1 h2 h3 h4 => let ⟨blk, hp⟩ := hr.prm s t v h1 h2 h3 h4; ⟨blk, hp.step hs⟩, hr.one⟩

theorem getD_put {d t : Nat} (v : Value) (h : d ≠ t) : (tmps.setIfInBounds d v).getD t undef = tmps.getD t undef := by
  simp [Array.getElem?_setIfInBounds_ne h]

theorem getD_put_same {d : Nat} (v : Value) (h : d < tmps.size) : (tmps.setIfInBounds d v).getD d undef = v := by
  simp [h]

/-- a temporary that is no slot's -/
theorem SlR.put (hr : SlR cx sl g h w tmps) {d : Nat} (hd : d ∉ cx.slots) (v : Value) : SlR cx sl g h w (tmps.setIfInBounds d v) := by
  have hne : ∀ s t, cx.slots[s]? = some t → (tmps.setIfInBounds d v).getD t undef = tmps.getD t undef := fun s t hs => getD_put v (fun e => hd (e ▸ List.mem_of_getElem? hs))
  refine ⟨hr.len, by simp [hr.size], fun s t u h1 h2 h3 => ?_, fun s t u h1 h2 h3 h4 => ?_, fun s s' t t' u u' blk h1 h2 h3 h4 h5 h6 h7 h8 h9 h10 => ?_⟩
  · rw [hne s t h1]; exact hr.val s t u h1 h2 h3
  · rw [hne s t h1]; exact hr.prm s t u h1 h2 h3 h4
  · rw [hne s t h1] at h9; rw [hne s' t' h2] at h10; exact hr.one s s' t t' u u' blk h1 h2 h3 h4 h5 h6 h7 h8 h9 h10

theorem nodup_ne {l : List Nat} (hn : l.Nodup) {s s' t t' : Nat} (h1 : l[s]? = some t) (h2 : l[s']? = some t') (hne : s ≠ s') : t ≠ t' := by
  intro e
  subst e
  obtain ⟨a1, a2⟩ := List.getElem?_eq_some_iff.1 h1
  obtain ⟨b1, b2⟩ := List.getElem?_eq_some_iff.1 h2
  exact hne ((List.getElem_inj hn).1 (a2.trans b2.symm))

theorem set_get {sl : List V} {s i : Nat} {v u : V} (h : (sl.set s v)[i]? = some u) : (i = s ∧ u = v) ∨ (i ≠ s ∧ sl[i]? = some u) := by
  by_cases hi : s = i
  · subst hi
    have hlt : s < sl.length := by
      have := (List.getElem?_eq_some_iff.1 h).1
      simpa using this
    rw [List.getElem?_set_self hlt] at h
    exact .inl ⟨rfl, by simpa using h.symm⟩
  · rw [List.getElem?_set_ne hi] at h
    exact .inr ⟨fun e => hi e.symm, h⟩

/-- a slot's temporary -/
theorem SlR.setSlot (hn : cx.slots.Nodup) (hr : SlR cx sl g h w tmps) {s d : Nat} (hs : cx.slots[s]? = some d) (hp : cx.pr s = false) (hd : d < cx.nt) {v : V} {x : Value} (hv : RV g v x) : SlR cx (sl.set s v) g h w (tmps.setIfInBounds d x) := by
  have hne : ∀ s' t, s' ≠ s → cx.slots[s']? = some t → (tmps.setIfInBounds d x).getD t undef = tmps.getD t undef := fun s' t hss ht => getD_put x (fun e => nodup_ne hn ht hs hss e.symm)
  have hps : ∀ s', cx.pr s' = true → s' ≠ s := fun s' h1 h2 => by rw [h2, hp] at h1; cases h1
  refine ⟨by simp [hr.len], by simp [hr.size], fun s' t u h1 h2 h3 => ?_, fun s' t u h1 h2 h3 h4 => ?_, fun s1 s2 t t' u u' blk h1 h2 h3 h4 h5 h6 h7 h8 h9 h10 => ?_⟩
  · rcases set_get h2 with ⟨rfl, rfl⟩ | ⟨hss, h2'⟩
    · rw [hs] at h1; cases h1
      rw [getD_put_same x (by rw [hr.size]; exact hd)]
      exact hv
    · rw [hne s' t hss h1]; exact hr.val s' t u h1 h2' h3
  · rcases set_get h2 with ⟨rfl, rfl⟩ | ⟨hss, h2'⟩
    · exact absurd rfl (hps _ h3)
    · rw [hne s' t hss h1]; exact hr.prm s' t u h1 h2' h3 h4
  · rcases set_get h3 with ⟨rfl, rfl⟩ | ⟨ha, h3'⟩
    · exact absurd rfl (hps _ h5)
    · rcases set_get h4 with ⟨rfl, rfl⟩ | ⟨hb, h4'⟩
      · exact absurd rfl (hps _ h6)
      · rw [hne _ _ ha h1] at h9; rw [hne _ _ hb h2] at h10
        exact hr.one s1 s2 t t' u u' blk h1 h2 h3' h4' h5 h6 h7 h8 h9 h10

/-- a slot that nobody knows anything of any more -/
theorem SlR.drop (hr : SlR cx sl g h w tmps) (s : Nat) : SlR cx (sl.set s .undef) g h w tmps := by
  refine ⟨by simp [hr.len], hr.size, fun s' t u h1 h2 h3 => ?_, fun s' t u h1 h2 h3 h4 => ?_, fun s1 s2 t t' u u' blk h1 h2 h3 h4 h5 h6 h7 h8 h9 h10 => ?_⟩
  · rcases set_get h2 with ⟨rfl, rfl⟩ | ⟨hss, h2'⟩
    · exact .d _ _ (.undef _)
    · exact hr.val s' t u h1 h2' h3
  · rcases set_get h2 with ⟨rfl, rfl⟩ | ⟨hss, h2'⟩
    · exact absurd rfl h4
    · exact hr.prm s' t u h1 h2' h3 h4
  · rcases set_get h3 with ⟨rfl, rfl⟩ | ⟨ha, h3'⟩
    · exact absurd rfl h7
    · rcases set_get h4 with ⟨rfl, rfl⟩ | ⟨hb, h4'⟩
      · exact absurd rfl h8
      · exact hr.one s1 s2 t t' u u' blk h1 h2 h3' h4' h5 h6 h7 h8 h9 h10

theorem SlR.get (hr : SlR cx sl g h w tmps) {s t : Nat} (hs : cx.slots[s]? = some t) (hp : cx.pr s = false) : RV g (sl.getD s .undef) (tmps.getD t undef) := by
  cases hv : sl[s]? with
  | none => simp [List.getD, hv]; exact .d _ _ (.undef _)
  | some v => simp only [List.getD, hv, Option.getD_some]; exact hr.val s t v hs hv hp

/-- a private block that is written, or made: nobody sees it -/
theorem Step.priv {g0 : G} {h0 : Heap} {w0 : World} (hs : Step g0 h0 w0 g h w) {blk : Nat} (h1 : w0.heap.size ≤ blk) (h2 : g.M blk = none) (h3 : ¬ Live g h blk)
    (hos : w'.os = w.os) (htp : w'.tape = w.tape) (hou : w'.output = w.output) (hsz : w.heap.size ≤ w'.heap.size) (hw : ∀ i, i < w.heap.size → i ≠ blk → w'.heap[i]? = w.heap[i]?) : Step g0 h0 w0 g h w' := by
  refine ⟨⟨?_, ?_, hs.rep.one, hs.rep.old, hs.rep.top⟩, hs.le, ⟨hos.trans hs.fr.os, htp.trans hs.fr.tape, hou.trans hs.fr.output, Nat.le_trans hs.fr.size hsz, fun i hi hl => ?_⟩, hs.newM, hs.newL⟩
  · intro b arr hM
    obtain ⟨e, fz, hh⟩ := hs.rep.mem b arr hM
    have hne : b ≠ blk := fun e => by subst e; rw [h2] at hM; cases hM
    exact ⟨e, fz, by rw [hw b (Array.getElem?_eq_some_iff.1 hh).1 hne]; exact hh⟩
  · intro b o hb
    refine (hs.rep.obj b o hb).mono (G.le_refl g) (fun k ha => (hs.rep.live_lt ⟨b, o, hb, ha⟩).2) (fun k ha => ?_)
    have hl : Live g h k := ⟨b, o, hb, ha⟩
    exact hw k (hs.rep.live_lt hl).1 (fun e => h3 (e ▸ hl))
  · rw [hw i (Nat.lt_of_lt_of_le hi hs.fr.size) (by omega)]
    exact hs.fr.block i hi hl

theorem PromR.other {n0 blk blk' : Nat} {v : V} {x : Value} (hp : PromR g h w n0 blk v x) (hne : blk ≠ blk') (hw : ∀ i, i < w.heap.size → i ≠ blk' → w'.heap[i]? = w.heap[i]?) : PromR g h w' n0 blk v x := by
  obtain ⟨h1, h2, h3, h4, arr, e, lo, hi, h5, h6, h7, h8⟩ := hp
  exact ⟨h1, h2, h3, h4, arr, e, lo, hi, by rw [hw blk (Array.getElem?_eq_some_iff.1 h5).1 hne]; exact h5, h6, h7, h8⟩

/-- a variable of its own that is made -/
theorem SlR.fresh (hn : cx.slots.Nodup) (hr : SlR cx sl g h w tmps) (hrep : Rep g h w) (hle : cx.w0.heap.size ≤ w.heap.size) {s d : Nat} (hs : cx.slots[s]? = some d) (hp : cx.pr s = true) (hd : d < cx.nt) {v : V} {arr : Array Value} {t : TypeId}
    (hrv : RVs g (cellsV v) arr.toList) (hone : ∀ u ∈ arr.toList, u.oneCell' = true) :
    SlR cx (sl.set s v) g h (w.alloc (.cells arr t (0, 0))) (tmps.setIfInBounds d (.pointer (some ⟨w.heap.size, 0, none⟩))) := by
  have hne : ∀ s' t, s' ≠ s → cx.slots[s']? = some t → (tmps.setIfInBounds d (.pointer (some ⟨w.heap.size, 0, none⟩))).getD t undef = tmps.getD t undef := fun s' t hss ht => getD_put _ (fun e => nodup_ne hn ht hs hss e.symm)
  have hold : ∀ i, i < w.heap.size → i ≠ w.heap.size → (w.alloc (.cells arr t (0, 0))).heap[i]? = w.heap[i]? := fun i hi _ => heap_alloc_old w _ i hi
  have hlt : ∀ blk v x, PromR g h w cx.w0.heap.size blk v x → blk < w.heap.size := fun blk v x hp => by
    obtain ⟨_, _, _, _, arr, e, lo, hi, h5, _⟩ := hp
    exact (Array.getElem?_eq_some_iff.1 h5).1
  have hsame := getD_put_same (tmps := tmps) (d := d) (.pointer (some ⟨w.heap.size, 0, none⟩)) (by rw [hr.size]; exact hd)
  refine ⟨by simp [hr.len], by simp [hr.size], fun s' t' u h1 h2 h3 => ?_, fun s' t' u h1 h2 h3 h4 => ?_, fun s1 s2 t1 t2 u u' blk h1 h2 h3 h4 h5 h6 h7 h8 h9 h10 => ?_⟩
  · rcases set_get h2 with ⟨rfl, rfl⟩ | ⟨hss, h2'⟩
    · rw [hp] at h3; cases h3
    · rw [hne s' t' hss h1]; exact hr.val s' t' u h1 h2' h3
  · rcases set_get h2 with ⟨rfl, rfl⟩ | ⟨hss, h2'⟩
    · rw [hs] at h1; cases h1
      refine ⟨w.heap.size, hsame, hle, ?_, fun hl => ?_, arr, t, 0, 0, heap_alloc_new w _, by omega, hrv, hone⟩
      · cases hM : g.M w.heap.size with
        | none => rfl
        | some a =>
          obtain ⟨e, fz, hh⟩ := hrep.mem _ _ hM
          have := (Array.getElem?_eq_some_iff.1 hh).1
          omega
      · have := (hrep.live_lt hl).1
        omega
    · obtain ⟨blk, hpr⟩ := hr.prm s' t' u h1 h2' h3 h4
      rw [hne s' t' hss h1]
      exact ⟨blk, hpr.other (by have := hlt _ _ _ hpr; omega) hold⟩
  · rcases set_get h3 with ⟨rfl, rfl⟩ | ⟨ha, h3'⟩
    · rcases set_get h4 with ⟨rfl, rfl⟩ | ⟨hb, h4'⟩
      · rfl
      · rw [hs] at h1; cases h1
        rw [hsame] at h9
        cases h9
        rw [hne _ _ hb h2] at h10
        obtain ⟨blk, hpr⟩ := hr.prm s2 t2 u' h2 h4' h6 h8
        have hlt' := hlt _ _ _ hpr
        rw [hpr.1] at h10
        cases h10
        omega
    · rcases set_get h4 with ⟨rfl, rfl⟩ | ⟨hb, h4'⟩
      · rw [hs] at h2; cases h2
        rw [hsame] at h10
        cases h10
        rw [hne _ _ ha h1] at h9
        obtain ⟨blk, hpr⟩ := hr.prm s1 t1 u h1 h3' h5 h7
        have hlt' := hlt _ _ _ hpr
        rw [hpr.1] at h9
        cases h9
        omega
      · rw [hne _ _ ha h1] at h9; rw [hne _ _ hb h2] at h10
        exact hr.one s1 s2 t1 t2 u u' blk h1 h2 h3' h4' h5 h6 h7 h8 h9 h10

/-- a variable of its own that is written -/
theorem SlR.wrote (hn : cx.slots.Nodup) (hr : SlR cx sl g h w tmps) {s t blk : Nat} {v v' : V} (hs : cx.slots[s]? = some t) (hp : cx.pr s = true) (hv : sl[s]? = some v) (hu : v ≠ .undef) (hx : tmps.getD t undef = .pointer (some ⟨blk, 0, none⟩))
    {arr arr' : Array Value} {e : TypeId} {lo hi : Nat} (hh : w.heap[blk]? = some (.cells arr e (lo, hi))) (hsz : arr'.size = arr.size) (hrv : RVs g (cellsV v') arr'.toList) (hone : ∀ u ∈ arr'.toList, u.oneCell' = true) :
    SlR cx (sl.set s v') g h (w.setRow blk arr') tmps := by
  have hw : ∀ i, i < w.heap.size → i ≠ blk → (w.setRow blk arr').heap[i]? = w.heap[i]? := fun i _ hi => by rw [setRow_other]; exact hi
  refine ⟨by simp [hr.len], hr.size, fun s' t' u h1 h2 h3 => ?_, fun s' t' u h1 h2 h3 h4 => ?_, fun s1 s2 t1 t2 u u' blk' h1 h2 h3 h4 h5 h6 h7 h8 h9 h10 => ?_⟩
  · rcases set_get h2 with ⟨rfl, rfl⟩ | ⟨hss, h2'⟩
    · rw [hp] at h3; cases h3
    · exact hr.val s' t' u h1 h2' h3
  · rcases set_get h2 with ⟨rfl, rfl⟩ | ⟨hss, h2'⟩
    · rw [hs] at h1; cases h1
      obtain ⟨blk', a1, a2, a3, a4, arr0, e0, lo0, hi0, a5, a6, a7, a8⟩ := hr.prm s' t v hs hv hp hu
      rw [hx] at a1
      cases a1
      rw [hh] at a5
      cases a5
      exact ⟨blk, hx, a2, a3, a4, arr', e, lo, hi, setRow_heap w blk arr arr' e _ hh, by rw [hsz]; exact a6, hrv, hone⟩
    · obtain ⟨blk', hpr⟩ := hr.prm s' t' u h1 h2' h3 h4
      refine ⟨blk', hpr.other (fun e => ?_) hw⟩
      subst e
      exact hss (hr.one s' s t' t u v blk' h1 hs h2' hv h3 hp h4 hu hpr.1 hx)
  · have key : ∀ {i : Nat} {u : V}, (sl.set s v')[i]? = some u → u ≠ .undef → ∃ u0, sl[i]? = some u0 ∧ u0 ≠ .undef := by
      intro i u hi hne
      rcases set_get hi with ⟨rfl, rfl⟩ | ⟨_, hi'⟩
      · exact ⟨v, hv, hu⟩
      · exact ⟨u, hi', hne⟩
    obtain ⟨u1, b1, b2⟩ := key h3 h7
    obtain ⟨u2, b3, b4⟩ := key h4 h8
    exact hr.one s1 s2 t1 t2 u1 u2 blk' h1 h2 b1 b3 h5 h6 b2 b4 h9 h10
end
end Go.Am
/- One operation of a region: the check, and that what passes it comes to the same. -/
set_option linter.unusedVariables false
set_option linter.unusedSimpArgs false
namespace Go.Am

/-- the temporary of a value of the region alone -/
def locTmp (ops : Array Oper) (aops : List AOper) (j : Nat) : Option Nat :=
  match ops[j]?, aops[j]? with
  | some o, some ao => match ao.dst with
    | .loc => o.dst
    | _ => none
  | _, _ => none

def AOp.isPa : AOp → Bool
  | .pa .. => true
  | _ => false

def paOf (aops : List AOper) (j : Nat) : Bool :=
  match aops[j]? with
  | some ao => ao.op.isPa
  | none => true

def okOf (cx : Cx) (ops : Array Oper) (aops : List AOper) : Operand → Opd → Bool
  | .tmp t, .s i => cx.slots[i]? == some t && !cx.pr i
  | .tmp t, .r j => locTmp ops aops j == some t && !paOf aops j
  | .const c, .c v => constOk v c
  | .func f, .c (.func (.func n) [] []) => f == n
  | .global n, .g m => n == m && cx.gs.contains n
  | _, _ => false

/-- what is known of a value of the region -/
def LR (cx : Cx) (tmps : Array Value) (g : G) (ao : AOper) (v : V) (x : Value) : Prop :=
  match ao.op with
  | .pa s _ _ _ => v = .undef ∨ (v = .tup [] ∧ x = undef) ∨ ∃ (n : Nat) (blk t : Nat), v = .int .i64 n ∧ x = .pointer (some ⟨blk, n, none⟩) ∧ cx.slots[s]? = some t ∧ tmps.getD t undef = .pointer (some ⟨blk, 0, none⟩)
  | _ => RV g v x

def ER (cx : Cx) (ops : Array Oper) (aops : List AOper) (env : List V) (g : G) (tmps : Array Value) : Prop :=
  ∀ j v d ao, env[j]? = some v → locTmp ops aops j = some d → aops[j]? = some ao → LR cx tmps g ao v (tmps.getD d undef)

def DfR (P : Program) (g : G) : List (V × List V) → List Deferred → Prop
  | [], [] => True
  | (f, as) :: ds, d :: ds' => (∃ n vs fv cap, ∃ us : Array Value, callee f as = some (n, vs) ∧ d.target = .fn fv cap ∧ RVs g vs us.toList ∧ ∀ w, (invoke d.target d.args).run P w = (callFunc n us).run P w) ∧ DfR P g ds ds'
  | _, _ => False

theorem DfR.mono {P : Program} {g g' : G} (hg : g.le g') : ∀ {ds : List (V × List V)} {ds' : List Deferred}, DfR P g ds ds' → DfR P g' ds ds'
  | [], [], _ => trivial
  | (f, as) :: ds, d :: ds', ⟨⟨n, vs, fv, cap, us, h1, h2, h3, h4⟩, h⟩ => ⟨⟨n, vs, fv, cap, us, h1, h2, h3.mono hg, h4⟩, DfR.mono hg h⟩
  | [], _ :: _, h => h
  | _ :: _, [], h => by simp [DfR] at h

structure CR (cx : Cx) (c : Cfg) (g : G) (a : Act) (w : World) : Prop where
  step : Step cx.g0 cx.h0 cx.w0 g c.h w
  sr : SlR cx c.slots g c.h w a.tmps
  df : DfR cx.P g c.dfs a.defers
  gl : GlOk cx.gl cx.gs g.M

/-- where a value goes -/
def dstOk (cx : Cx) (ao : AOper) (o : Oper) : Bool :=
  match ao.dst, o.dst with
  | .no, none => true
  | .loc, some d => decide (d < cx.nt) && !cx.slots.contains d
  | .slot s, some t => cx.slots[s]? == some t && decide (t < cx.nt)
  | _, _ => false

def notProm (cx : Cx) (ao : AOper) : Bool :=
  match ao.dst with
  | .slot s => !cx.pr s
  | _ => true

/-- the address of a promoted variable, or of a part of it -/
def padr (cx : Cx) (ops : Array Oper) (aops : List AOper) (s : Nat) (b : Option Nat) : Operand → Bool
  | .tmp t => match b with
    | none => cx.slots[s]? == some t
    | some i => locTmp ops aops i == some t && (match aops[i]? with | some ⟨_, .pa s' _ _ _, _⟩ => s' == s | _ => false)
  | _ => false

def chkA (cx : Cx) (ops : Array Oper) (aops : List AOper) (o : Oper) (ao : AOper) : Bool :=
  dstOk cx ao o && (match ao.op with
    | .p p => notProm cx ao && chkP cx.P (okOf cx ops aops) o.op p
    | .pc f as => notProm cx ao && (match o.op with | .call ⟨.value x, args, _⟩ => okOf cx ops aops x f && okL (okOf cx ops aops) args.toList as | _ => false)
    | .l l => notProm cx ao && chkL cx.P (okOf cx ops aops) o.op l
    | .e e => notProm cx ao && chkE cx.P (okOf cx ops aops) o.op e
    | .np x => ao.guard.isNone && (match ao.dst with | .slot s => cx.pr s | _ => false) && chkE cx.P (okOf cx ops aops) o.op (.hnew x)
    | .pa s b k ix => (match ao.dst with | .loc => true | _ => false) && cx.pr s && (match o.op, ix with
      | .fieldAddr t x fi, none => padr cx ops aops s b x && (match fieldIs cx.P t fi k with | some ft => (match cx.P.info? ft with | some i => i.size != 0 | none => false) | none => false)
      | .indexAddr t x (.const (.int _ n)), none => padr cx ops aops s b x && (match cx.P.underlying t with
        | some (.array m e) => decide (0 ≤ n ∧ n < m) && (match cx.P.info? e with | some i => n.toNat * i.size == k | none => false)
        | _ => false)
      | .indexAddr t x i, some (i', m, sz) => k == 0 && padr cx ops aops s b x && okOf cx ops aops i i' && (match cx.P.underlying t with
        | some (.array m' e) => m' == m && sizeIs cx.P e sz
        | _ => false)
      | _, _ => false)
    | .pl s b size ag => notProm cx ao && cx.pr s && (match o.op with | .load t x => padr cx ops aops s b x && tyOk cx.P t size ag | _ => false)
    | .pu s b size y => (match ao.dst with | .no => true | _ => false) && cx.pr s && (match o.op with | .store t x y' => padr cx ops aops s b x && okOf cx ops aops y' y && sizeIs cx.P t size | _ => false)
    | .pan x => (match ao.dst with | .no => true | _ => false) && (match o.op with | .panic y => okOf cx ops aops y x | _ => false)
    | .dfr f as => (match ao.dst with | .no => true | _ => false) && (match o.op with | .defer ⟨.value x, args, _⟩ => okOf cx ops aops x f && okL (okOf cx ops aops) args.toList as | _ => false)
    | .rcv => notProm cx ao && (match o.op with | .call ⟨.builtin .recover, args, _⟩ => args.isEmpty | _ => false))

section
variable {cx : Cx} {ops : Array Oper} {aops : List AOper} {env : List V} {c : Cfg} {g : G} {a : Act} {w : World}

theorem eval_tmp (a : Act) (t : Nat) : a.eval (.tmp t) = a.tmps.getD t undef := rfl

theorem ok_rv (cr : CR cx c g a w) (er : ER cx ops aops env g a.tmps) (x : Operand) (y : Opd) (h : okOf cx ops aops x y = true) : RV g (ev cx.gl env c.slots y) (a.eval x) := by
  unfold okOf at h
  split at h
  · rename_i t i
    simp only [Bool.and_eq_true, beq_iff_eq, Bool.not_eq_true'] at h
    exact cr.sr.get h.1 h.2
  · rename_i t j
    simp only [Bool.and_eq_true, beq_iff_eq, Bool.not_eq_true'] at h
    simp only [ev, eval_tmp]
    cases hv : env[j]? with
    | none => simp [List.getD, hv]; exact .d _ _ (.undef _)
    | some v =>
      simp only [List.getD, hv, Option.getD_some]
      obtain ⟨h1, h2⟩ := h
      unfold paOf at h2
      cases ha : aops[j]? with
      | none => simp [ha] at h2
      | some ao =>
        have := er j v t ao hv h1 ha
        simp only [ha] at h2
        unfold LR at this
        split at this
        · rename_i heq; simp [heq, AOp.isPa] at h2
        · exact this
  · exact .d _ _ (constOk_rd _ _ _ h)
  · rename_i f n
    simp only [beq_iff_eq] at h
    subst h
    exact .d _ _ (.func _ _ _ #[] #[] .nil .nil)
  · rename_i n m
    simp only [Bool.and_eq_true, beq_iff_eq] at h
    obtain ⟨rfl, h2⟩ := h
    obtain ⟨arr, hM, hr⟩ := cr.gl n (by simpa using h2)
    refine .d _ _ (.pv _ arr.toList ⟨n, 0, none⟩ arr rfl hM ?_ hr)
    show arr.toList = (arr.toList.drop 0).take arr.toList.length
    rw [List.drop_zero, List.take_length]
  · cases h

/-- the state behind an operation that gives a value -/
theorem CR.value (hn : cx.slots.Nodup) (cr : CR cx c g a w) {ao : AOper} {o : Oper} (hd : dstOk cx ao o = true) (hp : notProm cx ao = true) {h' : Heap} {w' : World} {g' : G} {v : V} {x : Value} (hs : Step g c.h w g' h' w') (hv : RV g' v x) :
    CR cx { c with slots := setSlot c.slots ((slotOf ao.dst).map (·, v)), h := h' } g' (a.put o.dst x) w' := by
  have hsr := cr.sr.step hs
  refine ⟨cr.step.trans hs, ?_, ?_, cr.gl.mono hs.le.1⟩
  · unfold dstOk at hd
    split at hd
    · rename_i h1 h2
      rw [h1, h2]
      simpa [slotOf, Am.setSlot, Act.put] using hsr
    · rename_i d h1 h2
      rw [h1, h2]
      simp only [Bool.and_eq_true, Bool.not_eq_true', decide_eq_true_eq] at hd
      simp only [slotOf, Option.map_none, Am.setSlot, Act.put]
      exact hsr.put (by simpa using hd.2) x
    · rename_i s t h1 h2
      rw [h1, h2]
      simp only [Bool.and_eq_true, beq_iff_eq, decide_eq_true_eq] at hd
      simp only [slotOf, Option.map_some, Am.setSlot, Act.put]
      simp only [notProm, h1, Bool.not_eq_true'] at hp
      exact hsr.setSlot hn hd.1 hp hd.2 hv
    · cases hd
  · have : (a.put o.dst x).defers = a.defers := by cases o.dst <;> rfl
    rw [this]
    exact cr.df.mono hs.le

theorem CR.of_step (cr : CR cx c g a w) {h' : Heap} {w' : World} {g' : G} (hs : Step g c.h w g' h' w') : CR cx { c with h := h' } g' a w' :=
  ⟨cr.step.trans hs, cr.sr.step hs, cr.df.mono hs.le, cr.gl.mono hs.le.1⟩

/-- what is said of the outcome of an operation -/
structure Outc (cx : Cx) (c : Cfg) (o : Oper) (ao : AOper) (g : G) (a : Act) (r : Am.SR) (next : Act → World → Prop) (Q : Exit → Act → World → Prop) : Prop where
  ok : ∀ v wr df pn hp d x g' w', r = .ok v wr df pn hp → g.le g' →
    CR cx { c with slots := setSlot c.slots wr, dfs := pushD df c.dfs, h := hp.getD c.h } g' (({ a with defers := d } : Act).put o.dst x) w' →
    (ao.dst = .loc → LR cx (({ a with defers := d } : Act).put o.dst x).tmps g' ao v x) → next (({ a with defers := d } : Act).put o.dst x) w'
  pan : ∀ v hp x g' w', r = .pan v hp → g.le g' → RV g' v x → CR cx { c with h := hp.getD c.h } g' a w' → Q (.panic [{ v := x, recovered := false }]) a w'

theorem act_self (a : Act) : ({ a with defers := a.defers } : Act) = a := rfl

/-- from an operation's outcome in the heap to the state -/
theorem upon_good (hn : cx.slots.Nodup) (cr : CR cx c g a w) {ao : AOper} {o : Oper} (hd : dstOk cx ao o = true) (hp : notProm cx ao = true) (hpa : ao.op.isPa = false) {s : Sem Next} {r : ERef} (hg : OpGood cx.P g c.h w s r) {r' : Am.SR}
    (hr' : (∃ v, r = .val v c.h ∧ r' = putSlot ao.dst v) ∨ (∃ v, r = .pan v c.h ∧ r' = .pan v none) ∨ r' = ofERef ao.dst r) {next : Act → World → Prop} {Q : Exit → Act → World → Prop} (out : Outc cx c o ao g a r' next Q) :
    o.upon cx.P a next Q (s.run cx.P w) := by
  have hlr : ∀ (v : V) (x : Value) (g' : G) tm, RV g' v x → LR cx tm g' ao v x := by
    intro v x g' tm h
    unfold LR
    split
    · rename_i heq; simp [heq, AOp.isPa] at hpa
    · exact h
  refine hg.upon (fun v h' vv w' g' hr hv hs => ?_) (fun v h' x w' g' hr hv hs => ?_)
  · have hcr := CR.value hn cr hd hp hs hv
    have hcr' : ∀ wr, wr = (slotOf ao.dst).map (·, v) → ∀ hp : Option Heap, hp.getD c.h = h' → CR cx { c with slots := setSlot c.slots wr, h := hp.getD c.h } g' (a.put o.dst vv) w' := by
      rintro wr rfl hp rfl
      exact hcr
    have go : ∀ v' wr hp, r' = .ok v' wr none none hp → wr = (slotOf ao.dst).map (·, v) → hp.getD c.h = h' → (ao.dst = .loc → v' = v) → next (a.put o.dst vv) w' := by
      intro v' wr hp h1 h2 h3 h4
      refine out.ok v' wr none none hp a.defers vv g' w' h1 hs.le (hcr' wr h2 hp h3) (fun hl => ?_)
      rw [h4 hl]
      exact hlr _ _ _ _ hv
    rcases hr' with ⟨u, h1, h2⟩ | ⟨u, h1, h2⟩ | h2
    · rw [hr] at h1
      cases h1
      cases hdst : ao.dst with
      | no => exact go v none none (by simp [h2, putSlot, hdst]) (by simp [hdst, slotOf]) rfl (fun _ => rfl)
      | loc => exact go v none none (by simp [h2, putSlot, hdst]) (by simp [hdst, slotOf]) rfl (fun _ => rfl)
      | slot s => exact go .undef (some (s, v)) none (by simp [h2, putSlot, hdst]) (by simp [hdst, slotOf]) rfl (fun h => by rw [hdst] at h; cases h)
    · rw [hr] at h1; cases h1
    · rw [hr] at h2
      cases hdst : ao.dst with
      | no => exact go v none (some h') (by simp [h2, ofERef, hdst]) (by simp [hdst, slotOf]) rfl (fun _ => rfl)
      | loc => exact go v none (some h') (by simp [h2, ofERef, hdst]) (by simp [hdst, slotOf]) rfl (fun _ => rfl)
      | slot s => exact go .undef (some (s, v)) (some h') (by simp [h2, ofERef, hdst]) (by simp [hdst, slotOf]) rfl (fun h => by rw [hdst] at h; cases h)
  · have hcr := cr.of_step hs
    rcases hr' with ⟨u, h1, h2⟩ | ⟨u, h1, h2⟩ | h2
    · rw [hr] at h1; cases h1
    · rw [hr] at h1
      cases h1
      exact out.pan v none x g' w' h2 hs.le hv hcr
    · rw [hr] at h2
      exact out.pan v (some h') x g' w' h2 hs.le hv hcr

/-- the address of a part of a promoted variable -/
theorem padr_run (cr : CR cx c g a w) (er : ER cx ops aops env g a.tmps) {s : Nat} {b : Option Nat} {x : Operand} (hp : cx.pr s = true) (hx : padr cx ops aops s b x = true) {n : Nat} (hn : pOff env b = some n) {v : V} (hv : c.slots[s]? = some v) (hu : v ≠ .undef) :
    ∃ t blk, cx.slots[s]? = some t ∧ a.tmps.getD t undef = .pointer (some ⟨blk, 0, none⟩) ∧ a.eval x = .pointer (some ⟨blk, n, none⟩) ∧ PromR g c.h w cx.w0.heap.size blk v (a.tmps.getD t undef) := by
  unfold padr at hx
  split at hx
  · rename_i t
    split at hx
    · simp only [beq_iff_eq] at hx
      obtain ⟨blk, hpr⟩ := cr.sr.prm s t v hx hv hp hu
      simp only [pOff, Option.some.injEq] at hn
      subst hn
      exact ⟨t, blk, hx, hpr.1, hpr.1, hpr⟩
    · rename_i i
      simp only [Bool.and_eq_true, beq_iff_eq] at hx
      obtain ⟨h1, h2⟩ := hx
      split at h2
      · rename_i d' s' b' k' ix' gd' ha
        simp only [beq_iff_eq] at h2
        subst h2
        simp only [pOff] at hn
        split at hn
        · rename_i k m hm
          cases hn
          have := er i _ t _ hm h1 ha
          simp only [LR] at this
          rcases this with h | ⟨h, _⟩ | ⟨n, blk, t', hv', hx', ht', hb'⟩
          · cases h
          · cases h
          · cases hv'
            obtain ⟨blk', hpr⟩ := cr.sr.prm _ _ v ht' hv hp hu
            have := hpr.1
            rw [hb'] at this
            cases this
            exact ⟨t', blk, ht', hb', by rw [eval_tmp, hx']; simp, hpr⟩
        · cases hn
      · cases h2
  · cases hx
end
end Go.Am
/- One operation of a region: every kind. -/
set_option linter.unusedVariables false
set_option linter.unusedSimpArgs false
namespace Go.Am
section
variable {cx : Cx} {ops : Array Oper} {aops : List AOper} {env : List V} {c : Cfg} {g : G} {a : Act} {w : World}

theorem set_len {l : List V} {i : Nat} {v : V} : (l.set i v).length = l.length := by simp

theorem defd_spec {sl : List V} {s : Nat} (h : defd sl s = true) : ∃ v, sl[s]? = some v ∧ v ≠ .undef := by
  unfold defd at h
  split at h
  · cases h
  · cases h
  · rename_i x hx hu
    cases hv : sl[s]? with
    | none => exact absurd hv hx
    | some v => exact ⟨v, rfl, fun e => hu (by rw [hv, e])⟩

/-- a promoted variable is made -/
theorem np_core (hn : cx.slots.Nodup) (cr : CR cx c g a w) (er : ER cx ops aops env g a.tmps) {o : Oper} {ao : AOper} {x : Opd} (hop : ao.op = .np x) (hchk : chkA cx ops aops o ao = true) {rec : Rec} {r : Am.SR}
    (hstep : stepOp rec cx.gl ao env c.slots c.pn c.h = some r) {next : Act → World → Prop} {Q : Exit → Act → World → Prop} (out : Outc cx c o ao g a r next Q) :
    o.upon cx.P a next Q ((execOp a.eval o).run cx.P w) := by
  simp only [chkA, hop, Bool.and_eq_true] at hchk
  obtain ⟨hd, ⟨hg, hp⟩, hc⟩ := hchk
  cases hdst : ao.dst <;> simp only [hdst, Bool.false_eq_true] at hp
  case slot s =>
    simp only [stepOp, hop, hdst] at hstep
    split at hstep
    · rename_i hcell
      cases hstep
      unfold dstOk at hd
      rw [hdst] at hd
      cases hod : o.dst with
      | none => simp [hod] at hd
      | some d =>
        simp only [hod, Bool.and_eq_true, beq_iff_eq, decide_eq_true_eq] at hd
        obtain ⟨hs, hdt⟩ := hd
        have hrv : ∃ xv t, (execOp a.eval o).run cx.P w = .ok (.value (.pointer (some ⟨w.heap.size, 0, none⟩))) (w.alloc (.cells xv t (0, 0))) ∧ RVs g (cellsV (ev cx.gl env c.slots x)) xv.toList ∧ ∀ u ∈ xv.toList, u.oneCell' = true := by
          cases ho : o.op <;> simp only [ho] at hc
          case alloc t =>
            cases x <;> simp only [chkE, Bool.false_eq_true] at hc
            case c v =>
              obtain ⟨z, hz, hrv⟩ := zeroIs_rv (g := g) hc
              obtain ⟨hrun, _, _⟩ := box_new (P := cx.P) (t := t) cr.step.rep hrv hcell
              obtain ⟨h1, h2⟩ := hrv.cells hcell
              exact ⟨z.cells, t, by simp [execOp, ho, Instr.alloc, hz, hrun], h1, h2⟩
          case box t y =>
            have hx : okOf cx ops aops y x = true := by cases x <;> exact hc
            have hrv := ok_rv cr er _ _ hx
            obtain ⟨hrun, _, _⟩ := box_new (P := cx.P) (t := t) cr.step.rep hrv hcell
            obtain ⟨h1, h2⟩ := hrv.cells hcell
            exact ⟨(a.eval y).cells, t, by simp [execOp, ho, Instr.box, hrun], h1, h2⟩
          all_goals (cases x <;> simp [chkE] at hc)
        obtain ⟨xv, t, hrun, h1, h2⟩ := hrv
        rw [hrun]
        have hsz := cr.step.fr.size
        have hM : g.M w.heap.size = none := by
          cases hM : g.M w.heap.size with
          | none => rfl
          | some b =>
            obtain ⟨e, fz, hh⟩ := cr.step.rep.mem _ _ hM
            have := (Array.getElem?_eq_some_iff.1 hh).1
            omega
        have hL : ¬ Live g c.h w.heap.size := fun hl => by have := (cr.step.rep.live_lt hl).1; omega
        refine out.ok _ _ _ _ _ a.defers (.pointer (some ⟨w.heap.size, 0, none⟩)) g (w.alloc (.cells xv t (0, 0))) rfl (G.le_refl g) ?_ (fun h => by rw [hdst] at h; cases h)
        refine ⟨?_, ?_, ?_, cr.gl⟩
        · exact cr.step.priv hsz hM hL rfl rfl rfl (by simp) (fun i hi _ => heap_alloc_old w _ i hi)
        · simp only [Am.setSlot, hod, Act.put]
          exact SlR.fresh hn cr.sr cr.step.rep hsz hs hp hdt h1 h2
        · simp only [hod, Act.put]
          exact cr.df
    · cases hstep

/-- an address in a promoted variable -/
theorem pa_core (cr : CR cx c g a w) (er : ER cx ops aops env g a.tmps) {o : Oper} {ao : AOper} {s : Nat} {b : Option Nat} {k : Nat} {ix : Option (Opd × Nat × Nat)} (hop : ao.op = .pa s b k ix) (hchk : chkA cx ops aops o ao = true) {rec : Rec} {r : Am.SR}
    (hdef : defd c.slots s = true)
    (hstep : stepOp rec cx.gl ao env c.slots c.pn c.h = some r) {next : Act → World → Prop} {Q : Exit → Act → World → Prop} (out : Outc cx c o ao g a r next Q) :
    o.upon cx.P a next Q ((execOp a.eval o).run cx.P w) := by
  simp only [chkA, hop, Bool.and_eq_true] at hchk
  obtain ⟨hd, ⟨hdl, hp⟩, hc⟩ := hchk
  cases hdst : ao.dst <;> simp only [hdst, Bool.false_eq_true] at hdl
  case loc =>
    unfold dstOk at hd
    rw [hdst] at hd
    cases hod : o.dst with
    | none => simp [hod] at hd
    | some d =>
      simp only [hod, Bool.and_eq_true, decide_eq_true_eq, Bool.not_eq_true'] at hd
      obtain ⟨hdt, hds⟩ := hd
      have hds' : d ∉ cx.slots := by simpa using hds
      have fin : ∀ (m : Nat) t blk, r = .ok (.int .i64 m) none none none none → cx.slots[s]? = some t → a.tmps.getD t undef = .pointer (some ⟨blk, 0, none⟩) →
          (execOp a.eval o).run cx.P w = .ok (.value (.pointer (some ⟨blk, m, none⟩))) w → o.upon cx.P a next Q ((execOp a.eval o).run cx.P w) := by
        intro m t blk hr ht hb hrun
        rw [hrun]
        refine out.ok _ _ _ _ _ a.defers (.pointer (some ⟨blk, m, none⟩)) g w hr (G.le_refl g) ?_ (fun _ => ?_)
        · refine ⟨cr.step, ?_, ?_, cr.gl⟩
          · simp only [Am.setSlot, hod, Act.put]
            exact cr.sr.put hds' _
          · simp only [hod, Act.put]
            exact cr.df
        · simp only [LR, hop, hod, Act.put]
          refine .inr (.inr ⟨m, blk, t, rfl, rfl, ht, ?_⟩)
          rw [getD_put _ (fun (e : d = t) => hds' (by rw [e]; exact List.mem_of_getElem? ht))]
          exact hb
      obtain ⟨v, hv, hu⟩ := defd_spec hdef
      simp only [stepOp, hop] at hstep
      rw [if_pos hdef] at hstep
      split at hstep
      · rename_i n hn'
        split at hc
        · rename_i t x fi ho
          simp only [Bool.and_eq_true] at hc
          simp only [Option.some.injEq] at hstep
          obtain ⟨t', blk, h1, h2, h3, _⟩ := padr_run cr er hp hc.1 hn' hv hu
          have h5 := hc.2
          split at h5
          · rename_i ft hft
            obtain ⟨fs, fd, hu', hf, hoff, hty⟩ := fieldIs_run hft
            subst hoff hty
            cases hi : cx.P.info? fd.type with
            | none => simp [hi] at h5
            | some i =>
              simp only [hi, bne_iff_ne, ne_eq] at h5
              refine fin _ t' blk hstep.symm h1 h2 ?_
              simp [execOp, ho, h3, Instr.fieldAt, run_underlying hu', hf, Instr.sureAddr, fieldPlace, sizeOf, typeInfo, hi, h5, add_none]
          · cases h5
        · rename_i t x kk m ho
          simp only [Bool.and_eq_true] at hc
          simp only [Option.some.injEq] at hstep
          obtain ⟨t', blk, h1, h2, h3, _⟩ := padr_run cr er hp hc.1 hn' hv hu
          have h5 := hc.2
          split at h5
          · rename_i m' e hu'
            simp only [Bool.and_eq_true, decide_eq_true_eq] at h5
            obtain ⟨⟨h6, h7⟩, h8⟩ := h5
            cases hi : cx.P.info? e with
            | none => simp [hi] at h8
            | some i =>
              simp only [hi, beq_iff_eq] at h8
              subst h8
              refine fin _ t' blk hstep.symm h1 h2 ?_
              have hev : ∀ z, a.eval (.const z) = z := fun _ => rfl
              simp [execOp, ho, h3, hev, Instr.indexAt, asIntOf, run_underlying hu', Instr.sureAddr, h6, h7, sizeOf, typeInfo, hi, add_none]
          · cases h5
        · rename_i t x i i' m sz ho
          simp only [Bool.and_eq_true, beq_iff_eq] at hc
          obtain ⟨⟨⟨rfl, hx⟩, hi⟩, h5⟩ := hc
          obtain ⟨t', blk, h1, h2, h3, _⟩ := padr_run cr er hp hx hn' hv hu
          simp only at hstep
          split at hstep
          · rename_i kk j hj
            split at hstep
            · rename_i hcond
              obtain ⟨c1, c2, c3⟩ := hcond
              simp only [Option.some.injEq] at hstep
              have hiv := (hj ▸ ok_rv cr er _ _ hi).int_inv
              split at h5
              · rename_i m' e hu'
                simp only [Bool.and_eq_true, beq_iff_eq] at h5
                obtain ⟨rfl, h6⟩ := h5
                have hsz := sizeIs_map h6
                refine fin _ t' blk hstep.symm h1 h2 ?_
                simp [execOp, ho, h3, hiv, Instr.indexAt, asIntOf, run_underlying hu', Instr.sureAddr, c1, c2, run_sizeOf hsz, add_none]
              · cases h5
            · cases hstep
          · cases hstep
        · cases hc
      · cases hstep

/-- a promoted variable is read -/
theorem pl_core (hn : cx.slots.Nodup) (cr : CR cx c g a w) (er : ER cx ops aops env g a.tmps) {o : Oper} {ao : AOper} {s : Nat} {b : Option Nat} {size : Nat} {ag : Bool} (hop : ao.op = .pl s b size ag) (hchk : chkA cx ops aops o ao = true) {rec : Rec} {r : Am.SR}
    (hdef : defd c.slots s = true)
    (hstep : stepOp rec cx.gl ao env c.slots c.pn c.h = some r) {next : Act → World → Prop} {Q : Exit → Act → World → Prop} (out : Outc cx c o ao g a r next Q) :
    o.upon cx.P a next Q ((execOp a.eval o).run cx.P w) := by
  simp only [chkA, hop, Bool.and_eq_true] at hchk
  obtain ⟨hd, ⟨hnp, hp⟩, hc⟩ := hchk
  obtain ⟨v, hv, hu⟩ := defd_spec hdef
  simp only [stepOp, hop] at hstep
  rw [if_pos hdef] at hstep
  split at hstep
  · rename_i n hn'
    split at hstep
    · rename_i hle
      simp only [Option.map_eq_some_iff] at hstep
      obtain ⟨u, hmk, rfl⟩ := hstep
      have hgd : c.slots.getD s .undef = v := by simp [List.getD, hv]
      rw [hgd] at hle hmk
      split at hc
      · rename_i t x ho
        simp only [Bool.and_eq_true] at hc
        obtain ⟨t', blk, h1, h2, h3, hpr⟩ := padr_run cr er hp hc.1 hn' hv hu
        obtain ⟨_, _, _, _, arr, e, lo, hi, hh, _, hrv, _⟩ := hpr
        have hlen := hrv.length
        simp only [Array.length_toList] at hlen
        have ht := hc.2
        refine upon_good hn cr hd hnp (by simp [hop, AOp.isPa]) (r := .val u c.h) ?_ (.inl ⟨u, rfl, rfl⟩) out
        by_cases h0 : size = 0
        · subst h0
          have hag : ag = true := by
            cases ag with
            | true => rfl
            | false => have := mkV_one hmk rfl; simp at this
          subst hag
          simp [mkV] at hmk
          subst hmk
          exact .inl ⟨_, _, rfl, .agg #[], w, g, .inl (by simp [execOp, ho, Instr.loadAt, Instr.sureAddr, h3, run_loadVar_none ht]), .agg _ _ (by simpa using RVs.nil), Step.refl cr.step.rep⟩
        · obtain ⟨vv, hrun, hvv⟩ := run_loadVar_blk (P := cx.P) ht hh (off := n) (by omega) (fun ha => by subst ha; have := mkV_one hmk rfl; simp at this; omega)
          refine .inl ⟨_, _, rfl, vv, w, g, .inl (by simp [execOp, ho, Instr.loadAt, Instr.sureAddr, h3, hrun]), ?_, Step.refl cr.step.rep⟩
          refine mkV_rv ((hrv.drop n).take size) hmk vv ?_
          cases ag with
          | true => simpa using hvv
          | false =>
            simp only [Bool.false_eq_true, if_false] at hvv ⊢
            rw [List.getElem?_take_of_lt (by omega)]
            simpa using hvv
      · cases hc
    · cases hstep
  · cases hstep

theorem splice_one {v : V} {l : List V} (h : l.length = 1) : splice [v] 0 l = l := by
  unfold splice
  rw [h]
  simp

/-- a promoted variable is written -/
theorem pu_core (hn : cx.slots.Nodup) (cr : CR cx c g a w) (er : ER cx ops aops env g a.tmps) {o : Oper} {ao : AOper} {s : Nat} {b : Option Nat} {size : Nat} {y : Opd} (hop : ao.op = .pu s b size y) (hchk : chkA cx ops aops o ao = true) {rec : Rec} {r : Am.SR}
    (hdef : defd c.slots s = true)
    (hstep : stepOp rec cx.gl ao env c.slots c.pn c.h = some r) {next : Act → World → Prop} {Q : Exit → Act → World → Prop} (out : Outc cx c o ao g a r next Q) :
    o.upon cx.P a next Q ((execOp a.eval o).run cx.P w) := by
  simp only [chkA, hop, Bool.and_eq_true] at hchk
  obtain ⟨hd, ⟨hdn, hp⟩, hc⟩ := hchk
  cases hdst : ao.dst <;> simp only [hdst, Bool.false_eq_true] at hdn
  have hod : o.dst = none := by
    unfold dstOk at hd
    rw [hdst] at hd
    cases hod : o.dst with
    | none => rfl
    | some d => simp [hod] at hd
  obtain ⟨v, hv, hu⟩ := defd_spec hdef
  have hgd : c.slots.getD s .undef = v := by simp [List.getD, hv]
  simp only [stepOp, hop] at hstep
  rw [if_pos hdef] at hstep
  split at hstep
  · rename_i n hn'
    rw [hgd] at hstep
    split at hstep
    · rename_i hcond
      obtain ⟨hle, hsz, hcell, hag⟩ := hcond
      cases hstep
      split at hc
      · rename_i t x y' ho
        simp only [Bool.and_eq_true] at hc
        obtain ⟨⟨hx, hy⟩, ht⟩ := hc
        have ht := sizeIs_map ht
        obtain ⟨t', blk, h1, h2, h3, hpr⟩ := padr_run cr er hp hx hn' hv hu
        obtain ⟨p1, p2, p3, p4, arr, e, lo, hi, hh, hfz, hrv, hone⟩ := hpr
        have hlen := hrv.length
        simp only [Array.length_toList] at hlen
        have hyv := ok_rv cr er _ _ hy
        obtain ⟨hcs, hcone⟩ := hyv.cells hcell
        have hxl : (a.eval y').cells.size = size := by have := hcs.length; simp at this; omega
        have hst := run_storeCells_blk (P := cx.P) blk n e lo hi (a.eval y').cells.toList 0 arr w hh (by simp; omega) hfz hcone
        simp only [Nat.add_zero] at hst
        have hrun : (execOp a.eval o).run cx.P w = .ok .skip (w.setRow blk (arr.toList.take n ++ (a.eval y').cells.toList ++ arr.toList.drop (n + (a.eval y').cells.toList.length)).toArray) := by
          simp only [execOp, ho, Instr.storeAt, Instr.sureAddr, h3, storeVar, Sem.run_bind, Sem.run_pure, Result.andThen_ok, run_sizeOf ht, hxl, ne_eq, not_true_eq_false, if_false]
          rw [hst]
          rfl
        rw [hrun]
        have hL : w.heap.size ≤ (w.setRow blk (arr.toList.take n ++ (a.eval y').cells.toList ++ arr.toList.drop (n + (a.eval y').cells.toList.length)).toArray).heap.size := by
          simp [World.setRow]
        have hcr := hcs.length
        have hx2 : (a.eval y').cells.toList.length = size := by simpa using hxl
        have hnew : ∀ v', cellsV v' = splice (cellsV v) n (cellsV (ev cx.gl env c.slots y)) → SlR cx (c.slots.set s v') g c.h (w.setRow blk (arr.toList.take n ++ (a.eval y').cells.toList ++ arr.toList.drop (n + (a.eval y').cells.toList.length)).toArray) a.tmps := by
          intro v' hv'
          refine SlR.wrote hn cr.sr h1 hp hv hu h2 hh ?_ ?_ ?_
          · simp only [List.size_toArray, List.length_append, List.length_take, List.length_drop, Array.length_toList, hx2]
            omega
          · rw [hv']
            simp only [List.toList_toArray, splice]
            rw [hx2, ← hsz]
            exact ((hrv.take n).append hcs).append (hrv.drop _)
          · simp only [List.toList_toArray]
            intro u hu'
            rcases List.mem_append.1 hu' with hu' | hu'
            · rcases List.mem_append.1 hu' with hu' | hu'
              · exact hone u (List.mem_of_mem_take hu')
              · exact hcone u hu'
            · exact hone u (List.mem_of_mem_drop hu')
        refine out.ok _ _ _ _ _ a.defers undef g _ rfl (G.le_refl g) ?_ (fun h => by rw [hdst] at h; cases h)
        refine ⟨?_, ?_, ?_, cr.gl⟩
        · exact cr.step.priv p2 p3 p4 rfl rfl rfl hL (fun i _ hi => setRow_other w blk i _ hi)
        · simp only [Am.setSlot, hod, Act.put]
          refine hnew _ ?_
          cases v with
          | agg cs => simp [cellsV]
          | _ =>
            have hle' : n + size ≤ 1 := hle
            have hs1 : size = 1 := by simpa [Am.isAggV] using hag
            have hn0 : n = 0 := by omega
            subst hn0
            exact (splice_one (hsz.trans hs1)).symm
        · simp only [hod, Act.put]
          exact cr.df
      · cases hc
    · cases hstep
  · cases hstep
end
end Go.Am
/- One operation of a region: all kinds together. -/
set_option linter.unusedVariables false
set_option linter.unusedSimpArgs false
namespace Go.Am
section
variable {cx : Cx} {ops : Array Oper} {aops : List AOper} {env : List V} {c : Cfg} {g : G} {a : Act} {w : World}

theorem eval_const (a : Act) (z : Value) : a.eval (.const z) = z := rfl

theorem op_core (hn : cx.slots.Nodup) {rec : Rec} (hrec : CallOK cx.P cx.gl cx.gs rec.call) (cr : CR cx c g a w) (er : ER cx ops aops env g a.tmps) {o : Oper} {ao : AOper} (hchk : chkA cx ops aops o ao = true) (hnr : ao.op ≠ .rcv) {r : Am.SR}
    (hstep : stepOp rec cx.gl ao env c.slots c.pn c.h = some r) {next : Act → World → Prop} {Q : Exit → Act → World → Prop} (out : Outc cx c o ao g a r next Q) :
    o.upon cx.P a next Q ((execOp a.eval o).run cx.P w) := by
  have hρ := ok_rv cr er
  cases hop : ao.op with
  | p p =>
    have hchk' := hchk
    simp only [chkA, hop, Bool.and_eq_true] at hchk'
    simp only [stepOp, hop, Option.map_eq_some_iff] at hstep
    obtain ⟨v, hv, rfl⟩ := hstep
    have hp := pop_sound (P := cx.P) (o := o) cr.step.rep.memOk hρ (fun _ => rfl) hchk'.2.2 hv
    exact upon_good hn cr hchk'.1 hchk'.2.1 (by simp [hop, AOp.isPa]) (hp.op cr.step.rep) (.inl ⟨v, rfl, rfl⟩) out
  | pc fn as =>
    have hchk' := hchk
    simp only [chkA, hop, Bool.and_eq_true] at hchk'
    obtain ⟨hd, hnp, hc⟩ := hchk'
    simp only [stepOp, hop, Option.map_eq_some_iff] at hstep
    obtain ⟨rf, hv, rfl⟩ := hstep
    split at hc
    · rename_i x args ts ho
      simp only [Bool.and_eq_true] at hc
      refine upon_good hn cr hd hnp (by simp [hop, AOp.isPa]) (pcall_sound hrec cr.step.rep cr.gl hρ ho hc.1 hc.2 hv) ?_ out
      cases rf with
      | val v => exact .inl ⟨v, rfl, rfl⟩
      | pan v => exact .inr (.inl ⟨v, rfl, rfl⟩)
    · cases hc
  | l l =>
    have hchk' := hchk
    simp only [chkA, hop, Bool.and_eq_true] at hchk'
    obtain ⟨hd, hnp, hc⟩ := hchk'
    simp only [stepOp, hop, Option.map_eq_some_iff] at hstep
    obtain ⟨rf, hv, rfl⟩ := hstep
    refine upon_good hn cr hd hnp (by simp [hop, AOp.isPa]) (lop_sound hrec cr.step.rep cr.gl hρ hc hv) ?_ out
    cases rf with
    | val v => exact .inl ⟨v, rfl, rfl⟩
    | pan v => exact .inr (.inl ⟨v, rfl, rfl⟩)
  | e e =>
    have hchk' := hchk
    simp only [chkA, hop, Bool.and_eq_true] at hchk'
    obtain ⟨hd, hnp, hc⟩ := hchk'
    simp only [stepOp, hop, Option.map_eq_some_iff] at hstep
    obtain ⟨rf, hv, rfl⟩ := hstep
    refine upon_good hn cr hd hnp (by simp [hop, AOp.isPa]) (r := rf) ?_ (.inr (.inr rfl)) out
    cases hcall : e.isCall with
    | false =>
      obtain ⟨v, h', rfl, hg⟩ := eop_sound (P := cx.P) cr.step.rep hρ (fun _ => rfl) (fun _ => rfl) hcall hc hv
      exact .inl ⟨v, h', rfl, hg⟩
    | true =>
      cases e <;> simp only [EOp.isCall, Bool.false_eq_true] at hcall
      case call fn args fz =>
        cases ho : o.op <;> simp only [chkE, ho, Bool.false_eq_true] at hc
        case call cc =>
          obtain ⟨cl, args', ts⟩ := cc
          cases cl <;> first | (simp [chkE] at hc; done) | skip
          case value x =>
            simp only [chkE, Bool.and_eq_true] at hc
            exact call_sound hrec cr.step.rep cr.gl hρ ho hc.1 hc.2 hv
  | np x => exact np_core hn cr er hop hchk hstep out
  | pa s b k ix =>
    have hdef : defd c.slots s = true := by
      cases hd : defd c.slots s with
      | true => rfl
      | false => simp [stepOp, hop, hd] at hstep
    exact pa_core cr er hop hchk hdef hstep out
  | pl s b size ag =>
    have hdef : defd c.slots s = true := by
      cases hd : defd c.slots s with
      | true => rfl
      | false => simp [stepOp, hop, hd] at hstep
    exact pl_core hn cr er hop hchk hdef hstep out
  | pu s b size x =>
    have hdef : defd c.slots s = true := by
      cases hd : defd c.slots s with
      | true => rfl
      | false => simp [stepOp, hop, hd] at hstep
    exact pu_core hn cr er hop hchk hdef hstep out
  | pan x =>
    have hchk' := hchk
    simp only [chkA, hop, Bool.and_eq_true] at hchk'
    obtain ⟨hd, -, hc⟩ := hchk'
    simp only [stepOp, hop] at hstep
    split at hstep
    · rename_i t v hx
      cases hstep
      split at hc
      · rename_i y ho
        have hv := hρ _ _ hc
        rw [hx] at hv
        obtain ⟨x', hx', hv'⟩ := hv.iface_inv
        have hrun : (execOp a.eval o).run cx.P w = .halt (.panic (.iface t x')) w := by
          simp [execOp, ho, hx', Instr.panic]
        rw [hrun]
        exact out.pan _ _ _ g w rfl (G.le_refl g) (.iface _ _ _ hv') cr
      · cases hc
    · cases hstep
  | dfr fn as =>
    have hchk' := hchk
    simp only [chkA, hop, Bool.and_eq_true] at hchk'
    obtain ⟨hd, hdn, hc⟩ := hchk'
    simp only [stepOp, hop] at hstep
    split at hstep
    · rename_i nvs hcal
      cases hstep
      split at hc
      · rename_i x args ts ho
        simp only [Bool.and_eq_true] at hc
        obtain ⟨n, vs⟩ := nvs
        have hcal' := hcal
        unfold callee at hcal'
        split at hcal'
        · rename_i n' fi ca hf
          cases hcal'
          obtain ⟨fi', ca', hx, hfi, hca⟩ := (hf ▸ hρ _ _ hc.1).func_inv
          have hrun : (execOp a.eval o).run cx.P w = .ok (.defer { target := .fn (.func n) ca', args := fi' ++ args.map a.eval }) w := by
            simp [execOp, ho, resolve, hx, Deferred.ofValue]
          rw [hrun]
          cases hdst : ao.dst <;> simp only [hdst, Bool.false_eq_true] at hdn
          have hod : o.dst = none := by
            unfold dstOk at hd
            rw [hdst] at hd
            cases hod : o.dst with
            | none => rfl
            | some d => simp [hod] at hd
          refine out.ok _ _ _ _ _ ({ target := .fn (.func n) ca', args := fi' ++ args.map a.eval } :: a.defers) undef g w rfl (G.le_refl g) ?_ (fun h => by rw [hdst] at h; cases h)
          refine ⟨cr.step, ?_, ?_, cr.gl⟩
          · simp only [Am.setSlot, hod, Act.put]
            exact cr.sr
          · simp only [hod, Act.put]
            refine ⟨⟨n, _, .func n, ca', fi' ++ args.map a.eval ++ ca', hcal, rfl, ?_, fun w => by simp [invoke]⟩, cr.df⟩
            simp only [Array.toList_append, Array.toList_map]
            exact (hfi.append (okL_rvs hρ _ _ hc.2)).append hca
        · cases hcal'
      · cases hc
    · cases hstep
  | rcv => exact absurd hop hnr
end
end Go.Am
/- A region whose operations stand in a row. -/
set_option linter.unusedVariables false
set_option linter.unusedSimpArgs false
namespace Go.Am

def guardOk (ops : Array Oper) (aops : List AOper) (o : Oper) (ao : AOper) : Bool :=
  match o.guard, ao.guard with
  | none, none => true
  | some (i, b), some (i', b') => i == i' && b == b' && (locTmp ops aops i).isSome && !paOf aops i
  | _, _ => false

def oneTmp (ops : Array Oper) (aops : List AOper) (j : Nat) : Bool :=
  match locTmp ops aops j with
  | none => true
  | some d => (List.range ops.size).all fun i => i == j || (ops[i]?).bind (·.dst) != some d

def npOk (aops : List AOper) (i : Nat) : Bool :=
  match aops[i]? with
  | some ⟨.slot s, .np _, _⟩ => (List.range i).all fun j => match aops[j]? with
    | some ⟨_, .pa s' _ _ _, _⟩ => s' != s
    | _ => true
  | _ => true

def chkR (cx : Cx) (ops : Array Oper) (aops : List AOper) : Bool :=
  ops.size == aops.length && (List.range ops.size).all fun j => match ops[j]?, aops[j]? with
    | some o, some ao => chkA cx ops aops o ao && guardOk ops aops o ao && oneTmp ops aops j && npOk aops j
    | _, _ => false

section
variable {cx : Cx} {ops : Array Oper} {aops : List AOper} {env env' : List V} {c : Cfg} {g g' : G} {a : Act} {w : World}

theorem chkR_spec (h : chkR cx ops aops = true) {j : Nat} {o : Oper} (hj : ops[j]? = some o) : ∃ ao, aops[j]? = some ao ∧ chkA cx ops aops o ao = true ∧ guardOk ops aops o ao = true ∧ oneTmp ops aops j = true ∧ npOk aops j = true := by
  simp only [chkR, Bool.and_eq_true, List.all_eq_true, List.mem_range] at h
  have := h.2 j (Array.getElem?_eq_some_iff.1 hj).1
  rw [hj] at this
  cases ha : aops[j]? with
  | none => simp [ha] at this
  | some ao =>
    simp only [ha, Bool.and_eq_true] at this
    exact ⟨ao, rfl, this.1.1.1, this.1.1.2, this.1.2, this.2⟩

theorem chkR_op (h : chkR cx ops aops = true) {j : Nat} {ao : AOper} (hj : aops[j]? = some ao) : ∃ o, ops[j]? = some o := by
  simp only [chkR, Bool.and_eq_true, beq_iff_eq] at h
  have := (List.getElem?_eq_some_iff.1 hj).1
  exact ⟨_, Array.getElem?_eq_getElem (by omega)⟩

theorem chkA_dst {o : Oper} {ao : AOper} (h : chkA cx ops aops o ao = true) : dstOk cx ao o = true := by
  simp only [chkA, Bool.and_eq_true] at h
  exact h.1

theorem chkA_notProm {o : Oper} {ao : AOper} (h : chkA cx ops aops o ao = true) (hn : ∀ x, ao.op ≠ .np x) : notProm cx ao = true := by
  have h' := h
  simp only [chkA, Bool.and_eq_true] at h'
  have h2 := h'.2
  unfold notProm
  cases hop : ao.op <;> simp only [hop, Bool.and_eq_true] at h2
  case np x => exact absurd hop (hn x)
  case p => exact h2.1
  case pc => exact h2.1
  case l => exact h2.1
  case e => exact h2.1
  case rcv => exact h2.1
  case pl => exact h2.1.1
  case pa => cases hd : ao.dst <;> simp [hd] at h2 ⊢
  case pu => cases hd : ao.dst <;> simp [hd] at h2 ⊢
  case pan => cases hd : ao.dst <;> simp [hd] at h2 ⊢
  case dfr => cases hd : ao.dst <;> simp [hd] at h2 ⊢

theorem locTmp_spec {j d : Nat} (h : locTmp ops aops j = some d) : ∃ o ao, ops[j]? = some o ∧ aops[j]? = some ao ∧ ao.dst = .loc ∧ o.dst = some d := by
  unfold locTmp at h
  split at h
  · rename_i o ao h1 h2
    split at h
    · rename_i h3
      exact ⟨o, ao, h1, h2, h3, h⟩
    · cases h
  · cases h

/-- what is known of the region's values, behind one more -/
theorem ER.next (hn : cx.slots.Nodup) (hreg : chkR cx ops aops = true) (er : ER cx ops aops env g a.tmps) (hsz : a.tmps.size = cx.nt) {j : Nat} {o : Oper} {ao : AOper} (hj : ops[j]? = some o) (haj : aops[j]? = some ao) (hle : g.le g') {v : V} {x : Value} {d : List Deferred}
    (hv : ao.dst = .loc → LR cx (({ a with defers := d } : Act).put o.dst x).tmps g' ao v x) (henv : ∀ i u, env'[i]? = some u → (i = j ∧ u = v) ∨ (i ≠ j ∧ env[i]? = some u))
    (hnp : ∀ (s : Nat) (y : Opd) (i : Nat) (ai : AOper) (s' : Nat) (b : Option Nat) (k : Nat) (ix : Option (Opd × Nat × Nat)) (u : V), ao.dst = .slot s → ao.op = .np y → aops[i]? = some ai → ai.op = .pa s b k ix → env[i]? = some u → u = .undef) :
    ER cx ops aops env' g' (({ a with defers := d } : Act).put o.dst x).tmps := by
  obtain ⟨ao', h1, hchk, _, hone, _⟩ := chkR_spec hreg hj
  rw [haj] at h1
  cases h1
  have hd := chkA_dst hchk
  intro i u di ai hi hli hai
  obtain ⟨oi, ai', e1, e2, e3, e4⟩ := locTmp_spec hli
  rw [hai] at e2
  cases e2
  rcases henv i u hi with ⟨rfl, rfl⟩ | ⟨hne, hi'⟩
  · rw [haj] at hai; cases hai
    rw [hj] at e1; cases e1
    have := hv e3
    have hdt : di < cx.nt := by
      simp only [dstOk, e3, e4, Bool.and_eq_true, decide_eq_true_eq] at hd
      exact hd.1
    have hx : (({ a with defers := d } : Act).put o.dst x).tmps.getD di undef = x := by
      rw [e4]
      exact getD_put_same x (by rw [hsz]; exact hdt)
    rw [hx]
    exact this
  · have hold := er i u di ai hi' hli hai
    have hnd : o.dst ≠ some di := by
      intro e
      obtain ⟨ao2, h2, _, _, hone2, _⟩ := chkR_spec hreg e1
      simp only [oneTmp, hli, List.all_eq_true, List.mem_range] at hone2
      have := hone2 j (Array.getElem?_eq_some_iff.1 hj).1
      simp only [Bool.or_eq_true, beq_iff_eq, bne_iff_ne, ne_eq, hj, Option.bind_some] at this
      rcases this with h | h
      · exact hne h.symm
      · exact h e
    have hsame : ∀ t, o.dst ≠ some t → (({ a with defers := d } : Act).put o.dst x).tmps.getD t undef = a.tmps.getD t undef := by
      intro t ht
      cases hod : o.dst with
      | none => rfl
      | some d' =>
        simp only [Act.put]
        exact getD_put x (fun e => ht (by rw [hod, e]))
    rw [hsame di hnd]
    unfold LR at hold ⊢
    split
    · rename_i s b k ix hop
      simp only [hop] at hold
      rcases hold with h | h | ⟨n, blk, t, h1, h2, h3, h4⟩
      · exact .inl h
      · exact .inr (.inl h)
      · by_cases hdt : o.dst = some t
        · left
          cases hds : ao.dst with
          | no => simp [dstOk, hds, hdt] at hd
          | loc =>
            simp only [dstOk, hds, hdt, Bool.and_eq_true, Bool.not_eq_true'] at hd
            have : t ∉ cx.slots := by simpa using hd.2
            exact absurd (List.mem_of_getElem? h3) this
          | slot s' =>
            simp only [dstOk, hds, hdt, Bool.and_eq_true, beq_iff_eq] at hd
            have hss : s' = s := by
              by_cases hss : s' = s
              · exact hss
              · exact absurd rfl (nodup_ne hn hd.1 h3 hss)
            subst hss
            by_cases hx : ∃ y, ao.op = .np y
            · obtain ⟨y, hy⟩ := hx
              exact hnp s' y i ai s' b k ix u hds hy hai hop hi'
            · have hnpr := chkA_notProm hchk (fun y hy => hx ⟨y, hy⟩)
              simp only [notProm, hds, Bool.not_eq_true'] at hnpr
              obtain ⟨ao2, h6, hchk2, _⟩ := chkR_spec hreg e1
              rw [hai] at h6
              cases h6
              simp only [chkA, hop, Bool.and_eq_true] at hchk2
              rw [hnpr] at hchk2
              simp at hchk2
        · exact .inr (.inr ⟨n, blk, t, h1, h2, h3, by rw [hsame t hdt]; exact h4⟩)
    · rename_i hnot
      split at hold
      · rename_i s b k ix hop
        exact absurd hop (hnot _ _ _ _)
      · exact hold.mono hle

theorem wanted_sound (hreg : chkR cx ops aops = true) (er : ER cx ops aops env g a.tmps) (hsz : a.tmps.size = cx.nt) {o : Oper} {ao : AOper} (hg : guardOk ops aops o ao = true) {b : Bool} (hw : wanted env ao.guard = some b) : Region.wanted o (yielded ops a.tmps) = b := by
  unfold guardOk at hg
  split at hg
  · rename_i h1 h2
    simp only [wanted, h2, Option.some.injEq] at hw
    simp [Region.wanted, h1, ← hw]
  · rename_i i b' i' b'' h1 h2
    simp only [Bool.and_eq_true, beq_iff_eq, Bool.not_eq_true'] at hg
    obtain ⟨⟨⟨rfl, rfl⟩, h3⟩, h4⟩ := hg
    obtain ⟨d, hd⟩ := Option.isSome_iff_exists.1 h3
    obtain ⟨oi, ai, e1, e2, e3, e4⟩ := locTmp_spec hd
    simp only [paOf, e2] at h4
    have hdt : d < cx.nt := by
      obtain ⟨ao', h5, hchk, _⟩ := chkR_spec hreg e1
      rw [e2] at h5; cases h5
      have := chkA_dst hchk
      simp only [dstOk, e3, e4, Bool.and_eq_true, decide_eq_true_eq] at this
      exact this.1
    have hget : a.tmps[d]? = some (a.tmps.getD d undef) := by
      have : d < a.tmps.size := by rw [hsz]; exact hdt
      simp [this]
    have hrv : ∀ u, env[i]? = some u → RV g u (a.tmps.getD d undef) := by
      intro u hu
      have := er i u d ai hu hd e2
      unfold LR at this
      split at this
      · rename_i hop; simp [hop, AOp.isPa] at h4
      · exact this
    simp only [wanted, h2] at hw
    simp only [Region.wanted, h1, yielded, e1, Option.bind_some, e4, hget]
    split at hw
    · rename_i bb hb
      have := (hrv _ hb).bool_inv
      rw [this]
      simp only [Option.some.injEq] at hw
      rw [← hw]
      cases bb <;> cases b' <;> rfl
    · rename_i vs hb
      obtain ⟨cs', hx, _⟩ := (hrv _ hb).tup_inv
      rw [hx]
      simp only [Option.some.injEq] at hw
      rw [← hw]
      rfl
    · cases hw
  · cases hg

theorem wanted_guard {ao : AOper} (h : wanted env ao.guard = some false) : ao.guard.isNone = false := by
  cases hg : ao.guard with
  | none => simp [wanted, hg] at h
  | some x => rfl

/-- the state behind an operation that is not wanted -/
theorem CR.skip (hn : cx.slots.Nodup) (cr : CR cx c g a w) {o : Oper} {ao : AOper} (hchk : chkA cx ops aops o ao = true) (hw : wanted env ao.guard = some false) :
    CR cx { c with slots := setSlot c.slots ((slotOf ao.dst).map (·, .tup [])) } g (a.put o.dst undef) w := by
  have hnp : ∀ x, ao.op ≠ .np x := by
    intro x hx
    simp only [chkA, hx, Bool.and_eq_true] at hchk
    rw [wanted_guard hw] at hchk
    simp at hchk
  have := CR.value (x := undef) (v := .tup []) hn cr (chkA_dst hchk) (chkA_notProm hchk hnp) (Step.refl cr.step.rep) (.tup _ #[] .nil)
  exact this

theorem LR.skip {ao : AOper} {tm : Array Value} : LR cx tm g ao (.tup []) undef := by
  unfold LR
  split
  · exact .inr (.inl ⟨rfl, rfl⟩)
  · exact .tup _ #[] .nil

theorem stepOp_pn {rec : Rec} {ao : AOper} (h : ao.op ≠ .rcv) {v wr df pn hp} {slots : List V} {p : Option (Option V)} {hh : Heap} (hs : stepOp rec cx.gl ao env slots p hh = some (.ok v wr df pn hp)) : pn = none := by
  have hput : ∀ (d : Dst) (v : V) {v' wr df pn hp}, putSlot d v = .ok v' wr df pn hp → pn = none := by
    intro d v v' wr df pn hp h
    unfold putSlot at h
    split at h <;> cases h <;> rfl
  cases hop : ao.op <;> simp only [stepOp, hop] at hs
  case rcv => exact absurd hop h
  case p =>
    simp only [Option.map_eq_some_iff] at hs
    obtain ⟨_, _, hs⟩ := hs
    exact hput _ _ hs
  case pc =>
    simp only [Option.map_eq_some_iff] at hs
    obtain ⟨r, _, hs⟩ := hs
    cases r with
    | val v => exact hput _ _ hs
    | pan v => cases hs
  case l =>
    simp only [Option.map_eq_some_iff] at hs
    obtain ⟨r, _, hs⟩ := hs
    cases r with
    | val v => exact hput _ _ hs
    | pan v => cases hs
  case e =>
    simp only [Option.map_eq_some_iff] at hs
    obtain ⟨r, _, hs⟩ := hs
    cases r with
    | val v =>
      simp only [ofERef] at hs
      split at hs <;> cases hs <;> rfl
    | pan v => cases hs
  case np =>
    split at hs
    · split at hs
      · cases hs; rfl
      · cases hs
    · cases hs
  case pa =>
    split at hs
    · split at hs
      · split at hs
        · cases hs; rfl
        · split at hs
          · split at hs
            · cases hs; rfl
            · cases hs
          · cases hs
      · cases hs
    · cases hs
  case pl =>
    split at hs
    · split at hs
      · split at hs
        · simp only [Option.map_eq_some_iff] at hs
          obtain ⟨_, _, hs⟩ := hs
          exact hput _ _ hs
        · cases hs
      · cases hs
    · cases hs
  case pu =>
    split at hs
    · split at hs
      · split at hs
        · cases hs; rfl
        · cases hs
      · cases hs
    · cases hs
  case pan =>
    split at hs <;> cases hs
  case dfr =>
    split at hs
    · cases hs; rfl
    · cases hs

theorem CR.pn (cr : CR cx c g a w) (p : Option (Option V)) : CR cx { c with pn := p } g a w := ⟨cr.step, cr.sr, cr.df, cr.gl⟩

/-- what is to be shown behind a row of operations -/
def RowPost (cx : Cx) (ops : Array Oper) (aops : List AOper) (ro : ROut) (Q : Exit → Act → World → Prop) : Prop :=
  match ro with
  | .norm env c => ∀ g a w, CR cx c g a w → ER cx ops aops env g a.tmps → Q .normal a w
  | .pan _ v c => ∀ g a w x, CR cx c g a w → RV g v x → Q (.panic [{ v := x, recovered := false }]) a w

theorem append_get {env : List V} {v : V} {j : Nat} (hl : env.length = j) : ∀ i u, (env ++ [v])[i]? = some u → (i = j ∧ u = v) ∨ (i ≠ j ∧ env[i]? = some u) := by
  intro i u hi
  by_cases hlt : i < env.length
  · rw [List.getElem?_append_left hlt] at hi
    exact .inr ⟨by omega, hi⟩
  · rw [List.getElem?_append_right (by omega)] at hi
    have h0 : i - env.length < 1 := by
      have := (List.getElem?_eq_some_iff.1 hi).1
      simpa using this
    have : i - env.length = 0 := by omega
    rw [this] at hi
    exact .inl ⟨by omega, by simpa using hi.symm⟩

theorem np_row (hreg : chkR cx ops aops = true) {j : Nat} {o : Oper} {ao : AOper} (hj : ops[j]? = some o) (haj : aops[j]? = some ao) (hl : env.length = j) :
    ∀ (s : Nat) (y : Opd) (i : Nat) (ai : AOper) (s' : Nat) (b : Option Nat) (k : Nat) (ix : Option (Opd × Nat × Nat)) (u : V), ao.dst = .slot s → ao.op = .np y → aops[i]? = some ai → ai.op = .pa s b k ix → env[i]? = some u → u = V.undef := by
  intro s y i ai s' b k ix u h1 h2 h3 h4 h5
  have hi : i < j := by
    have := (List.getElem?_eq_some_iff.1 h5).1
    omega
  obtain ⟨ao', e1, _, _, _, hnp⟩ := chkR_spec hreg hj
  rw [haj] at e1
  cases e1
  obtain ⟨dst, op, gd⟩ := ao
  simp only at h1 h2
  subst h1 h2
  simp only [npOk, haj, List.all_eq_true, List.mem_range] at hnp
  have := hnp i hi
  obtain ⟨d2, o2, g2⟩ := ai
  simp only at h4
  subst h4
  simp [h3] at this

theorem row_sound (hn : cx.slots.Nodup) {rec : Rec} (hrec : CallOK cx.P cx.gl cx.gs rec.call) (hreg : chkR cx ops aops = true) {Q : Exit → Act → World → Prop} {ro : ROut} (hpost : RowPost cx ops aops ro Q) :
    ∀ (os : List AOper) (j : Nat) (env : List V) (c : Cfg) (g : G) (a : Act) (w : World), aops.drop j = os → env.length = j → c.pn = none → CR cx c g a w → ER cx ops aops env g a.tmps →
      runOps rec cx.gl os env c = some ro → wpOps cx.P ops Q (List.range' j (ops.size - j)) a w := by
  have hsize : ops.size = aops.length := by
    simp only [chkR, Bool.and_eq_true, beq_iff_eq] at hreg
    exact hreg.1
  intro os
  induction os with
  | nil =>
    intro j env c g a w hos hl hpn cr er hrun
    simp only [runOps, Option.some.injEq] at hrun
    subst hrun
    have hlen := congrArg List.length hos
    simp only [List.length_drop, List.length_nil] at hlen
    have : ops.size - j = 0 := by omega
    rw [this]
    simp only [List.range', wpOps]
    exact hpost g a w cr er
  | cons ao os ih =>
    intro j env c g a w hos hl hpn cr er hrun
    have hlen := congrArg List.length hos
    simp only [List.length_drop, List.length_cons] at hlen
    have hlt : j < aops.length := by omega
    have haj : aops[j]? = some ao := by
      have := congrArg (fun l => l[0]?) hos
      simpa [List.getElem?_drop] using this
    have hos' : aops.drop (j + 1) = os := by
      have := congrArg (List.drop 1) hos
      simpa [List.drop_drop] using this
    obtain ⟨o, hj⟩ := chkR_op hreg haj
    obtain ⟨ao', e1, hchk, hg, _, _⟩ := chkR_spec hreg hj
    rw [haj] at e1
    cases e1
    have hrange : List.range' j (ops.size - j) = j :: List.range' (j + 1) (ops.size - (j + 1)) := by
      have : ops.size - j = (ops.size - (j + 1)) + 1 := by omega
      rw [this]
      rfl
    rw [hrange]
    simp only [wpOps, hj]
    simp only [runOps] at hrun
    split at hrun
    · rename_i hw
      rw [wanted_sound hreg er cr.sr.size hg hw, if_pos rfl]
      left
      unfold Oper.wp
      cases hst : stepOp rec cx.gl ao env c.slots c.pn c.h with
      | none => simp [hst] at hrun
      | some r =>
        have hnr : ao.op ≠ .rcv := by
          intro h
          simp [stepOp, h, hpn] at hst
        refine op_core hn hrec cr er hchk hnr hst ⟨?_, ?_⟩
        · intro v wr df pn hp d x g' w' hr hle cr' hlr
          subst hr
          simp only [hst] at hrun
          have hp0 := stepOp_pn hnr hst
          subst hp0
          have er' := ER.next (env' := env ++ [v]) hn hreg er cr.sr.size hj haj hle hlr (append_get hl) (np_row hreg hj haj hl)
          refine ih (j + 1) (env ++ [v]) _ g' _ w' hos' (by simp [hl]) ?_ (cr'.pn _) er' hrun
          simp [hpn]
        · intro v hp x g' w' hr _ hv cr'
          subst hr
          simp only [hst, Option.some.injEq] at hrun
          subst hrun
          exact hpost g' a w' x cr' hv
    · rename_i hw
      rw [wanted_sound hreg er cr.sr.size hg hw]
      simp only [Bool.false_eq_true, if_false]
      have er' := ER.next (env' := env ++ [.tup []]) (x := undef) (d := a.defers) hn hreg er cr.sr.size hj haj (G.le_refl g) (fun _ => LR.skip) (append_get hl) (np_row hreg hj haj hl)
      exact ih (j + 1) (env ++ [.tup []]) { c with slots := setSlot c.slots ((slotOf ao.dst).map (·, .tup [])) } g _ w hos' (by simp [hl]) hpn (cr.skip hn hchk hw) er' hrun
    · cases hrun
end
end Go.Am
