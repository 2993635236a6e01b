/- A part of the law's proof: Ty. -/
import Derived.Test.YtcpcmkacjdbpaaaDoorCoreD
import Derived.Test.YtcpcmkacjdbpaaaDoorFn
set_option linter.unusedVariables false
set_option linter.unusedSimpArgs false
namespace Go.Proofs.Nst
open Go Go.Am
def is64 (n : Int) : Prop := -9223372036854775808 ≤ n ∧ n ≤ 9223372036854775807
def gl : Nat → List V
 | 0 => [.int .i64 0, .int .i64 1, .int .i64 2, .int .i64 3, .int .i64 4]
 | 1 => [.int .i64 0, .int .i64 0, .int .i64 2, .int .i64 2, .int .i64 1]
 | 2 => [.func (.func 128) [] [], .func (.func 129) [] [], .func (.func 130) [] [], .func (.func 131) [] [], .func (.func 132) [] []]
 | _ => []
theorem gl0 : gl 0 = [.int .i64 0, .int .i64 1, .int .i64 2, .int .i64 3, .int .i64 4] := rfl
theorem gl1 : gl 1 = [.int .i64 0, .int .i64 0, .int .i64 2, .int .i64 2, .int .i64 1] := rfl
theorem gl2 : gl 2 = [.func (.func 128) [] [], .func (.func 129) [] [], .func (.func 130) [] [], .func (.func 131) [] [], .func (.func 132) [] []] := rfl
abbrev PC (f : Nat) (args : List V) (v : V) : Prop := pcall (lim gl Trnx.aprog) (.func (.func f) [] []) args = some (.val v)
abbrev CC (f : Nat) (args : List V) (h : Heap) (r : R) (h' : Heap) : Prop := (lim gl Trnx.aprog).call f args h = some (r, h')
theorem pc_ofW {f : Nat} {args : List V} {v : V} (hp : pureL args = true) (hc : CallP gl Trnx.aprog f args [] (fun r h' => ∃ u, r = .ret u ∧ viewW 0 h' u = some v)) : PC f args v := by
 obtain ⟨r, h', e, u, rfl, hv⟩ := OptP.ex hc
 simp [PC, pcall, callee, hp, e, hv]
theorem pc_of {f : Nat} {args : List V} {v : V} (hp : pureL args = true) (hv : ∀ h, viewW 0 h v = some v) (hc : CallP gl Trnx.aprog f args [] (fun r h' => r = .ret v)) : PC f args v :=
 pc_ofW hp (CallP.mono hc fun r h' e => ⟨v, e, hv h'⟩)
theorem pc_pan {f : Nat} {args : List V} {v : V} (hp : pureL args = true) (hv : pureV v = true) (hc : CallP gl Trnx.aprog f args [] (fun r h' => r = .pan v)) : pcall (lim gl Trnx.aprog) (.func (.func f) [] []) args = some (.pan v) := by
 obtain ⟨r, h', e, rfl⟩ := OptP.ex hc
 simp [pcall, callee, hp, e, hv]
inductive Tr where
 | mk (k n : Int) (v : V) (l : List Tr)
 deriving Inhabited
namespace Tr
def k : Tr → Int | mk k _ _ _ => k
def n : Tr → Int | mk _ n _ _ => n
def v : Tr → V | mk _ _ v _ => v
def l : Tr → List Tr | mk _ _ _ l => l
def cs : Tr → List V | mk k n v _ => [.int .i64 k, .int .i64 n, v]
@[simp] theorem cs_length (t : Tr) : t.cs.length = 3 := by cases t; rfl
@[simp] theorem cs_take (t : Tr) : t.cs.take 3 = t.cs := by cases t; rfl
theorem cs_eq (t : Tr) : t.cs = [.int .i64 t.k, .int .i64 t.n, t.v] := by cases t; rfl
inductive Ok : Tr → Prop
 | mk (k n : Int) (v : V) (l : List Tr) (hk : is64 k) (hn : is64 n) (hv : SlV (l.map cs) v) (hl : ∀ x ∈ l, Ok x) : Ok (.mk k n v l)
theorem Ok.inv {k n : Int} {v : V} {l : List Tr} (h : Ok (.mk k n v l)) : is64 k ∧ is64 n ∧ SlV (l.map cs) v ∧ ∀ x ∈ l, Ok x := by
 cases h with
 | mk _ _ _ _ a b c d => exact ⟨a, b, c, d⟩
theorem ind {P : Tr → Prop} (h : ∀ k n v l, (∀ x ∈ l, P x) → P (.mk k n v l)) : ∀ t, P t
 | .mk k n v l => h k n v l fun x hx => ind h x
termination_by t => SizeOf.sizeOf t
decreasing_by
 have := List.sizeOf_lt_of_mem hx
 simp only [mk.sizeOf_spec]
 omega
mutual
def nodes : Tr → Nat
 | .mk _ _ _ l => 1 + nodesL l
def nodesL : List Tr → Nat
 | [] => 0
 | t :: ts => nodes t + nodesL ts
end
mutual
def levels : Tr → Nat
 | .mk _ _ _ l => levelsL l + 1
def levelsL : List Tr → Nat
 | [] => 0
 | t :: ts => max (levels t) (levelsL ts)
end
theorem nodes_pos (t : Tr) : 1 ≤ t.nodes := by cases t; simp only [nodes]; omega
theorem nodesL_append (a b : List Tr) : nodesL (a ++ b) = nodesL a + nodesL b := by
 induction a with
 | nil => simp [nodesL]
 | cons t ts ih => simp only [List.cons_append, nodesL, ih]; omega
theorem levelsL_append (a b : List Tr) : levelsL (a ++ b) = max (levelsL a) (levelsL b) := by
 induction a with
 | nil => simp [levelsL]
 | cons t ts ih => simp only [List.cons_append, levelsL, ih]; omega
theorem nodesL_take {l : List Tr} {i : Nat} (h : i < l.length) : nodesL (l.take (i + 1)) = nodesL (l.take i) + l[i].nodes := by
 rw [← List.take_append_getElem h, nodesL_append]; simp [nodesL]
theorem levelsL_take {l : List Tr} {i : Nat} (h : i < l.length) : levelsL (l.take (i + 1)) = max (levelsL (l.take i)) l[i].levels := by
 rw [← List.take_append_getElem h, levelsL_append]; simp [levelsL]
theorem nodesL_mem : ∀ {l : List Tr} {t : Tr}, t ∈ l → t.nodes ≤ nodesL l
 | u :: us, t, h => by
  simp only [nodesL]
  rcases List.mem_cons.1 h with rfl | h
  ·omega
  ·have := nodesL_mem h; omega
theorem levelsL_mem : ∀ {l : List Tr} {t : Tr}, t ∈ l → t.levels ≤ levelsL l
 | u :: us, t, h => by
  simp only [levelsL]
  rcases List.mem_cons.1 h with rfl | h
  ·omega
  ·have := levelsL_mem h; omega
theorem nodesL_length : ∀ l : List Tr, l.length ≤ nodesL l
 | [] => by simp [nodesL]
 | t :: ts => by have := nodesL_length ts; have := nodes_pos t; simp only [nodesL, List.length_cons]; omega
mutual
theorem levels_le_nodes : ∀ t : Tr, t.levels ≤ t.nodes
 | .mk _ _ _ l => by have := levelsL_le_nodesL l; simp only [levels, nodes]; omega
theorem levelsL_le_nodesL : ∀ l : List Tr, levelsL l ≤ nodesL l
 | [] => by simp [levelsL]
 | t :: ts => by have := levels_le_nodes t; have := levelsL_le_nodesL ts; simp only [levelsL, nodesL]; omega
end
theorem nodesL_take_le {l : List Tr} (i : Nat) : nodesL (l.take i) ≤ nodesL l := by
 have := nodesL_append (l.take i) (l.drop i)
 rw [List.take_append_drop] at this
 omega
end Tr
theorem idx_tr {l : List Tr} {v : V} (hv : SlV (l.map Tr.cs) v) {i : Nat} (hi : i < l.length) : idxV v i 3 = some (.pv l[i].cs) := by
 rw [hv.idx]
 simp [hi]
theorem len_tr {l : List Tr} {v : V} (hv : SlV (l.map Tr.cs) v) : lenV v = some (.int .i64 l.length) := by
 rw [hv.len]; simp
theorem pure_tr {t : Tr} (h : t.Ok) : pureL t.cs = true := by
 cases h with
 | mk k n v l _ _ hv _ => simp [Tr.cs, pureL, pureV, hv.pure]
end Go.Proofs.Nst
set_option linter.unusedVariables false
set_option linter.unusedSimpArgs false
namespace Go.Proofs.Nst
open Go Go.Am
inductive Ty where
 | unit | int
 | pair (a b : Ty) | sum (a b : Ty)
 | seq (a : Ty)
 deriving DecidableEq
namespace Ty
def own : Ty → Nat
 | .unit => 0 | .int => 1 | .pair a b => a.own + b.own | .sum a b => 1 + a.own + b.own | .seq _ => 2
def data : Ty → Nat
 | .unit => 0 | .int => 0 | .pair a b => a.data + b.data | .sum a b => a.data + b.data | .seq a => a.own + a.data
def size : Ty → Nat
 | .unit => 1 | .int => 1 | .pair a b => 1 + a.size + b.size | .sum a b => 1 + a.size + b.size | .seq a => 1 + a.size
def deep : Ty → Nat
 | .unit => 1 | .int => 1 | .pair a b => max a.deep b.deep + 1 | .sum a b => max a.deep b.deep + 1 | .seq a => a.deep + 1
def kind : Ty → Nat
 | .unit => 0 | .int => 1 | .pair _ _ => 2 | .sum _ _ => 3 | .seq _ => 4
theorem both_size : ∀ t : Ty, t.own + t.data ≤ 2 * t.size
 | .unit => by simp [own, data, size] | .int => by simp [own, data, size]
 | .pair a b => by have := both_size a; have := both_size b; simp only [own, data, size]; omega
 | .sum a b => by have := both_size a; have := both_size b; simp only [own, data, size]; omega
 | .seq a => by have := both_size a; simp only [own, data, size]; omega
theorem own_size (t : Ty) : t.own ≤ 2 * t.size := by have := both_size t; omega
end Ty
inductive IsTy : Tr → Ty → Prop
 | unit (v : V) : IsTy (.mk 0 0 v []) .unit
 | int (v : V) : IsTy (.mk 1 0 v []) .int
 | pair (v : V) (a b : Tr) (x y : Ty) (ha : IsTy a x) (hb : IsTy b y) : IsTy (.mk 2 0 v [a, b]) (.pair x y)
 | sum (v : V) (a b : Tr) (x y : Ty) (ha : IsTy a x) (hb : IsTy b y) : IsTy (.mk 3 0 v [a, b]) (.sum x y)
 | seq (v : V) (a : Tr) (x : Ty) (ha : IsTy a x) : IsTy (.mk 4 0 v [a]) (.seq x)
def partsK (k : Int) : Int := if k = 0 then 0 else if k = 1 then 0 else if k = 2 then 2 else if k = 3 then 2 else if k = 4 then 1 else -1
theorem lies_q (n a b : Int) : PC 85 [.int .i64 n, .int .i64 a, .int .i64 b] (.bool (decide (a ≤ n ∧ n ≤ b))) := by
 refine pc_of rfl (fun h => rfl) ?_
 refine call_ofQ (af := Trnx.a85) rfl rfl fun Q hQ => ?_
 simp only [Trnx.a85]
 by_cases h : a ≤ n
 ·simp [h, slotOf]
  refine hQ _ _ ?_
  simp [h]
 ·simp [h, slotOf]
  refine hQ _ _ ?_
  simp [h]
theorem nodes_q : ∀ t : Tr, t.Ok → t.nodes < 2 ^ 60 → PC 40 [.agg t.cs] (.int .i64 t.nodes) := by
 intro t
 induction t using Tr.ind with
 | h k n v l ih =>
 intro ho hn
 obtain ⟨_, _, hv, hl⟩ := ho.inv
 simp only [Tr.nodes] at hn
 have hlv := len_tr hv
 refine pc_of (by simp [pureL, pureV, pure_tr ho]) (fun h => rfl) ?_
 refine call_ofQ (af := Trnx.a40) rfl rfl fun Q hQ => ?_
 simp only [Trnx.a40]
 simp [Tr.cs, hv.cell]
 refine loop_nQ l.length (fun i c => c = ⟨[.agg [.int .i64 k, .int .i64 n, v], .agg [.int .i64 k, .int .i64 n, v], .int .i64 0, .int .i64 (1 + Tr.nodesL (l.take i) : Nat), .int .i64 i], [], none, none, []⟩) ?_ (by simp [Tr.nodesL])
 rintro I hI i c hi rfl
 have hlen := Tr.nodesL_length l
 by_cases hlt : i < l.length
 ·have hlt' : (i : Int) < l.length := by omega
  have hc := ih l[i] (List.getElem_mem hlt) (hl _ (List.getElem_mem hlt)) (by have := Tr.nodesL_mem (List.getElem_mem hlt); omega)
  have hi1 := idx_tr hv hlt
  have ht := Tr.nodesL_take hlt
  have hle := Tr.nodesL_take_le (l := l) (i + 1)
  have hw2 : IntKind.i64.wrap ((i : Int) + 1) = (i : Int) + 1 := wrap64 (by omega) (by omega)
  rw [PC] at hc
  generalize l[i] = x at *
  have hw : IntKind.i64.wrap (1 + (Tr.nodesL (l.take i) : Int) + (x.nodes : Int)) = 1 + (Tr.nodesL (l.take (i + 1)) : Int) := by rw [wrap64 (by omega) (by omega)]; omega
  simp [hv.cell, hlv, hlt', hi1, hc, hw, hw2, slotOf, -pcall]
  exact ⟨hlt, hI _ _ rfl⟩
 ·obtain rfl : i = l.length := by omega
  simp [hv.cell, hlv, slotOf]
  refine hQ _ _ ?_
  simp [Tr.nodes]
theorem levels_q : ∀ t : Tr, t.Ok → t.nodes < 2 ^ 60 → PC 41 [.agg t.cs] (.int .i64 t.levels) := by
 intro t
 induction t using Tr.ind with
 | h k n v l ih =>
 intro ho hn
 obtain ⟨_, _, hv, hl⟩ := ho.inv
 simp only [Tr.nodes] at hn
 have hlv := len_tr hv
 refine pc_of (by simp [pureL, pureV, pure_tr ho]) (fun h => rfl) ?_
 refine call_ofQ (af := Trnx.a41) rfl rfl fun Q hQ => ?_
 simp only [Trnx.a41]
 simp [Tr.cs, hv.cell]
 refine loop_nQ l.length (fun i c => c = ⟨[.agg [.int .i64 k, .int .i64 n, v], .agg [.int .i64 k, .int .i64 n, v], .int .i64 0, .int .i64 (Tr.levelsL (l.take i) : Nat), .int .i64 i], [], none, none, []⟩) ?_ (by simp [Tr.levelsL])
 rintro I hI i c hi rfl
 have hlen := Tr.nodesL_length l
 have hll := Tr.levelsL_le_nodesL l
 by_cases hlt : i < l.length
 ·have hlt' : (i : Int) < l.length := by omega
  have hc := ih l[i] (List.getElem_mem hlt) (hl _ (List.getElem_mem hlt)) (by have := Tr.nodesL_mem (List.getElem_mem hlt); omega)
  have hi1 := idx_tr hv hlt
  have ht := Tr.levelsL_take hlt
  have hw2 : IntKind.i64.wrap ((i : Int) + 1) = (i : Int) + 1 := wrap64 (by omega) (by omega)
  rw [PC] at hc
  generalize l[i] = x at *
  have e : (if Tr.levelsL (l.take i) < x.levels then (x.levels : Int) else (Tr.levelsL (l.take i) : Int)) = ((Tr.levelsL (l.take (i + 1)) : Nat) : Int) := by
   rw [ht]; split <;> omega
  simp [hv.cell, hlv, hlt', hi1, hc, e, hw2, slotOf, -pcall]
  exact ⟨hlt, hI _ _ rfl⟩
 ·obtain rfl : i = l.length := by omega
  have hw : IntKind.i64.wrap ((Tr.levelsL l : Int) + 1) = (Tr.levelsL l : Int) + 1 := wrap64 (by omega) (by omega)
  simp [hv.cell, hlv, hw, slotOf]
  refine hQ _ _ ?_
  simp [Tr.levels]
theorem parts_q (k : Int) : PC 97 [.int .i64 k] (.int .i64 (partsK k)) := by
 have hlies := lies_q k 0 4
 rw [PC] at hlies
 refine pc_of rfl (fun h => rfl) ?_
 refine call_ofQ (af := Trnx.a97) rfl rfl fun Q hQ => ?_
 simp only [Trnx.a97]
 by_cases h : 0 ≤ k ∧ k ≤ 4
 ·have hd : decide (0 ≤ k ∧ k ≤ 4) = true := by simp [h]
  rw [hd] at hlies
  have h5 : k = 0 ∨ k = 1 ∨ k = 2 ∨ k = 3 ∨ k = 4 := by omega
  rcases h5 with rfl | rfl | rfl | rfl | rfl <;>
  ·simp [hlies, fill, slotOf, idxV, chunks, -pcall]
   exact hQ _ _ rfl
 ·have hd : decide (0 ≤ k ∧ k ≤ 4) = false := by simp; omega
  rw [hd] at hlies
  simp [hlies, slotOf, -pcall]
  refine hQ _ _ ?_
  have e : partsK k = -1 := by unfold partsK; rw [if_neg (by omega), if_neg (by omega), if_neg (by omega), if_neg (by omega), if_neg (by omega)]
  rw [e]
theorem isTy_iff {k n : Int} {v : V} {l : List Tr} : (∃ τ, IsTy (.mk k n v l) τ) ↔ n = 0 ∧ (l.length : Int) = partsK k ∧ ∀ x ∈ l, ∃ τ, IsTy x τ := by
 constructor
 ·rintro ⟨τ, h⟩
  cases h with
  | unit => simp [partsK]
  | int => simp [partsK]
  | pair _ a b x y ha hb => exact ⟨rfl, by simp [partsK], by simp; exact ⟨⟨_, ha⟩, ⟨_, hb⟩⟩⟩
  | sum _ a b x y ha hb => exact ⟨rfl, by simp [partsK], by simp; exact ⟨⟨_, ha⟩, ⟨_, hb⟩⟩⟩
  | seq _ a x ha => exact ⟨rfl, by simp [partsK], by simp; exact ⟨_, ha⟩⟩
 ·rintro ⟨rfl, h2, h3⟩
  unfold partsK at h2
  split at h2
  ·subst_vars
   match l, h2 with
   | [], _ => exact ⟨_, .unit v⟩
  split at h2
  ·subst_vars
   match l, h2 with
   | [], _ => exact ⟨_, .int v⟩
  split at h2
  ·subst_vars
   match l, h2, h3 with
   | [a, b], _, h3 =>
    obtain ⟨x, hx⟩ := h3 a (by simp)
    obtain ⟨y, hy⟩ := h3 b (by simp)
    exact ⟨_, .pair v a b x y hx hy⟩
  split at h2
  ·subst_vars
   match l, h2, h3 with
   | [a, b], _, h3 =>
    obtain ⟨x, hx⟩ := h3 a (by simp)
    obtain ⟨y, hy⟩ := h3 b (by simp)
    exact ⟨_, .sum v a b x y hx hy⟩
  split at h2
  ·subst_vars
   match l, h2, h3 with
   | [a], _, h3 =>
    obtain ⟨x, hx⟩ := h3 a (by simp)
    exact ⟨_, .seq v a x hx⟩
  ·omega
theorem IsTy.nodes {t : Tr} {τ : Ty} (h : IsTy t τ) : t.nodes = τ.size := by
 induction h with
 | unit => rfl
 | int => rfl
 | pair v a b x y _ _ iha ihb => simp only [Tr.nodes, Tr.nodesL, Ty.size, iha, ihb]; omega
 | sum v a b x y _ _ iha ihb => simp only [Tr.nodes, Tr.nodesL, Ty.size, iha, ihb]; omega
 | seq v a x _ iha => simp only [Tr.nodes, Tr.nodesL, Ty.size, iha]; omega
theorem IsTy.levels {t : Tr} {τ : Ty} (h : IsTy t τ) : t.levels = τ.deep := by
 induction h with
 | unit => rfl
 | int => rfl
 | pair v a b x y _ _ iha ihb => simp only [Tr.levels, Tr.levelsL, Ty.deep, iha, ihb]; omega
 | sum v a b x y _ _ iha ihb => simp only [Tr.levels, Tr.levelsL, Ty.deep, iha, ihb]; omega
 | seq v a x _ iha => simp only [Tr.levels, Tr.levelsL, Ty.deep, iha]; omega
open Classical in
theorem isData_q : ∀ t : Tr, t.Ok → t.nodes < 2 ^ 60 → PC 80 [.agg t.cs] (.bool (decide (∃ τ, IsTy t τ))) := by
 intro t
 induction t using Tr.ind with
 | h k n v l ih =>
 intro ho hn
 obtain ⟨_, _, hv, hl⟩ := ho.inv
 simp only [Tr.nodes] at hn
 have hlv := len_tr hv
 have hp := parts_q k
 rw [PC] at hp
 have hlen := Tr.nodesL_length l
 refine pc_of (by simp [pureL, pureV, pure_tr ho]) (fun h => rfl) ?_
 refine call_ofQ (af := Trnx.a80) rfl rfl fun Q hQ => ?_
 simp only [Trnx.a80]
 by_cases h0 : n = 0
 case neg =>
  have hne : (n != 0) = true := by simpa using h0
  simp [Tr.cs, hv.cell, hne, slotOf]
  refine hQ _ _ ?_
  rw [decide_eq_false (fun h => h0 (isTy_iff.1 h).1)]
 subst h0
 by_cases h1 : (l.length : Int) = partsK k
 case neg =>
  have hne : ((l.length : Int) != partsK k) = true := by simpa using h1
  simp [Tr.cs, hv.cell, hne, hlv, hp, slotOf, -pcall]
  refine hQ _ _ ?_
  rw [decide_eq_false (fun h => h1 (isTy_iff.1 h).2.1)]
 have hne : ((l.length : Int) != partsK k) = false := by simpa using h1
 simp [Tr.cs, hv.cell, hne, hlv, hp, slotOf, -pcall]
 refine loop_nQ l.length (fun i c => (∀ x ∈ l.take i, ∃ τ, IsTy x τ) ∧ c = ⟨[.agg [.int .i64 k, .int .i64 0, v], .agg [.int .i64 k, .int .i64 0, v], .bool false, .int .i64 i], [], none, none, []⟩) ?_ (by simp)
 rintro I hI i c hi ⟨hty, rfl⟩
 by_cases hlt : i < l.length
 ·have hlt' : (i : Int) < l.length := by omega
  have hc := ih l[i] (List.getElem_mem hlt) (hl _ (List.getElem_mem hlt)) (by have := Tr.nodesL_mem (List.getElem_mem hlt); omega)
  have hi1 := idx_tr hv hlt
  have hw2 : IntKind.i64.wrap ((i : Int) + 1) = (i : Int) + 1 := wrap64 (by omega) (by omega)
  rw [PC] at hc
  by_cases hx : ∃ τ, IsTy l[i] τ
  ·rw [decide_eq_true hx] at hc
   simp [hv.cell, hlv, hlt', hi1, hc, hw2, slotOf, -pcall]
   refine ⟨hlt, hI _ _ ⟨?_, rfl⟩⟩
   rw [← List.take_append_getElem hlt]
   intro x hm
   rcases List.mem_append.1 hm with hm | hm
   ·exact hty x hm
   ·rw [List.mem_singleton.1 hm]; exact hx
  ·rw [decide_eq_false hx] at hc
   simp [hv.cell, hlv, hlt', hi1, hc, hw2, slotOf, -pcall]
   refine hQ _ _ ?_
   rw [decide_eq_false (fun h => hx ((isTy_iff.1 h).2.2 _ (List.getElem_mem hlt)))]
 ·obtain rfl : i = l.length := by omega
  simp [hv.cell, hlv, slotOf]
  refine hQ _ _ ?_
  rw [decide_eq_true (isTy_iff.2 ⟨rfl, h1, by simpa using hty⟩)]
open Classical in
noncomputable def tyErr (t : Tr) : Int := if 60 < t.nodes ∨ 12 < t.levels then 3 else if ∃ τ, IsTy t τ then 0 else 15
open Classical in
theorem isType_q (t : Tr) (ho : t.Ok) (hn : t.nodes < 2 ^ 60) : PC 39 [.agg t.cs] (.int .i64 (tyErr t)) := by
 have h1 := nodes_q t ho hn
 have h2 := levels_q t ho hn
 have h3 := isData_q t ho hn
 rw [PC] at h1 h2 h3
 refine pc_of (by simp [pureL, pureV, pure_tr ho]) (fun h => rfl) ?_
 refine call_ofQ (af := Trnx.a39) rfl rfl fun Q hQ => ?_
 simp only [Trnx.a39]
 have hcell : ∀ x ∈ t.cs, isCell x = true := by
  cases ho with
  | mk k n v l _ _ hv _ => simp [Tr.cs, hv.cell]
 have hall : t.cs.all isCell = true := by simpa using hcell
 unfold tyErr at hQ
 by_cases ha : 60 < t.nodes
 ·have ha' : (60 : Int) < t.nodes := by omega
  simp [hall, h1, ha', slotOf, -pcall, -List.all_eq_true]
  refine hQ _ _ ?_
  rw [if_pos (.inl ha)]
 ·have ha' : ¬ (60 : Int) < t.nodes := by omega
  by_cases hb : 12 < t.levels
  ·have hb' : (12 : Int) < t.levels := by omega
   simp [hall, h1, h2, ha', hb', slotOf, -pcall, -List.all_eq_true]
   refine hQ _ _ ?_
   rw [if_pos (.inr hb)]
  ·have hb' : ¬ (12 : Int) < t.levels := by omega
   by_cases hc : ∃ τ, IsTy t τ
   ·rw [decide_eq_true hc] at h3
    simp [hall, h1, h2, h3, ha', hb', slotOf, -pcall, -List.all_eq_true]
    refine hQ _ _ ?_
    rw [if_neg (by omega), if_pos hc]
   ·rw [decide_eq_false hc] at h3
    simp [hall, h1, h2, h3, ha', hb', slotOf, -pcall, -List.all_eq_true]
    refine hQ _ _ ?_
    rw [if_neg (by omega), if_neg hc]
end Go.Proofs.Nst
set_option linter.unusedVariables false
set_option linter.unusedSimpArgs false
namespace Go.Proofs.Nst
open Go Go.Am
theorem IsTy.unique {t : Tr} {x y : Ty} (h : IsTy t x) : IsTy t y → x = y := by
 induction h generalizing y with
 | unit => intro h; cases h; rfl
 | int => intro h; cases h; rfl
 | pair v a b x' y' _ _ iha ihb => intro h; cases h with | pair _ _ _ x2 y2 h1 h2 => rw [iha h1, ihb h2]
 | sum v a b x' y' _ _ iha ihb => intro h; cases h with | sum _ _ _ x2 y2 h1 h2 => rw [iha h1, ihb h2]
 | seq v a x' _ iha => intro h; cases h with | seq _ _ x2 h1 => rw [iha h1]
theorem cells_tr {t : Tr} (ho : t.Ok) : t.cs.all isCell = true := by
 cases ho with
 | mk k n v l _ _ hv _ => simp [Tr.cs, hv.cell]
theorem tyErr_ok {t : Tr} {τ : Ty} (h : IsTy t τ) (hs : τ.size ≤ 60) (hd : τ.deep ≤ 12) : tyErr t = 0 := by
 unfold tyErr
 rw [if_neg (by rw [h.nodes, h.levels]; omega), if_pos ⟨τ, h⟩]
theorem tyErr_zero {t : Tr} (h : tyErr t = 0) : ∃ τ, IsTy t τ ∧ τ.size ≤ 60 ∧ τ.deep ≤ 12 := by
 unfold tyErr at h
 split at h
 ·cases h
 ·rename_i h1
  split at h
  ·rename_i h2
   obtain ⟨τ, hτ⟩ := h2
   rw [hτ.nodes, hτ.levels] at h1
   exact ⟨τ, hτ, by omega, by omega⟩
  ·cases h
theorem tyErr_cases (t : Tr) : (∃ e : Int, (e = 3 ∨ e = 15) ∧ tyErr t = e) ∨ ∃ τ, IsTy t τ ∧ τ.size ≤ 60 ∧ τ.deep ≤ 12 ∧ tyErr t = 0 := by
 by_cases h : tyErr t = 0
 ·obtain ⟨τ, a, b, c⟩ := tyErr_zero h
  exact .inr ⟨τ, a, b, c, h⟩
 ·refine .inl ⟨tyErr t, ?_, rfl⟩
  unfold tyErr at h ⊢
  split
  ·exact .inl rfl
  ·rename_i h1
   rw [if_neg h1] at h
   split
   ·rename_i h2
    rw [if_pos h2] at h
    exact absurd rfl h
   ·exact .inr rfl
end Go.Proofs.Nst
