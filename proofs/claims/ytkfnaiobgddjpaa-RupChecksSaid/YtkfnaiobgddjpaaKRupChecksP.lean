import Derived.SizedLaws
import Derived.Deep.Slices
import Derived.WideShapes
import Derived.ChangeShapes
import Derived.ChangeMaps5
import Derived.Lib.SmallJoins
import Derived.ChangeSlices
import Derived.Test.YtkfnaiobgddjpaaKRupChecks1
import Derived.Test.YtkfnaiobgddjpaaKRupChecks9
import Derived.Test.YtkfnaiobgddjpaaKRupChecks6
import Derived.Test.YtkfnaiobgddjpaaKRupChecks4
import Derived.Test.YtkfnaiobgddjpaaKRupChecks3
import Derived.Test.YtkfnaiobgddjpaaKRupChecks2
import Derived.Test.YtkfnaiobgddjpaaKRupChecks8
namespace Go.Proofs.Ytkfnaiobgddjpaa.Pu
open Go.RowKit Go.Proofs.YtkfnaiobgddjpaaW.PrintWords Go.Proofs.YtkfnaiobgddjpaaW.PrintLast Go.Proofs.YtkfnaiobgddjpaaW.PrintMore

/-- With enough rounds the function tells v. -/
def Tells {α : Type} (g : Nat → Option α) (v : α) : Prop := ∃ k0, ∀ k, k0 ≤ k → g k = some v
theorem Tells.ex {α : Type} {g : Nat → Option α} {v : α} (h : Tells g v) : ∃ k, g k = some v := by
  obtain ⟨k0, h⟩ := h; exact ⟨k0, h k0 (Nat.le_refl _)⟩
theorem Tells.const {α : Type} (v : α) : Tells (fun _ => some v) v := ⟨0, fun _ _ => rfl⟩
theorem Tells.of_eq {α : Type} {g : Nat → Option α} {v : α} (h : ∀ k, g k = some v) : Tells g v := ⟨0, fun k _ => h k⟩
theorem Tells.congr {α : Type} {g h : Nat → Option α} {v : α} (e : ∀ k, g k = h k) (H : Tells h v) : Tells g v := by
  obtain ⟨k0, H⟩ := H; exact ⟨k0, fun k hk => (e k).trans (H k hk)⟩
theorem Tells.bind {α β : Type} {g : Nat → Option α} {v : α} {h : Nat → α → Option β} {u : β} (H : Tells g v) (K : Tells (fun k => h k v) u) :
    Tells (fun k => (g k).bind (h k)) u := by
  obtain ⟨k0, H⟩ := H; obtain ⟨k1, K⟩ := K
  refine ⟨k0 + k1, fun k hk => ?_⟩
  show (g k).bind (h k) = some u
  rw [H k (by omega)]; exact K k (by omega)
theorem Tells.succ {α : Type} {g h : Nat → Option α} {v : α} (e : ∀ k, g (k + 1) = h k) (H : Tells h v) : Tells g v := by
  obtain ⟨k0, H⟩ := H
  refine ⟨k0 + 1, fun k hk => ?_⟩
  obtain ⟨j, rfl⟩ : ∃ j, k = j + 1 := ⟨k - 1, by omega⟩
  exact (e j).trans (H j (by omega))
theorem Tells.mono {α : Type} {g : Nat → Option α} (hm : ∀ k, LeO (g k) (g (k + 1))) {k : Nat} {v : α} (h : g k = some v) : Tells g v :=
  ⟨k, fun _ hk => at_rounds hm hk h⟩
theorem Tells.pos {α : Type} {c : Prop} [Decidable c] {g h : Nat → Option α} {v : α} (hc : c) (H : Tells g v) : Tells (fun k => if c then g k else h k) v := by
  obtain ⟨k0, H⟩ := H; exact ⟨k0, fun k hk => (if_pos hc).trans (H k hk)⟩
theorem Tells.neg {α : Type} {c : Prop} [Decidable c] {g h : Nat → Option α} {v : α} (hc : ¬ c) (H : Tells h v) : Tells (fun k => if c then g k else h k) v := by
  obtain ⟨k0, H⟩ := H; exact ⟨k0, fun k hk => (if_neg hc).trans (H k hk)⟩

theorem w64 {n : Int} (h0 : -9223372036854775808 ≤ n) (h1 : n < 9223372036854775808) : wrap64 n = n := by unfold wrap64; omega
theorem w64s {i n : Nat} (h : i < n) (hn : n < 4611686018427387904) : wrap64 ((i : Int) + 1) = ((i + 1 : Nat) : Int) := by unfold wrap64; omega
theorem wf64 {n : Int} (h : (Lit.int .i64 n).wf = true) : -9223372036854775808 ≤ n ∧ n ≤ 9223372036854775807 := by
  simp only [Lit.wf, Bool.and_eq_true, decide_eq_true_eq] at h
  have a : IntKind.i64.min = -9223372036854775808 := by decide
  have b : IntKind.i64.max = 9223372036854775807 := by decide
  omega
theorem rdOf_nat {α : Type} (d : α) (xs : List α) (i : Nat) : rdOf d xs (i : Int) = xs.getD i d := by simp [rdOf]
theorem rdOf_at {α : Type} (d : α) (xs : List α) (i : Nat) (h : i < xs.length) : rdOf d xs (i : Int) = xs[i] := by simp [rdOf_nat, h]
end Go.Proofs.Ytkfnaiobgddjpaa.Pu

namespace Go.Proofs.Ytkfnaiobgddjpaa.Pu
open Go.RowKit Go.Proofs.Ytkfnaiobgddjpaa.P Go.Proofs.YtkfnaiobgddjpaaW.PrintWords Go.Proofs.YtkfnaiobgddjpaaW.PrintLast Go.Proofs.YtkfnaiobgddjpaaW.PrintMore

/-- Whole numbers of 64 bits. -/
def I64 (n : Int) : Prop := (Lit.int .i64 n).wf = true
theorem I64.lo {n : Int} (h : I64 n) : -9223372036854775808 ≤ n := (wf64 h).1
theorem I64.hi {n : Int} (h : I64 n) : n ≤ 9223372036854775807 := (wf64 h).2
/-- A literal that is true by values. -/
def litT (l : Int) (v : List Bool) : Bool := decide (l ≠ 0) && decide (l.natAbs ≤ v.length) && (v.getD (l.natAbs - 1) false == decide (l > 0))
def holds (c : List Int) (v : List Bool) : Bool := c.any fun l => litT l v
def every (c : List (List Int)) (v : List Bool) : Bool := c.all fun x => holds x v
def badLit (n l : Int) : Bool := decide (l = 0 ∨ l > n ∨ l < -n)
/-- The error of a clause. -/
def clauseErr (c : List Int) (n : Int) : Int := if c.length > 64 then 2 else if c.any (badLit n) then 1 else 0

theorem lit_is_eq (a : Int) : lit_is.f a = some (decide (a ≠ 0 ∧ a ≠ -9223372036854775808)) := by
  unfold lit_is.f
  by_cases h : a = 0
  · rw [if_pos h, decide_eq_false (by simp [h])]
  · rw [if_neg h]
    by_cases h2 : a = -9223372036854775808
    · rw [h2]; rfl
    · rw [decide_eq_true ⟨h, h2⟩]
      simpa using h2
theorem lit_variable_eq {a : Int} (h : I64 a) (hm : a ≠ -9223372036854775808) : lit_variable.f a = some ((a.natAbs : Nat) : Int) := by
  have := h.lo; have := h.hi
  unfold lit_variable.f mx wrap64
  split <;> (congr 1; omega)
theorem rd_at (xs : List Int) (i : Nat) (h : i < xs.length) : rd xs (i : Int) = xs[i] := by simp [rd, h]

theorem lit_Right_loop (c : List Int) (n : Int) (hc : ∀ l ∈ c, I64 l) (hn : I64 n) (hs : c.length < 4611686018427387904) : ∀ (m i : Nat), m + i = c.length →
    Tells (fun k => lit_Right.l0 k n c (c.length : Int) (i : Int)) (if (c.drop i).any (badLit n) then 1 else 0)
  | 0, i, h => by
    refine Tells.succ (fun k => by rw [lit_Right.l0]) (Tells.neg (by omega) ?_)
    rw [List.drop_of_length_le (by omega)]; exact Tells.const _
  | m + 1, i, h => by
    have hi : i < c.length := by omega
    have hl := hc _ (List.getElem_mem hi); have h1 := hl.lo; have h2 := hl.hi; have := hn.lo; have := hn.hi
    refine Tells.succ (fun k => by rw [lit_Right.l0]) (Tells.pos (by omega) (Tells.pos (by omega) (Tells.pos (by omega) ?_)))
    rw [rd_at _ _ hi, w64s hi hs, List.drop_eq_getElem_cons hi, List.any_cons, lit_is_eq]
    refine Tells.bind (Tells.const _) ?_
    by_cases hb : c[i] ≠ 0 ∧ c[i] ≠ -9223372036854775808
    · refine Tells.pos (decide_eq_true hb) ?_
      rw [lit_variable_eq hl hb.2]
      refine Tells.bind (Tells.const _) ?_
      by_cases hv : ((c[i].natAbs : Nat) : Int) > n
      · have e : badLit n c[i] = true := decide_eq_true (by omega)
        rw [e, Bool.true_or, if_pos rfl]
        exact Tells.pos hv (Tells.const _)
      · have e : badLit n c[i] = false := decide_eq_false (by omega)
        rw [e, Bool.false_or]
        exact Tells.neg hv (lit_Right_loop c n hc hn hs m (i + 1) (by omega))
    · have e : badLit n c[i] = true := decide_eq_true (by omega)
      rw [e, Bool.true_or, if_pos rfl]
      exact Tells.neg (by simpa using hb) (Tells.const _)
theorem lit_Right_tells (c : List Int) (n : Int) (hc : ∀ l ∈ c, I64 l) (hn : I64 n) (hs : c.length < 4611686018427387904) : Tells (fun k => lit_Right.f k c n) (clauseErr c n) := by
  unfold lit_Right.f clauseErr
  by_cases h : c.length > 64
  · rw [if_pos h]; exact Tells.pos (by omega) (Tells.const _)
  · rw [if_neg h]; exact Tells.neg (by omega) (lit_Right_loop c n hc hn hs c.length 0 rfl)

theorem lit_Count_loop (c : List Int) (v : List Bool) (hc : ∀ l ∈ c, I64 l) (hs : c.length < 4611686018427387904) (hv : v.length < 4611686018427387904) : ∀ (m i n : Nat), m + i = c.length → n ≤ i →
    Tells (fun k => lit_Count.l0 k v (n : Int) c (c.length : Int) (i : Int)) ((n + (c.drop i).countP (fun l => litT l v) : Nat) : Int)
  | 0, i, n, h, _ => by
    refine Tells.succ (fun k => by rw [lit_Count.l0]) (Tells.neg (by omega) ?_)
    rw [List.drop_of_length_le (by omega)]; exact Tells.const _
  | m + 1, i, n, h, hni => by
    have hi : i < c.length := by omega
    have hl := hc _ (List.getElem_mem hi); have h1 := hl.lo; have h2 := hl.hi
    refine Tells.succ (fun k => by rw [lit_Count.l0]) (Tells.pos (by omega) (Tells.pos (by omega) (Tells.pos (by omega) ?_)))
    rw [rd_at _ _ hi, w64s hi hs, w64s (by omega : n < c.length) hs, List.drop_eq_getElem_cons hi, List.countP_cons, lit_is_eq]
    refine Tells.bind (Tells.const _) ?_
    have no : litT c[i] v = false → Tells (fun k => lit_Count.l0 k v (n : Int) c (c.length : Int) ((i + 1 : Nat) : Int)) ((n + ((c.drop (i + 1)).countP (fun l => litT l v) + if litT c[i] v = true then 1 else 0) : Nat) : Int) := fun e => by
      rw [e, if_neg (by simp), Nat.add_zero]
      exact lit_Count_loop c v hc hs hv m (i + 1) n (by omega) (by omega)
    by_cases hb : c[i] ≠ 0 ∧ c[i] ≠ -9223372036854775808
    · refine Tells.pos (decide_eq_true hb) ?_
      rw [lit_variable_eq hl hb.2]
      refine Tells.bind (Tells.const _) ?_
      by_cases hx : ((c[i].natAbs : Nat) : Int) ≤ (v.length : Int)
      · have hw : wrap64 (((c[i].natAbs : Nat) : Int) - 1) = ((c[i].natAbs - 1 : Nat) : Int) := by unfold wrap64; omega
        have hlt : c[i].natAbs - 1 < v.length := by omega
        have e : litT c[i] v = (v[c[i].natAbs - 1] == decide (c[i] > 0)) := by
          unfold litT
          rw [decide_eq_true hb.1, decide_eq_true (by omega : c[i].natAbs ≤ v.length), List.getD_eq_getElem?_getD, List.getElem?_eq_getElem hlt]
          rfl
        refine Tells.pos hx ?_
        rw [hw]
        refine Tells.pos (by omega) (Tells.pos (by omega) ?_)
        rw [rdOf_at _ _ _ hlt]
        by_cases hq : (v[c[i].natAbs - 1] == decide (c[i] > 0)) = true
        · refine Tells.pos hq ?_
          rw [e, if_pos hq, show n + ((c.drop (i + 1)).countP (fun l => litT l v) + 1) = (n + 1) + (c.drop (i + 1)).countP (fun l => litT l v) by omega]
          exact lit_Count_loop c v hc hs hv m (i + 1) (n + 1) (by omega) (by omega)
        · refine Tells.neg hq (no ?_)
          rw [e]; simpa using hq
      · refine Tells.neg hx (no ?_)
        unfold litT
        rw [decide_eq_false (by omega : ¬ c[i].natAbs ≤ v.length)]
        simp
    · refine Tells.neg (by simpa using hb) (no ?_)
      unfold litT
      by_cases h0 : c[i] = 0
      · rw [h0]; rfl
      · rw [decide_eq_false (by omega : ¬ c[i].natAbs ≤ v.length)]
        simp
theorem lit_Count_tells (c : List Int) (v : List Bool) (hc : ∀ l ∈ c, I64 l) (hs : c.length < 4611686018427387904) (hv : v.length < 4611686018427387904) : Tells (fun k => lit_Count.f k c v) (((c.countP fun l => litT l v) : Nat) : Int) := by
  unfold lit_Count.f
  have := lit_Count_loop c v hc hs hv c.length 0 0 rfl (Nat.le_refl _)
  simpa using this
theorem lit_Holds_tells (c : List Int) (v : List Bool) (hc : ∀ l ∈ c, I64 l) (hs : c.length < 4611686018427387904) (hv : v.length < 4611686018427387904) : Tells (fun k => lit_Holds.f k c v) (holds c v) := by
  unfold lit_Holds.f
  refine Tells.bind (lit_Count_tells c v hc hs hv) ?_
  have e : decide ((((c.countP fun l => litT l v) : Nat) : Int) > 0) = holds c v := by
    unfold holds
    by_cases h : 0 < c.countP fun l => litT l v
    · rw [decide_eq_true (by omega)]
      obtain ⟨l, hl, hp⟩ := List.countP_pos_iff.1 h
      exact (List.any_eq_true.2 ⟨l, hl, hp⟩).symm
    · rw [decide_eq_false (by omega)]
      rw [eq_comm, List.any_eq_false]
      intro l hl hp
      exact h (List.countP_pos_iff.2 ⟨l, hl, hp⟩)
  rw [e]; exact Tells.const _
end Go.Proofs.Ytkfnaiobgddjpaa.Pu

namespace Go.Proofs.Ytkfnaiobgddjpaa.Pu
open Go.RowKit Go.Proofs.Ytkfnaiobgddjpaa.P Go.Proofs.YtkfnaiobgddjpaaW.PrintWords Go.Proofs.YtkfnaiobgddjpaaW.PrintLast Go.Proofs.YtkfnaiobgddjpaaW.PrintMore

/-- The first error of clauses. -/
def clausesErr (n : Int) : List (List Int) → Int
  | [] => 0
  | c :: l => if clauseErr c n = 0 then clausesErr n l else clauseErr c n
/-- The error of a set. -/
def setErr (n : Int) (l : List (List Int)) : Int := if n < 0 ∨ n > 1024 then 1 else if l.length > 4096 then 2 else clausesErr n l
/-- Rows of numbers as a reading has them. -/
def Rows64 (l : List (List Int)) : Prop := l.length < 4611686018427387904 ∧ ∀ c ∈ l, c.length < 4611686018427387904 ∧ ∀ x ∈ c, I64 x
theorem rdL_at (xs : List (List Int)) (i : Nat) (h : i < xs.length) : rd_L3 xs (i : Int) = xs[i] := by simp [rd_L3, h]

theorem cnf_Right_loop (l : List (List Int)) (n : Int) (hl : Rows64 l) (hn : I64 n) : ∀ (m i : Nat), m + i = l.length →
    ∃ x, Tells (fun k => cnf_Right.l0 k l (l.length : Int) (i : Int) n l) (x, clausesErr n (l.drop i))
  | 0, i, h => by
    refine ⟨0, Tells.succ (fun k => by rw [cnf_Right.l0]) (Tells.neg (by omega) ?_)⟩
    rw [List.drop_of_length_le (by omega)]; exact Tells.const _
  | m + 1, i, h => by
    have hi : i < l.length := by omega
    have hc := hl.2 _ (List.getElem_mem hi)
    have hR := lit_Right_tells l[i] n hc.2 hn hc.1
    rw [List.drop_eq_getElem_cons hi, clausesErr]
    by_cases hz : clauseErr l[i] n = 0
    · obtain ⟨x, hx⟩ := cnf_Right_loop l n hl hn m (i + 1) (by omega)
      refine ⟨x, Tells.succ (fun k => by rw [cnf_Right.l0]) (Tells.pos (by omega) (Tells.pos (by omega) (Tells.pos (by omega) ?_)))⟩
      rw [rdL_at _ _ hi, w64s hi hl.1]
      refine Tells.bind hR (Tells.pos hz ?_)
      rw [if_pos hz]; exact hx
    · refine ⟨(i : Int), Tells.succ (fun k => by rw [cnf_Right.l0]) (Tells.pos (by omega) (Tells.pos (by omega) (Tells.pos (by omega) ?_)))⟩
      rw [rdL_at _ _ hi]
      refine Tells.bind hR (Tells.neg hz ?_)
      rw [if_neg hz]; exact Tells.const _
theorem cnf_Right_tells (n : Int) (l : List (List Int)) (hl : Rows64 l) (hn : I64 n) : ∃ x, Tells (fun k => cnf_Right.f k n l) (x, setErr n l) := by
  unfold cnf_Right.f setErr
  have stop : ∀ n : Int, Tells (fun k => cnf_Right.j0 k true n l) (-1, 1) := fun n => Tells.succ (fun k => by rw [cnf_Right.j0]) (Tells.pos rfl (Tells.const _))
  by_cases h0 : n < 0
  · rw [if_pos (by omega)]
    exact ⟨_, Tells.pos h0 (stop n)⟩
  by_cases h1 : n > 1024
  · rw [if_pos (by omega)]
    refine ⟨-1, Tells.neg h0 ?_⟩
    rw [decide_eq_true h1]; exact stop n
  rw [if_neg (by omega)]
  by_cases h2 : l.length > 4096
  · rw [if_pos h2]
    refine ⟨-1, Tells.neg h0 ?_⟩
    rw [decide_eq_false h1]
    exact Tells.succ (fun k => by rw [cnf_Right.j0]) (Tells.neg (by decide) (Tells.pos (by omega) (Tells.const _)))
  · rw [if_neg h2]
    obtain ⟨x, hx⟩ : ∃ x, Tells (fun k => cnf_Right.l0 k l (l.length : Int) 0 n l) (x, clausesErr n l) := cnf_Right_loop l n hl hn l.length 0 rfl
    refine ⟨x, Tells.neg h0 ?_⟩
    rw [decide_eq_false h1]
    exact Tells.succ (fun k => by rw [cnf_Right.j0]) (Tells.neg (by decide) (Tells.neg (by omega) hx))

theorem cnf_Holds_loop (l : List (List Int)) (v : List Bool) (hl : Rows64 l) (hv : v.length < 4611686018427387904) : ∀ (m i : Nat), m + i = l.length →
    ∃ x, Tells (fun k => cnf_Holds.l0 k v l (l.length : Int) (i : Int)) (x, every (l.drop i) v)
  | 0, i, h => by
    refine ⟨0, Tells.succ (fun k => by rw [cnf_Holds.l0]) (Tells.neg (by omega) ?_)⟩
    rw [List.drop_of_length_le (by omega)]; exact Tells.const _
  | m + 1, i, h => by
    have hi : i < l.length := by omega
    have hc := hl.2 _ (List.getElem_mem hi)
    have hR := lit_Holds_tells l[i] v hc.2 hc.1 hv
    rw [List.drop_eq_getElem_cons hi, every, List.all_cons]
    by_cases hz : holds l[i] v = true
    · obtain ⟨x, hx⟩ := cnf_Holds_loop l v hl hv m (i + 1) (by omega)
      refine ⟨x, Tells.succ (fun k => by rw [cnf_Holds.l0]) (Tells.pos (by omega) (Tells.pos (by omega) (Tells.pos (by omega) ?_)))⟩
      rw [rdL_at _ _ hi, w64s hi hl.1]
      refine Tells.bind hR (Tells.pos hz ?_)
      rw [hz, Bool.true_and]; exact hx
    · refine ⟨(i : Int), Tells.succ (fun k => by rw [cnf_Holds.l0]) (Tells.pos (by omega) (Tells.pos (by omega) (Tells.pos (by omega) ?_)))⟩
      rw [rdL_at _ _ hi]
      refine Tells.bind hR (Tells.neg hz ?_)
      rw [Bool.eq_false_iff.2 hz, Bool.false_and]; exact Tells.const _
theorem cnf_Holds_tells (n : Int) (l : List (List Int)) (v : List Bool) (hl : Rows64 l) (hv : v.length < 4611686018427387904) : ∃ x, Tells (fun k => cnf_Holds.f k n l v) (x, every l v) :=
  cnf_Holds_loop l v hl hv l.length 0 rfl
end Go.Proofs.Ytkfnaiobgddjpaa.Pu

namespace Go.Proofs.Ytkfnaiobgddjpaa.Pu
open Go.RowKit Go.Proofs.Ytkfnaiobgddjpaa.P Go.Proofs.YtkfnaiobgddjpaaW.PrintWords Go.Proofs.YtkfnaiobgddjpaaW.PrintLast Go.Proofs.YtkfnaiobgddjpaaW.PrintMore

/-- A number that is a literal. -/
def isL (l : Int) : Bool := decide (l ≠ 0 ∧ l ≠ -9223372036854775808)
def hasL (c : List Int) (l : Int) : Bool := isL l && c.any fun x => x == l
def withinL (a b : List Int) : Bool := a.all fun x => !isL x || hasL b x
def sameL (a b : List Int) : Bool := withinL a b && withinL b a
theorem hasL_iff {c : List Int} {l : Int} : hasL c l = true ↔ isL l = true ∧ l ∈ c := by
  unfold hasL
  rw [Bool.and_eq_true, List.any_eq_true]
  refine ⟨fun h => ⟨h.1, ?_⟩, fun h => ⟨h.1, l, h.2, by simp⟩⟩
  obtain ⟨x, hx, e⟩ := h.2
  rw [← beq_iff_eq.1 e]; exact hx
theorem r17_is_eq (a : Int) : sequiturref17_is.f a = some (isL a) := by
  unfold sequiturref17_is.f isL
  by_cases h : a = 0
  · rw [if_pos h, decide_eq_false (by simp [h])]
  · rw [if_neg h]
    by_cases h2 : a = -9223372036854775808
    · rw [h2]; rfl
    · rw [decide_eq_true ⟨h, h2⟩]
      simpa using h2
theorem lit_is_isL (a : Int) : lit_is.f a = some (isL a) := lit_is_eq a
theorem r17_Of_eq {a : Int} (h : I64 a) (hm : isL a = true) : sequiturref17_Of.f a = some ((a.natAbs : Nat) : Int) := by
  have := h.lo; have := h.hi
  have hm := (of_decide_eq_true hm).2
  unfold sequiturref17_Of.f wrap64
  split <;> (congr 1; omega)

theorem r17_Has_loop (c : List Int) (x : Int) (hs : c.length < 4611686018427387904) : ∀ (m i : Nat), m + i = c.length →
    Tells (fun k => sequiturref17_Has.l0 k c x (i : Int)) (hasL (c.drop i) x)
  | 0, i, h => by
    refine Tells.succ (fun k => by rw [sequiturref17_Has.l0]) (Tells.neg (by omega) ?_)
    rw [List.drop_of_length_le (by omega), show hasL [] x = false by unfold hasL; simp]; exact Tells.const _
  | m + 1, i, h => by
    have hi : i < c.length := by omega
    have ih := r17_Has_loop c x hs m (i + 1) (by omega)
    refine Tells.succ (fun k => by rw [sequiturref17_Has.l0]) (Tells.pos (by omega) ?_)
    rw [rd_at _ _ hi, w64s hi hs, List.drop_eq_getElem_cons hi, r17_is_eq]
    refine Tells.bind (Tells.const _) ?_
    by_cases hx : isL x = true
    · refine Tells.pos hx (Tells.pos (by omega) ?_)
      by_cases he : c[i] = x
      · refine Tells.pos he ?_
        rw [show hasL (c[i] :: c.drop (i + 1)) x = true from hasL_iff.2 ⟨hx, by simp [he]⟩]
        exact Tells.const _
      · refine Tells.neg he ?_
        rw [show hasL (c[i] :: c.drop (i + 1)) x = hasL (c.drop (i + 1)) x by unfold hasL; rw [List.any_cons, beq_eq_false_iff_ne.2 he, Bool.false_or]]
        exact ih
    · refine Tells.neg hx ?_
      rw [show hasL (c[i] :: c.drop (i + 1)) x = hasL (c.drop (i + 1)) x by unfold hasL; rw [Bool.eq_false_iff.2 hx]; rfl]
      exact ih
theorem r17_Has_tells (c : List Int) (x : Int) (hs : c.length < 4611686018427387904) : Tells (fun k => sequiturref17_Has.f k c x) (hasL c x) := r17_Has_loop c x hs c.length 0 rfl

theorem Index_loop (c : List Int) (x : Int) (hs : c.length < 4611686018427387904) : ∀ (m i : Nat), m + i = c.length →
    ∃ r, Tells (fun k => slices_Index_int_int.l0 k c x (c.length : Int) (i : Int)) r ∧ decide (r ≥ 0) = (c.drop i).any fun y => y == x
  | 0, i, h => by
    refine ⟨-1, Tells.succ (fun k => by rw [slices_Index_int_int.l0]) (Tells.neg (by omega) (Tells.const _)), ?_⟩
    rw [List.drop_of_length_le (by omega)]; rfl
  | m + 1, i, h => by
    have hi : i < c.length := by omega
    rw [List.drop_eq_getElem_cons hi, List.any_cons]
    by_cases he : x = c[i]
    · refine ⟨(i : Int), Tells.succ (fun k => by rw [slices_Index_int_int.l0]) (Tells.pos (by omega) (Tells.pos (by omega) (Tells.pos (by omega) ?_))), ?_⟩
      · rw [rd_at _ _ hi]; exact Tells.pos he (Tells.const _)
      · rw [← he]; simp
    · obtain ⟨r, hr, hd⟩ := Index_loop c x hs m (i + 1) (by omega)
      refine ⟨r, Tells.succ (fun k => by rw [slices_Index_int_int.l0]) (Tells.pos (by omega) (Tells.pos (by omega) (Tells.pos (by omega) ?_))), ?_⟩
      · rw [rd_at _ _ hi, w64s hi hs]; exact Tells.neg he hr
      · rw [hd, show (c[i] == x) = false from beq_eq_false_iff_ne.2 (fun e => he e.symm), Bool.false_or]
theorem lit_Has_tells (c : List Int) (x : Int) (hs : c.length < 4611686018427387904) : Tells (fun k => lit_Has.f k c x) (hasL c x) := by
  unfold lit_Has.f hasL
  rw [lit_is_isL]
  refine Tells.bind (Tells.const _) ?_
  by_cases hx : isL x = true
  · obtain ⟨r, hr, hd⟩ := Index_loop c x hs c.length 0 rfl
    rw [hx, Bool.true_and]
    refine Tells.pos rfl (Tells.bind (v := c.any fun y => y == x) ?_ (Tells.const _))
    unfold slices_Contains_int_int.f
    refine Tells.bind (v := r) hr ?_
    rw [hd]; exact Tells.const _
  · rw [Bool.eq_false_iff.2 hx]
    exact Tells.neg (by decide) (Tells.const _)

theorem r17_Within_loop (a b : List Int) (ha : a.length < 4611686018427387904) (hb : b.length < 4611686018427387904) : ∀ (m i : Nat), m + i = a.length →
    Tells (fun k => sequiturref17_Within.l0 k a b (i : Int)) (withinL (a.drop i) b)
  | 0, i, h => by
    refine Tells.succ (fun k => by rw [sequiturref17_Within.l0]) (Tells.neg (by omega) ?_)
    rw [List.drop_of_length_le (by omega)]; exact Tells.const _
  | m + 1, i, h => by
    have hi : i < a.length := by omega
    have ih := r17_Within_loop a b ha hb m (i + 1) (by omega)
    refine Tells.succ (fun k => by rw [sequiturref17_Within.l0]) (Tells.pos (by omega) (Tells.pos (by omega) ?_))
    rw [rd_at _ _ hi, w64s hi ha, List.drop_eq_getElem_cons hi, withinL, List.all_cons, r17_is_eq]
    refine Tells.bind (Tells.const _) ?_
    by_cases hx : isL a[i] = true
    · refine Tells.pos hx (Tells.bind (r17_Has_tells b a[i] hb) ?_)
      by_cases hh : hasL b a[i] = true
      · refine Tells.pos hh ?_
        rw [hh, Bool.or_true, Bool.true_and]; exact ih
      · refine Tells.neg hh ?_
        rw [hx, Bool.eq_false_iff.2 hh]; exact Tells.const _
    · refine Tells.neg hx ?_
      rw [Bool.eq_false_iff.2 hx]; exact ih
theorem r17_Within_tells (a b : List Int) (ha : a.length < 4611686018427387904) (hb : b.length < 4611686018427387904) : Tells (fun k => sequiturref17_Within.f k a b) (withinL a b) := r17_Within_loop a b ha hb a.length 0 rfl
theorem r17_Same_tells (a b : List Int) (ha : a.length < 4611686018427387904) (hb : b.length < 4611686018427387904) : Tells (fun k => sequiturref17_Same.f k a b) (sameL a b) := by
  unfold sequiturref17_Same.f sameL
  refine Tells.bind (r17_Within_tells a b ha hb) ?_
  by_cases h : withinL a b = true
  · rw [h, Bool.true_and]
    exact Tells.pos rfl (Tells.bind (r17_Within_tells b a hb ha) (Tells.const _))
  · rw [Bool.eq_false_iff.2 h]
    exact Tells.neg (by decide) (Tells.const _)
theorem lit_Within_loop (a b : List Int) (ha : a.length < 4611686018427387904) (hb : b.length < 4611686018427387904) : ∀ (m i : Nat), m + i = a.length →
    Tells (fun k => lit_Within.l0 k b a (a.length : Int) (i : Int)) (withinL (a.drop i) b)
  | 0, i, h => by
    refine Tells.succ (fun k => by rw [lit_Within.l0]) (Tells.neg (by omega) ?_)
    rw [List.drop_of_length_le (by omega)]; exact Tells.const _
  | m + 1, i, h => by
    have hi : i < a.length := by omega
    have ih := lit_Within_loop a b ha hb m (i + 1) (by omega)
    refine Tells.succ (fun k => by rw [lit_Within.l0]) (Tells.pos (by omega) (Tells.pos (by omega) (Tells.pos (by omega) ?_)))
    rw [rd_at _ _ hi, w64s hi ha, List.drop_eq_getElem_cons hi, withinL, List.all_cons, lit_is_isL]
    refine Tells.bind (Tells.const _) ?_
    by_cases hx : isL a[i] = true
    · refine Tells.pos hx (Tells.bind (lit_Has_tells b a[i] hb) ?_)
      by_cases hh : hasL b a[i] = true
      · refine Tells.pos hh ?_
        rw [hh, Bool.or_true, Bool.true_and]; exact ih
      · refine Tells.neg hh ?_
        rw [hx, Bool.eq_false_iff.2 hh]; exact Tells.const _
    · refine Tells.neg hx ?_
      rw [Bool.eq_false_iff.2 hx]; exact ih
theorem lit_Within_tells (a b : List Int) (ha : a.length < 4611686018427387904) (hb : b.length < 4611686018427387904) : Tells (fun k => lit_Within.f k a b) (withinL a b) := lit_Within_loop a b ha hb a.length 0 rfl
theorem lit_Same_tells (a b : List Int) (ha : a.length < 4611686018427387904) (hb : b.length < 4611686018427387904) : Tells (fun k => lit_Same.f k a b) (sameL a b) := by
  unfold lit_Same.f sameL
  refine Tells.bind (lit_Within_tells a b ha hb) ?_
  by_cases h : withinL a b = true
  · rw [h, Bool.true_and]
    exact Tells.pos rfl (Tells.bind (lit_Within_tells b a hb ha) (Tells.const _))
  · rw [Bool.eq_false_iff.2 h]
    exact Tells.neg (by decide) (Tells.const _)

theorem r17_Right_loop (c : List Int) (n : Int) (hc : ∀ l ∈ c, I64 l) (hn : I64 n) (hs : c.length < 4611686018427387904) : ∀ (m i : Nat), m + i = c.length →
    Tells (fun k => sequiturref17_Right.l0 k c n (i : Int)) (if (c.drop i).any (badLit n) then 1 else 0)
  | 0, i, h => by
    refine Tells.succ (fun k => by rw [sequiturref17_Right.l0]) (Tells.neg (by omega) ?_)
    rw [List.drop_of_length_le (by omega)]; exact Tells.const _
  | m + 1, i, h => by
    have hi : i < c.length := by omega
    have hl := hc _ (List.getElem_mem hi); have h1 := hl.lo; have h2 := hl.hi; have := hn.lo; have := hn.hi
    refine Tells.succ (fun k => by rw [sequiturref17_Right.l0]) (Tells.pos (by omega) (Tells.pos (by omega) ?_))
    rw [rd_at _ _ hi, w64s hi hs, List.drop_eq_getElem_cons hi, List.any_cons, r17_is_eq]
    refine Tells.bind (Tells.const _) ?_
    by_cases hb : isL c[i] = true
    · have hb' := of_decide_eq_true hb
      refine Tells.pos hb ?_
      rw [r17_Of_eq hl hb]
      refine Tells.bind (Tells.const _) ?_
      by_cases hv : ((c[i].natAbs : Nat) : Int) > n
      · have e : badLit n c[i] = true := decide_eq_true (by omega)
        rw [e, Bool.true_or, if_pos rfl]
        exact Tells.pos hv (Tells.const _)
      · have e : badLit n c[i] = false := decide_eq_false (by omega)
        rw [e, Bool.false_or]
        exact Tells.neg hv (r17_Right_loop c n hc hn hs m (i + 1) (by omega))
    · have hb' : ¬ (c[i] ≠ 0 ∧ c[i] ≠ -9223372036854775808) := fun h => hb (decide_eq_true h)
      have e : badLit n c[i] = true := decide_eq_true (by omega)
      rw [e, Bool.true_or, if_pos rfl]
      exact Tells.neg hb (Tells.const _)
theorem r17_Right_tells (c : List Int) (n : Int) (hc : ∀ l ∈ c, I64 l) (hn : I64 n) (hs : c.length < 4611686018427387904) : Tells (fun k => sequiturref17_Right.f k c n) (clauseErr c n) := by
  unfold sequiturref17_Right.f clauseErr
  by_cases h : c.length > 64
  · rw [if_pos h]; exact Tells.pos (by omega) (Tells.const _)
  · rw [if_neg h]; exact Tells.neg (by omega) (r17_Right_loop c n hc hn hs c.length 0 rfl)

/-- Does one literal stand ahead of another one? -/
def aheadL (a b : Int) : Bool := decide (a.natAbs < b.natAbs) || (decide (a.natAbs = b.natAbs) && decide (a < b))
/-- A literal put in its place. -/
def insL (x : Int) (out : List Int) : List Int := out.takeWhile (fun y => aheadL y x) ++ x :: out.dropWhile (fun y => aheadL y x)
def cleanStep (out : List Int) (x : Int) : List Int := if isL x && !hasL out x then insL x out else out
def cleanL (c : List Int) : List Int := c.foldl cleanStep []
/-- Two literals are opposites. -/
def oppL (c : List Int) : Bool := c.any fun x => hasL c (-x)
theorem r17_ahead_eq {a b : Int} (ha : I64 a) (hb : I64 b) (la : isL a = true) (lb : isL b = true) : sequiturref17_ahead.f a b = some (aheadL a b) := by
  unfold sequiturref17_ahead.f aheadL
  rw [r17_Of_eq ha la, r17_Of_eq hb lb]
  show (if ((a.natAbs : Nat) : Int) < ((b.natAbs : Nat) : Int) then some true else if ((a.natAbs : Nat) : Int) = ((b.natAbs : Nat) : Int) then some (decide (a < b)) else some false) = _
  by_cases h : a.natAbs < b.natAbs
  · rw [if_pos (by omega), decide_eq_true h, Bool.true_or]
  · rw [if_neg (by omega), decide_eq_false h, Bool.false_or]
    by_cases h2 : a.natAbs = b.natAbs
    · rw [if_pos (by omega), decide_eq_true h2, Bool.true_and]
    · rw [if_neg (by omega), decide_eq_false h2, Bool.false_and]
theorem insL_mem {x y : Int} {out : List Int} : y ∈ insL x out ↔ y = x ∨ y ∈ out := by
  unfold insL
  rw [List.mem_append, List.mem_cons]
  constructor
  · rintro (h | h | h)
    · exact .inr (List.takeWhile_subset _ h)
    · exact .inl h
    · exact .inr (List.dropWhile_subset _ h)
  · rintro (h | h)
    · exact .inr (.inl h)
    · rw [← List.takeWhile_append_dropWhile (p := fun y => aheadL y x) (l := out), List.mem_append] at h
      rcases h with h | h
      · exact .inl h
      · exact .inr (.inr h)
theorem insL_length (x : Int) (out : List Int) : (insL x out).length = out.length + 1 := by
  have := congrArg List.length (List.takeWhile_append_dropWhile (p := fun y => aheadL y x) (l := out))
  unfold insL
  rw [List.length_append] at this ⊢
  rw [List.length_cons]; omega
theorem insL_nodup {x : Int} {out : List Int} (h : out.Nodup) (hx : ¬ x ∈ out) : (insL x out).Nodup := by
  have e := List.takeWhile_append_dropWhile (p := fun y => aheadL y x) (l := out)
  unfold insL
  rw [← e] at h hx
  rw [List.nodup_append] at h ⊢
  rw [List.mem_append] at hx
  refine ⟨h.1, List.nodup_cons.2 ⟨fun hh => hx (.inr hh), h.2.1⟩, fun a ha b hb => ?_⟩
  rcases List.mem_cons.1 hb with rfl | hb
  · exact fun e => hx (.inl (e ▸ ha))
  · exact h.2.2 a ha b hb
theorem cleanStep_mem {out : List Int} {x y : Int} : y ∈ cleanStep out x ↔ y ∈ out ∨ (y = x ∧ isL x = true) := by
  unfold cleanStep
  by_cases h : (isL x && !hasL out x) = true
  · rw [if_pos h, insL_mem]
    have := (Bool.and_eq_true _ _ ▸ h).1
    exact ⟨fun h => h.elim (fun e => .inr ⟨e, this⟩) .inl, fun h => h.elim .inr (fun e => .inl e.1)⟩
  · rw [if_neg h]
    refine ⟨.inl, fun h' => h'.elim id fun ⟨e, hl⟩ => ?_⟩
    have : hasL out x = true := by
      rw [hl, Bool.true_and] at h
      simpa using h
    rw [e]; exact (hasL_iff.1 this).2
theorem cleanFold_mem : ∀ (c out : List Int) {y : Int}, y ∈ c.foldl cleanStep out ↔ y ∈ out ∨ (y ∈ c ∧ isL y = true)
  | [], _, _ => by simp
  | _ :: t, _, y => by
    rw [List.foldl_cons, cleanFold_mem t, cleanStep_mem, List.mem_cons]
    constructor
    · rintro ((h | ⟨rfl, h⟩) | ⟨h, h'⟩)
      · exact .inl h
      · exact .inr ⟨.inl rfl, h⟩
      · exact .inr ⟨.inr h, h'⟩
    · rintro (h | ⟨rfl | h, h'⟩)
      · exact .inl (.inl h)
      · exact .inl (.inr ⟨rfl, h'⟩)
      · exact .inr ⟨h, h'⟩
theorem cleanL_mem {c : List Int} {y : Int} : y ∈ cleanL c ↔ y ∈ c ∧ isL y = true := by unfold cleanL; rw [cleanFold_mem]; simp
theorem cleanStep_nodup {out : List Int} {x : Int} (h : out.Nodup) : (cleanStep out x).Nodup := by
  unfold cleanStep
  by_cases hx : (isL x && !hasL out x) = true
  · rw [if_pos hx]
    refine insL_nodup h fun hm => ?_
    rw [Bool.and_eq_true] at hx
    have := hasL_iff.2 ⟨hx.1, hm⟩
    rw [this] at hx
    simp at hx
  · rw [if_neg hx]; exact h
theorem cleanFold_nodup : ∀ (c out : List Int), out.Nodup → (c.foldl cleanStep out).Nodup
  | [], _, h => h
  | _ :: t, _, h => cleanFold_nodup t _ (cleanStep_nodup h)
theorem cleanL_nodup (c : List Int) : (cleanL c).Nodup := cleanFold_nodup c [] List.nodup_nil
theorem cleanStep_length (out : List Int) (x : Int) : (cleanStep out x).length ≤ out.length + 1 := by
  unfold cleanStep
  split
  · rw [insL_length]; omega
  · omega

theorem r17_opp_loop (out : List Int) (ho : ∀ x ∈ out, I64 x ∧ isL x = true) (hs : out.length < 4611686018427387904) : ∀ (m i : Nat), m + i = out.length →
    Tells (fun k => sequiturref17_Clean.l2 k out (i : Int)) (out, !((out.drop i).any fun x => hasL out (-x)))
  | 0, i, h => by
    refine Tells.succ (fun k => by rw [sequiturref17_Clean.l2]) (Tells.neg (by omega) ?_)
    rw [List.drop_of_length_le (by omega)]; exact Tells.const _
  | m + 1, i, h => by
    have hi : i < out.length := by omega
    obtain ⟨h1, h2⟩ := ho _ (List.getElem_mem hi)
    have h3 := of_decide_eq_true h2
    have := h1.lo; have := h1.hi
    have hw : wrap64 (-out[i]) = -out[i] := w64 (by omega) (by omega)
    refine Tells.succ (fun k => by rw [sequiturref17_Clean.l2]) (Tells.pos (by omega) (Tells.pos (by omega) ?_))
    rw [rd_at _ _ hi, hw, w64s hi hs, List.drop_eq_getElem_cons hi, List.any_cons]
    refine Tells.bind (r17_Has_tells out (-out[i]) hs) ?_
    by_cases hh : hasL out (-out[i]) = true
    · rw [hh]; exact Tells.pos rfl (Tells.const _)
    · rw [Bool.eq_false_iff.2 hh, Bool.false_or]
      exact Tells.neg (by decide) (r17_opp_loop out ho hs m (i + 1) (by omega))
theorem r17_at (c out : List Int) (i : Nat) (hi : i < c.length) (hc : ∀ x ∈ c, I64 x) (ho : ∀ x ∈ out, I64 x ∧ isL x = true) (hl : isL c[i] = true) (hs : c.length < 17592186044000) (hos : out.length ≤ i) {v : List Int × Bool}
    (K : Tells (fun k => sequiturref17_Clean.l0 k c (insL c[i] out) ((i + 1 : Nat) : Int)) v) : ∀ (suf pre : List Int), out = pre ++ suf → (∀ y ∈ pre, aheadL y c[i] = true) →
      Tells (fun k => sequiturref17_Clean.l1 k c out (i : Int) ((pre.length : Nat) : Int)) v
  | [], pre, e, ha => by
    have e1 : out = pre := by rw [e, List.append_nil]
    have hins : insL c[i] out = (([] ++ pre) ++ [c[i]]) ++ [] := by
      unfold insL
      rw [e, List.takeWhile_append_of_pos ha, List.dropWhile_append_of_pos ha]
      simp
    refine Tells.succ (fun k => by rw [sequiturref17_Clean.l1]) (Tells.neg (by rw [e1]; omega) (Tells.pos (by omega) (Tells.pos (by rw [e1]; omega) ?_)))
    rw [Int.toNat_natCast, e1, List.take_length, List.drop_length, rd_at _ _ hi, w64s hi (by omega)]
    have hl1 : pre.length ≤ i := by rw [← e1]; exact hos
    refine Tells.bind (Tells.const _) (Tells.pos (by simp; omega) (Tells.bind (Tells.const _) (Tells.pos (by omega) (Tells.pos (by omega) (Tells.pos (by simp; omega) (Tells.bind (Tells.const _) (Tells.bind (Tells.const _) (Tells.pos (by simp; omega) ?_))))))))
    rw [hins] at K
    exact K
  | s :: suf, pre, e, ha => by
    have hlen : pre.length < out.length := by rw [e]; simp
    have hmem : s ∈ out := by rw [e]; simp
    have hget : rd out ((pre.length : Nat) : Int) = s := by rw [rd_at _ _ hlen]; simp [e]
    refine Tells.succ (fun k => by rw [sequiturref17_Clean.l1]) (Tells.pos (by omega) (Tells.pos (by omega) (Tells.pos (by omega) (Tells.pos (by omega) ?_))))
    rw [hget, rd_at _ _ hi, r17_ahead_eq (ho s hmem).1 (hc _ (List.getElem_mem hi)) (ho s hmem).2 hl]
    refine Tells.bind (Tells.const _) ?_
    by_cases h : aheadL s c[i] = true
    · refine Tells.pos h ?_
      have ih := r17_at c out i hi hc ho hl hs hos K suf (pre ++ [s]) (by rw [e]; simp) (fun y hy => by
        rcases List.mem_append.1 hy with hy | hy
        · exact ha y hy
        · rw [List.mem_singleton.1 hy]; exact h)
      rw [w64s (by omega : pre.length < c.length) (by omega)]
      rw [List.length_append, List.length_singleton] at ih
      exact ih
    · refine Tells.neg h (Tells.pos (by omega) ?_)
      have hins : insL c[i] out = (([] ++ pre) ++ [c[i]]) ++ (s :: suf) := by
        unfold insL
        rw [e, List.takeWhile_append_of_pos ha, List.dropWhile_append_of_pos ha, List.takeWhile_cons_of_neg (p := fun y => aheadL y c[i]) h, List.dropWhile_cons_of_neg (p := fun y => aheadL y c[i]) h]
        simp
      have hl2 : pre.length + (s :: suf).length ≤ i := by rw [← List.length_append, ← e]; exact hos
      rw [Int.toNat_natCast, show out.take pre.length = pre by rw [e]; exact List.take_left' rfl, show out.drop pre.length = s :: suf by rw [e]; exact List.drop_left' rfl, w64s hi (by omega)]
      refine Tells.bind (Tells.const _) (Tells.pos (by simp; omega) (Tells.bind (Tells.const _) (Tells.pos (by simp; omega) (Tells.bind (Tells.const _) (Tells.bind (Tells.const _) (Tells.pos (by simp at hl2 ⊢; omega) ?_))))))
      rw [hins] at K
      exact K
theorem r17_Clean_loop (c : List Int) (hc : ∀ x ∈ c, I64 x) (hs : c.length < 17592186044000) : ∀ (m i : Nat) (out : List Int), m + i = c.length → out.length ≤ i → (∀ x ∈ out, I64 x ∧ isL x = true) →
    Tells (fun k => sequiturref17_Clean.l0 k c out (i : Int)) ((c.drop i).foldl cleanStep out, !oppL ((c.drop i).foldl cleanStep out))
  | 0, i, out, h, hos, ho => by
    refine Tells.succ (fun k => by rw [sequiturref17_Clean.l0]) (Tells.neg (by omega) ?_)
    rw [List.drop_of_length_le (by omega)]
    exact r17_opp_loop out ho (by omega) out.length 0 rfl
  | m + 1, i, out, h, hos, ho => by
    have hi : i < c.length := by omega
    have hx := hc _ (List.getElem_mem hi)
    have hstep : ∀ x ∈ cleanStep out c[i], I64 x ∧ isL x = true := fun x hm => by
      rcases cleanStep_mem.1 hm with hm | ⟨rfl, hl⟩
      · exact ho x hm
      · exact ⟨hx, hl⟩
    have ih := r17_Clean_loop c hc hs m (i + 1) (cleanStep out c[i]) (by omega) (by have := cleanStep_length out c[i]; omega) hstep
    rw [List.drop_eq_getElem_cons hi, List.foldl_cons]
    refine Tells.succ (fun k => by rw [sequiturref17_Clean.l0]) (Tells.pos (by omega) (Tells.pos (by omega) ?_))
    rw [rd_at _ _ hi, r17_is_eq]
    refine Tells.bind (Tells.const _) ?_
    have hskip : cleanStep out c[i] = out → Tells (fun k => sequiturref17_Clean.j1 k c out (i : Int) true) ((c.drop (i + 1)).foldl cleanStep (cleanStep out c[i]), !oppL ((c.drop (i + 1)).foldl cleanStep (cleanStep out c[i]))) := fun e => by
      refine Tells.succ (fun k => by rw [sequiturref17_Clean.j1]) (Tells.pos rfl ?_)
      rw [w64s hi (by omega)]
      rw [e] at ih ⊢
      exact ih
    by_cases hl : isL c[i] = true
    · refine Tells.pos hl (Tells.bind (r17_Has_tells out c[i] (by omega)) ?_)
      by_cases hh : hasL out c[i] = true
      · rw [hh]
        exact hskip (by unfold cleanStep; rw [hh]; simp)
      · rw [Bool.eq_false_iff.2 hh]
        refine Tells.succ (fun k => by rw [sequiturref17_Clean.j1]) (Tells.neg (by decide) ?_)
        have e : cleanStep out c[i] = insL c[i] out := by unfold cleanStep; rw [hl, Bool.eq_false_iff.2 hh]; rfl
        rw [e] at ih ⊢
        exact r17_at c out i hi hc ho hl hs hos ih out [] rfl (fun y hy => by cases hy)
    · refine Tells.neg hl (hskip ?_)
      unfold cleanStep
      rw [Bool.eq_false_iff.2 hl]; rfl
theorem r17_Clean_tells (c : List Int) (hc : ∀ x ∈ c, I64 x) (hs : c.length < 17592186044000) : Tells (fun k => sequiturref17_Clean.f k c) (cleanL c, !oppL (cleanL c)) :=
  r17_Clean_loop c hc hs c.length 0 [] rfl (Nat.le_refl _) (fun x hx => by cases hx)
end Go.Proofs.Ytkfnaiobgddjpaa.Pu

namespace Go.Proofs.Ytkfnaiobgddjpaa.Pu
open Go.RowKit Go.Proofs.Ytkfnaiobgddjpaa.P Go.Proofs.YtkfnaiobgddjpaaW.PrintWords Go.Proofs.YtkfnaiobgddjpaaW.PrintLast Go.Proofs.YtkfnaiobgddjpaaW.PrintMore

/-- What follows by going on: the least that holds A's literals and each clause's last one. -/
inductive Der (cls : List (List Int)) (A : Int → Prop) : Int → Prop
  | base {l : Int} : A l → Der cls A l
  | step {c : List Int} {l : Int} : c ∈ cls → l ∈ c → (∀ k ∈ c, k ≠ l → Der cls A (-k)) → Der cls A l
/-- A clause comes to be broken. -/
def Brk (cls : List (List Int)) (A : Int → Prop) : Prop := ∃ c ∈ cls, ∀ x ∈ c, Der cls A (-x)
/-- Of a clause something is left: a true literal, or two that are not false. -/
def Left (T : Int → Prop) (c : List Int) : Prop := (∃ l ∈ c, T l) ∨ ∃ l ∈ c, ∃ k ∈ c, l ≠ k ∧ ¬ T (-l) ∧ ¬ T (-k)
theorem not_brk {cls : List (List Int)} {A T : Int → Prop} (hA : ∀ l, A l → T l) (hT : ∀ l, T l → ¬ T (-l)) (hL : ∀ c ∈ cls, Left T c) : ¬ Brk cls A := by
  have hD : ∀ l, Der cls A l → T l := by
    intro l h
    induction h with
    | base h => exact hA _ h
    | @step c l hc hl _ ih =>
      rcases hL c hc with ⟨k, hk, ht⟩ | ⟨k, hk, k', hk', hne, h1, h2⟩
      · by_cases e : k = l
        · exact e ▸ ht
        · exact absurd (ih k hk e) (hT k ht)
      · by_cases e : k = l
        · have e' : k' ≠ l := fun e' => hne (e.trans e'.symm)
          exact absurd (ih k' hk' e') h2
        · exact absurd (ih k hk e) h1
  rintro ⟨c, hc, hb⟩
  rcases hL c hc with ⟨k, hk, ht⟩ | ⟨k, hk, k', hk', hne, h1, h2⟩
  · exact hT k ht (hD _ (hb k hk))
  · exact h1 (hD _ (hb k hk))
/-- It is of the literals of clauses alone that it speaks. -/
theorem Der.mono {cls cls' : List (List Int)} {A A' : Int → Prop} (hc : ∀ c ∈ cls, ∃ c' ∈ cls', ∀ x, x ∈ c' ↔ x ∈ c) (hA : ∀ l, A l → A' l) {l : Int} (h : Der cls A l) : Der cls' A' l := by
  induction h with
  | base h => exact .base (hA _ h)
  | step h1 hl _ ih =>
    obtain ⟨c', h1', e⟩ := hc _ h1
    exact .step h1' ((e _).2 hl) (fun k hk hne => ih k ((e k).1 hk) hne)
theorem Brk.mono {cls cls' : List (List Int)} {A A' : Int → Prop} (hc : ∀ c ∈ cls, ∃ c' ∈ cls', ∀ x, x ∈ c' ↔ x ∈ c) (hA : ∀ l, A l → A' l) (h : Brk cls A) : Brk cls' A' := by
  obtain ⟨c, h1, h2⟩ := h
  obtain ⟨c', h1', e⟩ := hc c h1
  exact ⟨c', h1', fun x hx => (h2 x ((e x).1 hx)).mono hc hA⟩
/-- Two literals are opposites. -/
def Opp (cl : List Int) : Prop := ∃ x ∈ cl, -x ∈ cl
/-- The opposites of a clause's literals. -/
def Neg (cl : List Int) (l : Int) : Prop := -l ∈ cl
/-- A clause follows by going on. -/
def FollowsP (cls : List (List Int)) (cl : List Int) : Prop := Opp cl ∨ Brk cls (Neg cl)
/-- Literals of n variables. -/
def Lits (n : Int) (c : List Int) : Prop := ∀ x ∈ c, x ≠ 0 ∧ -n ≤ x ∧ x ≤ n
theorem Lits.isL {n : Int} {c : List Int} (h : Lits n c) (hn : n ≤ 1024) : ∀ x ∈ c, isL x = true := fun x hx => by
  have := h x hx
  exact decide_eq_true ⟨this.1, by omega⟩
theorem clauseErr_lits {c : List Int} {n : Int} (h : clauseErr c n = 0) : Lits n c ∧ c.length ≤ 64 := by
  unfold clauseErr at h
  split at h
  · cases h
  split at h
  · cases h
  · rename_i h1 hb
    refine ⟨fun x hx => ?_, by omega⟩
    have : ¬ badLit n x = true := fun e => hb (List.any_eq_true.2 ⟨x, hx, e⟩)
    have := of_decide_eq_false (Bool.eq_false_iff.2 this)
    omega
theorem lits_clauseErr {c : List Int} {n : Int} (h : Lits n c) (h1 : c.length ≤ 64) : clauseErr c n = 0 := by
  unfold clauseErr
  rw [if_neg (by omega), if_neg]
  intro e
  obtain ⟨x, hx, hb⟩ := List.any_eq_true.1 e
  have := of_decide_eq_true hb
  have := h x hx
  omega
theorem setErr_lits {n : Int} {l : List (List Int)} (h : setErr n l = 0) : (0 ≤ n ∧ n ≤ 1024) ∧ l.length ≤ 4096 ∧ ∀ c ∈ l, Lits n c ∧ c.length ≤ 64 := by
  unfold setErr at h
  split at h
  · cases h
  split at h
  · cases h
  · refine ⟨⟨by omega, by omega⟩, by omega, fun c hc => ?_⟩
    have hall : ∀ {l : List (List Int)}, clausesErr n l = 0 → ∀ c ∈ l, clauseErr c n = 0 := by
      intro l
      induction l with
      | nil => intro _ c hc; cases hc
      | cons x l ih =>
        intro h c hc
        unfold clausesErr at h
        split at h
        · rename_i hx
          rcases List.mem_cons.1 hc with rfl | hc
          · exact hx
          · exact ih h c hc
        · rename_i hx; exact absurd h hx
    exact clauseErr_lits (hall h c hc)
theorem clausesErr_of {n : Int} : ∀ {l : List (List Int)}, (∀ c ∈ l, clauseErr c n = 0) → clausesErr n l = 0
  | [], _ => rfl
  | x :: l, h => by
    unfold clausesErr
    rw [if_pos (h x (by simp))]
    exact clausesErr_of (fun c hc => h c (by simp [hc]))
end Go.Proofs.Ytkfnaiobgddjpaa.Pu

namespace Go.Proofs.Ytkfnaiobgddjpaa.Pu
open Go.RowKit Go.Proofs.Ytkfnaiobgddjpaa.P Go.Proofs.YtkfnaiobgddjpaaW.PrintWords Go.Proofs.YtkfnaiobgddjpaaW.PrintLast Go.Proofs.YtkfnaiobgddjpaaW.PrintMore

/-- What the values make true. -/
def tv (V : List Int) (l : Int) : Prop := (0 < l ∧ rdOf 0 V l = 1) ∨ (l < 0 ∧ rdOf 0 V (-l) = -1)
/-- Values: 0, 1, -1. -/
def Val (n : Int) (V : List Int) : Prop := (V.length : Int) = n + 1 ∧ ∀ x ∈ V, x = 0 ∨ x = 1 ∨ x = -1
theorem tv_not {V : List Int} {l : Int} (h : tv V l) : ¬ tv V (-l) := by
  rintro (⟨h1, h2⟩ | ⟨h1, h2⟩) <;> rcases h with ⟨h3, h4⟩ | ⟨h3, h4⟩
  · omega
  · rw [h4] at h2; omega
  · rw [Int.neg_neg] at h2; rw [h4] at h2; omega
  · omega
theorem rd_mem {V : List Int} {i : Int} (h0 : 0 ≤ i) (h : i < V.length) : rdOf 0 V i ∈ V := by
  obtain ⟨j, rfl⟩ : ∃ j : Nat, i = (j : Int) := ⟨i.toNat, by omega⟩
  rw [rdOf_at _ _ _ (by omega)]
  exact List.getElem_mem _
/-- A literal's value: none, true or false. -/
theorem tv_cases {n : Int} {V : List Int} (hV : Val n V) {l : Int} (h0 : l ≠ 0) (h1 : -n ≤ l) (h2 : l ≤ n) :
    (rdOf 0 V (ab l) = 0 ∧ ¬ tv V l ∧ ¬ tv V (-l)) ∨ (rdOf 0 V (ab l) ≠ 0 ∧ (decide (rdOf 0 V (ab l) > 0) == decide (l > 0)) = true ∧ tv V l) ∨ (rdOf 0 V (ab l) ≠ 0 ∧ ¬ (decide (rdOf 0 V (ab l) > 0) == decide (l > 0)) = true ∧ tv V (-l)) := by
  have hl := hV.1
  by_cases hs : 0 < l
  · have e : ab l = l := by unfold ab; rw [if_neg (by omega)]
    have hm := hV.2 _ (rd_mem (by omega) (by omega) : rdOf 0 V l ∈ V)
    rw [e]
    rcases hm with hm | hm | hm
    · refine .inl ⟨hm, ?_, ?_⟩
      · rintro (⟨_, h⟩ | ⟨h, _⟩) <;> omega
      · rintro (⟨h, _⟩ | ⟨_, h⟩)
        · omega
        · rw [Int.neg_neg] at h; omega
    · refine .inr (.inl ⟨by omega, ?_, .inl ⟨hs, hm⟩⟩)
      rw [decide_eq_true (by omega), decide_eq_true (by omega)]; rfl
    · refine .inr (.inr ⟨by omega, ?_, .inr ⟨by omega, by rw [Int.neg_neg]; exact hm⟩⟩)
      rw [decide_eq_false (by omega : ¬ rdOf 0 V l > 0), decide_eq_true (by omega : l > 0)]; decide
  · have e : ab l = -l := by unfold ab; rw [if_pos (by omega)]
    have hm := hV.2 _ (rd_mem (by omega) (by omega) : rdOf 0 V (-l) ∈ V)
    rw [e]
    rcases hm with hm | hm | hm
    · refine .inl ⟨hm, ?_, ?_⟩
      · rintro (⟨h, _⟩ | ⟨_, h⟩) <;> omega
      · rintro (⟨_, h⟩ | ⟨h, _⟩) <;> omega
    · refine .inr (.inr ⟨by omega, ?_, .inl ⟨by omega, hm⟩⟩)
      rw [decide_eq_true (by omega : rdOf 0 V (-l) > 0), decide_eq_false (by omega : ¬ l > 0)]; decide
    · refine .inr (.inl ⟨by omega, ?_, .inr ⟨by omega, hm⟩⟩)
      rw [decide_eq_false (by omega : ¬ rdOf 0 V (-l) > 0), decide_eq_false (by omega : ¬ l > 0)]; rfl
/-- What a clause's part that was looked at leaves. -/
def Seen (V : List Int) (p : List Int) (o m : Int) : Prop :=
  (m = 0 ∧ o = 0 ∧ ∀ x ∈ p, tv V (-x)) ∨ (m = 1 ∧ o ∈ p ∧ rdOf 0 V (ab o) = 0 ∧ ¬ tv V (-o) ∧ ∀ x ∈ p, x ≠ o → tv V (-x))
theorem scan_spec {n : Int} {V : List Int} (hV : Val n V) : ∀ (t p : List Int) (o m : Int), Lits n (p ++ t) → Seen V p o m →
    Seen V (p ++ t) (scan V t o m).1 (scan V t o m).2 ∨ ((scan V t o m).2 ≠ 0 ∧ (scan V t o m).2 ≠ 1 ∧ Left (tv V) (p ++ t))
  | [], p, o, m, _, hs => by rw [List.append_nil]; exact .inl hs
  | l :: t, p, o, m, hl, hs => by
    have hm : l ∈ p ++ l :: t := by simp
    have hx := hl l hm
    have ih := scan_spec hV t (p ++ [l])
    rw [List.append_assoc, List.singleton_append] at ih
    unfold scan
    rcases tv_cases hV hx.1 hx.2.1 hx.2.2 with ⟨h1, h2, h3⟩ | ⟨h1, h2, h3⟩ | ⟨h1, h2, h3⟩
    · rw [if_pos h1]
      by_cases e : l = o
      · rw [if_pos e]
        refine ih o m hl ?_
        rcases hs with ⟨_, h, _⟩ | ⟨a, b, c, d, f⟩
        · exact absurd (e.trans h) hx.1
        · refine .inr ⟨a, by simp [b], c, d, fun x hx hne => ?_⟩
          rcases List.mem_append.1 hx with hx | hx
          · exact f x hx hne
          · exact absurd ((List.mem_singleton.1 hx).trans e) hne
      · rw [if_neg e]
        rcases hs with ⟨a, b, c⟩ | ⟨a, b, c, d, f⟩
        · rw [if_neg (by omega)]
          refine ih l (m + 1) hl (.inr ⟨by omega, by simp, h1, h3, fun x hx hne => ?_⟩)
          rcases List.mem_append.1 hx with hx | hx
          · exact c x hx
          · exact absurd (List.mem_singleton.1 hx) hne
        · rw [if_pos (by omega)]
          exact .inr ⟨by show m + 1 ≠ 0; omega, by show m + 1 ≠ 1; omega, .inr ⟨l, hm, o, by simp [b], e, h3, d⟩⟩
    · rw [if_neg h1, if_pos h2]
      exact .inr ⟨by show (2 : Int) ≠ 0; decide, by show (2 : Int) ≠ 1; decide, .inl ⟨l, hm, h3⟩⟩
    · rw [if_neg h1, if_neg h2]
      refine ih o m hl ?_
      rcases hs with ⟨a, b, c⟩ | ⟨a, b, c, d, f⟩
      · refine .inl ⟨a, b, fun x hx => ?_⟩
        rcases List.mem_append.1 hx with hx | hx
        · exact c x hx
        · rw [List.mem_singleton.1 hx]; exact h3
      · refine .inr ⟨a, by simp [b], c, d, fun x hx hne => ?_⟩
        rcases List.mem_append.1 hx with hx | hx
        · exact f x hx hne
        · rw [List.mem_singleton.1 hx]; exact h3
/-- How many variables have no value. -/
def zeros (V : List Int) : Nat := V.countP fun x => x == 0
theorem set_spec {n : Int} {V : List Int} (hV : Val n V) {o : Int} (h0 : o ≠ 0) (h1 : -n ≤ o) (h2 : o ≤ n) :
    (tv V (-o) ∧ (sv V o).1 = false) ∨ (¬ tv V (-o) ∧ (sv V o).1 = true ∧ Val n (sv V o).2 ∧ (∀ l, -n ≤ l → l ≤ n → (tv (sv V o).2 l ↔ tv V l ∨ l = o)) ∧ (rdOf 0 V (ab o) = 0 → zeros (sv V o).2 < zeros V)) := by
  have hl := hV.1
  have key : ∀ (i : Nat) (a : Int), (i : Int) < V.length → (a = 1 ∨ a = -1) → Val n (V.set i a) ∧ (∀ j : Int, 0 ≤ j → j < V.length → rdOf 0 (V.set i a) j = if j = i then a else rdOf 0 V j) ∧ (rdOf 0 V (i : Int) = 0 → zeros (V.set i a) < zeros V) := by
    intro i a hi ha
    refine ⟨⟨by rw [List.length_set]; exact hl, fun x hx => ?_⟩, fun j hj0 hj => ?_, fun hz => ?_⟩
    · rcases List.mem_or_eq_of_mem_set hx with hx | rfl
      · exact hV.2 x hx
      · rcases ha with ha | ha <;> omega
    · obtain ⟨j, rfl⟩ : ∃ q : Nat, j = (q : Int) := ⟨j.toNat, by omega⟩
      rw [rdOf_at _ _ _ (by rw [List.length_set]; omega), rdOf_at _ _ _ (by omega), List.getElem_set]
      by_cases e : i = j
      · rw [if_pos e, if_pos (by omega)]
      · rw [if_neg e, if_neg (by omega)]
    · rw [rdOf_at _ _ _ (by omega)] at hz
      have hi' : i < V.length := by omega
      unfold zeros
      rw [List.countP_set hi', if_pos (by rw [hz]; rfl), if_neg (by rcases ha with ha | ha <;> (rw [ha]; decide))]
      have : 0 < V.countP fun x => x == 0 := List.countP_pos_iff.2 ⟨V[i], List.getElem_mem _, by rw [hz]; rfl⟩
      omega
  unfold sv
  by_cases hs : o < 0
  · rw [if_pos hs]
    by_cases hv : rdOf 0 V (-o) = 1
    · rw [if_pos hv]; exact .inl ⟨.inl ⟨by omega, hv⟩, rfl⟩
    · rw [if_neg hv]
      obtain ⟨k1, k2, k3⟩ := key (-o).toNat (-1) (by omega) (.inr rfl)
      have ei : (((-o).toNat : Nat) : Int) = -o := by omega
      rw [ei] at k2 k3
      refine .inr ⟨?_, rfl, k1, fun l hl1 hl2 => ?_, fun hz => k3 ?_⟩
      · rintro (⟨_, h⟩ | ⟨h, _⟩)
        · exact hv h
        · omega
      · show (0 < l ∧ rdOf 0 (V.set (-o).toNat (-1)) l = 1 ∨ l < 0 ∧ rdOf 0 (V.set (-o).toNat (-1)) (-l) = -1) ↔ _
        unfold tv
        by_cases hp : 0 < l
        · rw [k2 l (by omega) (by omega)]
          by_cases e : l = -o
          · rw [if_pos e, e]
            constructor
            · rintro (⟨_, h⟩ | ⟨h, _⟩) <;> omega
            · rintro ((⟨_, h⟩ | ⟨h, _⟩) | h)
              · exact absurd h hv
              · omega
              · omega
          · rw [if_neg e]
            constructor
            · rintro (h | ⟨h, _⟩)
              · exact .inl (.inl h)
              · omega
            · rintro ((h | ⟨h, _⟩) | h)
              · exact .inl h
              · omega
              · omega
        · by_cases hq : l < 0
          · rw [k2 (-l) (by omega) (by omega)]
            by_cases e : l = o
            · rw [if_pos (by omega)]
              exact ⟨fun _ => .inr e, fun _ => .inr ⟨hq, rfl⟩⟩
            · rw [if_neg (by omega)]
              constructor
              · rintro (⟨h, _⟩ | h)
                · omega
                · exact .inl (.inr h)
              · rintro ((⟨h, _⟩ | h) | h)
                · omega
                · exact .inr h
                · omega
          · constructor
            · rintro (⟨h, _⟩ | ⟨h, _⟩) <;> omega
            · rintro ((⟨h, _⟩ | ⟨h, _⟩) | h) <;> omega
      · rw [show ab o = -o by unfold ab; rw [if_pos (by omega)]] at hz; exact hz
  · rw [if_neg hs]
    by_cases hv : rdOf 0 V o = -1
    · rw [if_pos hv]; exact .inl ⟨.inr ⟨by omega, by rw [Int.neg_neg]; exact hv⟩, rfl⟩
    · rw [if_neg hv]
      obtain ⟨k1, k2, k3⟩ := key o.toNat 1 (by omega) (.inl rfl)
      have ei : ((o.toNat : Nat) : Int) = o := by omega
      rw [ei] at k2 k3
      refine .inr ⟨?_, rfl, k1, fun l hl1 hl2 => ?_, fun hz => k3 ?_⟩
      · rintro (⟨h, _⟩ | ⟨_, h⟩)
        · omega
        · rw [Int.neg_neg] at h; exact hv h
      · show (0 < l ∧ rdOf 0 (V.set o.toNat 1) l = 1 ∨ l < 0 ∧ rdOf 0 (V.set o.toNat 1) (-l) = -1) ↔ _
        unfold tv
        by_cases hp : 0 < l
        · rw [k2 l (by omega) (by omega)]
          by_cases e : l = o
          · rw [if_pos e]
            exact ⟨fun _ => .inr e, fun _ => .inl ⟨hp, rfl⟩⟩
          · rw [if_neg e]
            constructor
            · rintro (h | ⟨h, _⟩)
              · exact .inl (.inl h)
              · omega
            · rintro ((h | ⟨h, _⟩) | h)
              · exact .inl h
              · omega
              · omega
        · by_cases hq : l < 0
          · rw [k2 (-l) (by omega) (by omega)]
            by_cases e : -l = o
            · rw [if_pos e]
              constructor
              · rintro (⟨h, _⟩ | ⟨_, h⟩) <;> omega
              · rintro ((⟨h, _⟩ | ⟨_, h⟩) | h)
                · omega
                · rw [e] at h; exact absurd h hv
                · omega
            · rw [if_neg e]
              constructor
              · rintro (⟨h, _⟩ | h)
                · omega
                · exact .inl (.inr h)
              · rintro ((⟨h, _⟩ | h) | h)
                · omega
                · exact .inr h
                · omega
          · constructor
            · rintro (⟨h, _⟩ | ⟨h, _⟩) <;> omega
            · rintro ((⟨h, _⟩ | ⟨h, _⟩) | h) <;> omega
      · rw [show ab o = o by unfold ab; rw [if_neg (by omega)]] at hz; exact hz
/-- What the values hold, between what was given and what follows. -/
def Mid (n : Int) (cls : List (List Int)) (A : Int → Prop) (V : List Int) : Prop := Val n V ∧ (∀ l, A l → tv V l) ∧ ∀ l, tv V l → Der cls A l
theorem tv_in {n : Int} {V : List Int} (hV : Val n V) {l : Int} (h : tv V l) : -n ≤ l ∧ l ≤ n := by
  have hl := hV.1
  have out : ∀ i : Int, 0 < i → rdOf 0 V i ≠ 0 → i < V.length := fun i h0 h => by
    refine Decidable.byContradiction fun hh => h ?_
    unfold rdOf
    rw [List.getD_eq_getElem?_getD, List.getElem?_eq_none (by omega)]; rfl
  rcases h with ⟨h1, h2⟩ | ⟨h1, h2⟩
  · have := out l h1 (by omega); omega
  · have := out (-l) (by omega) (by omega); omega
theorem pass_spec {n : Int} {cls : List (List Int)} {A : Int → Prop} : ∀ (t : List (List Int)) (V : List Int) (ag : Bool), (∀ c ∈ t, c ∈ cls ∧ Lits n c) → Mid n cls A V →
    (pass t V ag = none ∧ Brk cls A) ∨ ∃ V' ag', pass t V ag = some (V', ag') ∧ Mid n cls A V' ∧ ((V' = V ∧ ag' = ag ∧ ∀ c ∈ t, Left (tv V) c) ∨ (ag' = true ∧ zeros V' < zeros V))
  | [], V, ag, _, hM => .inr ⟨V, ag, rfl, hM, .inl ⟨rfl, rfl, fun c hc => by cases hc⟩⟩
  | c :: t, V, ag, ht, hM => by
    obtain ⟨hc, hl⟩ := ht c (by simp)
    have ht' : ∀ c ∈ t, c ∈ cls ∧ Lits n c := fun x hx => ht x (by simp [hx])
    have hs := scan_spec hM.1 c [] 0 0 hl (.inl ⟨rfl, rfl, fun x hx => by cases hx⟩)
    rw [List.nil_append] at hs
    unfold pass
    rcases hs with (⟨h1, _, h3⟩ | ⟨h1, h2, h3, h4, h5⟩) | ⟨h1, h2, h3⟩
    · rw [if_pos h1]
      exact .inl ⟨rfl, c, hc, fun x hx => hM.2.2 _ (h3 x hx)⟩
    · rw [if_neg (by omega), if_pos h1]
      obtain ⟨o, ho⟩ : ∃ o, (scan V c 0 0).1 = o := ⟨_, rfl⟩
      rw [ho] at h2 h3 h4 h5 ⊢
      have hol := hl o h2
      rcases set_spec hM.1 hol.1 hol.2.1 hol.2.2 with ⟨a, _⟩ | ⟨_, _, b2, b3, b4⟩
      · exact absurd a h4
      have hM' : Mid n cls A (sv V o).2 := ⟨b2, fun l hA => by
          have := tv_in hM.1 (hM.2.1 l hA)
          exact (b3 l this.1 this.2).2 (.inl (hM.2.1 l hA)), fun l hv => by
          have := tv_in b2 hv
          rcases (b3 l this.1 this.2).1 hv with hv | rfl
          · exact hM.2.2 l hv
          · exact .step hc h2 (fun k hk hne => hM.2.2 _ (h5 k hk hne))⟩
      rcases pass_spec t (sv V o).2 true ht' hM' with h | ⟨V', ag', e, hM2, h⟩
      · exact .inl h
      · refine .inr ⟨V', ag', e, hM2, .inr ?_⟩
        have := b4 h3
        rcases h with ⟨rfl, h, _⟩ | ⟨h, hz⟩
        · exact ⟨h, this⟩
        · exact ⟨h, by omega⟩
    · rw [if_neg h1, if_neg h2]
      rcases pass_spec t V ag ht' hM with h | ⟨V', ag', e, hM2, h⟩
      · exact .inl h
      · refine .inr ⟨V', ag', e, hM2, ?_⟩
        rcases h with ⟨a, b, d⟩ | h
        · refine .inl ⟨a, b, fun x hx => ?_⟩
          rcases List.mem_cons.1 hx with rfl | hx
          · exact h3
          · exact d x hx
        · exact .inr h
theorem l2_spec {n : Int} {cls : List (List Int)} {A : Int → Prop} (hcls : ∀ c ∈ cls, Lits n c) : ∀ (m : Nat) (V : List Int), zeros V ≤ m → Mid n cls A V →
    ∃ b, Tells (fun k => rup_follows.l2 cls k V) b ∧ (b = true ↔ Brk cls A)
  | m, V, hz, hM => by
    rcases pass_spec cls V false (fun c hc => ⟨hc, hcls c hc⟩) hM with ⟨e, hb⟩ | ⟨V', ag', e, hM', h⟩
    · refine ⟨true, Tells.succ (fun k => by rw [rup_follows.l2, e]) (Tells.const _), ?_⟩
      exact ⟨fun _ => hb, fun _ => rfl⟩
    · rcases h with ⟨rfl, rfl, hL⟩ | ⟨rfl, hlt⟩
      · refine ⟨false, Tells.succ (fun k => by rw [rup_follows.l2, e]) (Tells.neg (by decide) (Tells.const _)), ?_⟩
        exact ⟨fun h => (by cases h), fun h => absurd h (not_brk hM.2.1 (fun l h => tv_not h) hL)⟩
      · cases m with
        | zero => omega
        | succ m =>
          obtain ⟨b, hb, hiff⟩ := l2_spec hcls m V' (by omega) hM'
          exact ⟨b, Tells.succ (fun k => by rw [rup_follows.l2, e]) (Tells.pos rfl hb), hiff⟩
theorem start_spec {n : Int} : ∀ (t p : List Int) (V : List Int), Lits n (p ++ t) → Val n V → (∀ l, tv V l ↔ -l ∈ p) →
    (P.start t V = none ∧ Opp (p ++ t)) ∨ ∃ V', P.start t V = some V' ∧ Val n V' ∧ ∀ l, tv V' l ↔ -l ∈ p ++ t
  | [], p, V, _, hV, h => .inr ⟨V, rfl, hV, fun l => by rw [List.append_nil]; exact h l⟩
  | x :: t, p, V, hl, hV, h => by
    have hx := hl x (by simp)
    have ih := start_spec (n := n) t (p ++ [x])
    rw [List.append_assoc, List.singleton_append] at ih
    unfold P.start
    rcases set_spec hV (o := -x) (by omega) (by omega) (by omega) with ⟨a, b⟩ | ⟨_, b1, b2, b3, _⟩
    · rw [if_neg (by rw [b]; decide)]
      rw [Int.neg_neg] at a
      exact .inl ⟨rfl, x, by simp, by simp [(h x).1 a]⟩
    · rw [if_pos b1]
      refine ih _ hl b2 (fun l => ?_)
      constructor
      · intro hv
        have := tv_in b2 hv
        rcases (b3 l this.1 this.2).1 hv with hv | rfl
        · simp [(h l).1 hv]
        · simp
      · intro hm
        rcases List.mem_append.1 hm with hm | hm
        · have := tv_in hV ((h l).2 hm)
          exact (b3 l this.1 this.2).2 (.inl ((h l).2 hm))
        · have := List.mem_singleton.1 hm
          exact (b3 l (by omega) (by omega)).2 (.inr (by omega))
theorem follows_tells {n : Int} {cls : List (List Int)} {cl : List Int} (hn : 0 ≤ n ∧ n ≤ 1024) (hcls : ∀ c ∈ cls, Lits n c) (hcl : Lits n cl) :
    ∃ b, Tells (fun k => rup_follows.f k cls n cl) b ∧ (b = true ↔ FollowsP cls cl) := by
  have hok : rup_follows.ok cls n cl := ⟨hn.1, hn.2, fun x hx => (hcl x hx).2, fun c hc x hx => (hcls c hc x hx).2⟩
  unfold rup_follows.f
  have hV0 : Val n (List.replicate (n + 1).toNat 0) := ⟨by rw [List.length_replicate]; omega, fun x hx => .inl (List.eq_of_mem_replicate hx)⟩
  have ht0 : ∀ l, tv (List.replicate (n + 1).toNat 0) l ↔ -l ∈ ([] : List Int) := fun l => by
    have hz : ∀ i : Int, rdOf (0 : Int) (List.replicate (n + 1).toNat (0 : Int)) i = 0 := fun i => by
      unfold rdOf
      rw [List.getD_eq_getElem?_getD, List.getElem?_replicate]
      split <;> rfl
    constructor
    · rintro (⟨_, h⟩ | ⟨_, h⟩) <;> (rw [hz] at h; omega)
    · intro h; cases h
  rcases start_spec cl [] _ hcl hV0 ht0 with ⟨e, ho⟩ | ⟨V, e, hV, hiff⟩
  · refine ⟨true, Tells.pos hok ?_, fun _ => .inl ho, fun _ => rfl⟩
    rw [e]; exact Tells.const _
  · rw [List.nil_append] at hiff
    have hM : Mid n cls (Neg cl) V := ⟨hV, fun l h => (hiff l).2 h, fun l h => .base ((hiff l).1 h)⟩
    obtain ⟨b, hb, hb2⟩ := l2_spec hcls (zeros V) V (Nat.le_refl _) hM
    refine ⟨b, Tells.pos hok ?_, ?_⟩
    · rw [e]; exact hb
    · rw [hb2]
      refine ⟨.inr, fun h => h.elim (fun ho => ?_) id⟩
      obtain ⟨x, hx, hx'⟩ := ho
      have h1 := (hiff x).2 hx'
      have h2 := (hiff (-x)).2 (by rw [Int.neg_neg]; exact hx)
      exact absurd h2 (tv_not h1)
end Go.Proofs.Ytkfnaiobgddjpaa.Pu

namespace Go.Proofs.Ytkfnaiobgddjpaa.Pu
open Go.RowKit Go.Proofs.Ytkfnaiobgddjpaa.P Go.Proofs.YtkfnaiobgddjpaaW.PrintWords Go.Proofs.YtkfnaiobgddjpaaW.PrintLast Go.Proofs.YtkfnaiobgddjpaaW.PrintMore

theorem r20_Right_loop (l : List (List Int)) (n : Int) (hl : Rows64 l) (hn : I64 n) : ∀ (m i : Nat), m + i = l.length →
    Tells (fun k => sequiturref20_Right.l0 k (i : Int) n l) (clausesErr n (l.drop i))
  | 0, i, h => by
    refine Tells.succ (fun k => by rw [sequiturref20_Right.l0]) (Tells.neg (by omega) ?_)
    rw [List.drop_of_length_le (by omega)]; exact Tells.const _
  | m + 1, i, h => by
    have hi : i < l.length := by omega
    have hc := hl.2 _ (List.getElem_mem hi)
    have hR := r17_Right_tells l[i] n hc.2 hn hc.1
    rw [List.drop_eq_getElem_cons hi, clausesErr]
    refine Tells.succ (fun k => by rw [sequiturref20_Right.l0]) (Tells.pos (by omega) (Tells.pos (by omega) ?_))
    rw [rdL_at _ _ hi, w64s hi hl.1]
    refine Tells.bind hR ?_
    by_cases hz : clauseErr l[i] n = 0
    · refine Tells.pos hz ?_
      rw [if_pos hz]; exact r20_Right_loop l n hl hn m (i + 1) (by omega)
    · refine Tells.neg hz ?_
      rw [if_neg hz]; exact Tells.const _
theorem r20_Right_tells (n : Int) (l : List (List Int)) (hl : Rows64 l) (hn : I64 n) : Tells (fun k => sequiturref20_Right.f k n l) (setErr n l) := by
  unfold sequiturref20_Right.f setErr
  have stop : Tells (fun k => sequiturref20_Right.j0 k true n l) 1 := Tells.succ (fun k => by rw [sequiturref20_Right.j0]) (Tells.pos rfl (Tells.const _))
  by_cases h0 : n < 0
  · rw [if_pos (by omega)]
    exact Tells.pos h0 stop
  refine Tells.neg h0 ?_
  by_cases h1 : n > 1024
  · rw [if_pos (by omega), decide_eq_true h1]; exact stop
  rw [if_neg (by omega), decide_eq_false h1]
  refine Tells.succ (fun k => by rw [sequiturref20_Right.j0]) (Tells.neg (by decide) ?_)
  by_cases h2 : l.length > 4096
  · rw [if_pos h2]
    exact Tells.pos (by omega) (Tells.const _)
  · rw [if_neg h2]
    exact Tells.neg (by omega) (r20_Right_loop l n hl hn l.length 0 rfl)

/-- A literal's value on one level. -/
def valR (S : List Int) (l : Int) : Int := if hasL S l then 1 else if hasL S (-l) then -1 else 0
theorem r20_Value_tells (n : Int) (cls : List (List Int)) (S : List Int) (b : Bool) (l : Int) (hl : I64 l) (hm : isL l = true) (hs : S.length < 4611686018427387904) : Tells (fun k => sequiturref20_Value.f k n cls [S] b l) (valR S l) := by
  have h3 := of_decide_eq_true hm
  have := hl.lo; have := hl.hi
  have hw : wrap64 (-l) = -l := w64 (by omega) (by omega)
  have hw1 : wrap64 ((0 : Int) + 1) = 1 := by unfold wrap64; omega
  unfold sequiturref20_Value.f valR
  refine Tells.succ (fun k => by rw [sequiturref20_Value.l0]) (Tells.pos (by simp) (Tells.pos (by omega) ?_))
  rw [show rd_L3 [S] 0 = S from rfl, hw, hw1]
  refine Tells.bind (r17_Has_tells S l hs) ?_
  by_cases h : hasL S l = true
  · rw [h]; exact Tells.pos rfl (Tells.const _)
  · rw [Bool.eq_false_iff.2 h]
    refine Tells.neg (by decide) (Tells.bind (r17_Has_tells S (-l) hs) ?_)
    by_cases h2 : hasL S (-l) = true
    · rw [h2]; exact Tells.pos rfl (Tells.const _)
    · rw [Bool.eq_false_iff.2 h2]
      refine Tells.neg (by decide) ?_
      show Tells (fun k => sequiturref20_Value.l0 k l 1 n cls [S] b) (0 : Int)
      exact Tells.succ (fun k => by rw [sequiturref20_Value.l0]) (Tells.neg (by simp) (Tells.const _))
/-- A clause looked at. -/
def openR (S : List Int) : List Int → Int → Int → Int × Bool
  | [], f, n => if n = 1 then (f, false) else (0, n == 0)
  | x :: t, f, n => if valR S x > 0 then (0, false) else if valR S x = 0 then openR S t x (n + 1) else openR S t f n
theorem r20_open_loop (n : Int) (cls : List (List Int)) (S c : List Int) (b : Bool) (hc : ∀ x ∈ c, I64 x ∧ isL x = true) (hs : S.length < 4611686018427387904) (hcs : c.length < 4611686018427387904) : ∀ (m i q : Nat) (f : Int), m + i = c.length → q ≤ i →
    Tells (fun k => sequiturref20_open.l0 k c f (q : Int) (i : Int) n cls [S] b) (openR S (c.drop i) f (q : Int))
  | 0, i, q, f, h, hq => by
    refine Tells.succ (fun k => by rw [sequiturref20_open.l0]) (Tells.neg (by omega) ?_)
    rw [List.drop_of_length_le (by omega), openR]
    by_cases e : (q : Int) = 1
    · refine Tells.pos e ?_; rw [if_pos e]; exact Tells.const _
    · refine Tells.neg e ?_; rw [if_neg e]; exact Tells.const _
  | m + 1, i, q, f, h, hq => by
    have hi : i < c.length := by omega
    obtain ⟨h1, h2⟩ := hc _ (List.getElem_mem hi)
    rw [List.drop_eq_getElem_cons hi, openR]
    refine Tells.succ (fun k => by rw [sequiturref20_open.l0]) (Tells.pos (by omega) (Tells.pos (by omega) ?_))
    rw [rd_at _ _ hi, w64s hi hcs, w64s (by omega : q < c.length) hcs]
    refine Tells.bind (r20_Value_tells n cls S b c[i] h1 h2 hs) ?_
    by_cases hp : valR S c[i] > 0
    · rw [if_pos hp]; exact Tells.pos hp (Tells.const _)
    · rw [if_neg hp]
      refine Tells.neg hp ?_
      by_cases hz : valR S c[i] = 0
      · rw [if_pos hz]
        exact Tells.pos hz (r20_open_loop n cls S c b hc hs hcs m (i + 1) (q + 1) c[i] (by omega) (by omega))
      · rw [if_neg hz]
        exact Tells.neg hz (r20_open_loop n cls S c b hc hs hcs m (i + 1) q f (by omega) (by omega))
theorem r20_open_tells (n : Int) (cls : List (List Int)) (S c : List Int) (b : Bool) (hc : ∀ x ∈ c, I64 x ∧ isL x = true) (hs : S.length < 4611686018427387904) (hcs : c.length < 4611686018427387904) : Tells (fun k => sequiturref20_open.f k n cls [S] b c) (openR S c 0 0) :=
  r20_open_loop n cls S c b hc hs hcs c.length 0 0 0 rfl (Nat.le_refl _)
/-- What a level holds. -/
def onS (S : List Int) (l : Int) : Prop := l ∈ S
theorem valR_cases {n : Int} {S : List Int} (hn : n ≤ 1024) {l : Int} (hx : l ≠ 0 ∧ -n ≤ l ∧ l ≤ n) : (valR S l = 1 ∧ onS S l) ∨ (valR S l = -1 ∧ onS S (-l)) ∨ (valR S l = 0 ∧ ¬ onS S l ∧ ¬ onS S (-l)) := by
  have h1 : isL l = true := decide_eq_true ⟨hx.1, by omega⟩
  have h2 : isL (-l) = true := decide_eq_true ⟨by omega, by omega⟩
  unfold valR
  by_cases h : hasL S l = true
  · rw [if_pos h]; exact .inl ⟨rfl, (hasL_iff.1 h).2⟩
  · rw [if_neg h]
    by_cases h3 : hasL S (-l) = true
    · rw [if_pos h3]; exact .inr (.inl ⟨rfl, (hasL_iff.1 h3).2⟩)
    · rw [if_neg h3]
      exact .inr (.inr ⟨rfl, fun hm => h (hasL_iff.2 ⟨h1, hm⟩), fun hm => h3 (hasL_iff.2 ⟨h2, hm⟩)⟩)
/-- What a clause's part that was looked at leaves. -/
def SeenR (S : List Int) (p : List Int) (f : Int) (m : Nat) : Prop :=
  (m = 0 ∧ ∀ x ∈ p, onS S (-x)) ∨ (m = 1 ∧ f ∈ p ∧ ¬ onS S f ∧ ¬ onS S (-f) ∧ ∀ x ∈ p, x ≠ f → onS S (-x)) ∨ (2 ≤ m ∧ Left (onS S) p)
theorem openR_spec {n : Int} {S : List Int} (hn : n ≤ 1024) : ∀ (t p : List Int) (f : Int) (m : Nat), Lits n (p ++ t) → (p ++ t).Nodup → SeenR S p f m →
    ((openR S t f (m : Int)).2 = true ∧ ∀ x ∈ p ++ t, onS S (-x)) ∨ ((openR S t f (m : Int)).2 = false ∧ (openR S t f (m : Int)).1 ≠ 0 ∧ (openR S t f (m : Int)).1 ∈ p ++ t ∧ ¬ onS S (openR S t f (m : Int)).1 ∧ ¬ onS S (-(openR S t f (m : Int)).1) ∧ ∀ x ∈ p ++ t, x ≠ (openR S t f (m : Int)).1 → onS S (-x)) ∨
      ((openR S t f (m : Int)).2 = false ∧ (openR S t f (m : Int)).1 = 0 ∧ Left (onS S) (p ++ t))
  | [], p, f, m, hl, _, hs => by
    rw [List.append_nil] at hl ⊢
    unfold openR
    rcases hs with ⟨rfl, h⟩ | ⟨rfl, h1, h2, h3, h4⟩ | ⟨h1, h2⟩
    · rw [if_neg (by decide)]; exact .inl ⟨rfl, h⟩
    · rw [if_pos (show ((1 : Nat) : Int) = 1 from rfl)]; exact .inr (.inl ⟨rfl, (hl f h1).1, h1, h2, h3, h4⟩)
    · rw [if_neg (by omega)]
      exact .inr (.inr ⟨beq_eq_false_iff_ne.2 (by omega), rfl, h2⟩)
  | l :: t, p, f, m, hl, hd, hs => by
    have hm : l ∈ p ++ l :: t := by simp
    have hx := hl l hm
    have hlp : l ∉ p := fun h => by
      rw [List.nodup_append] at hd
      exact hd.2.2 l h l (by simp) rfl
    have ih := openR_spec (S := S) hn t (p ++ [l])
    rw [List.append_assoc, List.singleton_append] at ih
    unfold openR
    have left : ∀ {x}, x ∈ p → x ∈ p ++ [l] := fun h => by simp [h]
    rcases valR_cases (S := S) hn hx with ⟨h1, h2⟩ | ⟨h1, h2⟩ | ⟨h1, h2, h3⟩
    · rw [if_pos (by omega)]
      exact .inr (.inr ⟨rfl, rfl, .inl ⟨l, hm, h2⟩⟩)
    · rw [if_neg (by omega), if_neg (by omega)]
      refine ih f m hl hd ?_
      rcases hs with ⟨a, b⟩ | ⟨a, b, c, d, e⟩ | ⟨a, b⟩
      · refine .inl ⟨a, fun x hx => ?_⟩
        rcases List.mem_append.1 hx with hx | hx
        · exact b x hx
        · rw [List.mem_singleton.1 hx]; exact h2
      · refine .inr (.inl ⟨a, left b, c, d, fun x hx hne => ?_⟩)
        rcases List.mem_append.1 hx with hx | hx
        · exact e x hx hne
        · rw [List.mem_singleton.1 hx]; exact h2
      · refine .inr (.inr ⟨a, ?_⟩)
        rcases b with ⟨x, hx, hT⟩ | ⟨x, hx, y, hy, hh⟩
        · exact .inl ⟨x, left hx, hT⟩
        · exact .inr ⟨x, left hx, y, left hy, hh⟩
    · rw [if_neg (by omega), if_pos h1, show (m : Int) + 1 = ((m + 1 : Nat) : Int) by omega]
      refine ih l (m + 1) hl hd ?_
      rcases hs with ⟨a, b⟩ | ⟨a, b, c, d, e⟩ | ⟨a, b⟩
      · refine .inr (.inl ⟨by omega, by simp, h2, h3, fun x hx hne => ?_⟩)
        rcases List.mem_append.1 hx with hx | hx
        · exact b x hx
        · exact absurd (List.mem_singleton.1 hx) hne
      · exact .inr (.inr ⟨by omega, .inr ⟨l, by simp, f, left b, fun e' => hlp (e' ▸ b), h3, d⟩⟩)
      · refine .inr (.inr ⟨by omega, ?_⟩)
        rcases b with ⟨x, hx, hT⟩ | ⟨x, hx, y, hy, hh⟩
        · exact .inl ⟨x, left hx, hT⟩
        · exact .inr ⟨x, left hx, y, left hy, hh⟩
/-- How many variables have no value. -/
def free (n : Int) (S : List Int) : Nat := (List.range n.toNat).countP fun i : Nat => !(S.contains ((i : Int) + 1)) && !(S.contains (-((i : Int) + 1)))
theorem countP_lt {α : Type} {p q : α → Bool} : ∀ {l : List α}, (∀ x ∈ l, q x = true → p x = true) → (∃ x ∈ l, p x = true ∧ q x = false) → l.countP q < l.countP p
  | [], _, h => by obtain ⟨x, hx, _⟩ := h; cases hx
  | y :: l, h, hx => by
    obtain ⟨x, hx, h1, h2⟩ := hx
    have hle : l.countP q ≤ l.countP p := List.countP_mono_left (fun z hz hq => h z (by simp [hz]) hq)
    rw [List.countP_cons, List.countP_cons]
    rcases List.mem_cons.1 hx with rfl | hx
    · rw [if_pos h1, if_neg (by rw [h2]; decide)]; omega
    · have ih := countP_lt (p := p) (q := q) (l := l) (fun z hz => h z (by simp [hz])) ⟨x, hx, h1, h2⟩
      by_cases hq : q y = true
      · rw [if_pos hq, if_pos (h y (by simp) hq)]; omega
      · rw [if_neg hq]; split <;> omega
theorem free_lt {n : Int} {S : List Int} {o : Int} (hx : o ≠ 0 ∧ -n ≤ o ∧ o ≤ n) (h1 : ¬ onS S o) (h2 : ¬ onS S (-o)) : free n (S ++ [o]) < free n S := by
  unfold free
  refine countP_lt (fun i _ h => ?_) ⟨o.natAbs - 1, List.mem_range.2 (by omega), ?_, ?_⟩
  · simp only [Bool.and_eq_true, Bool.not_eq_true', List.contains_eq_mem, List.mem_append, decide_eq_false_iff_not, not_or] at h ⊢
    exact ⟨h.1.1, h.2.1⟩
  · simp only [Bool.and_eq_true, Bool.not_eq_true', List.contains_eq_mem, decide_eq_false_iff_not]
    have e : ((o.natAbs - 1 : Nat) : Int) + 1 = o ∨ ((o.natAbs - 1 : Nat) : Int) + 1 = -o := by omega
    rcases e with e | e
    · rw [e]; exact ⟨h1, h2⟩
    · rw [e, Int.neg_neg]; exact ⟨h2, h1⟩
  · have e : ((o.natAbs - 1 : Nat) : Int) + 1 = o ∨ ((o.natAbs - 1 : Nat) : Int) + 1 = -o := by omega
    rcases e with e | e
    · rw [e]; simp
    · rw [e, Int.neg_neg]; simp
/-- What a level holds, between what was given and what follows. -/
def MidR (n : Int) (cls : List (List Int)) (A : Int → Prop) (S : List Int) : Prop := Lits n S ∧ (∀ l, A l → onS S l) ∧ (∀ l, onS S l → ¬ onS S (-l)) ∧ ∀ l, onS S l → Der cls A l
theorem put_eq (n : Int) (cls : List (List Int)) (S : List Int) (o : Int) (h : S.length < 100000) : sequiturref20_put.f n cls [S] false o = some (n, cls, [S ++ [o]], false) := by
  have hw : wrap64 ((([S] : List (List Int)).length : Int) - 1) = 0 := by
    show wrap64 ((1 : Int) - 1) = 0
    unfold wrap64; omega
  unfold sequiturref20_put.f
  simp only [Option.bind_some, List.nil_append]
  rw [if_pos (by simp), hw, if_pos (by omega), if_pos (by simp), show rd_L3 [S] 0 = S from rfl, if_pos (by simp; omega), if_pos (by omega)]
  rfl
theorem on_spec {n : Int} {cls : List (List Int)} {A : Int → Prop} (hn : 0 ≤ n ∧ n ≤ 1024) (hlen : cls.length < 4611686018427387904) (hcls : ∀ c ∈ cls, Lits n c ∧ c.Nodup ∧ c.length < 4611686018427387904) : ∀ (m : Nat) (S : List Int), free n S ≤ m → S.length + m ≤ 5000 → MidR n cls A S →
    ∃ r, Tells (fun k => sequiturref20_On.l0 k n cls [S] false) r ∧ (r.2.2.2 = true ↔ Brk cls A)
  | m, S, hf, hS, hM => by
    have hl64 : ∀ c ∈ cls, ∀ x ∈ c, I64 x ∧ isL x = true := fun c hc x hx => by
      have := (hcls c hc).1 x hx
      refine ⟨?_, decide_eq_true ⟨this.1, by omega⟩⟩
      unfold I64 Lit.wf
      have a : IntKind.i64.min = -9223372036854775808 := by decide
      have b : IntKind.i64.max = 9223372036854775807 := by decide
      simp only [Bool.and_eq_true, decide_eq_true_eq]
      omega
    have more : ∀ o, (∃ c ∈ cls, o ∈ c ∧ ¬ onS S o ∧ ¬ onS S (-o) ∧ ∀ x ∈ c, x ≠ o → onS S (-x)) → ∃ r, Tells (fun k => sequiturref20_On.l0 k n cls [S ++ [o]] false) r ∧ (r.2.2.2 = true ↔ Brk cls A) := by
      rintro o ⟨c, hc, ho, h1, h2, h3⟩
      have hx := (hcls c hc).1 o ho
      have hlt := free_lt hx h1 h2
      cases m with
      | zero => omega
      | succ m =>
        refine on_spec hn hlen hcls m (S ++ [o]) (by omega) (by simp; omega) ⟨fun x hx' => ?_, fun l hA => ?_, fun l h hh => ?_, fun l h => ?_⟩
        · rcases List.mem_append.1 hx' with hx' | hx'
          · exact hM.1 x hx'
          · rw [List.mem_singleton.1 hx']; exact hx
        · exact List.mem_append_left _ (hM.2.1 l hA)
        · rcases List.mem_append.1 h with h | h <;> rcases List.mem_append.1 hh with hh | hh
          · exact hM.2.2.1 l h hh
          · have := List.mem_singleton.1 hh
            exact h2 (by rw [← this, Int.neg_neg]; exact h)
          · rw [List.mem_singleton.1 h] at hh; exact h2 hh
          · have e1 := List.mem_singleton.1 h
            have e2 := List.mem_singleton.1 hh
            omega
        · rcases List.mem_append.1 h with h | h
          · exact hM.2.2.2 l h
          · rw [List.mem_singleton.1 h]
            exact .step hc ho (fun k hk hne => hM.2.2.2 _ (h3 k hk hne))
    have loop : ∀ (j i : Nat) (found : Int), j + i = cls.length → (found = 0 → ∀ c ∈ cls.take i, Left (onS S) c) → (found ≠ 0 → ∃ c ∈ cls, found ∈ c ∧ ¬ onS S found ∧ ¬ onS S (-found) ∧ ∀ x ∈ c, x ≠ found → onS S (-x)) →
        ∃ r, Tells (fun k => sequiturref20_On.l1 k found (i : Int) n cls [S] false) r ∧ (r.2.2.2 = true ↔ Brk cls A) := by
      intro j
      induction j with
      | zero =>
        intro i found h h0 h1
        by_cases hz : found = 0
        · refine ⟨(n, cls, [S], false), Tells.succ (fun k => by rw [sequiturref20_On.l1]) (Tells.neg (by omega) (Tells.pos hz (Tells.const _))), ?_⟩
          have hL := h0 hz
          rw [List.take_of_length_le (by omega)] at hL
          exact ⟨fun h => (by cases h), fun h => absurd h (not_brk hM.2.1 hM.2.2.1 hL)⟩
        · obtain ⟨r, hr, hiff⟩ := more found (h1 hz)
          refine ⟨r, Tells.succ (fun k => by rw [sequiturref20_On.l1]) (Tells.neg (by omega) (Tells.neg hz ?_)), hiff⟩
          rw [put_eq n cls S found (by omega)]
          exact hr
      | succ j ih =>
        intro i found h h0 h1
        have hi : i < cls.length := by omega
        have hc := List.getElem_mem hi
        obtain ⟨c1, c2, c3⟩ := hcls _ hc
        have hT := r20_open_tells n cls S cls[i] false (hl64 _ hc) (by omega) c3
        have hw := w64s hi hlen
        have htake : cls.take (i + 1) = cls.take i ++ [cls[i]] := by rw [List.take_add_one, List.getElem?_eq_getElem hi]; rfl
        rcases openR_spec (S := S) hn.2 cls[i] [] 0 0 c1 c2 (.inl ⟨rfl, fun x hx => by cases hx⟩) with ⟨a, b⟩ | ⟨a, b, d, e, f, g⟩ | ⟨a, b, d⟩
        · refine ⟨(n, cls, [S], true), Tells.succ (fun k => by rw [sequiturref20_On.l1]) (Tells.pos (by omega) (Tells.pos (by omega) ?_)), fun _ => ⟨cls[i], hc, fun x hx => hM.2.2.2 _ (b x hx)⟩, fun _ => rfl⟩
          rw [rdL_at _ _ hi]
          exact Tells.bind hT (Tells.pos a (Tells.const _))
        · obtain ⟨r, hr, hiff⟩ := ih (i + 1) (openR S cls[i] 0 0).1 (by omega) (fun e => absurd e b) (fun _ => ⟨cls[i], hc, d, e, f, g⟩)
          refine ⟨r, Tells.succ (fun k => by rw [sequiturref20_On.l1]) (Tells.pos (by omega) (Tells.pos (by omega) ?_)), hiff⟩
          rw [rdL_at _ _ hi, hw]
          exact Tells.bind hT (Tells.neg (by rw [show (openR S cls[i] 0 0).2 = false from a]; decide) (Tells.neg b hr))
        · obtain ⟨r, hr, hiff⟩ := ih (i + 1) found (by omega) (fun e c hc' => by
            rw [htake] at hc'
            rcases List.mem_append.1 hc' with hc' | hc'
            · exact h0 e c hc'
            · rw [List.mem_singleton.1 hc']; exact d) h1
          refine ⟨r, Tells.succ (fun k => by rw [sequiturref20_On.l1]) (Tells.pos (by omega) (Tells.pos (by omega) ?_)), hiff⟩
          rw [rdL_at _ _ hi, hw]
          exact Tells.bind hT (Tells.neg (by rw [show (openR S cls[i] 0 0).2 = false from a]; decide) (Tells.pos b hr))
    obtain ⟨r, hr, hiff⟩ := loop cls.length 0 0 rfl (fun _ c hc => by cases hc) (fun h => absurd rfl h)
    exact ⟨r, Tells.succ (h := fun k => sequiturref20_On.l1 k 0 0 n cls [S] false) (fun k => by rw [sequiturref20_On.l0]) hr, hiff⟩
theorem lits_i64 {n : Int} {c : List Int} (hn : n ≤ 1024) (h : Lits n c) : ∀ x ∈ c, I64 x := fun x hx => by
  have := h x hx
  unfold I64 Lit.wf
  have a : IntKind.i64.min = -9223372036854775808 := by decide
  have b : IntKind.i64.max = 9223372036854775807 := by decide
  simp only [Bool.and_eq_true, decide_eq_true_eq]
  omega
theorem clean_lits {n : Int} {c : List Int} (hn : n ≤ 1024) (h : Lits n c) : Lits n (cleanL c) ∧ ∀ x, x ∈ cleanL c ↔ x ∈ c :=
  ⟨fun x hx => h x (cleanL_mem.1 hx).1, fun x => ⟨fun hx => (cleanL_mem.1 hx).1, fun hx => cleanL_mem.2 ⟨hx, h.isL hn x hx⟩⟩⟩
theorem opp_iff {n : Int} {c : List Int} (hn : n ≤ 1024) (h : Lits n c) : oppL (cleanL c) = true ↔ Opp c := by
  obtain ⟨h1, h2⟩ := clean_lits hn h
  unfold oppL
  rw [List.any_eq_true]
  constructor
  · rintro ⟨x, hx, hh⟩
    exact ⟨x, (h2 x).1 hx, (h2 _).1 (hasL_iff.1 hh).2⟩
  · rintro ⟨x, hx, hx'⟩
    exact ⟨x, (h2 x).2 hx, hasL_iff.2 ⟨h.isL hn _ hx', (h2 _).2 hx'⟩⟩
theorem clean_length (c : List Int) : (cleanL c).length ≤ c.length := by
  have : ∀ (c out : List Int), (c.foldl cleanStep out).length ≤ out.length + c.length := by
    intro c
    induction c with
    | nil => intro out; simp
    | cons x c ih =>
      intro out
      have h1 := ih (cleanStep out x)
      have h2 := cleanStep_length out x
      rw [List.foldl_cons, List.length_cons]; omega
  have := this c []
  simpa [cleanL] using this
theorem r23_l0 (n : Int) (cls : List (List Int)) (l : List Int) (hn : n ≤ 1024) (hl : Lits n l) (hs : l.length ≤ 64) {v : Bool} (K : Tells (fun k => sequiturref23_Follows.l1 k cls 0 n [] [l.map (fun x => -x)] false) v) : ∀ (m i : Nat), m + i = l.length →
    Tells (fun k => sequiturref23_Follows.l0 k n cls l ((l.take i).map (fun x => -x)) (i : Int)) v
  | 0, i, h => by
    rw [List.take_of_length_le (by omega)]
    exact Tells.succ (fun k => by rw [sequiturref23_Follows.l0]) (Tells.neg (by omega) K)
  | m + 1, i, h => by
    have hi : i < l.length := by omega
    have hx := hl _ (List.getElem_mem hi)
    have hw : wrap64 (-l[i]) = -l[i] := w64 (by omega) (by omega)
    have ih := r23_l0 n cls l hn hl hs K m (i + 1) (by omega)
    refine Tells.succ (fun k => by rw [sequiturref23_Follows.l0]) (Tells.pos (by omega) (Tells.pos (by omega) (Tells.pos (by simp; omega) ?_)))
    rw [rd_at _ _ hi, hw, w64s hi (by omega)]
    rw [List.take_add_one, List.getElem?_eq_getElem hi, List.map_append] at ih
    exact ih
theorem r23_l1 (n : Int) (cls : List (List Int)) (S : List Int) (hn : n ≤ 1024) (hcls : ∀ c ∈ cls, Lits n c ∧ c.length ≤ 64) (hs : cls.length ≤ 100000) {r : Int × List (List Int) × List (List Int) × Bool} (K : Tells (fun k => sequiturref20_On.f k n (cls.map cleanL) [S] false) r) : ∀ (m i : Nat), m + i = cls.length →
    Tells (fun k => sequiturref23_Follows.l1 k cls (i : Int) n ((cls.take i).map cleanL) [S] false) r.2.2.2
  | 0, i, h => by
    rw [List.take_of_length_le (by omega)]
    exact Tells.succ (fun k => by rw [sequiturref23_Follows.l1]) (Tells.neg (by omega) (Tells.bind K (Tells.const _)))
  | m + 1, i, h => by
    have hi : i < cls.length := by omega
    obtain ⟨h1, h2⟩ := hcls _ (List.getElem_mem hi)
    have ih := r23_l1 n cls S hn hcls hs K m (i + 1) (by omega)
    refine Tells.succ (fun k => by rw [sequiturref23_Follows.l1]) (Tells.pos (by omega) (Tells.pos (by omega) ?_))
    rw [rdL_at _ _ hi, w64s hi (by omega)]
    refine Tells.bind (r17_Clean_tells cls[i] (lits_i64 hn h1) (by omega)) (Tells.pos (by simp; omega) ?_)
    rw [List.take_add_one, List.getElem?_eq_getElem hi, List.map_append] at ih
    exact ih
theorem rfollows_tells {n : Int} {cls : List (List Int)} {cl : List Int} (hn : 0 ≤ n ∧ n ≤ 1024) (hcls : ∀ c ∈ cls, Lits n c ∧ c.length ≤ 64) (hs : cls.length ≤ 100000) (hcl : Lits n cl) (hcs : cl.length ≤ 64) :
    ∃ b, Tells (fun k => sequiturref23_Follows.f k n cls cl) b ∧ (b = true ↔ FollowsP cls cl) := by
  unfold sequiturref23_Follows.f
  have hC := r17_Clean_tells cl (lits_i64 hn.2 hcl) (by omega)
  have hopp := opp_iff hn.2 hcl
  obtain ⟨c1, c2⟩ := clean_lits hn.2 hcl
  by_cases ho : oppL (cleanL cl) = true
  · refine ⟨true, Tells.bind hC ?_, fun _ => .inl (hopp.1 ho), fun _ => rfl⟩
    rw [ho]
    exact Tells.neg (by simp) (Tells.const _)
  · have hno : ¬ Opp cl := fun h => ho (hopp.2 h)
    have hcl2 := clean_length cl
    have hmem : ∀ l, l ∈ (cleanL cl).map (fun x => -x) ↔ -l ∈ cl := fun l => by
      rw [List.mem_map]
      constructor
      · rintro ⟨x, hx, rfl⟩
        rw [Int.neg_neg]; exact (c2 x).1 hx
      · intro h
        exact ⟨-l, (c2 _).2 h, Int.neg_neg l⟩
    obtain ⟨r, hr, hiff⟩ := on_spec (n := n) (cls := cls.map cleanL) (A := Neg cl) hn (by simp; omega) (fun c hc => by
      obtain ⟨c', hc', rfl⟩ := List.mem_map.1 hc
      obtain ⟨a1, a2⟩ := hcls c' hc'
      exact ⟨(clean_lits hn.2 a1).1, cleanL_nodup c', by have := clean_length c'; omega⟩) (free n ((cleanL cl).map (fun x => -x))) _ (Nat.le_refl _) (by
      have : free n ((cleanL cl).map (fun x => -x)) ≤ n.toNat := by
        unfold free
        have := List.countP_le_length (p := fun i : Nat => !(((cleanL cl).map (fun x => -x)).contains ((i : Int) + 1)) && !(((cleanL cl).map (fun x => -x)).contains (-((i : Int) + 1)))) (l := List.range n.toNat)
        rwa [List.length_range] at this
      rw [List.length_map]; omega) ⟨fun x hx => by
        have := hcl _ ((hmem x).1 hx)
        omega, fun l h => (hmem l).2 h, fun l h hh => hno ⟨-l, (hmem l).1 h, (hmem (-l)).1 hh⟩, fun l h => .base ((hmem l).1 h)⟩
    refine ⟨r.2.2.2, Tells.bind hC ?_, ?_⟩
    · rw [Bool.eq_false_iff.2 ho]
      refine Tells.pos rfl ?_
      exact r23_l0 n cls (cleanL cl) hn.2 c1 (by omega) (r23_l1 n cls _ hn.2 hcls hs hr cls.length 0 rfl) (cleanL cl).length 0 rfl
    · rw [hiff]
      constructor
      · intro h
        refine .inr (h.mono (fun c hc => ?_) (fun l h => h))
        obtain ⟨c', hc', rfl⟩ := List.mem_map.1 hc
        exact ⟨c', hc', fun x => ((clean_lits hn.2 (hcls c' hc').1).2 x).symm⟩
      · rintro (h | h)
        · exact absurd h hno
        · exact h.mono (fun c hc => ⟨cleanL c, List.mem_map.2 ⟨c, hc, rfl⟩, fun x => (clean_lits hn.2 (hcls c hc).1).2 x⟩) (fun l h => h)
end Go.Proofs.Ytkfnaiobgddjpaa.Pu

namespace Go.Proofs.Ytkfnaiobgddjpaa.Pu
open Go.RowKit Go.Proofs.Ytkfnaiobgddjpaa.P Go.Proofs.YtkfnaiobgddjpaaW.PrintWords Go.Proofs.YtkfnaiobgddjpaaW.PrintLast Go.Proofs.YtkfnaiobgddjpaaW.PrintMore

theorem alive_at : sequiturlaw23_alive.f 40 = some true := by decide +kernel
theorem alive23 : Tells (fun k => sequiturlaw23_alive.f k) true := Tells.mono sequiturlaw23_alive.mono alive_at
theorem rdT_at (xs : List S64) (i : Nat) (h : i < xs.length) : rd_T64 xs (i : Int) = xs[i] := by simp [rd_T64, h]
theorem few_l1 (log : List S64) (hs : log.length < 4611686018427387904) : ∀ (m i : Nat), m + i = log.length →
    ∃ b, Tells (fun k => sequiturlaw23_few.l1 k log (log.length : Int) (i : Int)) b ∧ (b = true → ∀ x ∈ log.drop i, x.f1.length ≤ 70)
  | 0, i, h => ⟨true, Tells.succ (fun k => by rw [sequiturlaw23_few.l1]) (Tells.neg (by omega) (Tells.const _)), fun _ x hx => by
      rw [List.drop_of_length_le (by omega)] at hx; cases hx⟩
  | m + 1, i, h => by
    have hi : i < log.length := by omega
    by_cases hb : ((log[i].f1.length : Nat) : Int) > 70
    · refine ⟨false, Tells.succ (fun k => by rw [sequiturlaw23_few.l1]) (Tells.pos (by omega) (Tells.pos (by omega) (Tells.pos (by omega) ?_))), fun h => by cases h⟩
      rw [rdT_at _ _ hi]
      exact Tells.pos hb (Tells.const _)
    · obtain ⟨b, hT, hh⟩ := few_l1 log hs m (i + 1) (by omega)
      refine ⟨b, Tells.succ (fun k => by rw [sequiturlaw23_few.l1]) (Tells.pos (by omega) (Tells.pos (by omega) (Tells.pos (by omega) ?_))), fun e x hx => ?_⟩
      · rw [rdT_at _ _ hi, w64s hi hs]
        exact Tells.neg hb hT
      · rw [List.drop_eq_getElem_cons hi] at hx
        rcases List.mem_cons.1 hx with rfl | hx
        · omega
        · exact hh e x hx
theorem few_l0 (l : List (List Int)) (log : List S64) (hl : l.length < 4611686018427387904) (hs : log.length < 4611686018427387904) : ∀ (m i : Nat), m + i = l.length →
    ∃ b, Tells (fun k => sequiturlaw23_few.l0 k log l (l.length : Int) (i : Int)) b ∧ (b = true → (∀ c ∈ l.drop i, c.length ≤ 70) ∧ ∀ x ∈ log, x.f1.length ≤ 70)
  | 0, i, h => by
    obtain ⟨b, hT, hh⟩ : ∃ b, Tells (fun k => sequiturlaw23_few.l1 k log (log.length : Int) 0) b ∧ (b = true → ∀ x ∈ log, x.f1.length ≤ 70) := few_l1 log hs log.length 0 rfl
    refine ⟨b, Tells.succ (fun k => by rw [sequiturlaw23_few.l0]) (Tells.neg (by omega) hT), fun e => ⟨fun c hc => ?_, hh e⟩⟩
    rw [List.drop_of_length_le (by omega)] at hc; cases hc
  | m + 1, i, h => by
    have hi : i < l.length := by omega
    by_cases hb : ((l[i].length : Nat) : Int) > 70
    · refine ⟨false, Tells.succ (fun k => by rw [sequiturlaw23_few.l0]) (Tells.pos (by omega) (Tells.pos (by omega) (Tells.pos (by omega) ?_))), fun h => by cases h⟩
      rw [rdL_at _ _ hi]
      exact Tells.pos hb (Tells.const _)
    · obtain ⟨b, hT, hh⟩ := few_l0 l log hl hs m (i + 1) (by omega)
      refine ⟨b, Tells.succ (fun k => by rw [sequiturlaw23_few.l0]) (Tells.pos (by omega) (Tells.pos (by omega) (Tells.pos (by omega) ?_))), fun e => ⟨fun x hx => ?_, (hh e).2⟩⟩
      · rw [rdL_at _ _ hi, w64s hi hl]
        exact Tells.neg hb hT
      · rw [List.drop_eq_getElem_cons hi] at hx
        rcases List.mem_cons.1 hx with rfl | hx
        · omega
        · exact (hh e).1 x hx
theorem few_tells (n : Int) (l : List (List Int)) (log : List S64) (hl : l.length < 4611686018427387904) (hs : log.length < 4611686018427387904) :
    ∃ b, Tells (fun k => sequiturlaw23_few.f k n l log) b ∧ (b = true → n ≤ 40 ∧ l.length ≤ 60 ∧ log.length ≤ 30 ∧ (∀ c ∈ l, c.length ≤ 70) ∧ ∀ x ∈ log, x.f1.length ≤ 70) := by
  unfold sequiturlaw23_few.f
  have no : Tells (fun k => sequiturlaw23_few.j0 k log true n l) false := Tells.succ (fun k => by rw [sequiturlaw23_few.j0]) (Tells.pos rfl (Tells.const _))
  by_cases h1 : n > 40
  · exact ⟨false, Tells.pos h1 no, fun h => by cases h⟩
  by_cases h2 : (l.length : Int) > 60
  · exact ⟨false, Tells.neg h1 (Tells.pos h2 no), fun h => by cases h⟩
  by_cases h3 : (log.length : Int) > 30
  · refine ⟨false, Tells.neg h1 (Tells.neg h2 ?_), fun h => by cases h⟩
    rw [decide_eq_true h3]; exact no
  obtain ⟨b, hT, hh⟩ : ∃ b, Tells (fun k => sequiturlaw23_few.l0 k log l (l.length : Int) 0) b ∧ (b = true → (∀ c ∈ l, c.length ≤ 70) ∧ ∀ x ∈ log, x.f1.length ≤ 70) := few_l0 l log hl hs l.length 0 rfl
  refine ⟨b, Tells.neg h1 (Tells.neg h2 ?_), fun e => ⟨by omega, by omega, by omega, (hh e).1, (hh e).2⟩⟩
  rw [decide_eq_false h3]
  exact Tells.succ (fun k => by rw [sequiturlaw23_few.j0]) (Tells.neg (by decide) hT)
/-- What Step tells. -/
theorem Step_tells (n : Int) (l : List (List Int)) (c : List Int) (hl : Rows64 l) (hn : I64 n) (hc : ∀ x ∈ c, I64 x) (hcs : c.length < 4611686018427387904) :
    ∃ b, Tells (fun k => rup_Step.f k n l c) (b, if setErr n l = 0 then clauseErr c n else setErr n l) ∧ Tells (fun k => sequiturref23_Step.f k n l c) (b, if setErr n l = 0 then clauseErr c n else setErr n l) ∧
      (setErr n l = 0 → clauseErr c n = 0 → (b = true ↔ FollowsP l c)) ∧ (b = true → setErr n l = 0 ∧ clauseErr c n = 0) := by
  obtain ⟨x, hx⟩ := cnf_Right_tells n l hl hn
  have hr := r20_Right_tells n l hl hn
  have hR := lit_Right_tells c n hc hn hcs
  have hrR := r17_Right_tells c n hc hn hcs
  unfold rup_Step.f sequiturref23_Step.f
  by_cases h1 : setErr n l = 0
  · rw [if_pos h1]
    by_cases h2 : clauseErr c n = 0
    · obtain ⟨a1, a2, a3⟩ := setErr_lits h1
      obtain ⟨b1, b2⟩ := clauseErr_lits h2
      obtain ⟨b, hb, hiff⟩ := follows_tells a1 (fun c hc => (a3 c hc).1) b1
      obtain ⟨b', hb', hiff'⟩ := rfollows_tells a1 a3 (by omega) b1 b2
      obtain rfl : b = b' := Bool.eq_iff_iff.2 (hiff.trans hiff'.symm)
      refine ⟨b, ?_, ?_, fun _ _ => hiff, fun _ => ⟨h1, h2⟩⟩
      · rw [h2]; exact Tells.bind hx (Tells.pos h1 (Tells.bind hR (Tells.pos h2 (Tells.bind hb (Tells.const _)))))
      · rw [h2]; exact Tells.bind hr (Tells.pos h1 (Tells.bind hrR (Tells.pos h2 (Tells.bind hb' (Tells.const _)))))
    · refine ⟨false, ?_, ?_, fun _ h => absurd h h2, fun h => by cases h⟩
      · exact Tells.bind hx (Tells.pos h1 (Tells.bind hR (Tells.neg h2 (Tells.const _))))
      · exact Tells.bind hr (Tells.pos h1 (Tells.bind hrR (Tells.neg h2 (Tells.const _))))
  · rw [if_neg h1]
    refine ⟨false, ?_, ?_, fun h => absurd h h1, fun h => by cases h⟩
    · exact Tells.bind hx (Tells.neg h1 (Tells.const _))
    · exact Tells.bind hr (Tells.neg h1 (Tells.const _))
end Go.Proofs.Ytkfnaiobgddjpaa.Pu

namespace Go.Proofs.Ytkfnaiobgddjpaa.Pu
open Go.RowKit Go.Proofs.Ytkfnaiobgddjpaa.P Go.Proofs.YtkfnaiobgddjpaaW.PrintWords Go.Proofs.YtkfnaiobgddjpaaW.PrintLast Go.Proofs.YtkfnaiobgddjpaaW.PrintMore

/-- A log as a reading has it. -/
def LogOk (log : List S64) : Prop := log.length < 4611686018427387904 ∧ ∀ x ∈ log, x.f1.length < 4611686018427387904 ∧ ∀ y ∈ x.f1, I64 y
/-- Where the first one stands that is the same as a clause. -/
def at23 (all : List (List Int)) (c : List Int) : Int := ixOf (fun l => sameL l c) all 0
/-- A log's steps hold. -/
def GoodS (n : Int) : List S64 → List (List Int) → Prop
  | [], _ => True
  | x :: t, all => if x.f0 = true then 0 ≤ at23 all x.f1 ∧ GoodS n t (all.take (at23 all x.f1).toNat ++ all.drop ((at23 all x.f1).toNat + 1))
    else clauseErr x.f1 n = 0 ∧ FollowsP all x.f1 ∧ GoodS n t (all ++ [x.f1])
theorem ixOf_congr {α : Type} {p q : α → Bool} : ∀ (l : List α) (i : Int), (∀ x ∈ l, p x = q x) → ixOf p l i = ixOf q l i
  | [], _, _ => rfl
  | x :: l, i, h => by rw [ixOf, ixOf, h x (by simp), ixOf_congr l (i + 1) (fun y hy => h y (by simp [hy]))]
theorem ixOf_any {α : Type} (p : α → Bool) : ∀ (l : List α) (i : Nat), decide (0 ≤ ixOf p l (i : Int)) = l.any p
  | [], i => rfl
  | x :: l, i => by
    rw [ixOf, List.any_cons]
    by_cases h : p x = true
    · rw [if_pos h, h, Bool.true_or]; exact decide_eq_true (by omega)
    · rw [if_neg h, Bool.eq_false_iff.2 h, Bool.false_or, show (i : Int) + 1 = ((i + 1 : Nat) : Int) by omega]
      exact ixOf_any p l (i + 1)
/-- With enough rounds Same tells for all clauses. -/
theorem same_all (c : List Int) (hc : c.length < 4611686018427387904) : ∀ (all : List (List Int)), (∀ l ∈ all, l.length < 4611686018427387904) → ∃ k0, ∀ k, k0 ≤ k → ∀ l ∈ all, lit_Same.f k l c = some (sameL l c)
  | [], _ => ⟨0, fun _ _ l hl => by cases hl⟩
  | x :: all, h => by
    obtain ⟨k0, h0⟩ := same_all c hc all (fun l hl => h l (by simp [hl]))
    obtain ⟨k1, h1⟩ := lit_Same_tells x c (h x (by simp)) hc
    refine ⟨k0 + k1, fun k hk l hl => ?_⟩
    rcases List.mem_cons.1 hl with rfl | hl
    · exact h1 k (by omega)
    · exact h0 k (by omega) l hl
theorem next_loop (n : Int) (all : List (List Int)) (c : List Int) (hall : ∀ l ∈ all, l.length < 4611686018427387904) (hc : c.length < 4611686018427387904) (hs : all.length ≤ 90000) : ∀ (m i : Nat), m + i = all.length → (∀ l ∈ all.take i, sameL l c = false) →
    Tells (fun k => sequiturref23_Next.l0 k all (i : Int) true c) (if ixOf (fun l => sameL l c) (all.drop i) (i : Int) < 0 then (all, 3) else (all.take (ixOf (fun l => sameL l c) (all.drop i) (i : Int)).toNat ++ all.drop ((ixOf (fun l => sameL l c) (all.drop i) (i : Int)).toNat + 1), 0))
  | 0, i, h, _ => by
    refine Tells.succ (fun k => by rw [sequiturref23_Next.l0]) (Tells.neg (by omega) ?_)
    rw [List.drop_of_length_le (by omega), ixOf, if_pos (by decide)]
    exact Tells.const _
  | m + 1, i, h, hb => by
    have hi : i < all.length := by omega
    refine Tells.succ (fun k => by rw [sequiturref23_Next.l0]) (Tells.pos (by omega) (Tells.pos (by omega) ?_))
    rw [rdL_at _ _ hi, w64s hi (by omega), ixOf_drop _ _ _ hi]
    refine Tells.bind (r17_Same_tells all[i] c (hall _ (List.getElem_mem hi)) hc) ?_
    by_cases h1 : sameL all[i] c = true
    · rw [if_pos h1, if_neg (show ¬ (i : Int) < 0 by omega)]
      refine Tells.pos h1 (Tells.pos (by omega) (Tells.bind (Tells.const _) (Tells.pos (by simp; omega) (Tells.bind (Tells.const _) (Tells.pos (by omega) (Tells.pos (by omega) (Tells.bind (Tells.const _) (Tells.pos (by simp; omega) ?_))))))))
      rw [Int.toNat_natCast, Int.toNat_natCast, List.nil_append]
      exact Tells.const _
    · rw [if_neg h1]
      refine Tells.neg h1 (next_loop n all c hall hc hs m (i + 1) (by omega) (fun l hl => ?_))
      rw [List.take_add_one, List.getElem?_eq_getElem hi] at hl
      rcases List.mem_append.1 hl with hl | hl
      · exact hb l hl
      · rw [show l = all[i] by simpa using hl]; exact Bool.eq_false_iff.2 h1
theorem steps_tells (n : Int) (l : List (List Int)) (log : List S64) (hn : 0 ≤ n ∧ n ≤ 1024) (hlog : LogOk log) : ∀ (m i : Nat) (all : List (List Int)), m + i = log.length → all.length + m ≤ 90000 → (∀ c ∈ all, Lits n c ∧ c.length ≤ 64) →
    ∃ r, Tells (fun k => rup_steps.l1 k n (log.drop i) (i : Int) all) r ∧ Tells (fun k => sequiturref23_steps.l0 k log all (i : Int) n l) r ∧ (r.2 = 0 ↔ GoodS n (log.drop i) all) ∧ (r.2 = 0 → r.1 = 0)
  | 0, i, all, h, _, _ => by
    refine ⟨(0, 0), ?_, Tells.succ (fun k => by rw [sequiturref23_steps.l0]) (Tells.neg (by omega) (Tells.const _)), ?_, fun _ => rfl⟩
    · rw [List.drop_of_length_le (by omega)]; exact Tells.const _
    · rw [List.drop_of_length_le (by omega)]
      exact ⟨fun _ => trivial, fun _ => rfl⟩
  | m + 1, i, all, h, hs, hall => by
    have hi : i < log.length := by omega
    have hw := w64s hi hlog.1
    obtain ⟨x, hx⟩ : ∃ x, log[i] = x := ⟨_, rfl⟩
    obtain ⟨x1, x2⟩ := hlog.2 _ (List.getElem_mem hi)
    rw [hx] at x1 x2
    have hd : log.drop i = x :: log.drop (i + 1) := by rw [List.drop_eq_getElem_cons hi, hx]
    have hn64 : I64 n := by
      unfold I64 Lit.wf
      have a : IntKind.i64.min = -9223372036854775808 := by decide
      have b : IntKind.i64.max = 9223372036854775807 := by decide
      simp only [Bool.and_eq_true, decide_eq_true_eq]
      omega
    have ref : ∀ {v : Int × Int} {nx : List (List Int) × Int}, Tells (fun k => sequiturref23_Next.f k n all x.f0 x.f1) nx → Tells (fun k => if nx.2 = 0 then sequiturref23_steps.l0 k log nx.1 ((i + 1 : Nat) : Int) n l else some ((i : Int), nx.2)) v → Tells (fun k => sequiturref23_steps.l0 k log all (i : Int) n l) v := fun h1 h2 => by
      refine Tells.succ (fun k => by rw [sequiturref23_steps.l0]) (Tells.pos (by omega) (Tells.pos (by omega) ?_))
      rw [rdT_at _ _ hi, hx, hw]
      exact Tells.bind h1 h2
    rw [hd]
    by_cases hb : x.f0 = true
    · obtain ⟨k0, hk0⟩ := same_all x.f1 x1 all (fun c hc => by have := (hall c hc).2; omega)
      have hprog : ∀ {v : Int × Int}, Tells (fun k => if at23 all x.f1 < 0 then some ((i : Int), 3) else rup_steps.l1 k n (log.drop (i + 1)) ((i : Int) + 1) (all.take (at23 all x.f1).toNat ++ all.drop ((at23 all x.f1).toNat + 1))) v → Tells (fun k => rup_steps.l1 k n (x :: log.drop (i + 1)) (i : Int) all) v := fun hv => by
        obtain ⟨k1, h1⟩ := hv
        refine ⟨k0 + k1, fun k hk => ?_⟩
        have hk := hk
        have hs : ∀ l ∈ all, lit_Same.f k l x.f1 = some (sameL l x.f1) := hk0 k (by omega)
        have he : ixOf (fun l => (lit_Same.f k l x.f1).getD false) all 0 = at23 all x.f1 := ixOf_congr all 0 (fun l hl => by rw [hs l hl]; rfl)
        show rup_steps.l1 k n (x :: log.drop (i + 1)) (i : Int) all = some _
        rw [rup_steps.l1, if_pos hb, if_pos (fun l hl => by rw [hs l hl]; rfl), he]
        exact h1 k (by omega)
      have hN : Tells (fun k => sequiturref23_Next.f k n all x.f0 x.f1) (if at23 all x.f1 < 0 then (all, 3) else (all.take (at23 all x.f1).toNat ++ all.drop ((at23 all x.f1).toNat + 1), 0)) := by
        unfold sequiturref23_Next.f
        rw [hb]
        exact Tells.pos rfl (next_loop n all x.f1 (fun c hc => by have := (hall c hc).2; omega) x1 (by omega) all.length 0 rfl (fun l hl => by cases hl))
      by_cases ha : at23 all x.f1 < 0
      · rw [if_pos ha] at hN
        refine ⟨((i : Int), 3), hprog (Tells.pos ha (Tells.const _)), ref hN (Tells.neg (by simp) (Tells.const _)), ?_, fun h => (by cases h)⟩
        unfold GoodS
        rw [if_pos hb]
        exact ⟨fun h => (by cases h), fun h => absurd h.1 (by omega)⟩
      · rw [if_neg ha] at hN
        obtain ⟨r, h1, h2, h3, h4⟩ := steps_tells n l log hn hlog m (i + 1) (all.take (at23 all x.f1).toNat ++ all.drop ((at23 all x.f1).toNat + 1)) (by omega) (by rw [List.length_append, List.length_take, List.length_drop]; omega) (fun c hc => by
          rcases List.mem_append.1 hc with hc | hc
          · exact hall c (List.mem_of_mem_take hc)
          · exact hall c (List.mem_of_mem_drop hc))
        refine ⟨r, hprog (Tells.neg ha ?_), ref hN (Tells.pos rfl h2), ?_, h4⟩
        · rw [show ((i : Int) + 1) = ((i + 1 : Nat) : Int) by omega]; exact h1
        · unfold GoodS
          rw [if_pos hb, h3]
          exact ⟨fun h => ⟨by omega, h⟩, fun h => h.2⟩
    · have hR := lit_Right_tells x.f1 n x2 hn64 x1
      have hrR := r17_Right_tells x.f1 n x2 hn64 x1
      have hprog : ∀ {v : Int × Int}, Tells (fun k => (lit_Right.f k x.f1 n).bind fun e => if e = 0 then ((rup_follows.f k all n x.f1).bind fun b => if b = true then (if all.length + 1 < rup_steps.cap then rup_steps.l1 k n (log.drop (i + 1)) ((i : Int) + 1) (all ++ [x.f1]) else none) else some ((i : Int), 30)) else some ((i : Int), e)) v → Tells (fun k => rup_steps.l1 k n (x :: log.drop (i + 1)) (i : Int) all) v := fun hv => by
        refine Tells.congr (fun k => ?_) hv
        rw [rup_steps.l1, if_neg hb]
      have hb' := Bool.eq_false_iff.2 hb
      by_cases he : clauseErr x.f1 n = 0
      · obtain ⟨b1, b2⟩ := clauseErr_lits he
        obtain ⟨b, hF, hiff⟩ := follows_tells hn (fun c hc => (hall c hc).1) b1
        obtain ⟨b', hF', hiff'⟩ := rfollows_tells hn hall (by omega) b1 b2
        obtain rfl : b = b' := Bool.eq_iff_iff.2 (hiff.trans hiff'.symm)
        by_cases hbt : b = true
        · obtain ⟨r, h1, h2, h3, h4⟩ := steps_tells n l log hn hlog m (i + 1) (all ++ [x.f1]) (by omega) (by simp; omega) (fun c hc => by
            rcases List.mem_append.1 hc with hc | hc
            · exact hall c hc
            · rw [List.mem_singleton.1 hc]; exact ⟨b1, b2⟩)
          have hN : Tells (fun k => sequiturref23_Next.f k n all x.f0 x.f1) (all ++ [x.f1], 0) := by
            unfold sequiturref23_Next.f
            rw [hb']
            refine Tells.neg (by decide) (Tells.bind hrR (Tells.pos he (Tells.bind hF' (Tells.pos hbt (Tells.pos (by simp; omega) (Tells.bind (Tells.const _) (Tells.pos (by simp; omega) ?_)))))))
            rw [List.nil_append]; exact Tells.const _
          refine ⟨r, hprog (Tells.bind hR (Tells.pos he (Tells.bind hF (Tells.pos hbt (Tells.pos (by unfold rup_steps.cap; omega) ?_))))), ref hN (Tells.pos rfl h2), ?_, h4⟩
          · rw [show ((i : Int) + 1) = ((i + 1 : Nat) : Int) by omega]; exact h1
          · unfold GoodS
            rw [if_neg hb, h3]
            exact ⟨fun h => ⟨he, hiff.1 hbt, h⟩, fun h => h.2.2⟩
        · have hN : Tells (fun k => sequiturref23_Next.f k n all x.f0 x.f1) (all, 30) := by
            unfold sequiturref23_Next.f
            rw [hb']
            exact Tells.neg (by decide) (Tells.bind hrR (Tells.pos he (Tells.bind hF' (Tells.neg hbt (Tells.const _)))))
          refine ⟨((i : Int), 30), hprog (Tells.bind hR (Tells.pos he (Tells.bind hF (Tells.neg hbt (Tells.const _))))), ref hN (Tells.neg (by simp) (Tells.const _)), ?_, fun h => (by cases h)⟩
          unfold GoodS
          rw [if_neg hb]
          exact ⟨fun h => (by cases h), fun h => absurd (hiff.2 h.2.1) hbt⟩
      · have hN : Tells (fun k => sequiturref23_Next.f k n all x.f0 x.f1) (all, clauseErr x.f1 n) := by
          unfold sequiturref23_Next.f
          rw [hb']
          exact Tells.neg (by decide) (Tells.bind hrR (Tells.neg he (Tells.const _)))
        refine ⟨((i : Int), clauseErr x.f1 n), hprog (Tells.bind hR (Tells.neg he (Tells.const _))), ref hN (Tells.neg he (Tells.const _)), ?_, fun h => absurd h he⟩
        unfold GoodS
        rw [if_neg hb]
        exact ⟨fun h => absurd h he, fun h => absurd h.1 he⟩
/-- An empty clause is there, or is added. -/
def endB (l : List (List Int)) (log : List S64) : Bool := l.any isE || log.any addsE
theorem chk_l1 (log : List S64) (hs : log.length < 4611686018427387904) : ∀ (m i : Nat), m + i = log.length →
    Tells (fun k => sequiturref23_Check.l1 k log (i : Int)) (if (log.drop i).any addsE = true then (0, 0) else ((log.length : Int), 24))
  | 0, i, h => by
    refine Tells.succ (fun k => by rw [sequiturref23_Check.l1]) (Tells.neg (by omega) ?_)
    rw [List.drop_of_length_le (by omega)]; exact Tells.const _
  | m + 1, i, h => by
    have hi : i < log.length := by omega
    have ih := chk_l1 log hs m (i + 1) (by omega)
    refine Tells.succ (fun k => by rw [sequiturref23_Check.l1]) (Tells.pos (by omega) (Tells.pos (by omega) ?_))
    rw [rdT_at _ _ hi, w64s hi hs, List.drop_eq_getElem_cons hi, List.any_cons]
    by_cases hb : log[i].f0 = true
    · refine Tells.pos hb ?_
      rw [show addsE log[i] = false by unfold addsE; rw [hb]; rfl, Bool.false_or]; exact ih
    · refine Tells.neg hb ?_
      by_cases he : (log[i].f1.length : Int) = 0
      · refine Tells.pos he ?_
        rw [show addsE log[i] = true by unfold addsE isE; rw [Bool.eq_false_iff.2 hb, he]; rfl, Bool.true_or]; exact Tells.const _
      · refine Tells.neg he ?_
        rw [show addsE log[i] = false by unfold addsE isE; rw [beq_eq_false_iff_ne.2 he, Bool.and_false], Bool.false_or]; exact ih
theorem chk_l0 (n : Int) (l : List (List Int)) (log : List S64) (hl : l.length < 4611686018427387904) (hs : log.length < 4611686018427387904) : ∀ (m i : Nat), m + i = l.length →
    Tells (fun k => sequiturref23_Check.l0 k log (i : Int) n l) (if ((l.drop i).any isE || log.any addsE) = true then (0, 0) else ((log.length : Int), 24))
  | 0, i, h => by
    have h1 := chk_l1 log hs log.length 0 rfl
    refine Tells.succ (h := fun k => if (i : Int) < (l.length : Int) then _ else sequiturref23_Check.l1 k log 0) (fun k => by rw [sequiturref23_Check.l0]) (Tells.neg (by omega) ?_)
    rw [List.drop_of_length_le (by omega)]; exact h1
  | m + 1, i, h => by
    have hi : i < l.length := by omega
    have ih := chk_l0 n l log hl hs m (i + 1) (by omega)
    refine Tells.succ (fun k => by rw [sequiturref23_Check.l0]) (Tells.pos (by omega) (Tells.pos (by omega) ?_))
    rw [rdL_at _ _ hi, w64s hi hl, List.drop_eq_getElem_cons hi, List.any_cons]
    by_cases he : (l[i].length : Int) = 0
    · refine Tells.pos he ?_
      rw [show isE l[i] = true by unfold isE; rw [he]; rfl, Bool.true_or, Bool.true_or]; exact Tells.const _
    · refine Tells.neg he ?_
      rw [show isE l[i] = false from beq_eq_false_iff_ne.2 he, Bool.false_or]; exact ih
theorem Check_tells (n : Int) (l : List (List Int)) (log : List S64) (hl : Rows64 l) (hn : I64 n) (hlog : LogOk log) :
    ∃ r, Tells (fun k => rup_Check.f k n l log) r ∧ Tells (fun k => sequiturref23_Check.f k n l log) r ∧ (r.2 = 0 → setErr n l = 0 ∧ GoodS n log l ∧ endB l log = true) := by
  obtain ⟨x, hx⟩ := cnf_Right_tells n l hl hn
  have hr := r20_Right_tells n l hl hn
  unfold rup_Check.f sequiturref23_Check.f
  by_cases h1 : setErr n l = 0
  · obtain ⟨a1, a2, a3⟩ := setErr_lits h1
    by_cases h2 : (log.length : Int) > 4096
    · exact ⟨(-1, 2), Tells.bind hx (Tells.pos h1 (Tells.pos h2 (Tells.const _))), Tells.bind hr (Tells.pos h1 (Tells.pos h2 (Tells.const _))), fun h => (by cases h)⟩
    · obtain ⟨r, s1, s2, s3, s4⟩ : ∃ r, Tells (fun k => rup_steps.l1 k n log 0 l) r ∧ Tells (fun k => sequiturref23_steps.l0 k log l 0 n l) r ∧ (r.2 = 0 ↔ GoodS n log l) ∧ (r.2 = 0 → r.1 = 0) := steps_tells n l log a1 hlog log.length 0 l rfl (by omega) a3
      have s1' : Tells (fun k => rup_steps.f k n l log) r := by unfold rup_steps.f; exact Tells.pos (by unfold rup_steps.cap; omega) s1
      by_cases h3 : r.2 = 0
      · have hc0 : Tells (fun k => sequiturref23_Check.l0 k log 0 n l) (if (l.any isE || log.any addsE) = true then (0, 0) else ((log.length : Int), 24)) := chk_l0 n l log hl.1 hlog.1 l.length 0 rfl
        refine ⟨if endB l log = true then (0, 0) else ((log.length : Int), 24), Tells.bind hx (Tells.pos h1 (Tells.neg h2 (Tells.bind s1' (Tells.pos h3 ?_)))), Tells.bind hr (Tells.pos h1 (Tells.neg h2 (Tells.bind s2 (Tells.pos h3 hc0)))), fun h => ⟨h1, s3.1 h3, ?_⟩⟩
        · have e1 : decide (0 ≤ ixOf isE l 0) = l.any isE := ixOf_any isE l 0
          have e2 : decide (0 ≤ ixOf addsE log 0) = log.any addsE := ixOf_any addsE log 0
          rw [e1, e2]
          unfold endB
          cases l.any isE with
          | true => exact Tells.const _
          | false => cases log.any addsE <;> exact Tells.const _
        · by_cases he : endB l log = true
          · exact he
          · rw [if_neg he] at h; cases h
      · exact ⟨r, Tells.bind hx (Tells.pos h1 (Tells.neg h2 (Tells.bind s1' (Tells.neg h3 (Tells.const _))))), Tells.bind hr (Tells.pos h1 (Tells.neg h2 (Tells.bind s2 (Tells.neg h3 (Tells.const _))))), fun h => absurd h h3⟩
  · exact ⟨(-1, setErr n l), Tells.bind hx (Tells.neg h1 (Tells.const _)), Tells.bind hr (Tells.neg h1 (Tells.const _)), fun h => absurd h h1⟩
/-- It ends with a clause. -/
def endsB (log : List S64) (c : List Int) : Bool := match log.getLast? with
  | none => false
  | some x => !x.f0 && sameL x.f1 c
def endK (log : List S64) (c : List Int) (k : Nat) (bt : Int × Int) : Option (Int × Int) :=
  if bt.2 = 0 then (if (log.length : Int) > 0 then (if 0 ≤ (wrap64 ((log.length : Int) - 1)) then (if (wrap64 ((log.length : Int) - 1)) < (log.length : Int) then (if ((rd_T64 log (wrap64 ((log.length : Int) - 1))).f0 = true) then (some ((log.length : Int), 24)) else ((sequiturref17_Same.f k ((rd_T64 log (wrap64 ((log.length : Int) - 1))).f1) c).bind fun t => (if t = true then (some (0, 0)) else (some ((log.length : Int), 24))))) else (none)) else (none)) else (some ((log.length : Int), 24))) else (some (bt.1, bt.2))
theorem Ends_tells (n : Int) (l : List (List Int)) (log : List S64) (c : List Int) (hl : Rows64 l) (hn : I64 n) (hlog : LogOk log) (hc : ∀ y ∈ c, I64 y) (hcs : c.length < 4611686018427387904) :
    ∃ r, Tells (fun k => rup_Ends.f k n l log c) r ∧ Tells (fun k => sequiturref23_Ends.f k n l log c) r ∧ (r.2 = 0 → setErr n l = 0 ∧ GoodS n log l ∧ endsB log c = true) ∧
      (setErr n l = 0 → clauseErr c n = 0 → log.length ≤ 4096 → GoodS n log l → r = if endsB log c = true then (0, 0) else ((log.length : Int), 24)) := by
  obtain ⟨x, hx⟩ := cnf_Right_tells n l hl hn
  have hr := r20_Right_tells n l hl hn
  have hR := lit_Right_tells c n hc hn hcs
  have hrR := r17_Right_tells c n hc hn hcs
  unfold rup_Ends.f sequiturref23_Ends.f
  by_cases h1 : setErr n l = 0
  · obtain ⟨a1, a2, a3⟩ := setErr_lits h1
    by_cases h2 : clauseErr c n = 0
    · by_cases h3 : (log.length : Int) > 4096
      · refine ⟨(-1, 2), Tells.bind hx (Tells.pos h1 (Tells.bind hR (Tells.pos h2 (Tells.pos h3 (Tells.const _))))), Tells.bind hr (Tells.pos h1 (Tells.bind hrR ?_)), fun h => (by cases h), fun _ _ h => by omega⟩
        refine Tells.succ (fun k => by rw [sequiturref23_Ends.j0]) (Tells.pos h2 ?_)
        rw [decide_eq_true h3]
        refine Tells.succ (fun k => by rw [sequiturref23_Ends.j1]) (Tells.pos rfl ?_)
        exact Tells.succ (fun k => by rw [sequiturref23_Ends.j2]) (Tells.neg (by decide) (Tells.const _))
      · obtain ⟨r, s1, s2, s3, s4⟩ : ∃ r, Tells (fun k => rup_steps.l1 k n log 0 l) r ∧ Tells (fun k => sequiturref23_steps.l0 k log l 0 n l) r ∧ (r.2 = 0 ↔ GoodS n log l) ∧ (r.2 = 0 → r.1 = 0) := steps_tells n l log a1 hlog log.length 0 l rfl (by omega) a3
        have s1' : Tells (fun k => rup_steps.f k n l log) r := by unfold rup_steps.f; exact Tells.pos (by unfold rup_steps.cap; omega) s1
        have pre : ∀ {v : Int × Int}, Tells (fun k => if r.2 = 0 then (if (log.length : Int) > 0 then (if 0 ≤ (wrap64 ((log.length : Int) - 1)) then (if (wrap64 ((log.length : Int) - 1)) < (log.length : Int) then (if ((rd_T64 log (wrap64 ((log.length : Int) - 1))).f0 = true) then (some ((log.length : Int), 24)) else ((sequiturref17_Same.f k ((rd_T64 log (wrap64 ((log.length : Int) - 1))).f1) c).bind fun t => (if t = true then (some (0, 0)) else (some ((log.length : Int), 24))))) else (none)) else (none)) else (some ((log.length : Int), 24))) else (some (r.1, r.2))) v → Tells (fun k => (sequiturref20_Right.f k n l).bind fun t632 => (if t632 = 0 then ((sequiturref17_Right.f k c n).bind fun t633 => (sequiturref23_Ends.j0 k log c t633 n l)) else (sequiturref23_Ends.j0 k log c t632 n l))) v := fun hv => by
          refine Tells.bind hr (Tells.pos h1 (Tells.bind hrR ?_))
          refine Tells.succ (fun k => by rw [sequiturref23_Ends.j0]) (Tells.pos h2 ?_)
          rw [decide_eq_false h3]
          refine Tells.succ (fun k => by rw [sequiturref23_Ends.j1]) (Tells.neg (by decide) ?_)
          exact Tells.succ (h := fun k => if clauseErr c n = 0 then (sequiturref23_steps.f k n l log).bind (endK log c k) else some (-1, clauseErr c n)) (fun k => by rw [sequiturref23_Ends.j2]; rfl) (Tells.pos h2 (Tells.bind (h := fun k => endK log c k) s2 hv))
        by_cases h4 : r.2 = 0
        · by_cases h5 : (log.length : Int) = 0
          · have hnil : log = [] := List.eq_nil_of_length_eq_zero (by omega)
            have he : endsB log c = false := by rw [hnil]; rfl
            refine ⟨((log.length : Int), 24), Tells.bind hx (Tells.pos h1 (Tells.bind hR (Tells.pos h2 (Tells.neg h3 (Tells.bind s1' (Tells.pos h4 (Tells.pos h5 (Tells.const _)))))))), pre (Tells.pos h4 (Tells.neg (by omega) (Tells.const _))), fun h => (by cases h), fun _ _ _ _ => by rw [he]; rfl⟩
          · have hw : wrap64 ((log.length : Int) - 1) = ((log.length - 1 : Nat) : Int) := by unfold wrap64; omega
            have hi : log.length - 1 < log.length := by omega
            have hlast : log.getLast? = some log[log.length - 1] := by rw [List.getLast?_eq_getElem?, List.getElem?_eq_getElem hi]
            obtain ⟨y, hy⟩ : ∃ y, log[log.length - 1] = y := ⟨_, rfl⟩
            have hyl := (hlog.2 _ (List.getElem_mem hi)).1
            rw [hy] at hlast hyl
            have hpick : ∀ {v : Int × Int}, ((y.f0 = true ∧ v = ((log.length : Int), 24)) ∨ (¬ y.f0 = true ∧ v = if sameL y.f1 c = true then (0, 0) else ((log.length : Int), 24))) → Tells (fun k => rup_Ends.f k n l log c) v ∧ Tells (fun k => sequiturref23_Ends.f k n l log c) v := fun hv => by
              have S1 := lit_Same_tells y.f1 c hyl hcs
              have S2 := r17_Same_tells y.f1 c hyl hcs
              unfold rup_Ends.f sequiturref23_Ends.f
              rcases hv with ⟨hf, rfl⟩ | ⟨hf, rfl⟩
              · refine ⟨Tells.bind hx (Tells.pos h1 (Tells.bind hR (Tells.pos h2 (Tells.neg h3 (Tells.bind s1' (Tells.pos h4 (Tells.neg h5 ?_))))))), pre (Tells.pos h4 (Tells.pos (by omega) ?_))⟩
                · rw [hw, rdT_at _ _ hi, hy]; exact Tells.pos (by omega) (Tells.pos (by omega) (Tells.pos hf (Tells.const _)))
                · rw [hw, rdT_at _ _ hi, hy]; exact Tells.pos (by omega) (Tells.pos (by omega) (Tells.pos hf (Tells.const _)))
              · by_cases hsm : sameL y.f1 c = true
                · rw [if_pos hsm]
                  refine ⟨Tells.bind hx (Tells.pos h1 (Tells.bind hR (Tells.pos h2 (Tells.neg h3 (Tells.bind s1' (Tells.pos h4 (Tells.neg h5 ?_))))))), pre (Tells.pos h4 (Tells.pos (by omega) ?_))⟩
                  · rw [hw, rdT_at _ _ hi, hy]; exact Tells.pos (by omega) (Tells.pos (by omega) (Tells.neg hf (Tells.bind S1 (Tells.pos hsm (Tells.const _)))))
                  · rw [hw, rdT_at _ _ hi, hy]; exact Tells.pos (by omega) (Tells.pos (by omega) (Tells.neg hf (Tells.bind S2 (Tells.pos hsm (Tells.const _)))))
                · rw [if_neg hsm]
                  refine ⟨Tells.bind hx (Tells.pos h1 (Tells.bind hR (Tells.pos h2 (Tells.neg h3 (Tells.bind s1' (Tells.pos h4 (Tells.neg h5 ?_))))))), pre (Tells.pos h4 (Tells.pos (by omega) ?_))⟩
                  · rw [hw, rdT_at _ _ hi, hy]; exact Tells.pos (by omega) (Tells.pos (by omega) (Tells.neg hf (Tells.bind S1 (Tells.neg hsm (Tells.const _)))))
                  · rw [hw, rdT_at _ _ hi, hy]; exact Tells.pos (by omega) (Tells.pos (by omega) (Tells.neg hf (Tells.bind S2 (Tells.neg hsm (Tells.const _)))))
            have hends : endsB log c = (!y.f0 && sameL y.f1 c) := by unfold endsB; rw [hlast]
            by_cases hf : y.f0 = true
            · obtain ⟨t1, t2⟩ := hpick (v := ((log.length : Int), 24)) (.inl ⟨hf, rfl⟩)
              refine ⟨_, t1, t2, fun h => (by cases h), fun _ _ _ _ => ?_⟩
              rw [hends, hf]; rfl
            · obtain ⟨t1, t2⟩ := hpick (v := if sameL y.f1 c = true then (0, 0) else ((log.length : Int), 24)) (.inr ⟨hf, rfl⟩)
              have he : endsB log c = sameL y.f1 c := by rw [hends, Bool.eq_false_iff.2 hf]; rfl
              refine ⟨_, t1, t2, fun h => ⟨h1, s3.1 h4, ?_⟩, fun _ _ _ _ => by rw [he]⟩
              rw [he]
              by_cases hsm : sameL y.f1 c = true
              · exact hsm
              · rw [if_neg hsm] at h; cases h
        · exact ⟨r, Tells.bind hx (Tells.pos h1 (Tells.bind hR (Tells.pos h2 (Tells.neg h3 (Tells.bind s1' (Tells.neg h4 (Tells.const _))))))), pre (Tells.neg h4 (Tells.const _)), fun h => absurd h h4, fun _ _ _ h => absurd (s3.2 h) h4⟩
    · refine ⟨(-1, clauseErr c n), Tells.bind hx (Tells.pos h1 (Tells.bind hR (Tells.neg h2 (Tells.const _)))), Tells.bind hr (Tells.pos h1 (Tells.bind hrR ?_)), fun h => absurd h h2, fun _ h => absurd h h2⟩
      refine Tells.succ (fun k => by rw [sequiturref23_Ends.j0]) (Tells.neg h2 ?_)
      refine Tells.succ (fun k => by rw [sequiturref23_Ends.j1]) (Tells.neg (by decide) ?_)
      exact Tells.succ (fun k => by rw [sequiturref23_Ends.j2]) (Tells.neg h2 (Tells.const _))
  · refine ⟨(-1, setErr n l), Tells.bind hx (Tells.neg h1 (Tells.const _)), Tells.bind hr (Tells.neg h1 ?_), fun h => absurd h h1, fun h => absurd h h1⟩
    refine Tells.succ (fun k => by rw [sequiturref23_Ends.j0]) (Tells.neg h1 ?_)
    refine Tells.succ (fun k => by rw [sequiturref23_Ends.j1]) (Tells.neg (by decide) ?_)
    exact Tells.succ (fun k => by rw [sequiturref23_Ends.j2]) (Tells.neg h1 (Tells.const _))
end Go.Proofs.Ytkfnaiobgddjpaa.Pu

namespace Go.Proofs.Ytkfnaiobgddjpaa.Open
open Go.RowKit Go.Proofs.YtkfnaiobgddjpaaW.PrintWords Go.Proofs.YtkfnaiobgddjpaaW.PrintLast Go.Proofs.YtkfnaiobgddjpaaW.PrintMore Go.ChangeShapes Go.WideShapes Go.Deep

/-- What a reading of type t tells of the cells: they hold a value of kind d, which is good, and which leads to blocks that lie there; all weights are within the bound. -/
def Opens (P : Program) (t : TypeId) {α : Type} (d : Kd α) (good : α → Prop) : Prop :=
  ∀ {H : Type} (enc : TypeId × Value → H) (w : World) (fuel : Nat) (cs : List Value) (x : DataW H × List MemPlace),
    DataW.trod enc P w 0 (fun _ => true) true fuel t cs = some x → (∀ n ∈ DataW.weights P t x.1, n ≤ 140737488351232) → ∃ a, Kd.FK d w (fun _ => True) a cs ∧ good a
/-- A row that is good: not longer than its bytes, each element good. -/
def Row (B : Nat) {α : Type} (good : α → Prop) (xs : List α) : Prop := xs.length * B ≤ 140737488351232 ∧ ∀ x ∈ xs, good x
def I64 (n : Int) : Prop := (Lit.int .i64 n).wf = true

variable {P : Program}
theorem cell_same {w W' : World} (hW : ∀ k, (fun _ => True) k → k < w.heap.size → W'.heap[k]? = w.heap[k]?) {p : Addr} {u : Value} (h : w.cell? p = some u) : W'.cell? p = some u := by
  have hlt : p.block < w.heap.size := by
    rcases Nat.lt_or_ge p.block w.heap.size with h1 | h1
    · exact h1
    · simp [World.cell?, Array.getElem?_eq_none h1] at h
  have hb : W'.heap[p.block]? = w.heap[p.block]? := hW _ trivial hlt
  unfold World.cell? at h ⊢
  rw [hb]; exact h
theorem int_ {t : TypeId} {k : IntKind} (ht : P.underlying t = some (.int k)) : Opens P t (Kd.int k) (fun n => (Lit.int k n).wf = true) := by
  intro H enc w fuel cs x h _
  obtain ⟨n, rfl, hx, hw⟩ := DataW.trod_int ht h
  exact ⟨n, fun _ _ => rfl, hw⟩
theorem bool_ {t : TypeId} (ht : P.underlying t = some .bool) : Opens P t Kd.bool (fun _ => True) := by
  intro H enc w fuel cs x h _
  obtain ⟨b, rfl, hx⟩ := DataW.trod_bool ht h
  exact ⟨b, fun _ _ => rfl, trivial⟩
theorem string_ {t : TypeId} (ht : P.underlying t = some .string) : Opens P t Kd.string (fun s => s.size ≤ maxLen) := by
  intro H enc w fuel cs x h _
  obtain ⟨s, rfl, hx, hs⟩ := DataW.trod_string ht h
  exact ⟨s, fun _ _ => rfl, hs⟩
theorem mem_weightsAll {H : Type} {e : TypeId} {n : Nat} : ∀ {l : List (DataW H)} {d : DataW H}, d ∈ l → n ∈ DataW.weights P e d → n ∈ DataW.weightsAll P e l
  | [], _, h, _ => by cases h
  | y :: l, d, h, hn => by
    rw [DataW.weightsAll]
    rcases List.mem_cons.1 h with rfl | h
    · exact List.mem_append_left _ hn
    · exact List.mem_append_right _ (mem_weightsAll h hn)
theorem slice_ {t e : TypeId} {α : Type} {d : Kd α} {good : α → Prop} {B : Nat} (ht : P.underlying t = some (.slice e)) (hd : P.cellsOf e = d.sz) (hB : P.bytesOf e = B) (hB0 : 0 < B) (he : Opens P e d good) :
    Opens P t (Kd.slice e d) (Row B good) := by
  intro H enc w fuel cs x h hx
  rcases open_slice ht h with ⟨rfl, rfl⟩ | ⟨a, len, cap, m, n, D, Pl, rfl, _, hl, hm, hmm, rfl, hel⟩
  · exact ⟨[], fun _ _ => ⟨none, 0, rfl, Nat.le_refl _, rfl, Nat.zero_le _, fun h => absurd h (Nat.lt_irrefl 0)⟩, by simp, fun x hx => by cases hx⟩
  · simp only [if_true] at hmm
    obtain rfl : m = cap := hmm
    rw [hd] at hel
    have hw : ∀ i, i < len → ∀ q ∈ DataW.weights P e (D i), q ≤ 140737488351232 := fun i hi q hq => by
      refine hx q ?_
      show q ∈ DataW.weights P t (DataW.slice _ _)
      rw [DataW.weights, ht]
      exact List.mem_cons_of_mem _ (List.mem_append_left _ (mem_weightsAll (List.mem_map.2 ⟨i, List.mem_range.2 hi, rfl⟩) hq))
    have hlen : len * B ≤ 140737488351232 := by
      have := hx ((len + (m - len)) * B) (by
        show _ ∈ DataW.weights P t (DataW.slice _ _)
        rw [DataW.weights, ht]
        simp [hB])
      exact Nat.le_trans (Nat.mul_le_mul_right _ (by omega)) this
    have hlt : len ≤ 140737488351232 := Nat.le_trans (Nat.le_mul_of_pos_right _ hB0) hlen
    have each : ∀ i, i < len → ∃ y, (∃ cs', w.cells? 0 (a.add (i * d.sz)) d.sz = some cs' ∧ Kd.FK d w (fun _ => True) y cs') ∧ good y := fun i hi => by
      obtain ⟨cs', h1, h2⟩ := hel i (by omega)
      obtain ⟨y, hy, hg⟩ := he enc w n cs' (D i, Pl i) h2 (hw i hi)
      exact ⟨y, ⟨cs', h1, hy⟩, hg⟩
    have : ∃ xs : List α, xs.length = len ∧ ∀ i y, xs[i]? = some y → (∃ cs', w.cells? 0 (a.add (i * d.sz)) d.sz = some cs' ∧ Kd.FK d w (fun _ => True) y cs') ∧ good y := by
      clear hw hlen hlt hel hx h
      clear hl
      induction len with
      | zero => exact ⟨[], rfl, fun i y h => by simp at h⟩
      | succ j ih =>
        obtain ⟨xs, hxs, hk⟩ := ih (fun i hi => each i (by omega))
        obtain ⟨y, hy⟩ := each j (by omega)
        refine ⟨xs ++ [y], by simp [hxs], fun i z hz => ?_⟩
        rcases Nat.lt_or_ge i xs.length with hi | hi
        · rw [List.getElem?_append_left hi] at hz; exact hk i z hz
        · rw [List.getElem?_append_right hi] at hz
          have : i - xs.length = 0 := by
            rcases Nat.eq_zero_or_pos (i - xs.length) with h0 | h0
            · exact h0
            · rw [List.getElem?_eq_none (by simp; omega)] at hz; cases hz
          rw [this] at hz
          simp at hz
          subst hz
          obtain rfl : i = j := by omega
          exact hy
    obtain ⟨xs, hxs, hk⟩ := this
    refine ⟨xs, fun W' hW => ⟨some a, m, by rw [hxs], by omega, ⟨rfl, by omega, fun _ => ⟨a, rfl, fun j p hj => ?_⟩⟩⟩, by rw [hxs]; exact hlen, fun y hy => ?_⟩
    · obtain ⟨⟨cs', h1, h2⟩, _⟩ := hk j p hj
      obtain ⟨_, h3, h4⟩ := World.cells?_some h1
      refine ⟨cs', h3, h2 W' hW, fun i u hu => ?_⟩
      have hi : i < d.sz := by rw [← h3]; exact (List.getElem?_eq_some_iff.1 hu).1
      have hc := h4 i hi
      rw [hu] at hc
      rw [Addr.add_add] at hc
      exact cell_same hW hc
    · obtain ⟨i, hi, rfl⟩ := List.getElem_of_mem hy
      exact (hk i _ (List.getElem?_eq_getElem hi)).2
/-- A struct of two fields in line. -/
theorem struct2_ {t : TypeId} {f0 f1 : Field} {α β : Type} {d0 : Kd α} {d1 : Kd β} {g0 : α → Prop} {g1 : β → Prop} (ht : P.underlying t = some (.struct #[f0, f1])) (h0 : f0.offset = 0) (c0 : P.cellsOf f0.type = d0.sz) (h1 : f1.offset = d0.sz) (c1 : P.cellsOf f1.type = d1.sz) (hc : P.cellsOf t = d0.sz + d1.sz)
    (o0 : Opens P f0.type d0 g0) (o1 : Opens P f1.type d1 g1) : Opens P t (Kd.pair d0 d1) (fun x => g0 x.1 ∧ g1 x.2) := by
  intro H enc w fuel cs x h hx
  obtain ⟨y0, y1, n, rfl, hl, t0, t1⟩ := trod_struct2 ht h
  have hw : ∀ (j : Nat) (f : Field) (q : DataW H), (#[f0, f1] : Array Field).toList[j]? = some f → [y0.1, y1.1][j]? = some q → ∀ m ∈ DataW.weights P f.type q, m ≤ 140737488351232 := fun j f q hf hq m hm => by
    refine hx m ?_
    show m ∈ DataW.weights P t (.agg [y0.1, y1.1])
    rw [DataW.weights, ht]
    exact DataW.weights_mem_each (ts := (#[f0, f1] : Array Field).toList.map (·.type)) (by rw [List.getElem?_map, hf]; rfl) hq m hm
  obtain ⟨a, ha, ga⟩ := o0 enc w n _ y0 t0 (hw 0 f0 y0.1 rfl rfl)
  obtain ⟨b, hb, gb⟩ := o1 enc w n _ y1 t1 (hw 1 f1 y1.1 rfl rfl)
  refine ⟨(a, b), fun W' hW => ⟨_, _, ?_, ha W' hW, hb W' hW⟩, ga, gb⟩
  rw [h0, c0, h1, c1, List.drop_zero, List.take_of_length_le (l := cs.drop d0.sz) (by rw [List.length_drop]; omega), List.take_append_drop]
theorem iso_ {t : TypeId} {α β : Type} {d : Kd α} {good : α → Prop} (f : β → α) (g : α → β) (hfg : ∀ a, f (g a) = a) (o : Opens P t d good) : Opens P t (Kd.iso d f) (fun x => good (f x)) := by
  intro H enc w fuel cs x h hx
  obtain ⟨a, ha, ga⟩ := o enc w fuel cs x h hx
  exact ⟨g a, fun W' hW => by show d.K W' (f (g a)) cs; rw [hfg]; exact ha W' hW, by show good (f (g a)); rw [hfg]; exact ga⟩
/-- A slice that is an argument. -/
theorem slice_arg {H : Type} {enc : TypeId × Value → H} {w : World} {t e : TypeId} {α : Type} {d : Kd α} {good : List α → Prop} (ho : Opens P t (Kd.slice e d) good) {A : Option Addr} {len cap : Nat} {x : DataW H} {p : List MemPlace}
    (h : DataW.Trod enc P w 0 (fun _ => true) true t (.slice A len cap) x p) (hx : ∀ n ∈ DataW.weights P t x, n ≤ 140737488351232) :
    ∃ l : List α, len = l.length ∧ Kd.F d w (fun _ => True) A l.length l ∧ l.length ≤ cap ∧ good l := by
  obtain ⟨fuel, hf⟩ := h
  obtain ⟨l, hF, hg⟩ := ho enc w fuel _ _ hf hx
  obtain ⟨A', c, hcs, hl, hc⟩ := Kd.FK_slice_open hF
  simp [Value.cells] at hcs
  obtain ⟨rfl, rfl, rfl⟩ := hcs
  exact ⟨l, rfl, hc, hl, hg⟩
/-- A slice that is a struct's field. -/
theorem slice_field {H : Type} {enc : TypeId × Value → H} {w : World} {t e : TypeId} {α : Type} {d : Kd α} {good : List α → Prop} (ho : Opens P t (Kd.slice e d) good) {v : Value} {n : Nat} {x : DataW H × List MemPlace}
    (h : DataW.trod enc P w 0 (fun _ => true) true n t [v] = some x) (hx : ∀ n ∈ DataW.weights P t x.1, n ≤ 140737488351232) :
    ∃ (A : Option Addr) (c : Nat) (l : List α), v = .slice A l.length c ∧ Kd.F d w (fun _ => True) A l.length l ∧ l.length ≤ c ∧ good l := by
  obtain ⟨l, hF, hg⟩ := ho enc w n _ _ h hx
  obtain ⟨A', c, hcs, hl, hc⟩ := Kd.FK_slice_open hF
  simp at hcs
  exact ⟨A', c, l, hcs, hc, hl, hg⟩
theorem int_field {H : Type} {enc : TypeId × Value → H} {w : World} {t : TypeId} {k : IntKind} (ht : P.underlying t = some (.int k)) {v : Value} {n : Nat} {x : DataW H × List MemPlace}
    (h : DataW.trod enc P w 0 (fun _ => true) true n t [v] = some x) : ∃ a : Int, v = .int k a ∧ (Lit.int k a).wf = true := by
  obtain ⟨a, hcs, _, hw⟩ := DataW.trod_int ht h
  simp at hcs
  exact ⟨a, hcs, hw⟩
theorem bool_field {H : Type} {enc : TypeId × Value → H} {w : World} {t : TypeId} (ht : P.underlying t = some .bool) {v : Value} {n : Nat} {x : DataW H × List MemPlace}
    (h : DataW.trod enc P w 0 (fun _ => true) true n t [v] = some x) : ∃ b : Bool, v = .bool b := by
  obtain ⟨a, hcs, _⟩ := DataW.trod_bool ht h
  simp at hcs
  exact ⟨a, hcs⟩
theorem at_ {H : Type} {ts : List TypeId} {ds : List (DataW H)} (h : (DataW.weightsEach P ts ds).all (· ≤ reachBytes) = true) {j : Nat} {t : TypeId} {d : DataW H} (ht : ts[j]? = some t) (hd : ds[j]? = some d) :
    ∀ n ∈ DataW.weights P t d, n ≤ 140737488351232 := fun n hn => by
  have := List.all_eq_true.1 h _ (DataW.weights_mem_each ht hd n hn)
  exact of_decide_eq_true this
theorem fields {H : Type} {t : TypeId} {fs : Array Field} {ds : List (DataW H)} (ht : P.underlying t = some (.struct fs)) (hx : ∀ n ∈ DataW.weights P t (.agg ds), n ≤ 140737488351232) {j : Nat} {f : Field} {d : DataW H} (hf : fs.toList[j]? = some f) (hd : ds[j]? = some d) :
    ∀ n ∈ DataW.weights P f.type d, n ≤ 140737488351232 := fun n hn => by
  refine hx n ?_
  rw [DataW.weights, ht]
  exact DataW.weights_mem_each (ts := fs.toList.map (·.type)) (by simp [hf]) hd n hn
end Go.Proofs.Ytkfnaiobgddjpaa.Open

namespace Go.Proofs.Ytkfnaiobgddjpaa.Pu
open Go.RowKit Go.Proofs.Ytkfnaiobgddjpaa.P Go.Proofs.YtkfnaiobgddjpaaW.PrintWords Go.Proofs.YtkfnaiobgddjpaaW.PrintLast Go.Proofs.YtkfnaiobgddjpaaW.PrintMore

theorem rows64 {l : List (List Int)} (h : Open.Row 24 (Open.Row 8 fun n => (Lit.int .i64 n).wf = true) l) : Rows64 l :=
  ⟨by have := h.1; omega, fun c hc => ⟨by have := (h.2 c hc).1; omega, (h.2 c hc).2⟩⟩
end Go.Proofs.Ytkfnaiobgddjpaa.Pu

namespace Go.Proofs.Ytkfnaiobgddjpaa.Pu
open Go.RowKit Go.Proofs.Ytkfnaiobgddjpaa.P Go.Proofs.YtkfnaiobgddjpaaW.PrintWords Go.Proofs.YtkfnaiobgddjpaaW.PrintLast Go.Proofs.YtkfnaiobgddjpaaW.PrintMore
theorem rc_f (n : Int) (l : List (List Int)) (log : List S64) (c : List Int) (hl : Rows64 l) (hn : I64 n) (hlog : LogOk log) (hc : ∀ x ∈ c, I64 x) (hcs : c.length < 4611686018427387904) : Tells (fun k => sequiturlaw23_RupChecks.f k n l log c) true := by
  unfold sequiturlaw23_RupChecks.f
  obtain ⟨b, hb, hh⟩ := few_tells n l log hl.1 hlog.1
  have no : Tells (fun k => sequiturlaw23_RupChecks.j0 k log c true n l) true := Tells.succ (fun k => by rw [sequiturlaw23_RupChecks.j0]) (Tells.pos rfl (Tells.bind alive23 (Tells.const _)))
  refine Tells.bind hb ?_
  by_cases h : b = true
  · refine Tells.pos h ?_
    by_cases h7 : (c.length : Int) > 70
    · rw [decide_eq_true h7]; exact no
    · rw [decide_eq_false h7]
      obtain ⟨r, c1, c2, _⟩ := Check_tells n l log hl hn hlog
      obtain ⟨q, e1, e2, _⟩ := Ends_tells n l log c hl hn hlog hc hcs
      refine Tells.succ (fun k => by rw [sequiturlaw23_RupChecks.j0]) ?_
      exact Tells.neg (by decide) (Tells.bind c1 (Tells.bind c2 (Tells.bind e1 (Tells.bind e2 (Tells.pos rfl (Tells.pos rfl (Tells.pos rfl (Tells.pos rfl (Tells.bind alive23 (Tells.const _))))))))))
  · exact Tells.neg h no
end Go.Proofs.Ytkfnaiobgddjpaa.Pu
namespace Go.Proofs.Ytkfnaiobgddjpaa.Pure
open Go.Proofs.Ytkfnaiobgddjpaa.Pu Go.Proofs.Ytkfnaiobgddjpaa.P
theorem logOk {log : List S64} (h : Open.Row 32 (fun x : S64 => True ∧ Open.Row 8 (fun n => (Lit.int .i64 n).wf = true) x.f1) log) : LogOk log :=
  ⟨by have := h.1; omega, fun x hx => ⟨by have := (h.2 x hx).2.1; omega, (h.2 x hx).2.2⟩⟩
theorem RupChecks (n : Int) (l : List (List Int)) (log : List S64) (c : List Int) (hn : (Lit.int .i64 n).wf = true) (hl : Open.Row 24 (Open.Row 8 fun n => (Lit.int .i64 n).wf = true) l)
    (hlog : Open.Row 32 (fun x : S64 => True ∧ Open.Row 8 (fun n => (Lit.int .i64 n).wf = true) x.f1) log) (hc : Open.Row 8 (fun n => (Lit.int .i64 n).wf = true) c) : ∃ k, sequiturlaw23_RupChecks.f k n l log c = some true :=
  (rc_f n l log c (rows64 hl) hn (logOk hlog) hc.2 (by have := hc.1; omega)).ex
end Go.Proofs.Ytkfnaiobgddjpaa.Pure
