import Derived.SizedLaws
import Derived.Deep.Slices
import Derived.WideShapes
import Derived.ChangeShapes
import Derived.ChangeMaps5
import Derived.Lib.SmallJoins
import Derived.ChangeSlices
import Derived.Test.YtkfnaiobgddjpaaKRupOwn1
import Derived.Test.YtkfnaiobgddjpaaKRupOwn4
import Derived.Test.YtkfnaiobgddjpaaKRupOwn2
import Derived.Test.YtkfnaiobgddjpaaKRupOwn3
namespace Go.Proofs.Ytkfnaiobgddjpaa.Pu
open Go.RowKit Go.Proofs.YtkfnaiobgddjpaaW.PrintWords Go.Proofs.YtkfnaiobgddjpaaW.PrintLast Go.Proofs.YtkfnaiobgddjpaaW.PrintMore

/-- With enough rounds the function tells v. -/
def Tells {α : Type} (g : Nat → Option α) (v : α) : Prop := ∃ k0, ∀ k, k0 ≤ k → g k = some v
theorem Tells.ex {α : Type} {g : Nat → Option α} {v : α} (h : Tells g v) : ∃ k, g k = some v := by
  obtain ⟨k0, h⟩ := h; exact ⟨k0, h k0 (Nat.le_refl _)⟩
theorem Tells.const {α : Type} (v : α) : Tells (fun _ => some v) v := ⟨0, fun _ _ => rfl⟩
theorem Tells.of_eq {α : Type} {g : Nat → Option α} {v : α} (h : ∀ k, g k = some v) : Tells g v := ⟨0, fun k _ => h k⟩
theorem Tells.congr {α : Type} {g h : Nat → Option α} {v : α} (e : ∀ k, g k = h k) (H : Tells h v) : Tells g v := by
  obtain ⟨k0, H⟩ := H; exact ⟨k0, fun k hk => (e k).trans (H k hk)⟩
theorem Tells.bind {α β : Type} {g : Nat → Option α} {v : α} {h : Nat → α → Option β} {u : β} (H : Tells g v) (K : Tells (fun k => h k v) u) :
    Tells (fun k => (g k).bind (h k)) u := by
  obtain ⟨k0, H⟩ := H; obtain ⟨k1, K⟩ := K
  refine ⟨k0 + k1, fun k hk => ?_⟩
  show (g k).bind (h k) = some u
  rw [H k (by omega)]; exact K k (by omega)
theorem Tells.succ {α : Type} {g h : Nat → Option α} {v : α} (e : ∀ k, g (k + 1) = h k) (H : Tells h v) : Tells g v := by
  obtain ⟨k0, H⟩ := H
  refine ⟨k0 + 1, fun k hk => ?_⟩
  obtain ⟨j, rfl⟩ : ∃ j, k = j + 1 := ⟨k - 1, by omega⟩
  exact (e j).trans (H j (by omega))
theorem Tells.mono {α : Type} {g : Nat → Option α} (hm : ∀ k, LeO (g k) (g (k + 1))) {k : Nat} {v : α} (h : g k = some v) : Tells g v :=
  ⟨k, fun _ hk => at_rounds hm hk h⟩
theorem Tells.pos {α : Type} {c : Prop} [Decidable c] {g h : Nat → Option α} {v : α} (hc : c) (H : Tells g v) : Tells (fun k => if c then g k else h k) v := by
  obtain ⟨k0, H⟩ := H; exact ⟨k0, fun k hk => (if_pos hc).trans (H k hk)⟩
theorem Tells.neg {α : Type} {c : Prop} [Decidable c] {g h : Nat → Option α} {v : α} (hc : ¬ c) (H : Tells h v) : Tells (fun k => if c then g k else h k) v := by
  obtain ⟨k0, H⟩ := H; exact ⟨k0, fun k hk => (if_neg hc).trans (H k hk)⟩

theorem w64 {n : Int} (h0 : -9223372036854775808 ≤ n) (h1 : n < 9223372036854775808) : wrap64 n = n := by unfold wrap64; omega
theorem w64s {i n : Nat} (h : i < n) (hn : n < 4611686018427387904) : wrap64 ((i : Int) + 1) = ((i + 1 : Nat) : Int) := by unfold wrap64; omega
theorem wf64 {n : Int} (h : (Lit.int .i64 n).wf = true) : -9223372036854775808 ≤ n ∧ n ≤ 9223372036854775807 := by
  simp only [Lit.wf, Bool.and_eq_true, decide_eq_true_eq] at h
  have a : IntKind.i64.min = -9223372036854775808 := by decide
  have b : IntKind.i64.max = 9223372036854775807 := by decide
  omega
theorem rdOf_nat {α : Type} (d : α) (xs : List α) (i : Nat) : rdOf d xs (i : Int) = xs.getD i d := by simp [rdOf]
theorem rdOf_at {α : Type} (d : α) (xs : List α) (i : Nat) (h : i < xs.length) : rdOf d xs (i : Int) = xs[i] := by simp [rdOf_nat, h]
end Go.Proofs.Ytkfnaiobgddjpaa.Pu

namespace Go.Proofs.Ytkfnaiobgddjpaa.Pu
open Go.RowKit Go.Proofs.Ytkfnaiobgddjpaa.P Go.Proofs.YtkfnaiobgddjpaaW.PrintWords Go.Proofs.YtkfnaiobgddjpaaW.PrintLast Go.Proofs.YtkfnaiobgddjpaaW.PrintMore

/-- Whole numbers of 64 bits. -/
def I64 (n : Int) : Prop := (Lit.int .i64 n).wf = true
theorem I64.lo {n : Int} (h : I64 n) : -9223372036854775808 ≤ n := (wf64 h).1
theorem I64.hi {n : Int} (h : I64 n) : n ≤ 9223372036854775807 := (wf64 h).2
/-- A literal that is true by values. -/
def litT (l : Int) (v : List Bool) : Bool := decide (l ≠ 0) && decide (l.natAbs ≤ v.length) && (v.getD (l.natAbs - 1) false == decide (l > 0))
def holds (c : List Int) (v : List Bool) : Bool := c.any fun l => litT l v
def every (c : List (List Int)) (v : List Bool) : Bool := c.all fun x => holds x v
def badLit (n l : Int) : Bool := decide (l = 0 ∨ l > n ∨ l < -n)
/-- The error of a clause. -/
def clauseErr (c : List Int) (n : Int) : Int := if c.length > 64 then 2 else if c.any (badLit n) then 1 else 0

theorem lit_is_eq (a : Int) : lit_is.f a = some (decide (a ≠ 0 ∧ a ≠ -9223372036854775808)) := by
  unfold lit_is.f
  by_cases h : a = 0
  · rw [if_pos h, decide_eq_false (by simp [h])]
  · rw [if_neg h]
    by_cases h2 : a = -9223372036854775808
    · rw [h2]; rfl
    · rw [decide_eq_true ⟨h, h2⟩]
      simpa using h2
theorem lit_variable_eq {a : Int} (h : I64 a) (hm : a ≠ -9223372036854775808) : lit_variable.f a = some ((a.natAbs : Nat) : Int) := by
  have := h.lo; have := h.hi
  unfold lit_variable.f mx wrap64
  split <;> (congr 1; omega)
theorem rd_at (xs : List Int) (i : Nat) (h : i < xs.length) : rd xs (i : Int) = xs[i] := by simp [rd, h]

theorem lit_Right_loop (c : List Int) (n : Int) (hc : ∀ l ∈ c, I64 l) (hn : I64 n) (hs : c.length < 4611686018427387904) : ∀ (m i : Nat), m + i = c.length →
    Tells (fun k => lit_Right.l0 k n c (c.length : Int) (i : Int)) (if (c.drop i).any (badLit n) then 1 else 0)
  | 0, i, h => by
    refine Tells.succ (fun k => by rw [lit_Right.l0]) (Tells.neg (by omega) ?_)
    rw [List.drop_of_length_le (by omega)]; exact Tells.const _
  | m + 1, i, h => by
    have hi : i < c.length := by omega
    have hl := hc _ (List.getElem_mem hi); have h1 := hl.lo; have h2 := hl.hi; have := hn.lo; have := hn.hi
    refine Tells.succ (fun k => by rw [lit_Right.l0]) (Tells.pos (by omega) (Tells.pos (by omega) (Tells.pos (by omega) ?_)))
    rw [rd_at _ _ hi, w64s hi hs, List.drop_eq_getElem_cons hi, List.any_cons, lit_is_eq]
    refine Tells.bind (Tells.const _) ?_
    by_cases hb : c[i] ≠ 0 ∧ c[i] ≠ -9223372036854775808
    · refine Tells.pos (decide_eq_true hb) ?_
      rw [lit_variable_eq hl hb.2]
      refine Tells.bind (Tells.const _) ?_
      by_cases hv : ((c[i].natAbs : Nat) : Int) > n
      · have e : badLit n c[i] = true := decide_eq_true (by omega)
        rw [e, Bool.true_or, if_pos rfl]
        exact Tells.pos hv (Tells.const _)
      · have e : badLit n c[i] = false := decide_eq_false (by omega)
        rw [e, Bool.false_or]
        exact Tells.neg hv (lit_Right_loop c n hc hn hs m (i + 1) (by omega))
    · have e : badLit n c[i] = true := decide_eq_true (by omega)
      rw [e, Bool.true_or, if_pos rfl]
      exact Tells.neg (by simpa using hb) (Tells.const _)
theorem lit_Right_tells (c : List Int) (n : Int) (hc : ∀ l ∈ c, I64 l) (hn : I64 n) (hs : c.length < 4611686018427387904) : Tells (fun k => lit_Right.f k c n) (clauseErr c n) := by
  unfold lit_Right.f clauseErr
  by_cases h : c.length > 64
  · rw [if_pos h]; exact Tells.pos (by omega) (Tells.const _)
  · rw [if_neg h]; exact Tells.neg (by omega) (lit_Right_loop c n hc hn hs c.length 0 rfl)

theorem lit_Count_loop (c : List Int) (v : List Bool) (hc : ∀ l ∈ c, I64 l) (hs : c.length < 4611686018427387904) (hv : v.length < 4611686018427387904) : ∀ (m i n : Nat), m + i = c.length → n ≤ i →
    Tells (fun k => lit_Count.l0 k v (n : Int) c (c.length : Int) (i : Int)) ((n + (c.drop i).countP (fun l => litT l v) : Nat) : Int)
  | 0, i, n, h, _ => by
    refine Tells.succ (fun k => by rw [lit_Count.l0]) (Tells.neg (by omega) ?_)
    rw [List.drop_of_length_le (by omega)]; exact Tells.const _
  | m + 1, i, n, h, hni => by
    have hi : i < c.length := by omega
    have hl := hc _ (List.getElem_mem hi); have h1 := hl.lo; have h2 := hl.hi
    refine Tells.succ (fun k => by rw [lit_Count.l0]) (Tells.pos (by omega) (Tells.pos (by omega) (Tells.pos (by omega) ?_)))
    rw [rd_at _ _ hi, w64s hi hs, w64s (by omega : n < c.length) hs, List.drop_eq_getElem_cons hi, List.countP_cons, lit_is_eq]
    refine Tells.bind (Tells.const _) ?_
    have no : litT c[i] v = false → Tells (fun k => lit_Count.l0 k v (n : Int) c (c.length : Int) ((i + 1 : Nat) : Int)) ((n + ((c.drop (i + 1)).countP (fun l => litT l v) + if litT c[i] v = true then 1 else 0) : Nat) : Int) := fun e => by
      rw [e, if_neg (by simp), Nat.add_zero]
      exact lit_Count_loop c v hc hs hv m (i + 1) n (by omega) (by omega)
    by_cases hb : c[i] ≠ 0 ∧ c[i] ≠ -9223372036854775808
    · refine Tells.pos (decide_eq_true hb) ?_
      rw [lit_variable_eq hl hb.2]
      refine Tells.bind (Tells.const _) ?_
      by_cases hx : ((c[i].natAbs : Nat) : Int) ≤ (v.length : Int)
      · have hw : wrap64 (((c[i].natAbs : Nat) : Int) - 1) = ((c[i].natAbs - 1 : Nat) : Int) := by unfold wrap64; omega
        have hlt : c[i].natAbs - 1 < v.length := by omega
        have e : litT c[i] v = (v[c[i].natAbs - 1] == decide (c[i] > 0)) := by
          unfold litT
          rw [decide_eq_true hb.1, decide_eq_true (by omega : c[i].natAbs ≤ v.length), List.getD_eq_getElem?_getD, List.getElem?_eq_getElem hlt]
          rfl
        refine Tells.pos hx ?_
        rw [hw]
        refine Tells.pos (by omega) (Tells.pos (by omega) ?_)
        rw [rdOf_at _ _ _ hlt]
        by_cases hq : (v[c[i].natAbs - 1] == decide (c[i] > 0)) = true
        · refine Tells.pos hq ?_
          rw [e, if_pos hq, show n + ((c.drop (i + 1)).countP (fun l => litT l v) + 1) = (n + 1) + (c.drop (i + 1)).countP (fun l => litT l v) by omega]
          exact lit_Count_loop c v hc hs hv m (i + 1) (n + 1) (by omega) (by omega)
        · refine Tells.neg hq (no ?_)
          rw [e]; simpa using hq
      · refine Tells.neg hx (no ?_)
        unfold litT
        rw [decide_eq_false (by omega : ¬ c[i].natAbs ≤ v.length)]
        simp
    · refine Tells.neg (by simpa using hb) (no ?_)
      unfold litT
      by_cases h0 : c[i] = 0
      · rw [h0]; rfl
      · rw [decide_eq_false (by omega : ¬ c[i].natAbs ≤ v.length)]
        simp
theorem lit_Count_tells (c : List Int) (v : List Bool) (hc : ∀ l ∈ c, I64 l) (hs : c.length < 4611686018427387904) (hv : v.length < 4611686018427387904) : Tells (fun k => lit_Count.f k c v) (((c.countP fun l => litT l v) : Nat) : Int) := by
  unfold lit_Count.f
  have := lit_Count_loop c v hc hs hv c.length 0 0 rfl (Nat.le_refl _)
  simpa using this
theorem lit_Holds_tells (c : List Int) (v : List Bool) (hc : ∀ l ∈ c, I64 l) (hs : c.length < 4611686018427387904) (hv : v.length < 4611686018427387904) : Tells (fun k => lit_Holds.f k c v) (holds c v) := by
  unfold lit_Holds.f
  refine Tells.bind (lit_Count_tells c v hc hs hv) ?_
  have e : decide ((((c.countP fun l => litT l v) : Nat) : Int) > 0) = holds c v := by
    unfold holds
    by_cases h : 0 < c.countP fun l => litT l v
    · rw [decide_eq_true (by omega)]
      obtain ⟨l, hl, hp⟩ := List.countP_pos_iff.1 h
      exact (List.any_eq_true.2 ⟨l, hl, hp⟩).symm
    · rw [decide_eq_false (by omega)]
      rw [eq_comm, List.any_eq_false]
      intro l hl hp
      exact h (List.countP_pos_iff.2 ⟨l, hl, hp⟩)
  rw [e]; exact Tells.const _
end Go.Proofs.Ytkfnaiobgddjpaa.Pu

namespace Go.Proofs.Ytkfnaiobgddjpaa.Pu
open Go.RowKit Go.Proofs.Ytkfnaiobgddjpaa.P Go.Proofs.YtkfnaiobgddjpaaW.PrintWords Go.Proofs.YtkfnaiobgddjpaaW.PrintLast Go.Proofs.YtkfnaiobgddjpaaW.PrintMore

/-- The first error of clauses. -/
def clausesErr (n : Int) : List (List Int) → Int
  | [] => 0
  | c :: l => if clauseErr c n = 0 then clausesErr n l else clauseErr c n
/-- The error of a set. -/
def setErr (n : Int) (l : List (List Int)) : Int := if n < 0 ∨ n > 1024 then 1 else if l.length > 4096 then 2 else clausesErr n l
/-- Rows of numbers as a reading has them. -/
def Rows64 (l : List (List Int)) : Prop := l.length < 4611686018427387904 ∧ ∀ c ∈ l, c.length < 4611686018427387904 ∧ ∀ x ∈ c, I64 x
theorem rdL_at (xs : List (List Int)) (i : Nat) (h : i < xs.length) : rd_L3 xs (i : Int) = xs[i] := by simp [rd_L3, h]

theorem cnf_Right_loop (l : List (List Int)) (n : Int) (hl : Rows64 l) (hn : I64 n) : ∀ (m i : Nat), m + i = l.length →
    ∃ x, Tells (fun k => cnf_Right.l0 k l (l.length : Int) (i : Int) n l) (x, clausesErr n (l.drop i))
  | 0, i, h => by
    refine ⟨0, Tells.succ (fun k => by rw [cnf_Right.l0]) (Tells.neg (by omega) ?_)⟩
    rw [List.drop_of_length_le (by omega)]; exact Tells.const _
  | m + 1, i, h => by
    have hi : i < l.length := by omega
    have hc := hl.2 _ (List.getElem_mem hi)
    have hR := lit_Right_tells l[i] n hc.2 hn hc.1
    rw [List.drop_eq_getElem_cons hi, clausesErr]
    by_cases hz : clauseErr l[i] n = 0
    · obtain ⟨x, hx⟩ := cnf_Right_loop l n hl hn m (i + 1) (by omega)
      refine ⟨x, Tells.succ (fun k => by rw [cnf_Right.l0]) (Tells.pos (by omega) (Tells.pos (by omega) (Tells.pos (by omega) ?_)))⟩
      rw [rdL_at _ _ hi, w64s hi hl.1]
      refine Tells.bind hR (Tells.pos hz ?_)
      rw [if_pos hz]; exact hx
    · refine ⟨(i : Int), Tells.succ (fun k => by rw [cnf_Right.l0]) (Tells.pos (by omega) (Tells.pos (by omega) (Tells.pos (by omega) ?_)))⟩
      rw [rdL_at _ _ hi]
      refine Tells.bind hR (Tells.neg hz ?_)
      rw [if_neg hz]; exact Tells.const _
theorem cnf_Right_tells (n : Int) (l : List (List Int)) (hl : Rows64 l) (hn : I64 n) : ∃ x, Tells (fun k => cnf_Right.f k n l) (x, setErr n l) := by
  unfold cnf_Right.f setErr
  have stop : ∀ n : Int, Tells (fun k => cnf_Right.j0 k true n l) (-1, 1) := fun n => Tells.succ (fun k => by rw [cnf_Right.j0]) (Tells.pos rfl (Tells.const _))
  by_cases h0 : n < 0
  · rw [if_pos (by omega)]
    exact ⟨_, Tells.pos h0 (stop n)⟩
  by_cases h1 : n > 1024
  · rw [if_pos (by omega)]
    refine ⟨-1, Tells.neg h0 ?_⟩
    rw [decide_eq_true h1]; exact stop n
  rw [if_neg (by omega)]
  by_cases h2 : l.length > 4096
  · rw [if_pos h2]
    refine ⟨-1, Tells.neg h0 ?_⟩
    rw [decide_eq_false h1]
    exact Tells.succ (fun k => by rw [cnf_Right.j0]) (Tells.neg (by decide) (Tells.pos (by omega) (Tells.const _)))
  · rw [if_neg h2]
    obtain ⟨x, hx⟩ : ∃ x, Tells (fun k => cnf_Right.l0 k l (l.length : Int) 0 n l) (x, clausesErr n l) := cnf_Right_loop l n hl hn l.length 0 rfl
    refine ⟨x, Tells.neg h0 ?_⟩
    rw [decide_eq_false h1]
    exact Tells.succ (fun k => by rw [cnf_Right.j0]) (Tells.neg (by decide) (Tells.neg (by omega) hx))

theorem cnf_Holds_loop (l : List (List Int)) (v : List Bool) (hl : Rows64 l) (hv : v.length < 4611686018427387904) : ∀ (m i : Nat), m + i = l.length →
    ∃ x, Tells (fun k => cnf_Holds.l0 k v l (l.length : Int) (i : Int)) (x, every (l.drop i) v)
  | 0, i, h => by
    refine ⟨0, Tells.succ (fun k => by rw [cnf_Holds.l0]) (Tells.neg (by omega) ?_)⟩
    rw [List.drop_of_length_le (by omega)]; exact Tells.const _
  | m + 1, i, h => by
    have hi : i < l.length := by omega
    have hc := hl.2 _ (List.getElem_mem hi)
    have hR := lit_Holds_tells l[i] v hc.2 hc.1 hv
    rw [List.drop_eq_getElem_cons hi, every, List.all_cons]
    by_cases hz : holds l[i] v = true
    · obtain ⟨x, hx⟩ := cnf_Holds_loop l v hl hv m (i + 1) (by omega)
      refine ⟨x, Tells.succ (fun k => by rw [cnf_Holds.l0]) (Tells.pos (by omega) (Tells.pos (by omega) (Tells.pos (by omega) ?_)))⟩
      rw [rdL_at _ _ hi, w64s hi hl.1]
      refine Tells.bind hR (Tells.pos hz ?_)
      rw [hz, Bool.true_and]; exact hx
    · refine ⟨(i : Int), Tells.succ (fun k => by rw [cnf_Holds.l0]) (Tells.pos (by omega) (Tells.pos (by omega) (Tells.pos (by omega) ?_)))⟩
      rw [rdL_at _ _ hi]
      refine Tells.bind hR (Tells.neg hz ?_)
      rw [Bool.eq_false_iff.2 hz, Bool.false_and]; exact Tells.const _
theorem cnf_Holds_tells (n : Int) (l : List (List Int)) (v : List Bool) (hl : Rows64 l) (hv : v.length < 4611686018427387904) : ∃ x, Tells (fun k => cnf_Holds.f k n l v) (x, every l v) :=
  cnf_Holds_loop l v hl hv l.length 0 rfl
end Go.Proofs.Ytkfnaiobgddjpaa.Pu

namespace Go.Proofs.Ytkfnaiobgddjpaa.Pu
open Go.RowKit Go.Proofs.Ytkfnaiobgddjpaa.P Go.Proofs.YtkfnaiobgddjpaaW.PrintWords Go.Proofs.YtkfnaiobgddjpaaW.PrintLast Go.Proofs.YtkfnaiobgddjpaaW.PrintMore

/-- A number that is a literal. -/
def isL (l : Int) : Bool := decide (l ≠ 0 ∧ l ≠ -9223372036854775808)
def hasL (c : List Int) (l : Int) : Bool := isL l && c.any fun x => x == l
def withinL (a b : List Int) : Bool := a.all fun x => !isL x || hasL b x
def sameL (a b : List Int) : Bool := withinL a b && withinL b a
theorem hasL_iff {c : List Int} {l : Int} : hasL c l = true ↔ isL l = true ∧ l ∈ c := by
  unfold hasL
  rw [Bool.and_eq_true, List.any_eq_true]
  refine ⟨fun h => ⟨h.1, ?_⟩, fun h => ⟨h.1, l, h.2, by simp⟩⟩
  obtain ⟨x, hx, e⟩ := h.2
  rw [← beq_iff_eq.1 e]; exact hx
theorem lit_is_isL (a : Int) : lit_is.f a = some (isL a) := lit_is_eq a
theorem Index_loop (c : List Int) (x : Int) (hs : c.length < 4611686018427387904) : ∀ (m i : Nat), m + i = c.length →
    ∃ r, Tells (fun k => slices_Index_int_int.l0 k c x (c.length : Int) (i : Int)) r ∧ decide (r ≥ 0) = (c.drop i).any fun y => y == x
  | 0, i, h => by
    refine ⟨-1, Tells.succ (fun k => by rw [slices_Index_int_int.l0]) (Tells.neg (by omega) (Tells.const _)), ?_⟩
    rw [List.drop_of_length_le (by omega)]; rfl
  | m + 1, i, h => by
    have hi : i < c.length := by omega
    rw [List.drop_eq_getElem_cons hi, List.any_cons]
    by_cases he : x = c[i]
    · refine ⟨(i : Int), Tells.succ (fun k => by rw [slices_Index_int_int.l0]) (Tells.pos (by omega) (Tells.pos (by omega) (Tells.pos (by omega) ?_))), ?_⟩
      · rw [rd_at _ _ hi]; exact Tells.pos he (Tells.const _)
      · rw [← he]; simp
    · obtain ⟨r, hr, hd⟩ := Index_loop c x hs m (i + 1) (by omega)
      refine ⟨r, Tells.succ (fun k => by rw [slices_Index_int_int.l0]) (Tells.pos (by omega) (Tells.pos (by omega) (Tells.pos (by omega) ?_))), ?_⟩
      · rw [rd_at _ _ hi, w64s hi hs]; exact Tells.neg he hr
      · rw [hd, show (c[i] == x) = false from beq_eq_false_iff_ne.2 (fun e => he e.symm), Bool.false_or]
theorem lit_Has_tells (c : List Int) (x : Int) (hs : c.length < 4611686018427387904) : Tells (fun k => lit_Has.f k c x) (hasL c x) := by
  unfold lit_Has.f hasL
  rw [lit_is_isL]
  refine Tells.bind (Tells.const _) ?_
  by_cases hx : isL x = true
  · obtain ⟨r, hr, hd⟩ := Index_loop c x hs c.length 0 rfl
    rw [hx, Bool.true_and]
    refine Tells.pos rfl (Tells.bind (v := c.any fun y => y == x) ?_ (Tells.const _))
    unfold slices_Contains_int_int.f
    refine Tells.bind (v := r) hr ?_
    rw [hd]; exact Tells.const _
  · rw [Bool.eq_false_iff.2 hx]
    exact Tells.neg (by decide) (Tells.const _)

theorem lit_Within_loop (a b : List Int) (ha : a.length < 4611686018427387904) (hb : b.length < 4611686018427387904) : ∀ (m i : Nat), m + i = a.length →
    Tells (fun k => lit_Within.l0 k b a (a.length : Int) (i : Int)) (withinL (a.drop i) b)
  | 0, i, h => by
    refine Tells.succ (fun k => by rw [lit_Within.l0]) (Tells.neg (by omega) ?_)
    rw [List.drop_of_length_le (by omega)]; exact Tells.const _
  | m + 1, i, h => by
    have hi : i < a.length := by omega
    have ih := lit_Within_loop a b ha hb m (i + 1) (by omega)
    refine Tells.succ (fun k => by rw [lit_Within.l0]) (Tells.pos (by omega) (Tells.pos (by omega) (Tells.pos (by omega) ?_)))
    rw [rd_at _ _ hi, w64s hi ha, List.drop_eq_getElem_cons hi, withinL, List.all_cons, lit_is_isL]
    refine Tells.bind (Tells.const _) ?_
    by_cases hx : isL a[i] = true
    · refine Tells.pos hx (Tells.bind (lit_Has_tells b a[i] hb) ?_)
      by_cases hh : hasL b a[i] = true
      · refine Tells.pos hh ?_
        rw [hh, Bool.or_true, Bool.true_and]; exact ih
      · refine Tells.neg hh ?_
        rw [hx, Bool.eq_false_iff.2 hh]; exact Tells.const _
    · refine Tells.neg hx ?_
      rw [Bool.eq_false_iff.2 hx]; exact ih
theorem lit_Within_tells (a b : List Int) (ha : a.length < 4611686018427387904) (hb : b.length < 4611686018427387904) : Tells (fun k => lit_Within.f k a b) (withinL a b) := lit_Within_loop a b ha hb a.length 0 rfl
theorem lit_Same_tells (a b : List Int) (ha : a.length < 4611686018427387904) (hb : b.length < 4611686018427387904) : Tells (fun k => lit_Same.f k a b) (sameL a b) := by
  unfold lit_Same.f sameL
  refine Tells.bind (lit_Within_tells a b ha hb) ?_
  by_cases h : withinL a b = true
  · rw [h, Bool.true_and]
    exact Tells.pos rfl (Tells.bind (lit_Within_tells b a hb ha) (Tells.const _))
  · rw [Bool.eq_false_iff.2 h]
    exact Tells.neg (by decide) (Tells.const _)

end Go.Proofs.Ytkfnaiobgddjpaa.Pu

namespace Go.Proofs.Ytkfnaiobgddjpaa.Pu
open Go.RowKit Go.Proofs.Ytkfnaiobgddjpaa.P Go.Proofs.YtkfnaiobgddjpaaW.PrintWords Go.Proofs.YtkfnaiobgddjpaaW.PrintLast Go.Proofs.YtkfnaiobgddjpaaW.PrintMore

/-- What follows by going on: the least that holds A's literals and each clause's last one. -/
inductive Der (cls : List (List Int)) (A : Int → Prop) : Int → Prop
  | base {l : Int} : A l → Der cls A l
  | step {c : List Int} {l : Int} : c ∈ cls → l ∈ c → (∀ k ∈ c, k ≠ l → Der cls A (-k)) → Der cls A l
/-- A clause comes to be broken. -/
def Brk (cls : List (List Int)) (A : Int → Prop) : Prop := ∃ c ∈ cls, ∀ x ∈ c, Der cls A (-x)
/-- Of a clause something is left: a true literal, or two that are not false. -/
def Left (T : Int → Prop) (c : List Int) : Prop := (∃ l ∈ c, T l) ∨ ∃ l ∈ c, ∃ k ∈ c, l ≠ k ∧ ¬ T (-l) ∧ ¬ T (-k)
theorem not_brk {cls : List (List Int)} {A T : Int → Prop} (hA : ∀ l, A l → T l) (hT : ∀ l, T l → ¬ T (-l)) (hL : ∀ c ∈ cls, Left T c) : ¬ Brk cls A := by
  have hD : ∀ l, Der cls A l → T l := by
    intro l h
    induction h with
    | base h => exact hA _ h
    | @step c l hc hl _ ih =>
      rcases hL c hc with ⟨k, hk, ht⟩ | ⟨k, hk, k', hk', hne, h1, h2⟩
      · by_cases e : k = l
        · exact e ▸ ht
        · exact absurd (ih k hk e) (hT k ht)
      · by_cases e : k = l
        · have e' : k' ≠ l := fun e' => hne (e.trans e'.symm)
          exact absurd (ih k' hk' e') h2
        · exact absurd (ih k hk e) h1
  rintro ⟨c, hc, hb⟩
  rcases hL c hc with ⟨k, hk, ht⟩ | ⟨k, hk, k', hk', hne, h1, h2⟩
  · exact hT k ht (hD _ (hb k hk))
  · exact h1 (hD _ (hb k hk))
/-- It is of the literals of clauses alone that it speaks. -/
theorem Der.mono {cls cls' : List (List Int)} {A A' : Int → Prop} (hc : ∀ c ∈ cls, ∃ c' ∈ cls', ∀ x, x ∈ c' ↔ x ∈ c) (hA : ∀ l, A l → A' l) {l : Int} (h : Der cls A l) : Der cls' A' l := by
  induction h with
  | base h => exact .base (hA _ h)
  | step h1 hl _ ih =>
    obtain ⟨c', h1', e⟩ := hc _ h1
    exact .step h1' ((e _).2 hl) (fun k hk hne => ih k ((e k).1 hk) hne)
theorem Brk.mono {cls cls' : List (List Int)} {A A' : Int → Prop} (hc : ∀ c ∈ cls, ∃ c' ∈ cls', ∀ x, x ∈ c' ↔ x ∈ c) (hA : ∀ l, A l → A' l) (h : Brk cls A) : Brk cls' A' := by
  obtain ⟨c, h1, h2⟩ := h
  obtain ⟨c', h1', e⟩ := hc c h1
  exact ⟨c', h1', fun x hx => (h2 x ((e x).1 hx)).mono hc hA⟩
/-- Two literals are opposites. -/
def Opp (cl : List Int) : Prop := ∃ x ∈ cl, -x ∈ cl
/-- The opposites of a clause's literals. -/
def Neg (cl : List Int) (l : Int) : Prop := -l ∈ cl
/-- A clause follows by going on. -/
def FollowsP (cls : List (List Int)) (cl : List Int) : Prop := Opp cl ∨ Brk cls (Neg cl)
/-- Literals of n variables. -/
def Lits (n : Int) (c : List Int) : Prop := ∀ x ∈ c, x ≠ 0 ∧ -n ≤ x ∧ x ≤ n
theorem Lits.isL {n : Int} {c : List Int} (h : Lits n c) (hn : n ≤ 1024) : ∀ x ∈ c, isL x = true := fun x hx => by
  have := h x hx
  exact decide_eq_true ⟨this.1, by omega⟩
theorem clauseErr_lits {c : List Int} {n : Int} (h : clauseErr c n = 0) : Lits n c ∧ c.length ≤ 64 := by
  unfold clauseErr at h
  split at h
  · cases h
  split at h
  · cases h
  · rename_i h1 hb
    refine ⟨fun x hx => ?_, by omega⟩
    have : ¬ badLit n x = true := fun e => hb (List.any_eq_true.2 ⟨x, hx, e⟩)
    have := of_decide_eq_false (Bool.eq_false_iff.2 this)
    omega
theorem lits_clauseErr {c : List Int} {n : Int} (h : Lits n c) (h1 : c.length ≤ 64) : clauseErr c n = 0 := by
  unfold clauseErr
  rw [if_neg (by omega), if_neg]
  intro e
  obtain ⟨x, hx, hb⟩ := List.any_eq_true.1 e
  have := of_decide_eq_true hb
  have := h x hx
  omega
theorem setErr_lits {n : Int} {l : List (List Int)} (h : setErr n l = 0) : (0 ≤ n ∧ n ≤ 1024) ∧ l.length ≤ 4096 ∧ ∀ c ∈ l, Lits n c ∧ c.length ≤ 64 := by
  unfold setErr at h
  split at h
  · cases h
  split at h
  · cases h
  · refine ⟨⟨by omega, by omega⟩, by omega, fun c hc => ?_⟩
    have hall : ∀ {l : List (List Int)}, clausesErr n l = 0 → ∀ c ∈ l, clauseErr c n = 0 := by
      intro l
      induction l with
      | nil => intro _ c hc; cases hc
      | cons x l ih =>
        intro h c hc
        unfold clausesErr at h
        split at h
        · rename_i hx
          rcases List.mem_cons.1 hc with rfl | hc
          · exact hx
          · exact ih h c hc
        · rename_i hx; exact absurd h hx
    exact clauseErr_lits (hall h c hc)
theorem clausesErr_of {n : Int} : ∀ {l : List (List Int)}, (∀ c ∈ l, clauseErr c n = 0) → clausesErr n l = 0
  | [], _ => rfl
  | x :: l, h => by
    unfold clausesErr
    rw [if_pos (h x (by simp))]
    exact clausesErr_of (fun c hc => h c (by simp [hc]))
end Go.Proofs.Ytkfnaiobgddjpaa.Pu

namespace Go.Proofs.Ytkfnaiobgddjpaa.Pu
open Go.RowKit Go.Proofs.Ytkfnaiobgddjpaa.P Go.Proofs.YtkfnaiobgddjpaaW.PrintWords Go.Proofs.YtkfnaiobgddjpaaW.PrintLast Go.Proofs.YtkfnaiobgddjpaaW.PrintMore

/-- What the values make true. -/
def tv (V : List Int) (l : Int) : Prop := (0 < l ∧ rdOf 0 V l = 1) ∨ (l < 0 ∧ rdOf 0 V (-l) = -1)
/-- Values: 0, 1, -1. -/
def Val (n : Int) (V : List Int) : Prop := (V.length : Int) = n + 1 ∧ ∀ x ∈ V, x = 0 ∨ x = 1 ∨ x = -1
theorem tv_not {V : List Int} {l : Int} (h : tv V l) : ¬ tv V (-l) := by
  rintro (⟨h1, h2⟩ | ⟨h1, h2⟩) <;> rcases h with ⟨h3, h4⟩ | ⟨h3, h4⟩
  · omega
  · rw [h4] at h2; omega
  · rw [Int.neg_neg] at h2; rw [h4] at h2; omega
  · omega
theorem rd_mem {V : List Int} {i : Int} (h0 : 0 ≤ i) (h : i < V.length) : rdOf 0 V i ∈ V := by
  obtain ⟨j, rfl⟩ : ∃ j : Nat, i = (j : Int) := ⟨i.toNat, by omega⟩
  rw [rdOf_at _ _ _ (by omega)]
  exact List.getElem_mem _
/-- A literal's value: none, true or false. -/
theorem tv_cases {n : Int} {V : List Int} (hV : Val n V) {l : Int} (h0 : l ≠ 0) (h1 : -n ≤ l) (h2 : l ≤ n) :
    (rdOf 0 V (ab l) = 0 ∧ ¬ tv V l ∧ ¬ tv V (-l)) ∨ (rdOf 0 V (ab l) ≠ 0 ∧ (decide (rdOf 0 V (ab l) > 0) == decide (l > 0)) = true ∧ tv V l) ∨ (rdOf 0 V (ab l) ≠ 0 ∧ ¬ (decide (rdOf 0 V (ab l) > 0) == decide (l > 0)) = true ∧ tv V (-l)) := by
  have hl := hV.1
  by_cases hs : 0 < l
  · have e : ab l = l := by unfold ab; rw [if_neg (by omega)]
    have hm := hV.2 _ (rd_mem (by omega) (by omega) : rdOf 0 V l ∈ V)
    rw [e]
    rcases hm with hm | hm | hm
    · refine .inl ⟨hm, ?_, ?_⟩
      · rintro (⟨_, h⟩ | ⟨h, _⟩) <;> omega
      · rintro (⟨h, _⟩ | ⟨_, h⟩)
        · omega
        · rw [Int.neg_neg] at h; omega
    · refine .inr (.inl ⟨by omega, ?_, .inl ⟨hs, hm⟩⟩)
      rw [decide_eq_true (by omega), decide_eq_true (by omega)]; rfl
    · refine .inr (.inr ⟨by omega, ?_, .inr ⟨by omega, by rw [Int.neg_neg]; exact hm⟩⟩)
      rw [decide_eq_false (by omega : ¬ rdOf 0 V l > 0), decide_eq_true (by omega : l > 0)]; decide
  · have e : ab l = -l := by unfold ab; rw [if_pos (by omega)]
    have hm := hV.2 _ (rd_mem (by omega) (by omega) : rdOf 0 V (-l) ∈ V)
    rw [e]
    rcases hm with hm | hm | hm
    · refine .inl ⟨hm, ?_, ?_⟩
      · rintro (⟨h, _⟩ | ⟨_, h⟩) <;> omega
      · rintro (⟨_, h⟩ | ⟨h, _⟩) <;> omega
    · refine .inr (.inr ⟨by omega, ?_, .inl ⟨by omega, hm⟩⟩)
      rw [decide_eq_true (by omega : rdOf 0 V (-l) > 0), decide_eq_false (by omega : ¬ l > 0)]; decide
    · refine .inr (.inl ⟨by omega, ?_, .inr ⟨by omega, hm⟩⟩)
      rw [decide_eq_false (by omega : ¬ rdOf 0 V (-l) > 0), decide_eq_false (by omega : ¬ l > 0)]; rfl
/-- What a clause's part that was looked at leaves. -/
def Seen (V : List Int) (p : List Int) (o m : Int) : Prop :=
  (m = 0 ∧ o = 0 ∧ ∀ x ∈ p, tv V (-x)) ∨ (m = 1 ∧ o ∈ p ∧ rdOf 0 V (ab o) = 0 ∧ ¬ tv V (-o) ∧ ∀ x ∈ p, x ≠ o → tv V (-x))
theorem scan_spec {n : Int} {V : List Int} (hV : Val n V) : ∀ (t p : List Int) (o m : Int), Lits n (p ++ t) → Seen V p o m →
    Seen V (p ++ t) (scan V t o m).1 (scan V t o m).2 ∨ ((scan V t o m).2 ≠ 0 ∧ (scan V t o m).2 ≠ 1 ∧ Left (tv V) (p ++ t))
  | [], p, o, m, _, hs => by rw [List.append_nil]; exact .inl hs
  | l :: t, p, o, m, hl, hs => by
    have hm : l ∈ p ++ l :: t := by simp
    have hx := hl l hm
    have ih := scan_spec hV t (p ++ [l])
    rw [List.append_assoc, List.singleton_append] at ih
    unfold scan
    rcases tv_cases hV hx.1 hx.2.1 hx.2.2 with ⟨h1, h2, h3⟩ | ⟨h1, h2, h3⟩ | ⟨h1, h2, h3⟩
    · rw [if_pos h1]
      by_cases e : l = o
      · rw [if_pos e]
        refine ih o m hl ?_
        rcases hs with ⟨_, h, _⟩ | ⟨a, b, c, d, f⟩
        · exact absurd (e.trans h) hx.1
        · refine .inr ⟨a, by simp [b], c, d, fun x hx hne => ?_⟩
          rcases List.mem_append.1 hx with hx | hx
          · exact f x hx hne
          · exact absurd ((List.mem_singleton.1 hx).trans e) hne
      · rw [if_neg e]
        rcases hs with ⟨a, b, c⟩ | ⟨a, b, c, d, f⟩
        · rw [if_neg (by omega)]
          refine ih l (m + 1) hl (.inr ⟨by omega, by simp, h1, h3, fun x hx hne => ?_⟩)
          rcases List.mem_append.1 hx with hx | hx
          · exact c x hx
          · exact absurd (List.mem_singleton.1 hx) hne
        · rw [if_pos (by omega)]
          exact .inr ⟨by show m + 1 ≠ 0; omega, by show m + 1 ≠ 1; omega, .inr ⟨l, hm, o, by simp [b], e, h3, d⟩⟩
    · rw [if_neg h1, if_pos h2]
      exact .inr ⟨by show (2 : Int) ≠ 0; decide, by show (2 : Int) ≠ 1; decide, .inl ⟨l, hm, h3⟩⟩
    · rw [if_neg h1, if_neg h2]
      refine ih o m hl ?_
      rcases hs with ⟨a, b, c⟩ | ⟨a, b, c, d, f⟩
      · refine .inl ⟨a, b, fun x hx => ?_⟩
        rcases List.mem_append.1 hx with hx | hx
        · exact c x hx
        · rw [List.mem_singleton.1 hx]; exact h3
      · refine .inr ⟨a, by simp [b], c, d, fun x hx hne => ?_⟩
        rcases List.mem_append.1 hx with hx | hx
        · exact f x hx hne
        · rw [List.mem_singleton.1 hx]; exact h3
/-- How many variables have no value. -/
def zeros (V : List Int) : Nat := V.countP fun x => x == 0
theorem set_spec {n : Int} {V : List Int} (hV : Val n V) {o : Int} (h0 : o ≠ 0) (h1 : -n ≤ o) (h2 : o ≤ n) :
    (tv V (-o) ∧ (sv V o).1 = false) ∨ (¬ tv V (-o) ∧ (sv V o).1 = true ∧ Val n (sv V o).2 ∧ (∀ l, -n ≤ l → l ≤ n → (tv (sv V o).2 l ↔ tv V l ∨ l = o)) ∧ (rdOf 0 V (ab o) = 0 → zeros (sv V o).2 < zeros V)) := by
  have hl := hV.1
  have key : ∀ (i : Nat) (a : Int), (i : Int) < V.length → (a = 1 ∨ a = -1) → Val n (V.set i a) ∧ (∀ j : Int, 0 ≤ j → j < V.length → rdOf 0 (V.set i a) j = if j = i then a else rdOf 0 V j) ∧ (rdOf 0 V (i : Int) = 0 → zeros (V.set i a) < zeros V) := by
    intro i a hi ha
    refine ⟨⟨by rw [List.length_set]; exact hl, fun x hx => ?_⟩, fun j hj0 hj => ?_, fun hz => ?_⟩
    · rcases List.mem_or_eq_of_mem_set hx with hx | rfl
      · exact hV.2 x hx
      · rcases ha with ha | ha <;> omega
    · obtain ⟨j, rfl⟩ : ∃ q : Nat, j = (q : Int) := ⟨j.toNat, by omega⟩
      rw [rdOf_at _ _ _ (by rw [List.length_set]; omega), rdOf_at _ _ _ (by omega), List.getElem_set]
      by_cases e : i = j
      · rw [if_pos e, if_pos (by omega)]
      · rw [if_neg e, if_neg (by omega)]
    · rw [rdOf_at _ _ _ (by omega)] at hz
      have hi' : i < V.length := by omega
      unfold zeros
      rw [List.countP_set hi', if_pos (by rw [hz]; rfl), if_neg (by rcases ha with ha | ha <;> (rw [ha]; decide))]
      have : 0 < V.countP fun x => x == 0 := List.countP_pos_iff.2 ⟨V[i], List.getElem_mem _, by rw [hz]; rfl⟩
      omega
  unfold sv
  by_cases hs : o < 0
  · rw [if_pos hs]
    by_cases hv : rdOf 0 V (-o) = 1
    · rw [if_pos hv]; exact .inl ⟨.inl ⟨by omega, hv⟩, rfl⟩
    · rw [if_neg hv]
      obtain ⟨k1, k2, k3⟩ := key (-o).toNat (-1) (by omega) (.inr rfl)
      have ei : (((-o).toNat : Nat) : Int) = -o := by omega
      rw [ei] at k2 k3
      refine .inr ⟨?_, rfl, k1, fun l hl1 hl2 => ?_, fun hz => k3 ?_⟩
      · rintro (⟨_, h⟩ | ⟨h, _⟩)
        · exact hv h
        · omega
      · show (0 < l ∧ rdOf 0 (V.set (-o).toNat (-1)) l = 1 ∨ l < 0 ∧ rdOf 0 (V.set (-o).toNat (-1)) (-l) = -1) ↔ _
        unfold tv
        by_cases hp : 0 < l
        · rw [k2 l (by omega) (by omega)]
          by_cases e : l = -o
          · rw [if_pos e, e]
            constructor
            · rintro (⟨_, h⟩ | ⟨h, _⟩) <;> omega
            · rintro ((⟨_, h⟩ | ⟨h, _⟩) | h)
              · exact absurd h hv
              · omega
              · omega
          · rw [if_neg e]
            constructor
            · rintro (h | ⟨h, _⟩)
              · exact .inl (.inl h)
              · omega
            · rintro ((h | ⟨h, _⟩) | h)
              · exact .inl h
              · omega
              · omega
        · by_cases hq : l < 0
          · rw [k2 (-l) (by omega) (by omega)]
            by_cases e : l = o
            · rw [if_pos (by omega)]
              exact ⟨fun _ => .inr e, fun _ => .inr ⟨hq, rfl⟩⟩
            · rw [if_neg (by omega)]
              constructor
              · rintro (⟨h, _⟩ | h)
                · omega
                · exact .inl (.inr h)
              · rintro ((⟨h, _⟩ | h) | h)
                · omega
                · exact .inr h
                · omega
          · constructor
            · rintro (⟨h, _⟩ | ⟨h, _⟩) <;> omega
            · rintro ((⟨h, _⟩ | ⟨h, _⟩) | h) <;> omega
      · rw [show ab o = -o by unfold ab; rw [if_pos (by omega)]] at hz; exact hz
  · rw [if_neg hs]
    by_cases hv : rdOf 0 V o = -1
    · rw [if_pos hv]; exact .inl ⟨.inr ⟨by omega, by rw [Int.neg_neg]; exact hv⟩, rfl⟩
    · rw [if_neg hv]
      obtain ⟨k1, k2, k3⟩ := key o.toNat 1 (by omega) (.inl rfl)
      have ei : ((o.toNat : Nat) : Int) = o := by omega
      rw [ei] at k2 k3
      refine .inr ⟨?_, rfl, k1, fun l hl1 hl2 => ?_, fun hz => k3 ?_⟩
      · rintro (⟨h, _⟩ | ⟨_, h⟩)
        · omega
        · rw [Int.neg_neg] at h; exact hv h
      · show (0 < l ∧ rdOf 0 (V.set o.toNat 1) l = 1 ∨ l < 0 ∧ rdOf 0 (V.set o.toNat 1) (-l) = -1) ↔ _
        unfold tv
        by_cases hp : 0 < l
        · rw [k2 l (by omega) (by omega)]
          by_cases e : l = o
          · rw [if_pos e]
            exact ⟨fun _ => .inr e, fun _ => .inl ⟨hp, rfl⟩⟩
          · rw [if_neg e]
            constructor
            · rintro (h | ⟨h, _⟩)
              · exact .inl (.inl h)
              · omega
            · rintro ((h | ⟨h, _⟩) | h)
              · exact .inl h
              · omega
              · omega
        · by_cases hq : l < 0
          · rw [k2 (-l) (by omega) (by omega)]
            by_cases e : -l = o
            · rw [if_pos e]
              constructor
              · rintro (⟨h, _⟩ | ⟨_, h⟩) <;> omega
              · rintro ((⟨h, _⟩ | ⟨_, h⟩) | h)
                · omega
                · rw [e] at h; exact absurd h hv
                · omega
            · rw [if_neg e]
              constructor
              · rintro (⟨h, _⟩ | h)
                · omega
                · exact .inl (.inr h)
              · rintro ((⟨h, _⟩ | h) | h)
                · omega
                · exact .inr h
                · omega
          · constructor
            · rintro (⟨h, _⟩ | ⟨h, _⟩) <;> omega
            · rintro ((⟨h, _⟩ | ⟨h, _⟩) | h) <;> omega
      · rw [show ab o = o by unfold ab; rw [if_neg (by omega)]] at hz; exact hz
/-- What the values hold, between what was given and what follows. -/
def Mid (n : Int) (cls : List (List Int)) (A : Int → Prop) (V : List Int) : Prop := Val n V ∧ (∀ l, A l → tv V l) ∧ ∀ l, tv V l → Der cls A l
theorem tv_in {n : Int} {V : List Int} (hV : Val n V) {l : Int} (h : tv V l) : -n ≤ l ∧ l ≤ n := by
  have hl := hV.1
  have out : ∀ i : Int, 0 < i → rdOf 0 V i ≠ 0 → i < V.length := fun i h0 h => by
    refine Decidable.byContradiction fun hh => h ?_
    unfold rdOf
    rw [List.getD_eq_getElem?_getD, List.getElem?_eq_none (by omega)]; rfl
  rcases h with ⟨h1, h2⟩ | ⟨h1, h2⟩
  · have := out l h1 (by omega); omega
  · have := out (-l) (by omega) (by omega); omega
theorem pass_spec {n : Int} {cls : List (List Int)} {A : Int → Prop} : ∀ (t : List (List Int)) (V : List Int) (ag : Bool), (∀ c ∈ t, c ∈ cls ∧ Lits n c) → Mid n cls A V →
    (pass t V ag = none ∧ Brk cls A) ∨ ∃ V' ag', pass t V ag = some (V', ag') ∧ Mid n cls A V' ∧ ((V' = V ∧ ag' = ag ∧ ∀ c ∈ t, Left (tv V) c) ∨ (ag' = true ∧ zeros V' < zeros V))
  | [], V, ag, _, hM => .inr ⟨V, ag, rfl, hM, .inl ⟨rfl, rfl, fun c hc => by cases hc⟩⟩
  | c :: t, V, ag, ht, hM => by
    obtain ⟨hc, hl⟩ := ht c (by simp)
    have ht' : ∀ c ∈ t, c ∈ cls ∧ Lits n c := fun x hx => ht x (by simp [hx])
    have hs := scan_spec hM.1 c [] 0 0 hl (.inl ⟨rfl, rfl, fun x hx => by cases hx⟩)
    rw [List.nil_append] at hs
    unfold pass
    rcases hs with (⟨h1, _, h3⟩ | ⟨h1, h2, h3, h4, h5⟩) | ⟨h1, h2, h3⟩
    · rw [if_pos h1]
      exact .inl ⟨rfl, c, hc, fun x hx => hM.2.2 _ (h3 x hx)⟩
    · rw [if_neg (by omega), if_pos h1]
      obtain ⟨o, ho⟩ : ∃ o, (scan V c 0 0).1 = o := ⟨_, rfl⟩
      rw [ho] at h2 h3 h4 h5 ⊢
      have hol := hl o h2
      rcases set_spec hM.1 hol.1 hol.2.1 hol.2.2 with ⟨a, _⟩ | ⟨_, _, b2, b3, b4⟩
      · exact absurd a h4
      have hM' : Mid n cls A (sv V o).2 := ⟨b2, fun l hA => by
          have := tv_in hM.1 (hM.2.1 l hA)
          exact (b3 l this.1 this.2).2 (.inl (hM.2.1 l hA)), fun l hv => by
          have := tv_in b2 hv
          rcases (b3 l this.1 this.2).1 hv with hv | rfl
          · exact hM.2.2 l hv
          · exact .step hc h2 (fun k hk hne => hM.2.2 _ (h5 k hk hne))⟩
      rcases pass_spec t (sv V o).2 true ht' hM' with h | ⟨V', ag', e, hM2, h⟩
      · exact .inl h
      · refine .inr ⟨V', ag', e, hM2, .inr ?_⟩
        have := b4 h3
        rcases h with ⟨rfl, h, _⟩ | ⟨h, hz⟩
        · exact ⟨h, this⟩
        · exact ⟨h, by omega⟩
    · rw [if_neg h1, if_neg h2]
      rcases pass_spec t V ag ht' hM with h | ⟨V', ag', e, hM2, h⟩
      · exact .inl h
      · refine .inr ⟨V', ag', e, hM2, ?_⟩
        rcases h with ⟨a, b, d⟩ | h
        · refine .inl ⟨a, b, fun x hx => ?_⟩
          rcases List.mem_cons.1 hx with rfl | hx
          · exact h3
          · exact d x hx
        · exact .inr h
theorem l2_spec {n : Int} {cls : List (List Int)} {A : Int → Prop} (hcls : ∀ c ∈ cls, Lits n c) : ∀ (m : Nat) (V : List Int), zeros V ≤ m → Mid n cls A V →
    ∃ b, Tells (fun k => rup_follows.l2 cls k V) b ∧ (b = true ↔ Brk cls A)
  | m, V, hz, hM => by
    rcases pass_spec cls V false (fun c hc => ⟨hc, hcls c hc⟩) hM with ⟨e, hb⟩ | ⟨V', ag', e, hM', h⟩
    · refine ⟨true, Tells.succ (fun k => by rw [rup_follows.l2, e]) (Tells.const _), ?_⟩
      exact ⟨fun _ => hb, fun _ => rfl⟩
    · rcases h with ⟨rfl, rfl, hL⟩ | ⟨rfl, hlt⟩
      · refine ⟨false, Tells.succ (fun k => by rw [rup_follows.l2, e]) (Tells.neg (by decide) (Tells.const _)), ?_⟩
        exact ⟨fun h => (by cases h), fun h => absurd h (not_brk hM.2.1 (fun l h => tv_not h) hL)⟩
      · cases m with
        | zero => omega
        | succ m =>
          obtain ⟨b, hb, hiff⟩ := l2_spec hcls m V' (by omega) hM'
          exact ⟨b, Tells.succ (fun k => by rw [rup_follows.l2, e]) (Tells.pos rfl hb), hiff⟩
theorem start_spec {n : Int} : ∀ (t p : List Int) (V : List Int), Lits n (p ++ t) → Val n V → (∀ l, tv V l ↔ -l ∈ p) →
    (P.start t V = none ∧ Opp (p ++ t)) ∨ ∃ V', P.start t V = some V' ∧ Val n V' ∧ ∀ l, tv V' l ↔ -l ∈ p ++ t
  | [], p, V, _, hV, h => .inr ⟨V, rfl, hV, fun l => by rw [List.append_nil]; exact h l⟩
  | x :: t, p, V, hl, hV, h => by
    have hx := hl x (by simp)
    have ih := start_spec (n := n) t (p ++ [x])
    rw [List.append_assoc, List.singleton_append] at ih
    unfold P.start
    rcases set_spec hV (o := -x) (by omega) (by omega) (by omega) with ⟨a, b⟩ | ⟨_, b1, b2, b3, _⟩
    · rw [if_neg (by rw [b]; decide)]
      rw [Int.neg_neg] at a
      exact .inl ⟨rfl, x, by simp, by simp [(h x).1 a]⟩
    · rw [if_pos b1]
      refine ih _ hl b2 (fun l => ?_)
      constructor
      · intro hv
        have := tv_in b2 hv
        rcases (b3 l this.1 this.2).1 hv with hv | rfl
        · simp [(h l).1 hv]
        · simp
      · intro hm
        rcases List.mem_append.1 hm with hm | hm
        · have := tv_in hV ((h l).2 hm)
          exact (b3 l this.1 this.2).2 (.inl ((h l).2 hm))
        · have := List.mem_singleton.1 hm
          exact (b3 l (by omega) (by omega)).2 (.inr (by omega))
theorem follows_tells {n : Int} {cls : List (List Int)} {cl : List Int} (hn : 0 ≤ n ∧ n ≤ 1024) (hcls : ∀ c ∈ cls, Lits n c) (hcl : Lits n cl) :
    ∃ b, Tells (fun k => rup_follows.f k cls n cl) b ∧ (b = true ↔ FollowsP cls cl) := by
  have hok : rup_follows.ok cls n cl := ⟨hn.1, hn.2, fun x hx => (hcl x hx).2, fun c hc x hx => (hcls c hc x hx).2⟩
  unfold rup_follows.f
  have hV0 : Val n (List.replicate (n + 1).toNat 0) := ⟨by rw [List.length_replicate]; omega, fun x hx => .inl (List.eq_of_mem_replicate hx)⟩
  have ht0 : ∀ l, tv (List.replicate (n + 1).toNat 0) l ↔ -l ∈ ([] : List Int) := fun l => by
    have hz : ∀ i : Int, rdOf (0 : Int) (List.replicate (n + 1).toNat (0 : Int)) i = 0 := fun i => by
      unfold rdOf
      rw [List.getD_eq_getElem?_getD, List.getElem?_replicate]
      split <;> rfl
    constructor
    · rintro (⟨_, h⟩ | ⟨_, h⟩) <;> (rw [hz] at h; omega)
    · intro h; cases h
  rcases start_spec cl [] _ hcl hV0 ht0 with ⟨e, ho⟩ | ⟨V, e, hV, hiff⟩
  · refine ⟨true, Tells.pos hok ?_, fun _ => .inl ho, fun _ => rfl⟩
    rw [e]; exact Tells.const _
  · rw [List.nil_append] at hiff
    have hM : Mid n cls (Neg cl) V := ⟨hV, fun l h => (hiff l).2 h, fun l h => .base ((hiff l).1 h)⟩
    obtain ⟨b, hb, hb2⟩ := l2_spec hcls (zeros V) V (Nat.le_refl _) hM
    refine ⟨b, Tells.pos hok ?_, ?_⟩
    · rw [e]; exact hb
    · rw [hb2]
      refine ⟨.inr, fun h => h.elim (fun ho => ?_) id⟩
      obtain ⟨x, hx, hx'⟩ := ho
      have h1 := (hiff x).2 hx'
      have h2 := (hiff (-x)).2 (by rw [Int.neg_neg]; exact hx)
      exact absurd h2 (tv_not h1)
end Go.Proofs.Ytkfnaiobgddjpaa.Pu

namespace Go.Proofs.Ytkfnaiobgddjpaa.Pu
open Go.RowKit Go.Proofs.Ytkfnaiobgddjpaa.P Go.Proofs.YtkfnaiobgddjpaaW.PrintWords Go.Proofs.YtkfnaiobgddjpaaW.PrintLast Go.Proofs.YtkfnaiobgddjpaaW.PrintMore

theorem alive_at : sequiturlaw23_alive.f 40 = some true := by decide +kernel
theorem alive23 : Tells (fun k => sequiturlaw23_alive.f k) true := Tells.mono sequiturlaw23_alive.mono alive_at
theorem rdT_at (xs : List S64) (i : Nat) (h : i < xs.length) : rd_T64 xs (i : Int) = xs[i] := by simp [rd_T64, h]
theorem few_l1 (log : List S64) (hs : log.length < 4611686018427387904) : ∀ (m i : Nat), m + i = log.length →
    ∃ b, Tells (fun k => sequiturlaw23_few.l1 k log (log.length : Int) (i : Int)) b ∧ (b = true → ∀ x ∈ log.drop i, x.f1.length ≤ 70)
  | 0, i, h => ⟨true, Tells.succ (fun k => by rw [sequiturlaw23_few.l1]) (Tells.neg (by omega) (Tells.const _)), fun _ x hx => by
      rw [List.drop_of_length_le (by omega)] at hx; cases hx⟩
  | m + 1, i, h => by
    have hi : i < log.length := by omega
    by_cases hb : ((log[i].f1.length : Nat) : Int) > 70
    · refine ⟨false, Tells.succ (fun k => by rw [sequiturlaw23_few.l1]) (Tells.pos (by omega) (Tells.pos (by omega) (Tells.pos (by omega) ?_))), fun h => by cases h⟩
      rw [rdT_at _ _ hi]
      exact Tells.pos hb (Tells.const _)
    · obtain ⟨b, hT, hh⟩ := few_l1 log hs m (i + 1) (by omega)
      refine ⟨b, Tells.succ (fun k => by rw [sequiturlaw23_few.l1]) (Tells.pos (by omega) (Tells.pos (by omega) (Tells.pos (by omega) ?_))), fun e x hx => ?_⟩
      · rw [rdT_at _ _ hi, w64s hi hs]
        exact Tells.neg hb hT
      · rw [List.drop_eq_getElem_cons hi] at hx
        rcases List.mem_cons.1 hx with rfl | hx
        · omega
        · exact hh e x hx
theorem few_l0 (l : List (List Int)) (log : List S64) (hl : l.length < 4611686018427387904) (hs : log.length < 4611686018427387904) : ∀ (m i : Nat), m + i = l.length →
    ∃ b, Tells (fun k => sequiturlaw23_few.l0 k log l (l.length : Int) (i : Int)) b ∧ (b = true → (∀ c ∈ l.drop i, c.length ≤ 70) ∧ ∀ x ∈ log, x.f1.length ≤ 70)
  | 0, i, h => by
    obtain ⟨b, hT, hh⟩ : ∃ b, Tells (fun k => sequiturlaw23_few.l1 k log (log.length : Int) 0) b ∧ (b = true → ∀ x ∈ log, x.f1.length ≤ 70) := few_l1 log hs log.length 0 rfl
    refine ⟨b, Tells.succ (fun k => by rw [sequiturlaw23_few.l0]) (Tells.neg (by omega) hT), fun e => ⟨fun c hc => ?_, hh e⟩⟩
    rw [List.drop_of_length_le (by omega)] at hc; cases hc
  | m + 1, i, h => by
    have hi : i < l.length := by omega
    by_cases hb : ((l[i].length : Nat) : Int) > 70
    · refine ⟨false, Tells.succ (fun k => by rw [sequiturlaw23_few.l0]) (Tells.pos (by omega) (Tells.pos (by omega) (Tells.pos (by omega) ?_))), fun h => by cases h⟩
      rw [rdL_at _ _ hi]
      exact Tells.pos hb (Tells.const _)
    · obtain ⟨b, hT, hh⟩ := few_l0 l log hl hs m (i + 1) (by omega)
      refine ⟨b, Tells.succ (fun k => by rw [sequiturlaw23_few.l0]) (Tells.pos (by omega) (Tells.pos (by omega) (Tells.pos (by omega) ?_))), fun e => ⟨fun x hx => ?_, (hh e).2⟩⟩
      · rw [rdL_at _ _ hi, w64s hi hl]
        exact Tells.neg hb hT
      · rw [List.drop_eq_getElem_cons hi] at hx
        rcases List.mem_cons.1 hx with rfl | hx
        · omega
        · exact (hh e).1 x hx
theorem few_tells (n : Int) (l : List (List Int)) (log : List S64) (hl : l.length < 4611686018427387904) (hs : log.length < 4611686018427387904) :
    ∃ b, Tells (fun k => sequiturlaw23_few.f k n l log) b ∧ (b = true → n ≤ 40 ∧ l.length ≤ 60 ∧ log.length ≤ 30 ∧ (∀ c ∈ l, c.length ≤ 70) ∧ ∀ x ∈ log, x.f1.length ≤ 70) := by
  unfold sequiturlaw23_few.f
  have no : Tells (fun k => sequiturlaw23_few.j0 k log true n l) false := Tells.succ (fun k => by rw [sequiturlaw23_few.j0]) (Tells.pos rfl (Tells.const _))
  by_cases h1 : n > 40
  · exact ⟨false, Tells.pos h1 no, fun h => by cases h⟩
  by_cases h2 : (l.length : Int) > 60
  · exact ⟨false, Tells.neg h1 (Tells.pos h2 no), fun h => by cases h⟩
  by_cases h3 : (log.length : Int) > 30
  · refine ⟨false, Tells.neg h1 (Tells.neg h2 ?_), fun h => by cases h⟩
    rw [decide_eq_true h3]; exact no
  obtain ⟨b, hT, hh⟩ : ∃ b, Tells (fun k => sequiturlaw23_few.l0 k log l (l.length : Int) 0) b ∧ (b = true → (∀ c ∈ l, c.length ≤ 70) ∧ ∀ x ∈ log, x.f1.length ≤ 70) := few_l0 l log hl hs l.length 0 rfl
  refine ⟨b, Tells.neg h1 (Tells.neg h2 ?_), fun e => ⟨by omega, by omega, by omega, (hh e).1, (hh e).2⟩⟩
  rw [decide_eq_false h3]
  exact Tells.succ (fun k => by rw [sequiturlaw23_few.j0]) (Tells.neg (by decide) hT)
/-- What Step tells. -/
theorem Step_p (n : Int) (l : List (List Int)) (c : List Int) (hl : Rows64 l) (hn : I64 n) (hc : ∀ x ∈ c, I64 x) (hcs : c.length < 4611686018427387904) :
    ∃ b, Tells (fun k => rup_Step.f k n l c) (b, if setErr n l = 0 then clauseErr c n else setErr n l) ∧
      (setErr n l = 0 → clauseErr c n = 0 → (b = true ↔ FollowsP l c)) ∧ (b = true → setErr n l = 0 ∧ clauseErr c n = 0) := by
  obtain ⟨x, hx⟩ := cnf_Right_tells n l hl hn
  have hR := lit_Right_tells c n hc hn hcs
  unfold rup_Step.f
  by_cases h1 : setErr n l = 0
  · rw [if_pos h1]
    by_cases h2 : clauseErr c n = 0
    · obtain ⟨a1, a2, a3⟩ := setErr_lits h1
      obtain ⟨b1, b2⟩ := clauseErr_lits h2
      obtain ⟨b, hb, hiff⟩ := follows_tells a1 (fun c hc => (a3 c hc).1) b1
      refine ⟨b, ?_, fun _ _ => hiff, fun _ => ⟨h1, h2⟩⟩
      rw [h2]; exact Tells.bind hx (Tells.pos h1 (Tells.bind hR (Tells.pos h2 (Tells.bind hb (Tells.const _)))))
    · refine ⟨false, ?_, fun _ h => absurd h h2, fun h => by cases h⟩
      exact Tells.bind hx (Tells.pos h1 (Tells.bind hR (Tells.neg h2 (Tells.const _))))
  · rw [if_neg h1]
    refine ⟨false, ?_, fun h => absurd h h1, fun h => by cases h⟩
    exact Tells.bind hx (Tells.neg h1 (Tells.const _))
theorem setErr_of {n : Int} {l : List (List Int)} (hn : 0 ≤ n ∧ n ≤ 1024) (hl : l.length ≤ 4096) (h : ∀ c ∈ l, clauseErr c n = 0) : setErr n l = 0 := by
  unfold setErr
  rw [if_neg (by omega), if_neg (by omega)]
  exact clausesErr_of h
theorem setErr_each {n : Int} {l : List (List Int)} (h : setErr n l = 0) : ∀ c ∈ l, clauseErr c n = 0 := fun c hc => by
  obtain ⟨_, _, a3⟩ := setErr_lits h
  exact lits_clauseErr (a3 c hc).1 (a3 c hc).2
theorem FollowsP.more {cls cls' : List (List Int)} {cl cl' : List Int} (h1 : ∀ c ∈ cls, c ∈ cls') (h2 : ∀ x ∈ cl, x ∈ cl') (h : FollowsP cls cl) : FollowsP cls' cl' := by
  rcases h with ⟨x, hx, hx'⟩ | h
  · exact .inl ⟨x, h2 _ hx, h2 _ hx'⟩
  · exact .inr (h.mono (fun c hc => ⟨c, h1 c hc, fun x => Iff.rfl⟩) (fun l hl => h2 _ hl))
end Go.Proofs.Ytkfnaiobgddjpaa.Pu

namespace Go.Proofs.Ytkfnaiobgddjpaa.Pu
open Go.RowKit Go.Proofs.Ytkfnaiobgddjpaa.P Go.Proofs.YtkfnaiobgddjpaaW.PrintWords Go.Proofs.YtkfnaiobgddjpaaW.PrintLast Go.Proofs.YtkfnaiobgddjpaaW.PrintMore

/-- A log as a reading has it. -/
def LogOk (log : List S64) : Prop := log.length < 4611686018427387904 ∧ ∀ x ∈ log, x.f1.length < 4611686018427387904 ∧ ∀ y ∈ x.f1, I64 y
/-- Where the first one stands that is the same as a clause. -/
def at23 (all : List (List Int)) (c : List Int) : Int := ixOf (fun l => sameL l c) all 0
/-- A log's steps hold. -/
def GoodS (n : Int) : List S64 → List (List Int) → Prop
  | [], _ => True
  | x :: t, all => if x.f0 = true then 0 ≤ at23 all x.f1 ∧ GoodS n t (all.take (at23 all x.f1).toNat ++ all.drop ((at23 all x.f1).toNat + 1))
    else clauseErr x.f1 n = 0 ∧ FollowsP all x.f1 ∧ GoodS n t (all ++ [x.f1])
theorem ixOf_congr {α : Type} {p q : α → Bool} : ∀ (l : List α) (i : Int), (∀ x ∈ l, p x = q x) → ixOf p l i = ixOf q l i
  | [], _, _ => rfl
  | x :: l, i, h => by rw [ixOf, ixOf, h x (by simp), ixOf_congr l (i + 1) (fun y hy => h y (by simp [hy]))]
theorem ixOf_any {α : Type} (p : α → Bool) : ∀ (l : List α) (i : Nat), decide (0 ≤ ixOf p l (i : Int)) = l.any p
  | [], i => rfl
  | x :: l, i => by
    rw [ixOf, List.any_cons]
    by_cases h : p x = true
    · rw [if_pos h, h, Bool.true_or]; exact decide_eq_true (by omega)
    · rw [if_neg h, Bool.eq_false_iff.2 h, Bool.false_or, show (i : Int) + 1 = ((i + 1 : Nat) : Int) by omega]
      exact ixOf_any p l (i + 1)
/-- With enough rounds Same tells for all clauses. -/
theorem same_all (c : List Int) (hc : c.length < 4611686018427387904) : ∀ (all : List (List Int)), (∀ l ∈ all, l.length < 4611686018427387904) → ∃ k0, ∀ k, k0 ≤ k → ∀ l ∈ all, lit_Same.f k l c = some (sameL l c)
  | [], _ => ⟨0, fun _ _ l hl => by cases hl⟩
  | x :: all, h => by
    obtain ⟨k0, h0⟩ := same_all c hc all (fun l hl => h l (by simp [hl]))
    obtain ⟨k1, h1⟩ := lit_Same_tells x c (h x (by simp)) hc
    refine ⟨k0 + k1, fun k hk l hl => ?_⟩
    rcases List.mem_cons.1 hl with rfl | hl
    · exact h1 k (by omega)
    · exact h0 k (by omega) l hl
/-- An empty clause is there, or is added. -/
def endB (l : List (List Int)) (log : List S64) : Bool := l.any isE || log.any addsE
/-- It ends with a clause. -/
def endsB (log : List S64) (c : List Int) : Bool := match log.getLast? with
  | none => false
  | some x => !x.f0 && sameL x.f1 c
theorem steps_p (n : Int) (log : List S64) (hn : 0 ≤ n ∧ n ≤ 1024) (hlog : LogOk log) : ∀ (m i : Nat) (all : List (List Int)), m + i = log.length → all.length + m ≤ 90000 → (∀ c ∈ all, Lits n c ∧ c.length ≤ 64) →
    ∃ r, Tells (fun k => rup_steps.l1 k n (log.drop i) (i : Int) all) r ∧ (r.2 = 0 ↔ GoodS n (log.drop i) all) ∧ (r.2 = 0 → r.1 = 0)
  | 0, i, all, h, _, _ => by
    refine ⟨(0, 0), ?_, ?_, fun _ => rfl⟩
    · rw [List.drop_of_length_le (by omega)]; exact Tells.const _
    · rw [List.drop_of_length_le (by omega)]
      exact ⟨fun _ => trivial, fun _ => rfl⟩
  | m + 1, i, all, h, hs, hall => by
    have hi : i < log.length := by omega
    obtain ⟨x, hx⟩ : ∃ x, log[i] = x := ⟨_, rfl⟩
    obtain ⟨x1, x2⟩ := hlog.2 _ (List.getElem_mem hi)
    rw [hx] at x1 x2
    have hd : log.drop i = x :: log.drop (i + 1) := by rw [List.drop_eq_getElem_cons hi, hx]
    have hn64 : I64 n := by
      unfold I64 Lit.wf
      have a : IntKind.i64.min = -9223372036854775808 := by decide
      have b : IntKind.i64.max = 9223372036854775807 := by decide
      simp only [Bool.and_eq_true, decide_eq_true_eq]
      omega
    rw [hd]
    by_cases hb : x.f0 = true
    · obtain ⟨k0, hk0⟩ := same_all x.f1 x1 all (fun c hc => by have := (hall c hc).2; omega)
      have hprog : ∀ {v : Int × Int}, Tells (fun k => if at23 all x.f1 < 0 then some ((i : Int), 3) else rup_steps.l1 k n (log.drop (i + 1)) ((i : Int) + 1) (all.take (at23 all x.f1).toNat ++ all.drop ((at23 all x.f1).toNat + 1))) v → Tells (fun k => rup_steps.l1 k n (x :: log.drop (i + 1)) (i : Int) all) v := fun hv => by
        obtain ⟨k1, h1⟩ := hv
        refine ⟨k0 + k1, fun k hk => ?_⟩
        have hs : ∀ l ∈ all, lit_Same.f k l x.f1 = some (sameL l x.f1) := hk0 k (by omega)
        have he : ixOf (fun l => (lit_Same.f k l x.f1).getD false) all 0 = at23 all x.f1 := ixOf_congr all 0 (fun l hl => by rw [hs l hl]; rfl)
        show rup_steps.l1 k n (x :: log.drop (i + 1)) (i : Int) all = some _
        rw [rup_steps.l1, if_pos hb, if_pos (fun l hl => by rw [hs l hl]; rfl), he]
        exact h1 k (by omega)
      by_cases ha : at23 all x.f1 < 0
      · refine ⟨((i : Int), 3), hprog (Tells.pos ha (Tells.const _)), ?_, fun h => (by cases h)⟩
        unfold GoodS
        rw [if_pos hb]
        exact ⟨fun h => (by cases h), fun h => absurd h.1 (by omega)⟩
      · obtain ⟨r, h1, h3, h4⟩ := steps_p n log hn hlog m (i + 1) (all.take (at23 all x.f1).toNat ++ all.drop ((at23 all x.f1).toNat + 1)) (by omega) (by rw [List.length_append, List.length_take, List.length_drop]; omega) (fun c hc => by
          rcases List.mem_append.1 hc with hc | hc
          · exact hall c (List.mem_of_mem_take hc)
          · exact hall c (List.mem_of_mem_drop hc))
        refine ⟨r, hprog (Tells.neg ha ?_), ?_, h4⟩
        · rw [show ((i : Int) + 1) = ((i + 1 : Nat) : Int) by omega]; exact h1
        · unfold GoodS
          rw [if_pos hb, h3]
          exact ⟨fun h => ⟨by omega, h⟩, fun h => h.2⟩
    · have hR := lit_Right_tells x.f1 n x2 hn64 x1
      have hprog : ∀ {v : Int × Int}, Tells (fun k => (lit_Right.f k x.f1 n).bind fun e => if e = 0 then ((rup_follows.f k all n x.f1).bind fun b => if b = true then (if all.length + 1 < rup_steps.cap then rup_steps.l1 k n (log.drop (i + 1)) ((i : Int) + 1) (all ++ [x.f1]) else none) else some ((i : Int), 30)) else some ((i : Int), e)) v → Tells (fun k => rup_steps.l1 k n (x :: log.drop (i + 1)) (i : Int) all) v := fun hv => by
        refine Tells.congr (fun k => ?_) hv
        rw [rup_steps.l1, if_neg hb]
      by_cases he : clauseErr x.f1 n = 0
      · obtain ⟨b1, b2⟩ := clauseErr_lits he
        obtain ⟨b, hF, hiff⟩ := follows_tells hn (fun c hc => (hall c hc).1) b1
        by_cases hbt : b = true
        · obtain ⟨r, h1, h3, h4⟩ := steps_p n log hn hlog m (i + 1) (all ++ [x.f1]) (by omega) (by simp; omega) (fun c hc => by
            rcases List.mem_append.1 hc with hc | hc
            · exact hall c hc
            · rw [List.mem_singleton.1 hc]; exact ⟨b1, b2⟩)
          refine ⟨r, hprog (Tells.bind hR (Tells.pos he (Tells.bind hF (Tells.pos hbt (Tells.pos (by unfold rup_steps.cap; omega) ?_))))), ?_, h4⟩
          · rw [show ((i : Int) + 1) = ((i + 1 : Nat) : Int) by omega]; exact h1
          · unfold GoodS
            rw [if_neg hb, h3]
            exact ⟨fun h => ⟨he, hiff.1 hbt, h⟩, fun h => h.2.2⟩
        · refine ⟨((i : Int), 30), hprog (Tells.bind hR (Tells.pos he (Tells.bind hF (Tells.neg hbt (Tells.const _))))), ?_, fun h => (by cases h)⟩
          unfold GoodS
          rw [if_neg hb]
          exact ⟨fun h => (by cases h), fun h => absurd (hiff.2 h.2.1) hbt⟩
      · refine ⟨((i : Int), clauseErr x.f1 n), hprog (Tells.bind hR (Tells.neg he (Tells.const _))), ?_, fun h => absurd h he⟩
        unfold GoodS
        rw [if_neg hb]
        exact ⟨fun h => absurd h he, fun h => absurd h.1 he⟩
theorem Check_p (n : Int) (l : List (List Int)) (log : List S64) (hl : Rows64 l) (hn : I64 n) (hlog : LogOk log) :
    ∃ r, Tells (fun k => rup_Check.f k n l log) r ∧ (r.2 = 0 → setErr n l = 0 ∧ GoodS n log l ∧ endB l log = true) := by
  obtain ⟨x, hx⟩ := cnf_Right_tells n l hl hn
  unfold rup_Check.f
  by_cases h1 : setErr n l = 0
  · obtain ⟨a1, a2, a3⟩ := setErr_lits h1
    by_cases h2 : (log.length : Int) > 4096
    · exact ⟨(-1, 2), Tells.bind hx (Tells.pos h1 (Tells.pos h2 (Tells.const _))), fun h => (by cases h)⟩
    · obtain ⟨r, s1, s3, s4⟩ : ∃ r, Tells (fun k => rup_steps.l1 k n log 0 l) r ∧ (r.2 = 0 ↔ GoodS n log l) ∧ (r.2 = 0 → r.1 = 0) := steps_p n log a1 hlog log.length 0 l rfl (by omega) a3
      have s1' : Tells (fun k => rup_steps.f k n l log) r := by unfold rup_steps.f; exact Tells.pos (by unfold rup_steps.cap; omega) s1
      by_cases h3 : r.2 = 0
      · refine ⟨if endB l log = true then (0, 0) else ((log.length : Int), 24), Tells.bind hx (Tells.pos h1 (Tells.neg h2 (Tells.bind s1' (Tells.pos h3 ?_)))), fun h => ⟨h1, s3.1 h3, ?_⟩⟩
        · have e1 : decide (0 ≤ ixOf isE l 0) = l.any isE := ixOf_any isE l 0
          have e2 : decide (0 ≤ ixOf addsE log 0) = log.any addsE := ixOf_any addsE log 0
          rw [e1, e2]
          unfold endB
          cases l.any isE with
          | true => exact Tells.const _
          | false => cases log.any addsE <;> exact Tells.const _
        · by_cases he : endB l log = true
          · exact he
          · rw [if_neg he] at h; cases h
      · exact ⟨r, Tells.bind hx (Tells.pos h1 (Tells.neg h2 (Tells.bind s1' (Tells.neg h3 (Tells.const _))))), fun h => absurd h h3⟩
  · exact ⟨(-1, setErr n l), Tells.bind hx (Tells.neg h1 (Tells.const _)), fun h => absurd h h1⟩
theorem Ends_p (n : Int) (l : List (List Int)) (log : List S64) (c : List Int) (hl : Rows64 l) (hn : I64 n) (hlog : LogOk log) (hc : ∀ y ∈ c, I64 y) (hcs : c.length < 4611686018427387904) :
    ∃ r, Tells (fun k => rup_Ends.f k n l log c) r ∧ (r.2 = 0 → setErr n l = 0 ∧ GoodS n log l ∧ endsB log c = true) ∧
      (setErr n l = 0 → clauseErr c n = 0 → log.length ≤ 4096 → GoodS n log l → r = if endsB log c = true then (0, 0) else ((log.length : Int), 24)) := by
  obtain ⟨x, hx⟩ := cnf_Right_tells n l hl hn
  have hR := lit_Right_tells c n hc hn hcs
  unfold rup_Ends.f
  by_cases h1 : setErr n l = 0
  · obtain ⟨a1, a2, a3⟩ := setErr_lits h1
    by_cases h2 : clauseErr c n = 0
    · by_cases h3 : (log.length : Int) > 4096
      · exact ⟨(-1, 2), Tells.bind hx (Tells.pos h1 (Tells.bind hR (Tells.pos h2 (Tells.pos h3 (Tells.const _))))), fun h => (by cases h), fun _ _ h => by omega⟩
      · obtain ⟨r, s1, s3, s4⟩ : ∃ r, Tells (fun k => rup_steps.l1 k n log 0 l) r ∧ (r.2 = 0 ↔ GoodS n log l) ∧ (r.2 = 0 → r.1 = 0) := steps_p n log a1 hlog log.length 0 l rfl (by omega) a3
        have s1' : Tells (fun k => rup_steps.f k n l log) r := by unfold rup_steps.f; exact Tells.pos (by unfold rup_steps.cap; omega) s1
        by_cases h4 : r.2 = 0
        · by_cases h5 : (log.length : Int) = 0
          · have hnil : log = [] := List.eq_nil_of_length_eq_zero (by omega)
            have he : endsB log c = false := by rw [hnil]; rfl
            exact ⟨((log.length : Int), 24), Tells.bind hx (Tells.pos h1 (Tells.bind hR (Tells.pos h2 (Tells.neg h3 (Tells.bind s1' (Tells.pos h4 (Tells.pos h5 (Tells.const _)))))))), fun h => (by cases h), fun _ _ _ _ => by rw [he]; rfl⟩
          · have hw : wrap64 ((log.length : Int) - 1) = ((log.length - 1 : Nat) : Int) := by unfold wrap64; omega
            have hi : log.length - 1 < log.length := by omega
            have hlast : log.getLast? = some log[log.length - 1] := by rw [List.getLast?_eq_getElem?, List.getElem?_eq_getElem hi]
            obtain ⟨y, hy⟩ : ∃ y, log[log.length - 1] = y := ⟨_, rfl⟩
            have hyl := (hlog.2 _ (List.getElem_mem hi)).1
            rw [hy] at hlast hyl
            have S1 := lit_Same_tells y.f1 c hyl hcs
            have hends : endsB log c = (!y.f0 && sameL y.f1 c) := by unfold endsB; rw [hlast]
            by_cases hf : y.f0 = true
            · refine ⟨((log.length : Int), 24), Tells.bind hx (Tells.pos h1 (Tells.bind hR (Tells.pos h2 (Tells.neg h3 (Tells.bind s1' (Tells.pos h4 (Tells.neg h5 ?_))))))), fun h => (by cases h), fun _ _ _ _ => ?_⟩
              · rw [hw, rdT_at _ _ hi, hy]; exact Tells.pos (by omega) (Tells.pos (by omega) (Tells.pos hf (Tells.const _)))
              · rw [hends, hf]; rfl
            · have he : endsB log c = sameL y.f1 c := by rw [hends, Bool.eq_false_iff.2 hf]; rfl
              refine ⟨if sameL y.f1 c = true then (0, 0) else ((log.length : Int), 24), Tells.bind hx (Tells.pos h1 (Tells.bind hR (Tells.pos h2 (Tells.neg h3 (Tells.bind s1' (Tells.pos h4 (Tells.neg h5 ?_))))))), fun h => ⟨h1, s3.1 h4, ?_⟩, fun _ _ _ _ => by rw [he]⟩
              · rw [hw, rdT_at _ _ hi, hy]
                refine Tells.pos (by omega) (Tells.pos (by omega) (Tells.neg hf (Tells.bind S1 ?_)))
                cases sameL y.f1 c <;> exact Tells.const _
              · rw [he]
                by_cases hsm : sameL y.f1 c = true
                · exact hsm
                · rw [if_neg hsm] at h; cases h
        · exact ⟨r, Tells.bind hx (Tells.pos h1 (Tells.bind hR (Tells.pos h2 (Tells.neg h3 (Tells.bind s1' (Tells.neg h4 (Tells.const _))))))), fun h => absurd h h4, fun _ _ _ h => absurd (s3.2 h) h4⟩
    · exact ⟨(-1, clauseErr c n), Tells.bind hx (Tells.pos h1 (Tells.bind hR (Tells.neg h2 (Tells.const _)))), fun h => absurd h h2, fun _ h => absurd h h2⟩
  · exact ⟨(-1, setErr n l), Tells.bind hx (Tells.neg h1 (Tells.const _)), fun h => absurd h h1, fun h => absurd h h1⟩
end Go.Proofs.Ytkfnaiobgddjpaa.Pu

namespace Go.Proofs.Ytkfnaiobgddjpaa.Pu
open Go.RowKit Go.Proofs.Ytkfnaiobgddjpaa.P Go.Proofs.YtkfnaiobgddjpaaW.PrintWords Go.Proofs.YtkfnaiobgddjpaaW.PrintLast Go.Proofs.YtkfnaiobgddjpaaW.PrintMore

theorem r17_is_eq (a : Int) : sequiturref17_is.f a = some (isL a) := by
  unfold sequiturref17_is.f isL
  by_cases h : a = 0
  · rw [if_pos h, decide_eq_false (by simp [h])]
  · rw [if_neg h]
    by_cases h2 : a = -9223372036854775808
    · rw [h2]; rfl
    · rw [decide_eq_true ⟨h, h2⟩]
      simpa using h2
theorem r17_Of_eq {a : Int} (h : I64 a) (hm : isL a = true) : sequiturref17_Of.f a = some ((a.natAbs : Nat) : Int) := by
  have := h.lo; have := h.hi
  have hm := (of_decide_eq_true hm).2
  unfold sequiturref17_Of.f wrap64
  split <;> (congr 1; omega)

theorem r17_Right_loop (c : List Int) (n : Int) (hc : ∀ l ∈ c, I64 l) (hn : I64 n) (hs : c.length < 4611686018427387904) : ∀ (m i : Nat), m + i = c.length →
    Tells (fun k => sequiturref17_Right.l0 k c n (i : Int)) (if (c.drop i).any (badLit n) then 1 else 0)
  | 0, i, h => by
    refine Tells.succ (fun k => by rw [sequiturref17_Right.l0]) (Tells.neg (by omega) ?_)
    rw [List.drop_of_length_le (by omega)]; exact Tells.const _
  | m + 1, i, h => by
    have hi : i < c.length := by omega
    have hl := hc _ (List.getElem_mem hi); have h1 := hl.lo; have h2 := hl.hi; have := hn.lo; have := hn.hi
    refine Tells.succ (fun k => by rw [sequiturref17_Right.l0]) (Tells.pos (by omega) (Tells.pos (by omega) ?_))
    rw [rd_at _ _ hi, w64s hi hs, List.drop_eq_getElem_cons hi, List.any_cons, r17_is_eq]
    refine Tells.bind (Tells.const _) ?_
    by_cases hb : isL c[i] = true
    · have hb' := of_decide_eq_true hb
      refine Tells.pos hb ?_
      rw [r17_Of_eq hl hb]
      refine Tells.bind (Tells.const _) ?_
      by_cases hv : ((c[i].natAbs : Nat) : Int) > n
      · have e : badLit n c[i] = true := decide_eq_true (by omega)
        rw [e, Bool.true_or, if_pos rfl]
        exact Tells.pos hv (Tells.const _)
      · have e : badLit n c[i] = false := decide_eq_false (by omega)
        rw [e, Bool.false_or]
        exact Tells.neg hv (r17_Right_loop c n hc hn hs m (i + 1) (by omega))
    · have hb' : ¬ (c[i] ≠ 0 ∧ c[i] ≠ -9223372036854775808) := fun h => hb (decide_eq_true h)
      have e : badLit n c[i] = true := decide_eq_true (by omega)
      rw [e, Bool.true_or, if_pos rfl]
      exact Tells.neg hb (Tells.const _)
theorem r17_Right_tells (c : List Int) (n : Int) (hc : ∀ l ∈ c, I64 l) (hn : I64 n) (hs : c.length < 4611686018427387904) : Tells (fun k => sequiturref17_Right.f k c n) (clauseErr c n) := by
  unfold sequiturref17_Right.f clauseErr
  by_cases h : c.length > 64
  · rw [if_pos h]; exact Tells.pos (by omega) (Tells.const _)
  · rw [if_neg h]; exact Tells.neg (by omega) (r17_Right_loop c n hc hn hs c.length 0 rfl)

end Go.Proofs.Ytkfnaiobgddjpaa.Pu

namespace Go.Proofs.Ytkfnaiobgddjpaa.Pu
open Go.RowKit Go.Proofs.Ytkfnaiobgddjpaa.P Go.Proofs.YtkfnaiobgddjpaaW.PrintWords Go.Proofs.YtkfnaiobgddjpaaW.PrintLast Go.Proofs.YtkfnaiobgddjpaaW.PrintMore

theorem r20_Right_loop (l : List (List Int)) (n : Int) (hl : Rows64 l) (hn : I64 n) : ∀ (m i : Nat), m + i = l.length →
    Tells (fun k => sequiturref20_Right.l0 k (i : Int) n l) (clausesErr n (l.drop i))
  | 0, i, h => by
    refine Tells.succ (fun k => by rw [sequiturref20_Right.l0]) (Tells.neg (by omega) ?_)
    rw [List.drop_of_length_le (by omega)]; exact Tells.const _
  | m + 1, i, h => by
    have hi : i < l.length := by omega
    have hc := hl.2 _ (List.getElem_mem hi)
    have hR := r17_Right_tells l[i] n hc.2 hn hc.1
    rw [List.drop_eq_getElem_cons hi, clausesErr]
    refine Tells.succ (fun k => by rw [sequiturref20_Right.l0]) (Tells.pos (by omega) (Tells.pos (by omega) ?_))
    rw [rdL_at _ _ hi, w64s hi hl.1]
    refine Tells.bind hR ?_
    by_cases hz : clauseErr l[i] n = 0
    · refine Tells.pos hz ?_
      rw [if_pos hz]; exact r20_Right_loop l n hl hn m (i + 1) (by omega)
    · refine Tells.neg hz ?_
      rw [if_neg hz]; exact Tells.const _
theorem r20_Right_tells (n : Int) (l : List (List Int)) (hl : Rows64 l) (hn : I64 n) : Tells (fun k => sequiturref20_Right.f k n l) (setErr n l) := by
  unfold sequiturref20_Right.f setErr
  have stop : Tells (fun k => sequiturref20_Right.j0 k true n l) 1 := Tells.succ (fun k => by rw [sequiturref20_Right.j0]) (Tells.pos rfl (Tells.const _))
  by_cases h0 : n < 0
  · rw [if_pos (by omega)]
    exact Tells.pos h0 stop
  refine Tells.neg h0 ?_
  by_cases h1 : n > 1024
  · rw [if_pos (by omega), decide_eq_true h1]; exact stop
  rw [if_neg (by omega), decide_eq_false h1]
  refine Tells.succ (fun k => by rw [sequiturref20_Right.j0]) (Tells.neg (by decide) ?_)
  by_cases h2 : l.length > 4096
  · rw [if_pos h2]
    exact Tells.pos (by omega) (Tells.const _)
  · rw [if_neg h2]
    exact Tells.neg (by omega) (r20_Right_loop l n hl hn l.length 0 rfl)

end Go.Proofs.Ytkfnaiobgddjpaa.Pu

namespace Go.Proofs.Ytkfnaiobgddjpaa.Open
open Go.RowKit Go.Proofs.YtkfnaiobgddjpaaW.PrintWords Go.Proofs.YtkfnaiobgddjpaaW.PrintLast Go.Proofs.YtkfnaiobgddjpaaW.PrintMore Go.ChangeShapes Go.WideShapes Go.Deep

/-- What a reading of type t tells of the cells: they hold a value of kind d, which is good, and which leads to blocks that lie there; all weights are within the bound. -/
def Opens (P : Program) (t : TypeId) {α : Type} (d : Kd α) (good : α → Prop) : Prop :=
  ∀ {H : Type} (enc : TypeId × Value → H) (w : World) (fuel : Nat) (cs : List Value) (x : DataW H × List MemPlace),
    DataW.trod enc P w 0 (fun _ => true) true fuel t cs = some x → (∀ n ∈ DataW.weights P t x.1, n ≤ 140737488351232) → ∃ a, Kd.FK d w (fun _ => True) a cs ∧ good a
/-- A row that is good: not longer than its bytes, each element good. -/
def Row (B : Nat) {α : Type} (good : α → Prop) (xs : List α) : Prop := xs.length * B ≤ 140737488351232 ∧ ∀ x ∈ xs, good x
def I64 (n : Int) : Prop := (Lit.int .i64 n).wf = true

variable {P : Program}
theorem cell_same {w W' : World} (hW : ∀ k, (fun _ => True) k → k < w.heap.size → W'.heap[k]? = w.heap[k]?) {p : Addr} {u : Value} (h : w.cell? p = some u) : W'.cell? p = some u := by
  have hlt : p.block < w.heap.size := by
    rcases Nat.lt_or_ge p.block w.heap.size with h1 | h1
    · exact h1
    · simp [World.cell?, Array.getElem?_eq_none h1] at h
  have hb : W'.heap[p.block]? = w.heap[p.block]? := hW _ trivial hlt
  unfold World.cell? at h ⊢
  rw [hb]; exact h
theorem int_ {t : TypeId} {k : IntKind} (ht : P.underlying t = some (.int k)) : Opens P t (Kd.int k) (fun n => (Lit.int k n).wf = true) := by
  intro H enc w fuel cs x h _
  obtain ⟨n, rfl, hx, hw⟩ := DataW.trod_int ht h
  exact ⟨n, fun _ _ => rfl, hw⟩
theorem bool_ {t : TypeId} (ht : P.underlying t = some .bool) : Opens P t Kd.bool (fun _ => True) := by
  intro H enc w fuel cs x h _
  obtain ⟨b, rfl, hx⟩ := DataW.trod_bool ht h
  exact ⟨b, fun _ _ => rfl, trivial⟩
theorem string_ {t : TypeId} (ht : P.underlying t = some .string) : Opens P t Kd.string (fun s => s.size ≤ maxLen) := by
  intro H enc w fuel cs x h _
  obtain ⟨s, rfl, hx, hs⟩ := DataW.trod_string ht h
  exact ⟨s, fun _ _ => rfl, hs⟩
theorem mem_weightsAll {H : Type} {e : TypeId} {n : Nat} : ∀ {l : List (DataW H)} {d : DataW H}, d ∈ l → n ∈ DataW.weights P e d → n ∈ DataW.weightsAll P e l
  | [], _, h, _ => by cases h
  | y :: l, d, h, hn => by
    rw [DataW.weightsAll]
    rcases List.mem_cons.1 h with rfl | h
    · exact List.mem_append_left _ hn
    · exact List.mem_append_right _ (mem_weightsAll h hn)
theorem slice_ {t e : TypeId} {α : Type} {d : Kd α} {good : α → Prop} {B : Nat} (ht : P.underlying t = some (.slice e)) (hd : P.cellsOf e = d.sz) (hB : P.bytesOf e = B) (hB0 : 0 < B) (he : Opens P e d good) :
    Opens P t (Kd.slice e d) (Row B good) := by
  intro H enc w fuel cs x h hx
  rcases open_slice ht h with ⟨rfl, rfl⟩ | ⟨a, len, cap, m, n, D, Pl, rfl, _, hl, hm, hmm, rfl, hel⟩
  · exact ⟨[], fun _ _ => ⟨none, 0, rfl, Nat.le_refl _, rfl, Nat.zero_le _, fun h => absurd h (Nat.lt_irrefl 0)⟩, by simp, fun x hx => by cases hx⟩
  · simp only [if_true] at hmm
    obtain rfl : m = cap := hmm
    rw [hd] at hel
    have hw : ∀ i, i < len → ∀ q ∈ DataW.weights P e (D i), q ≤ 140737488351232 := fun i hi q hq => by
      refine hx q ?_
      show q ∈ DataW.weights P t (DataW.slice _ _)
      rw [DataW.weights, ht]
      exact List.mem_cons_of_mem _ (List.mem_append_left _ (mem_weightsAll (List.mem_map.2 ⟨i, List.mem_range.2 hi, rfl⟩) hq))
    have hlen : len * B ≤ 140737488351232 := by
      have := hx ((len + (m - len)) * B) (by
        show _ ∈ DataW.weights P t (DataW.slice _ _)
        rw [DataW.weights, ht]
        simp [hB])
      exact Nat.le_trans (Nat.mul_le_mul_right _ (by omega)) this
    have hlt : len ≤ 140737488351232 := Nat.le_trans (Nat.le_mul_of_pos_right _ hB0) hlen
    have each : ∀ i, i < len → ∃ y, (∃ cs', w.cells? 0 (a.add (i * d.sz)) d.sz = some cs' ∧ Kd.FK d w (fun _ => True) y cs') ∧ good y := fun i hi => by
      obtain ⟨cs', h1, h2⟩ := hel i (by omega)
      obtain ⟨y, hy, hg⟩ := he enc w n cs' (D i, Pl i) h2 (hw i hi)
      exact ⟨y, ⟨cs', h1, hy⟩, hg⟩
    have : ∃ xs : List α, xs.length = len ∧ ∀ i y, xs[i]? = some y → (∃ cs', w.cells? 0 (a.add (i * d.sz)) d.sz = some cs' ∧ Kd.FK d w (fun _ => True) y cs') ∧ good y := by
      clear hw hlen hlt hel hx h
      clear hl
      induction len with
      | zero => exact ⟨[], rfl, fun i y h => by simp at h⟩
      | succ j ih =>
        obtain ⟨xs, hxs, hk⟩ := ih (fun i hi => each i (by omega))
        obtain ⟨y, hy⟩ := each j (by omega)
        refine ⟨xs ++ [y], by simp [hxs], fun i z hz => ?_⟩
        rcases Nat.lt_or_ge i xs.length with hi | hi
        · rw [List.getElem?_append_left hi] at hz; exact hk i z hz
        · rw [List.getElem?_append_right hi] at hz
          have : i - xs.length = 0 := by
            rcases Nat.eq_zero_or_pos (i - xs.length) with h0 | h0
            · exact h0
            · rw [List.getElem?_eq_none (by simp; omega)] at hz; cases hz
          rw [this] at hz
          simp at hz
          subst hz
          obtain rfl : i = j := by omega
          exact hy
    obtain ⟨xs, hxs, hk⟩ := this
    refine ⟨xs, fun W' hW => ⟨some a, m, by rw [hxs], by omega, ⟨rfl, by omega, fun _ => ⟨a, rfl, fun j p hj => ?_⟩⟩⟩, by rw [hxs]; exact hlen, fun y hy => ?_⟩
    · obtain ⟨⟨cs', h1, h2⟩, _⟩ := hk j p hj
      obtain ⟨_, h3, h4⟩ := World.cells?_some h1
      refine ⟨cs', h3, h2 W' hW, fun i u hu => ?_⟩
      have hi : i < d.sz := by rw [← h3]; exact (List.getElem?_eq_some_iff.1 hu).1
      have hc := h4 i hi
      rw [hu] at hc
      rw [Addr.add_add] at hc
      exact cell_same hW hc
    · obtain ⟨i, hi, rfl⟩ := List.getElem_of_mem hy
      exact (hk i _ (List.getElem?_eq_getElem hi)).2
/-- A struct of two fields in line. -/
theorem struct2_ {t : TypeId} {f0 f1 : Field} {α β : Type} {d0 : Kd α} {d1 : Kd β} {g0 : α → Prop} {g1 : β → Prop} (ht : P.underlying t = some (.struct #[f0, f1])) (h0 : f0.offset = 0) (c0 : P.cellsOf f0.type = d0.sz) (h1 : f1.offset = d0.sz) (c1 : P.cellsOf f1.type = d1.sz) (hc : P.cellsOf t = d0.sz + d1.sz)
    (o0 : Opens P f0.type d0 g0) (o1 : Opens P f1.type d1 g1) : Opens P t (Kd.pair d0 d1) (fun x => g0 x.1 ∧ g1 x.2) := by
  intro H enc w fuel cs x h hx
  obtain ⟨y0, y1, n, rfl, hl, t0, t1⟩ := trod_struct2 ht h
  have hw : ∀ (j : Nat) (f : Field) (q : DataW H), (#[f0, f1] : Array Field).toList[j]? = some f → [y0.1, y1.1][j]? = some q → ∀ m ∈ DataW.weights P f.type q, m ≤ 140737488351232 := fun j f q hf hq m hm => by
    refine hx m ?_
    show m ∈ DataW.weights P t (.agg [y0.1, y1.1])
    rw [DataW.weights, ht]
    exact DataW.weights_mem_each (ts := (#[f0, f1] : Array Field).toList.map (·.type)) (by rw [List.getElem?_map, hf]; rfl) hq m hm
  obtain ⟨a, ha, ga⟩ := o0 enc w n _ y0 t0 (hw 0 f0 y0.1 rfl rfl)
  obtain ⟨b, hb, gb⟩ := o1 enc w n _ y1 t1 (hw 1 f1 y1.1 rfl rfl)
  refine ⟨(a, b), fun W' hW => ⟨_, _, ?_, ha W' hW, hb W' hW⟩, ga, gb⟩
  rw [h0, c0, h1, c1, List.drop_zero, List.take_of_length_le (l := cs.drop d0.sz) (by rw [List.length_drop]; omega), List.take_append_drop]
theorem iso_ {t : TypeId} {α β : Type} {d : Kd α} {good : α → Prop} (f : β → α) (g : α → β) (hfg : ∀ a, f (g a) = a) (o : Opens P t d good) : Opens P t (Kd.iso d f) (fun x => good (f x)) := by
  intro H enc w fuel cs x h hx
  obtain ⟨a, ha, ga⟩ := o enc w fuel cs x h hx
  exact ⟨g a, fun W' hW => by show d.K W' (f (g a)) cs; rw [hfg]; exact ha W' hW, by show good (f (g a)); rw [hfg]; exact ga⟩
/-- A slice that is an argument. -/
theorem slice_arg {H : Type} {enc : TypeId × Value → H} {w : World} {t e : TypeId} {α : Type} {d : Kd α} {good : List α → Prop} (ho : Opens P t (Kd.slice e d) good) {A : Option Addr} {len cap : Nat} {x : DataW H} {p : List MemPlace}
    (h : DataW.Trod enc P w 0 (fun _ => true) true t (.slice A len cap) x p) (hx : ∀ n ∈ DataW.weights P t x, n ≤ 140737488351232) :
    ∃ l : List α, len = l.length ∧ Kd.F d w (fun _ => True) A l.length l ∧ l.length ≤ cap ∧ good l := by
  obtain ⟨fuel, hf⟩ := h
  obtain ⟨l, hF, hg⟩ := ho enc w fuel _ _ hf hx
  obtain ⟨A', c, hcs, hl, hc⟩ := Kd.FK_slice_open hF
  simp [Value.cells] at hcs
  obtain ⟨rfl, rfl, rfl⟩ := hcs
  exact ⟨l, rfl, hc, hl, hg⟩
/-- A slice that is a struct's field. -/
theorem slice_field {H : Type} {enc : TypeId × Value → H} {w : World} {t e : TypeId} {α : Type} {d : Kd α} {good : List α → Prop} (ho : Opens P t (Kd.slice e d) good) {v : Value} {n : Nat} {x : DataW H × List MemPlace}
    (h : DataW.trod enc P w 0 (fun _ => true) true n t [v] = some x) (hx : ∀ n ∈ DataW.weights P t x.1, n ≤ 140737488351232) :
    ∃ (A : Option Addr) (c : Nat) (l : List α), v = .slice A l.length c ∧ Kd.F d w (fun _ => True) A l.length l ∧ l.length ≤ c ∧ good l := by
  obtain ⟨l, hF, hg⟩ := ho enc w n _ _ h hx
  obtain ⟨A', c, hcs, hl, hc⟩ := Kd.FK_slice_open hF
  simp at hcs
  exact ⟨A', c, l, hcs, hc, hl, hg⟩
theorem int_field {H : Type} {enc : TypeId × Value → H} {w : World} {t : TypeId} {k : IntKind} (ht : P.underlying t = some (.int k)) {v : Value} {n : Nat} {x : DataW H × List MemPlace}
    (h : DataW.trod enc P w 0 (fun _ => true) true n t [v] = some x) : ∃ a : Int, v = .int k a ∧ (Lit.int k a).wf = true := by
  obtain ⟨a, hcs, _, hw⟩ := DataW.trod_int ht h
  simp at hcs
  exact ⟨a, hcs, hw⟩
theorem bool_field {H : Type} {enc : TypeId × Value → H} {w : World} {t : TypeId} (ht : P.underlying t = some .bool) {v : Value} {n : Nat} {x : DataW H × List MemPlace}
    (h : DataW.trod enc P w 0 (fun _ => true) true n t [v] = some x) : ∃ b : Bool, v = .bool b := by
  obtain ⟨a, hcs, _⟩ := DataW.trod_bool ht h
  simp at hcs
  exact ⟨a, hcs⟩
theorem at_ {H : Type} {ts : List TypeId} {ds : List (DataW H)} (h : (DataW.weightsEach P ts ds).all (· ≤ reachBytes) = true) {j : Nat} {t : TypeId} {d : DataW H} (ht : ts[j]? = some t) (hd : ds[j]? = some d) :
    ∀ n ∈ DataW.weights P t d, n ≤ 140737488351232 := fun n hn => by
  have := List.all_eq_true.1 h _ (DataW.weights_mem_each ht hd n hn)
  exact of_decide_eq_true this
theorem fields {H : Type} {t : TypeId} {fs : Array Field} {ds : List (DataW H)} (ht : P.underlying t = some (.struct fs)) (hx : ∀ n ∈ DataW.weights P t (.agg ds), n ≤ 140737488351232) {j : Nat} {f : Field} {d : DataW H} (hf : fs.toList[j]? = some f) (hd : ds[j]? = some d) :
    ∀ n ∈ DataW.weights P f.type d, n ≤ 140737488351232 := fun n hn => by
  refine hx n ?_
  rw [DataW.weights, ht]
  exact DataW.weights_mem_each (ts := fs.toList.map (·.type)) (by simp [hf]) hd n hn
end Go.Proofs.Ytkfnaiobgddjpaa.Open

namespace Go.Proofs.Ytkfnaiobgddjpaa.Pu
open Go.RowKit Go.Proofs.Ytkfnaiobgddjpaa.P Go.Proofs.YtkfnaiobgddjpaaW.PrintWords Go.Proofs.YtkfnaiobgddjpaaW.PrintLast Go.Proofs.YtkfnaiobgddjpaaW.PrintMore

theorem rows64 {l : List (List Int)} (h : Open.Row 24 (Open.Row 8 fun n => (Lit.int .i64 n).wf = true) l) : Rows64 l :=
  ⟨by have := h.1; omega, fun c hc => ⟨by have := (h.2 c hc).1; omega, (h.2 c hc).2⟩⟩
end Go.Proofs.Ytkfnaiobgddjpaa.Pu

namespace Go.Proofs.Ytkfnaiobgddjpaa.Pu
open Go.RowKit Go.Proofs.Ytkfnaiobgddjpaa.P Go.Proofs.YtkfnaiobgddjpaaW.PrintWords Go.Proofs.YtkfnaiobgddjpaaW.PrintLast Go.Proofs.YtkfnaiobgddjpaaW.PrintMore
theorem withinL_of {a b : List Int} (h : ∀ x ∈ a, x ∈ b) : withinL a b = true := by
  unfold withinL
  rw [List.all_eq_true]
  intro x hx
  by_cases hl : isL x = true
  · rw [hasL_iff.2 ⟨hl, h x hx⟩, Bool.or_true]
  · rw [Bool.eq_false_iff.2 hl]; rfl
theorem sameL_refl (a : List Int) : sameL a a = true := by
  unfold sameL
  rw [withinL_of (fun x h => h)]; rfl
theorem FollowsP.own {cls : List (List Int)} {x cl : List Int} (hx : x ∈ cls) (h : ∀ y ∈ x, y ∈ cl) : FollowsP cls cl :=
  .inr ⟨x, hx, fun y hy => .base (by show -(-y) ∈ cl; rw [Int.neg_neg]; exact h y hy)⟩
theorem ro_f (n : Int) (l : List (List Int)) (more : List Int) (kk : Int) (hl : Rows64 l) (hn : I64 n) (hm : ∀ x ∈ more, I64 x) (hms : more.length < 4611686018427387904) (hk : 0 ≤ kk ∧ kk < 18446744073709551616) :
    ∃ k, sequiturlaw23_RupOwn.Fact k n l more kk := by
  obtain ⟨fw, ⟨kf, hf⟩, hh⟩ := few_tells n l [] hl.1 (by simp)
  obtain ⟨ka, ha⟩ := alive23
  obtain ⟨k1, h1⟩ := r20_Right_tells n l hl hn
  obtain ⟨k2, h2⟩ := r17_Right_tells more n hm hn hms
  by_cases hgo : fw = true ∧ ¬ l.length = 0 ∧ ¬ more.length > 30 ∧ setErr n l = 0 ∧ clauseErr more n = 0
  · obtain ⟨g1, g2, g3, g4, g5⟩ := hgo
    obtain ⟨f1, f2, _, f4, _⟩ := hh g1
    have hjl : kk.toNat % l.length < l.length := Nat.mod_lt _ (by omega)
    obtain ⟨x, hx⟩ : ∃ x, l[kk.toNat % l.length]? = some x := ⟨_, List.getElem?_eq_getElem hjl⟩
    have hxm : x ∈ l := List.mem_of_getElem? hx
    obtain ⟨a1, a2, a3⟩ := setErr_lits g4
    obtain ⟨m1, m2⟩ := clauseErr_lits g5
    obtain ⟨x1, x2⟩ := a3 x hxm
    obtain ⟨both, hboth⟩ : ∃ both, both = x ++ more := ⟨_, rfl⟩
    have hbm : ∀ y ∈ x, y ∈ both := fun y hy => by rw [hboth]; simp [hy]
    have hbl : Lits n both := fun y hy => by
      rw [hboth] at hy
      rcases List.mem_append.1 hy with hy | hy
      · exact x1 y hy
      · exact m1 y hy
    have hb64 : ∀ y ∈ both, I64 y := fun y hy => by
      rw [hboth] at hy
      rcases List.mem_append.1 hy with hy | hy
      · exact (hl.2 x hxm).2 y hy
      · exact hm y hy
    have hbs : both.length < 4611686018427387904 := by rw [hboth, List.length_append]; omega
    by_cases hlong : both.length > 64
    · refine ⟨kf + ka + k1 + k2, ha _ (by omega), hk.1, hk.2, fw, hf _ (by omega), fun _ _ _ => ⟨_, h1 _ (by omega), fun _ => ⟨_, h2 _ (by omega), fun _ => ⟨f2, x, hx, by omega, fun hno => ?_⟩⟩⟩⟩
      rw [← hboth] at hno
      exact absurd hlong hno
    · have hbe : clauseErr both n = 0 := lits_clauseErr hbl (by omega)
      have hxe : clauseErr x n = 0 := lits_clauseErr x1 x2
      have hF : FollowsP l both := .own hxm hbm
      obtain ⟨b, ⟨ks, hs⟩, s3, _⟩ := Step_p n l both hl hn hb64 hbs
      have hbt : b = true := (s3 g4 hbe).2 hF
      rw [if_pos g4, hbe, hbt] at hs
      have hG2 : GoodS n [⟨false, x⟩, ⟨false, both⟩] l := by
        unfold GoodS
        rw [if_neg (by simp)]
        refine ⟨hxe, .own hxm (fun y hy => hy), ?_⟩
        unfold GoodS
        rw [if_neg (by simp)]
        exact ⟨hbe, .own (x := x) (by simp) hbm, trivial⟩
      have hG3 : GoodS n [⟨false, x⟩, ⟨false, both⟩, ⟨true, x⟩] l := by
        unfold GoodS
        rw [if_neg (by simp)]
        refine ⟨hxe, .own hxm (fun y hy => hy), ?_⟩
        unfold GoodS
        rw [if_neg (by simp)]
        refine ⟨hbe, .own (x := x) (by simp) hbm, ?_⟩
        unfold GoodS
        rw [if_pos rfl]
        refine ⟨?_, trivial⟩
        have := ixOf_any (fun c => sameL c x) (l ++ [x] ++ [both]) 0
        have h0 : (l ++ [x] ++ [both]).any (fun c => sameL c x) = true := List.any_eq_true.2 ⟨x, by simp, sameL_refl x⟩
        rw [h0] at this
        exact of_decide_eq_true this
      have hxs : x.length < 4611686018427387904 := by omega
      have hok3 : LogOk [⟨false, x⟩, ⟨false, both⟩, ⟨true, x⟩] := ⟨by simp, fun y hy => by
        simp only [List.mem_cons, List.not_mem_nil, or_false] at hy
        rcases hy with rfl | rfl | rfl
        · exact ⟨hxs, (hl.2 x hxm).2⟩
        · exact ⟨hbs, hb64⟩
        · exact ⟨hxs, (hl.2 x hxm).2⟩⟩
      have hok2 : LogOk [⟨false, x⟩, ⟨false, both⟩] := ⟨by simp, fun y hy => by
        simp only [List.mem_cons, List.not_mem_nil, or_false] at hy
        rcases hy with rfl | rfl
        · exact ⟨hxs, (hl.2 x hxm).2⟩
        · exact ⟨hbs, hb64⟩⟩
      obtain ⟨r3, ⟨k3, t3⟩, _, u3⟩ := Ends_p n l [⟨false, x⟩, ⟨false, both⟩, ⟨true, x⟩] both hl hn hok3 hb64 hbs
      obtain ⟨r4, ⟨k4, t4⟩, _, u4⟩ := Ends_p n l [⟨false, x⟩, ⟨false, both⟩] both hl hn hok2 hb64 hbs
      have e3 : r3 = (3, 24) := by
        rw [u3 g4 hbe (by simp) hG3]
        rfl
      have e4 : r4 = (0, 0) := by
        rw [u4 g4 hbe (by simp) hG2, show endsB [⟨false, x⟩, ⟨false, both⟩] both = true from by show (!false && sameL both both) = true; rw [sameL_refl]; rfl]
        rfl
      rw [e3] at t3
      rw [e4] at t4
      refine ⟨kf + ka + k1 + k2 + ks + k3 + k4, ha _ (by omega), hk.1, hk.2, fw, hf _ (by omega), fun _ _ _ => ⟨_, h1 _ (by omega), fun _ => ⟨_, h2 _ (by omega), fun _ => ⟨f2, x, hx, by omega, fun _ => ?_⟩⟩⟩⟩
      rw [← hboth]
      exact ⟨hs _ (by omega), t3 _ (by omega), t4 _ (by omega)⟩
  · refine ⟨kf + ka + k1 + k2, ha _ (by omega), hk.1, hk.2, fw, hf _ (by omega), fun p1 p2 p3 => ⟨_, h1 _ (by omega), fun p4 => ⟨_, h2 _ (by omega), fun p5 => absurd ⟨p1, p2, p3, p4, p5⟩ hgo⟩⟩⟩
end Go.Proofs.Ytkfnaiobgddjpaa.Pu
namespace Go.Proofs.Ytkfnaiobgddjpaa.Pure
open Go.Proofs.Ytkfnaiobgddjpaa.Pu Go.Proofs.Ytkfnaiobgddjpaa.P
theorem RupOwn (n : Int) (l : List (List Int)) (more : List Int) (kk : Int) (hn : (Lit.int .i64 n).wf = true) (hl : Open.Row 24 (Open.Row 8 fun n => (Lit.int .i64 n).wf = true) l)
    (hm : Open.Row 8 (fun n => (Lit.int .i64 n).wf = true) more) (hk : (Lit.int .u64 kk).wf = true) : ∃ k, sequiturlaw23_RupOwn.Fact k n l more kk :=
  ro_f n l more kk (rows64 hl) hn hm.2 (by have := hm.1; omega) (by
    simp only [Lit.wf, Bool.and_eq_true, decide_eq_true_eq] at hk
    have a : IntKind.u64.min = 0 := by decide
    have b : IntKind.u64.max = 18446744073709551615 := by decide
    omega)
end Go.Proofs.Ytkfnaiobgddjpaa.Pure
