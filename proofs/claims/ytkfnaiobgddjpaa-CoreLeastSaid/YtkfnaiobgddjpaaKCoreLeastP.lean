import Derived.Laws.BitsLemmas
import Derived.SizedLaws
import Derived.Deep.Slices
import Derived.WideShapes
import Derived.ChangeShapes
import Derived.ChangeMaps5
import Derived.Lib.SmallJoins
import Derived.ChangeSlices
import Derived.Test.YtkfnaiobgddjpaaKCoreLeast1
import Derived.Test.YtkfnaiobgddjpaaKCoreLeast2
import Derived.Test.YtkfnaiobgddjpaaKCoreLeast3
import Derived.Test.YtkfnaiobgddjpaaKCoreLeast5
import Derived.Test.YtkfnaiobgddjpaaKCoreLeast6
import Derived.Test.YtkfnaiobgddjpaaKCoreLeast4
namespace Go.Proofs.Ytkfnaiobgddjpaa.Pu
open Go.RowKit Go.Proofs.YtkfnaiobgddjpaaW.PrintWords Go.Proofs.YtkfnaiobgddjpaaW.PrintLast Go.Proofs.YtkfnaiobgddjpaaW.PrintMore

/-- With enough rounds the function tells v. -/
def Tells {α : Type} (g : Nat → Option α) (v : α) : Prop := ∃ k0, ∀ k, k0 ≤ k → g k = some v
theorem Tells.ex {α : Type} {g : Nat → Option α} {v : α} (h : Tells g v) : ∃ k, g k = some v := by
  obtain ⟨k0, h⟩ := h; exact ⟨k0, h k0 (Nat.le_refl _)⟩
theorem Tells.const {α : Type} (v : α) : Tells (fun _ => some v) v := ⟨0, fun _ _ => rfl⟩
theorem Tells.of_eq {α : Type} {g : Nat → Option α} {v : α} (h : ∀ k, g k = some v) : Tells g v := ⟨0, fun k _ => h k⟩
theorem Tells.congr {α : Type} {g h : Nat → Option α} {v : α} (e : ∀ k, g k = h k) (H : Tells h v) : Tells g v := by
  obtain ⟨k0, H⟩ := H; exact ⟨k0, fun k hk => (e k).trans (H k hk)⟩
theorem Tells.bind {α β : Type} {g : Nat → Option α} {v : α} {h : Nat → α → Option β} {u : β} (H : Tells g v) (K : Tells (fun k => h k v) u) :
    Tells (fun k => (g k).bind (h k)) u := by
  obtain ⟨k0, H⟩ := H; obtain ⟨k1, K⟩ := K
  refine ⟨k0 + k1, fun k hk => ?_⟩
  show (g k).bind (h k) = some u
  rw [H k (by omega)]; exact K k (by omega)
theorem Tells.succ {α : Type} {g h : Nat → Option α} {v : α} (e : ∀ k, g (k + 1) = h k) (H : Tells h v) : Tells g v := by
  obtain ⟨k0, H⟩ := H
  refine ⟨k0 + 1, fun k hk => ?_⟩
  obtain ⟨j, rfl⟩ : ∃ j, k = j + 1 := ⟨k - 1, by omega⟩
  exact (e j).trans (H j (by omega))
theorem Tells.mono {α : Type} {g : Nat → Option α} (hm : ∀ k, LeO (g k) (g (k + 1))) {k : Nat} {v : α} (h : g k = some v) : Tells g v :=
  ⟨k, fun _ hk => at_rounds hm hk h⟩
theorem Tells.pos {α : Type} {c : Prop} [Decidable c] {g h : Nat → Option α} {v : α} (hc : c) (H : Tells g v) : Tells (fun k => if c then g k else h k) v := by
  obtain ⟨k0, H⟩ := H; exact ⟨k0, fun k hk => (if_pos hc).trans (H k hk)⟩
theorem Tells.neg {α : Type} {c : Prop} [Decidable c] {g h : Nat → Option α} {v : α} (hc : ¬ c) (H : Tells h v) : Tells (fun k => if c then g k else h k) v := by
  obtain ⟨k0, H⟩ := H; exact ⟨k0, fun k hk => (if_neg hc).trans (H k hk)⟩

theorem w64 {n : Int} (h0 : -9223372036854775808 ≤ n) (h1 : n < 9223372036854775808) : wrap64 n = n := by unfold wrap64; omega
theorem w64s {i n : Nat} (h : i < n) (hn : n < 4611686018427387904) : wrap64 ((i : Int) + 1) = ((i + 1 : Nat) : Int) := by unfold wrap64; omega
theorem wf64 {n : Int} (h : (Lit.int .i64 n).wf = true) : -9223372036854775808 ≤ n ∧ n ≤ 9223372036854775807 := by
  simp only [Lit.wf, Bool.and_eq_true, decide_eq_true_eq] at h
  have a : IntKind.i64.min = -9223372036854775808 := by decide
  have b : IntKind.i64.max = 9223372036854775807 := by decide
  omega
theorem rdOf_nat {α : Type} (d : α) (xs : List α) (i : Nat) : rdOf d xs (i : Int) = xs.getD i d := by simp [rdOf]
theorem rdOf_at {α : Type} (d : α) (xs : List α) (i : Nat) (h : i < xs.length) : rdOf d xs (i : Int) = xs[i] := by simp [rdOf_nat, h]
end Go.Proofs.Ytkfnaiobgddjpaa.Pu

namespace Go.Proofs.Ytkfnaiobgddjpaa.Pu
open Go.RowKit Go.Proofs.Ytkfnaiobgddjpaa.P Go.Proofs.YtkfnaiobgddjpaaW.PrintWords Go.Proofs.YtkfnaiobgddjpaaW.PrintLast Go.Proofs.YtkfnaiobgddjpaaW.PrintMore

/-- Whole numbers of 64 bits. -/
def I64 (n : Int) : Prop := (Lit.int .i64 n).wf = true
theorem I64.lo {n : Int} (h : I64 n) : -9223372036854775808 ≤ n := (wf64 h).1
theorem I64.hi {n : Int} (h : I64 n) : n ≤ 9223372036854775807 := (wf64 h).2
/-- A literal that is true by values. -/
def litT (l : Int) (v : List Bool) : Bool := decide (l ≠ 0) && decide (l.natAbs ≤ v.length) && (v.getD (l.natAbs - 1) false == decide (l > 0))
def holds (c : List Int) (v : List Bool) : Bool := c.any fun l => litT l v
def every (c : List (List Int)) (v : List Bool) : Bool := c.all fun x => holds x v
def badLit (n l : Int) : Bool := decide (l = 0 ∨ l > n ∨ l < -n)
/-- The error of a clause. -/
def clauseErr (c : List Int) (n : Int) : Int := if c.length > 64 then 2 else if c.any (badLit n) then 1 else 0

theorem lit_is_eq (a : Int) : lit_is.f a = some (decide (a ≠ 0 ∧ a ≠ -9223372036854775808)) := by
  unfold lit_is.f
  by_cases h : a = 0
  · rw [if_pos h, decide_eq_false (by simp [h])]
  · rw [if_neg h]
    by_cases h2 : a = -9223372036854775808
    · rw [h2]; rfl
    · rw [decide_eq_true ⟨h, h2⟩]
      simpa using h2
theorem lit_variable_eq {a : Int} (h : I64 a) (hm : a ≠ -9223372036854775808) : lit_variable.f a = some ((a.natAbs : Nat) : Int) := by
  have := h.lo; have := h.hi
  unfold lit_variable.f mx wrap64
  split <;> (congr 1; omega)
theorem rd_at (xs : List Int) (i : Nat) (h : i < xs.length) : rd xs (i : Int) = xs[i] := by simp [rd, h]

theorem lit_Right_loop (c : List Int) (n : Int) (hc : ∀ l ∈ c, I64 l) (hn : I64 n) (hs : c.length < 4611686018427387904) : ∀ (m i : Nat), m + i = c.length →
    Tells (fun k => lit_Right.l0 k n c (c.length : Int) (i : Int)) (if (c.drop i).any (badLit n) then 1 else 0)
  | 0, i, h => by
    refine Tells.succ (fun k => by rw [lit_Right.l0]) (Tells.neg (by omega) ?_)
    rw [List.drop_of_length_le (by omega)]; exact Tells.const _
  | m + 1, i, h => by
    have hi : i < c.length := by omega
    have hl := hc _ (List.getElem_mem hi); have h1 := hl.lo; have h2 := hl.hi; have := hn.lo; have := hn.hi
    refine Tells.succ (fun k => by rw [lit_Right.l0]) (Tells.pos (by omega) (Tells.pos (by omega) (Tells.pos (by omega) ?_)))
    rw [rd_at _ _ hi, w64s hi hs, List.drop_eq_getElem_cons hi, List.any_cons, lit_is_eq]
    refine Tells.bind (Tells.const _) ?_
    by_cases hb : c[i] ≠ 0 ∧ c[i] ≠ -9223372036854775808
    · refine Tells.pos (decide_eq_true hb) ?_
      rw [lit_variable_eq hl hb.2]
      refine Tells.bind (Tells.const _) ?_
      by_cases hv : ((c[i].natAbs : Nat) : Int) > n
      · have e : badLit n c[i] = true := decide_eq_true (by omega)
        rw [e, Bool.true_or, if_pos rfl]
        exact Tells.pos hv (Tells.const _)
      · have e : badLit n c[i] = false := decide_eq_false (by omega)
        rw [e, Bool.false_or]
        exact Tells.neg hv (lit_Right_loop c n hc hn hs m (i + 1) (by omega))
    · have e : badLit n c[i] = true := decide_eq_true (by omega)
      rw [e, Bool.true_or, if_pos rfl]
      exact Tells.neg (by simpa using hb) (Tells.const _)
theorem lit_Right_tells (c : List Int) (n : Int) (hc : ∀ l ∈ c, I64 l) (hn : I64 n) (hs : c.length < 4611686018427387904) : Tells (fun k => lit_Right.f k c n) (clauseErr c n) := by
  unfold lit_Right.f clauseErr
  by_cases h : c.length > 64
  · rw [if_pos h]; exact Tells.pos (by omega) (Tells.const _)
  · rw [if_neg h]; exact Tells.neg (by omega) (lit_Right_loop c n hc hn hs c.length 0 rfl)

theorem lit_Count_loop (c : List Int) (v : List Bool) (hc : ∀ l ∈ c, I64 l) (hs : c.length < 4611686018427387904) (hv : v.length < 4611686018427387904) : ∀ (m i n : Nat), m + i = c.length → n ≤ i →
    Tells (fun k => lit_Count.l0 k v (n : Int) c (c.length : Int) (i : Int)) ((n + (c.drop i).countP (fun l => litT l v) : Nat) : Int)
  | 0, i, n, h, _ => by
    refine Tells.succ (fun k => by rw [lit_Count.l0]) (Tells.neg (by omega) ?_)
    rw [List.drop_of_length_le (by omega)]; exact Tells.const _
  | m + 1, i, n, h, hni => by
    have hi : i < c.length := by omega
    have hl := hc _ (List.getElem_mem hi); have h1 := hl.lo; have h2 := hl.hi
    refine Tells.succ (fun k => by rw [lit_Count.l0]) (Tells.pos (by omega) (Tells.pos (by omega) (Tells.pos (by omega) ?_)))
    rw [rd_at _ _ hi, w64s hi hs, w64s (by omega : n < c.length) hs, List.drop_eq_getElem_cons hi, List.countP_cons, lit_is_eq]
    refine Tells.bind (Tells.const _) ?_
    have no : litT c[i] v = false → Tells (fun k => lit_Count.l0 k v (n : Int) c (c.length : Int) ((i + 1 : Nat) : Int)) ((n + ((c.drop (i + 1)).countP (fun l => litT l v) + if litT c[i] v = true then 1 else 0) : Nat) : Int) := fun e => by
      rw [e, if_neg (by simp), Nat.add_zero]
      exact lit_Count_loop c v hc hs hv m (i + 1) n (by omega) (by omega)
    by_cases hb : c[i] ≠ 0 ∧ c[i] ≠ -9223372036854775808
    · refine Tells.pos (decide_eq_true hb) ?_
      rw [lit_variable_eq hl hb.2]
      refine Tells.bind (Tells.const _) ?_
      by_cases hx : ((c[i].natAbs : Nat) : Int) ≤ (v.length : Int)
      · have hw : wrap64 (((c[i].natAbs : Nat) : Int) - 1) = ((c[i].natAbs - 1 : Nat) : Int) := by unfold wrap64; omega
        have hlt : c[i].natAbs - 1 < v.length := by omega
        have e : litT c[i] v = (v[c[i].natAbs - 1] == decide (c[i] > 0)) := by
          unfold litT
          rw [decide_eq_true hb.1, decide_eq_true (by omega : c[i].natAbs ≤ v.length), List.getD_eq_getElem?_getD, List.getElem?_eq_getElem hlt]
          rfl
        refine Tells.pos hx ?_
        rw [hw]
        refine Tells.pos (by omega) (Tells.pos (by omega) ?_)
        rw [rdOf_at _ _ _ hlt]
        by_cases hq : (v[c[i].natAbs - 1] == decide (c[i] > 0)) = true
        · refine Tells.pos hq ?_
          rw [e, if_pos hq, show n + ((c.drop (i + 1)).countP (fun l => litT l v) + 1) = (n + 1) + (c.drop (i + 1)).countP (fun l => litT l v) by omega]
          exact lit_Count_loop c v hc hs hv m (i + 1) (n + 1) (by omega) (by omega)
        · refine Tells.neg hq (no ?_)
          rw [e]; simpa using hq
      · refine Tells.neg hx (no ?_)
        unfold litT
        rw [decide_eq_false (by omega : ¬ c[i].natAbs ≤ v.length)]
        simp
    · refine Tells.neg (by simpa using hb) (no ?_)
      unfold litT
      by_cases h0 : c[i] = 0
      · rw [h0]; rfl
      · rw [decide_eq_false (by omega : ¬ c[i].natAbs ≤ v.length)]
        simp
theorem lit_Count_tells (c : List Int) (v : List Bool) (hc : ∀ l ∈ c, I64 l) (hs : c.length < 4611686018427387904) (hv : v.length < 4611686018427387904) : Tells (fun k => lit_Count.f k c v) (((c.countP fun l => litT l v) : Nat) : Int) := by
  unfold lit_Count.f
  have := lit_Count_loop c v hc hs hv c.length 0 0 rfl (Nat.le_refl _)
  simpa using this
theorem lit_Holds_tells (c : List Int) (v : List Bool) (hc : ∀ l ∈ c, I64 l) (hs : c.length < 4611686018427387904) (hv : v.length < 4611686018427387904) : Tells (fun k => lit_Holds.f k c v) (holds c v) := by
  unfold lit_Holds.f
  refine Tells.bind (lit_Count_tells c v hc hs hv) ?_
  have e : decide ((((c.countP fun l => litT l v) : Nat) : Int) > 0) = holds c v := by
    unfold holds
    by_cases h : 0 < c.countP fun l => litT l v
    · rw [decide_eq_true (by omega)]
      obtain ⟨l, hl, hp⟩ := List.countP_pos_iff.1 h
      exact (List.any_eq_true.2 ⟨l, hl, hp⟩).symm
    · rw [decide_eq_false (by omega)]
      rw [eq_comm, List.any_eq_false]
      intro l hl hp
      exact h (List.countP_pos_iff.2 ⟨l, hl, hp⟩)
  rw [e]; exact Tells.const _
end Go.Proofs.Ytkfnaiobgddjpaa.Pu

namespace Go.Proofs.Ytkfnaiobgddjpaa.Pu
open Go.RowKit Go.Proofs.Ytkfnaiobgddjpaa.P Go.Proofs.YtkfnaiobgddjpaaW.PrintWords Go.Proofs.YtkfnaiobgddjpaaW.PrintLast Go.Proofs.YtkfnaiobgddjpaaW.PrintMore

/-- The first error of clauses. -/
def clausesErr (n : Int) : List (List Int) → Int
  | [] => 0
  | c :: l => if clauseErr c n = 0 then clausesErr n l else clauseErr c n
/-- The error of a set. -/
def setErr (n : Int) (l : List (List Int)) : Int := if n < 0 ∨ n > 1024 then 1 else if l.length > 4096 then 2 else clausesErr n l
/-- Rows of numbers as a reading has them. -/
def Rows64 (l : List (List Int)) : Prop := l.length < 4611686018427387904 ∧ ∀ c ∈ l, c.length < 4611686018427387904 ∧ ∀ x ∈ c, I64 x
theorem rdL_at (xs : List (List Int)) (i : Nat) (h : i < xs.length) : rd_L3 xs (i : Int) = xs[i] := by simp [rd_L3, h]

theorem cnf_Right_loop (l : List (List Int)) (n : Int) (hl : Rows64 l) (hn : I64 n) : ∀ (m i : Nat), m + i = l.length →
    ∃ x, Tells (fun k => cnf_Right.l0 k l (l.length : Int) (i : Int) n l) (x, clausesErr n (l.drop i))
  | 0, i, h => by
    refine ⟨0, Tells.succ (fun k => by rw [cnf_Right.l0]) (Tells.neg (by omega) ?_)⟩
    rw [List.drop_of_length_le (by omega)]; exact Tells.const _
  | m + 1, i, h => by
    have hi : i < l.length := by omega
    have hc := hl.2 _ (List.getElem_mem hi)
    have hR := lit_Right_tells l[i] n hc.2 hn hc.1
    rw [List.drop_eq_getElem_cons hi, clausesErr]
    by_cases hz : clauseErr l[i] n = 0
    · obtain ⟨x, hx⟩ := cnf_Right_loop l n hl hn m (i + 1) (by omega)
      refine ⟨x, Tells.succ (fun k => by rw [cnf_Right.l0]) (Tells.pos (by omega) (Tells.pos (by omega) (Tells.pos (by omega) ?_)))⟩
      rw [rdL_at _ _ hi, w64s hi hl.1]
      refine Tells.bind hR (Tells.pos hz ?_)
      rw [if_pos hz]; exact hx
    · refine ⟨(i : Int), Tells.succ (fun k => by rw [cnf_Right.l0]) (Tells.pos (by omega) (Tells.pos (by omega) (Tells.pos (by omega) ?_)))⟩
      rw [rdL_at _ _ hi]
      refine Tells.bind hR (Tells.neg hz ?_)
      rw [if_neg hz]; exact Tells.const _
theorem cnf_Right_tells (n : Int) (l : List (List Int)) (hl : Rows64 l) (hn : I64 n) : ∃ x, Tells (fun k => cnf_Right.f k n l) (x, setErr n l) := by
  unfold cnf_Right.f setErr
  have stop : ∀ n : Int, Tells (fun k => cnf_Right.j0 k true n l) (-1, 1) := fun n => Tells.succ (fun k => by rw [cnf_Right.j0]) (Tells.pos rfl (Tells.const _))
  by_cases h0 : n < 0
  · rw [if_pos (by omega)]
    exact ⟨_, Tells.pos h0 (stop n)⟩
  by_cases h1 : n > 1024
  · rw [if_pos (by omega)]
    refine ⟨-1, Tells.neg h0 ?_⟩
    rw [decide_eq_true h1]; exact stop n
  rw [if_neg (by omega)]
  by_cases h2 : l.length > 4096
  · rw [if_pos h2]
    refine ⟨-1, Tells.neg h0 ?_⟩
    rw [decide_eq_false h1]
    exact Tells.succ (fun k => by rw [cnf_Right.j0]) (Tells.neg (by decide) (Tells.pos (by omega) (Tells.const _)))
  · rw [if_neg h2]
    obtain ⟨x, hx⟩ : ∃ x, Tells (fun k => cnf_Right.l0 k l (l.length : Int) 0 n l) (x, clausesErr n l) := cnf_Right_loop l n hl hn l.length 0 rfl
    refine ⟨x, Tells.neg h0 ?_⟩
    rw [decide_eq_false h1]
    exact Tells.succ (fun k => by rw [cnf_Right.j0]) (Tells.neg (by decide) (Tells.neg (by omega) hx))

theorem cnf_Holds_loop (l : List (List Int)) (v : List Bool) (hl : Rows64 l) (hv : v.length < 4611686018427387904) : ∀ (m i : Nat), m + i = l.length →
    ∃ x, Tells (fun k => cnf_Holds.l0 k v l (l.length : Int) (i : Int)) (x, every (l.drop i) v)
  | 0, i, h => by
    refine ⟨0, Tells.succ (fun k => by rw [cnf_Holds.l0]) (Tells.neg (by omega) ?_)⟩
    rw [List.drop_of_length_le (by omega)]; exact Tells.const _
  | m + 1, i, h => by
    have hi : i < l.length := by omega
    have hc := hl.2 _ (List.getElem_mem hi)
    have hR := lit_Holds_tells l[i] v hc.2 hc.1 hv
    rw [List.drop_eq_getElem_cons hi, every, List.all_cons]
    by_cases hz : holds l[i] v = true
    · obtain ⟨x, hx⟩ := cnf_Holds_loop l v hl hv m (i + 1) (by omega)
      refine ⟨x, Tells.succ (fun k => by rw [cnf_Holds.l0]) (Tells.pos (by omega) (Tells.pos (by omega) (Tells.pos (by omega) ?_)))⟩
      rw [rdL_at _ _ hi, w64s hi hl.1]
      refine Tells.bind hR (Tells.pos hz ?_)
      rw [hz, Bool.true_and]; exact hx
    · refine ⟨(i : Int), Tells.succ (fun k => by rw [cnf_Holds.l0]) (Tells.pos (by omega) (Tells.pos (by omega) (Tells.pos (by omega) ?_)))⟩
      rw [rdL_at _ _ hi]
      refine Tells.bind hR (Tells.neg hz ?_)
      rw [Bool.eq_false_iff.2 hz, Bool.false_and]; exact Tells.const _
theorem cnf_Holds_tells (n : Int) (l : List (List Int)) (v : List Bool) (hl : Rows64 l) (hv : v.length < 4611686018427387904) : ∃ x, Tells (fun k => cnf_Holds.f k n l v) (x, every l v) :=
  cnf_Holds_loop l v hl hv l.length 0 rfl
end Go.Proofs.Ytkfnaiobgddjpaa.Pu

namespace Go.Proofs.Ytkfnaiobgddjpaa.Pu
open Go.RowKit Go.Proofs.Ytkfnaiobgddjpaa.P Go.Proofs.YtkfnaiobgddjpaaW.PrintWords Go.Proofs.YtkfnaiobgddjpaaW.PrintLast Go.Proofs.YtkfnaiobgddjpaaW.PrintMore

/-- The values that a number stands for. -/
def vals (n at_ : Nat) : List Bool := (List.range n).map fun i => decide (at_ / 2 ^ i % 2 = 1)
theorem vals_length (n at_ : Nat) : (vals n at_).length = n := by simp [vals]
/-- 19.1: which values a number stands for. -/
def valsI (n at_ : Int) : List Bool := if n < 0 ∨ n > 16 ∨ at_ < 0 ∨ at_ ≥ 2 ^ n.toNat then [] else vals n.toNat at_.toNat

theorem pow_le16 {n : Nat} (h : n ≤ 16) : 2 ^ n ≤ 65536 := Nat.pow_le_pow_right (by omega) h
theorem shl1 {n : Nat} (h : n ≤ 16) : shl .i64 1 (n : Int) = ((2 ^ n : Nat) : Int) := by
  have := pow_le16 h
  unfold shl
  rw [show min ((n : Int).toNat) IntKind.i64.bits = n by simp [IntKind.bits]; omega, IntKind.wrap_i64]
  simp only [Int.one_mul]
  have e : ((2 : Int) ^ n) = ((2 ^ n : Nat) : Int) := by simp
  rw [e]; generalize 2 ^ n = p at *; omega
theorem bit1 {a i : Nat} (ha : a < 65536) (hi : i ≤ 16) : (Go.bits .and .i64 (shr .i64 (a : Int) (i : Int)) 1 == 1) = decide (a / 2 ^ i % 2 = 1) := by
  have e : shr .i64 (a : Int) (i : Int) = ((a / 2 ^ i : Nat) : Int) := by
    unfold shr; rw [show min ((i : Int).toNat) IntKind.i64.bits = i by simp [IntKind.bits]; omega]; simp
  have hb : a / 2 ^ i < 65536 := Nat.lt_of_le_of_lt (Nat.div_le_self _ _) ha
  have := bits_mask .i64 17 (by decide) (fun n h0 h1 => by rw [IntKind.wrap_i64]; omega) 1 (by decide) ((a / 2 ^ i : Nat) : Int) (Int.natCast_nonneg _) (by generalize a / 2 ^ i = q at *; omega)
  rw [e, show (1 : Int) = 2 ^ 1 - 1 by decide, this]
  by_cases h : a / 2 ^ i % 2 = 1
  · simp only [h, decide_true]; rw [beq_iff_eq]; omega
  · simp only [h, decide_false]; rw [beq_eq_false_iff_ne]; omega

theorem tv_loop (a n : Nat) (hn : n ≤ 16) (ha : a < 65536) : ∀ (m i : Nat), m + i = n → ∀ l : List Bool, l = vals i a ++ List.replicate m false → Tells (fun k => table_Values.l0 k (a : Int) l (n : Int) (i : Int)) (vals n a)
  | 0, i, h => by
    rintro l rfl
    refine Tells.succ (fun k => by rw [table_Values.l0]) (Tells.neg (by omega) ?_)
    obtain rfl : i = n := by omega
    simpa using Tells.const _
  | m + 1, i, h => by
    intro l hl
    have hll : l.length = n := by rw [hl]; simp [vals_length]; omega
    refine Tells.succ (fun k => by rw [table_Values.l0]) (Tells.pos (by omega) (Tells.pos (by omega) (Tells.pos (by omega) ?_)))
    rw [w64s (by omega : i < n) (by omega), bit1 ha (by omega)]
    refine tv_loop a n hn ha m (i + 1) (by omega) _ ?_
    rw [hl]
    have hi : ((i : Int).toNat) = (vals i a).length := by simp [vals_length]
    rw [hi, List.set_append_right _ _ (Nat.le_refl _)]
    simp [vals, List.range_succ, List.replicate_succ]
theorem table_Values_ev (n at_ : Int) : Tells (fun k => table_Values.f k n at_) (valsI n at_) := by
  unfold table_Values.f
  have stop : ∀ x y : Int, valsI x y = [] → Tells (fun k => table_Values.j0 k x y true) (valsI x y) := fun x y h => by
    refine Tells.succ (fun k => by rw [table_Values.j0]) (Tells.pos rfl ?_); rw [h]; exact Tells.const _
  by_cases h0 : n < 0
  · exact Tells.pos h0 (stop _ _ (if_pos (by omega)))
  refine Tells.neg h0 ?_
  by_cases h1 : n > 16
  · exact Tells.pos h1 (stop _ _ (if_pos (by omega)))
  refine Tells.neg h1 ?_
  by_cases h2 : at_ < 0
  · exact Tells.pos h2 (stop _ _ (if_pos (by omega)))
  refine Tells.neg h2 (Tells.pos (by omega) ?_)
  obtain ⟨m, rfl⟩ := Int.eq_ofNat_of_zero_le (by omega : 0 ≤ n)
  obtain ⟨a, rfl⟩ := Int.eq_ofNat_of_zero_le (by omega : 0 ≤ at_)
  have hm : m ≤ 16 := by omega
  rw [shl1 hm]
  have e : ((2 : Int) ^ m) = ((2 ^ m : Nat) : Int) := by simp
  have := pow_le16 hm
  by_cases h3 : (a : Int) ≥ ((2 ^ m : Nat) : Int)
  · rw [decide_eq_true h3]
    exact stop _ _ (if_pos (by rw [Int.toNat_natCast, e]; omega))
  · rw [decide_eq_false h3]
    refine Tells.succ (fun k => by rw [table_Values.j0]) (Tells.neg (by decide) (Tells.pos (by omega) (Tells.pos (by omega) ?_)))
    have hv : valsI (m : Int) (a : Int) = vals m a := if_neg (by rw [Int.toNat_natCast, e]; omega)
    rw [hv]
    exact tv_loop a m hm (by omega) m 0 rfl _ (by simp [vals])

theorem rv_loop (a n : Nat) (hn : n ≤ 16) (ha : a < 65536) : ∀ (m i : Nat), m + i = n → ∀ l : List Bool, l = vals i a → Tells (fun k => sequiturref19_Values.l0 k (n : Int) ((a / 2 ^ i : Nat) : Int) l (i : Int)) (vals n a)
  | 0, i, h => by
    rintro l rfl
    refine Tells.succ (fun k => by rw [sequiturref19_Values.l0]) (Tells.neg (by omega) ?_)
    obtain rfl : i = n := by omega
    exact Tells.const _
  | m + 1, i, h => by
    intro l hl
    have hll : l.length = i := by rw [hl]; simp [vals_length]
    have hb : a / 2 ^ i < 65536 := Nat.lt_of_le_of_lt (Nat.div_le_self _ _) ha
    refine Tells.succ (fun k => by rw [sequiturref19_Values.l0]) (Tells.pos (by omega) (Tells.pos (by omega) ?_))
    have e2 : wrap64 (Int.tdiv ((a / 2 ^ i : Nat) : Int) 2) = ((a / 2 ^ (i + 1) : Nat) : Int) := by
      rw [Int.tdiv_eq_ediv_of_nonneg (Int.natCast_nonneg _), Nat.pow_succ, ← Nat.div_div_eq_div_mul]
      generalize a / 2 ^ i = q at *
      rw [w64 (by omega) (by omega)]; omega
    have e3 : (Int.tmod ((a / 2 ^ i : Nat) : Int) 2 == 1) = decide (a / 2 ^ i % 2 = 1) := by
      rw [Int.tmod_eq_emod_of_nonneg (Int.natCast_nonneg _)]
      by_cases h : a / 2 ^ i % 2 = 1
      · simp only [h, decide_true]; rw [beq_iff_eq]; omega
      · simp only [h, decide_false]; rw [beq_eq_false_iff_ne]; omega
    rw [w64s (by omega : i < n) (by omega), e2, e3]
    refine rv_loop a n hn ha m (i + 1) (by omega) _ ?_
    rw [hl]; simp [vals, List.range_succ]
theorem ref19_Values_ev (n at_ : Int) : Tells (fun k => sequiturref19_Values.f k n at_) (valsI n at_) := by
  unfold sequiturref19_Values.f
  have stop : ∀ x y : Int, valsI x y = [] → Tells (fun k => sequiturref19_Values.j0 k x y true) (valsI x y) := fun x y h => by
    refine Tells.succ (fun k => by rw [sequiturref19_Values.j0]) (Tells.pos rfl ?_); rw [h]; exact Tells.const _
  by_cases h0 : n < 0
  · exact Tells.pos h0 (stop _ _ (if_pos (by omega)))
  refine Tells.neg h0 ?_
  by_cases h1 : n > 16
  · exact Tells.pos h1 (stop _ _ (if_pos (by omega)))
  refine Tells.neg h1 ?_
  by_cases h2 : at_ < 0
  · exact Tells.pos h2 (stop _ _ (if_pos (by omega)))
  refine Tells.neg h2 (Tells.pos (by omega) ?_)
  obtain ⟨m, rfl⟩ := Int.eq_ofNat_of_zero_le (by omega : 0 ≤ n)
  obtain ⟨a, rfl⟩ := Int.eq_ofNat_of_zero_le (by omega : 0 ≤ at_)
  have hm : m ≤ 16 := by omega
  rw [shl1 hm]
  have e : ((2 : Int) ^ m) = ((2 ^ m : Nat) : Int) := by simp
  have := pow_le16 hm
  by_cases h3 : (a : Int) ≥ ((2 ^ m : Nat) : Int)
  · rw [decide_eq_true h3]
    exact stop _ _ (if_pos (by rw [Int.toNat_natCast, e]; omega))
  · rw [decide_eq_false h3]
    refine Tells.succ (fun k => by rw [sequiturref19_Values.j0]) (Tells.neg (by decide) ?_)
    have hv : valsI (m : Int) (a : Int) = vals m a := if_neg (by rw [Int.toNat_natCast, e]; omega)
    rw [hv]
    have := rv_loop a m hm (by omega) m 0 rfl _ (by rfl : vals 0 a = vals 0 a)
    simpa [vals] using this
theorem valsI_short (n at_ : Int) : (valsI n at_).length ≤ 16 := by
  unfold valsI; split
  · simp
  · rw [vals_length]; omega
end Go.Proofs.Ytkfnaiobgddjpaa.Pu

namespace Go.Proofs.Ytkfnaiobgddjpaa.Pu
open Go.RowKit Go.Proofs.Ytkfnaiobgddjpaa.P Go.Proofs.YtkfnaiobgddjpaaW.PrintWords Go.Proofs.YtkfnaiobgddjpaaW.PrintLast Go.Proofs.YtkfnaiobgddjpaaW.PrintMore

theorem ref19_Clause_loop (c : List Int) (n : Int) (hn : I64 n) (hn0 : 0 ≤ n) (hs : c.length < 4611686018427387904) : ∀ (m i : Nat), m + i = c.length →
    Tells (fun k => sequiturref19_Clause.l0 k c n (i : Int)) (if (c.drop i).any (badLit n) then 1 else 0)
  | 0, i, h => by
    refine Tells.succ (fun k => by rw [sequiturref19_Clause.l0]) (Tells.neg (by omega) ?_)
    rw [List.drop_of_length_le (by omega)]; exact Tells.const _
  | m + 1, i, h => by
    have hi : i < c.length := by omega
    have := hn.hi
    have hw : wrap64 (-n) = -n := w64 (by omega) (by omega)
    refine Tells.succ (fun k => by rw [sequiturref19_Clause.l0]) (Tells.pos (by omega) (Tells.pos (by omega) ?_))
    rw [rd_at _ _ hi, w64s hi hs, List.drop_eq_getElem_cons hi, List.any_cons, hw]
    have bad : badLit n c[i] = true → Tells (fun _ => some (1 : Int)) (if (badLit n c[i] || (c.drop (i + 1)).any (badLit n)) = true then 1 else 0) := fun e => by
      rw [e, Bool.true_or, if_pos rfl]; exact Tells.const _
    by_cases h1 : c[i] = 0
    · exact Tells.pos h1 (bad (decide_eq_true (by omega)))
    refine Tells.neg h1 ?_
    by_cases h2 : c[i] > n
    · exact Tells.pos h2 (bad (decide_eq_true (by omega)))
    refine Tells.neg h2 ?_
    by_cases h3 : c[i] < -n
    · exact Tells.pos h3 (bad (decide_eq_true (by omega)))
    refine Tells.neg h3 ?_
    rw [show badLit n c[i] = false from decide_eq_false (by omega), Bool.false_or]
    exact ref19_Clause_loop c n hn hn0 hs m (i + 1) (by omega)
theorem ref19_Clause_tells (c : List Int) (n : Int) (hn : I64 n) (hn0 : 0 ≤ n) (hs : c.length < 4611686018427387904) : Tells (fun k => sequiturref19_Clause.f k c n) (clauseErr c n) := by
  unfold sequiturref19_Clause.f clauseErr
  by_cases h : c.length > 64
  · rw [if_pos h]; exact Tells.pos (by omega) (Tells.const _)
  · rw [if_neg h]; exact Tells.neg (by omega) (ref19_Clause_loop c n hn hn0 hs c.length 0 rfl)
theorem ref19_Right_loop (l : List (List Int)) (n : Int) (hl : Rows64 l) (hn : I64 n) (hn0 : 0 ≤ n) : ∀ (m i : Nat), m + i = l.length →
    Tells (fun k => sequiturref19_Right.l0 k (i : Int) n l) (clausesErr n (l.drop i))
  | 0, i, h => by
    refine Tells.succ (fun k => by rw [sequiturref19_Right.l0]) (Tells.neg (by omega) ?_)
    rw [List.drop_of_length_le (by omega)]; exact Tells.const _
  | m + 1, i, h => by
    have hi : i < l.length := by omega
    have hc := hl.2 _ (List.getElem_mem hi)
    have hR := ref19_Clause_tells l[i] n hn hn0 hc.1
    rw [List.drop_eq_getElem_cons hi, clausesErr]
    refine Tells.succ (fun k => by rw [sequiturref19_Right.l0]) (Tells.pos (by omega) (Tells.pos (by omega) ?_))
    rw [rdL_at _ _ hi, w64s hi hl.1]
    refine Tells.bind hR ?_
    by_cases hz : clauseErr l[i] n = 0
    · refine Tells.pos hz ?_
      rw [if_pos hz]; exact ref19_Right_loop l n hl hn hn0 m (i + 1) (by omega)
    · refine Tells.neg hz ?_
      rw [if_neg hz]; exact Tells.const _
theorem ref19_Right_tells (n : Int) (l : List (List Int)) (hl : Rows64 l) (hn : I64 n) : Tells (fun k => sequiturref19_Right.f k n l) (setErr n l) := by
  unfold sequiturref19_Right.f setErr
  have stop : Tells (fun k => sequiturref19_Right.j0 k true n l) 1 := Tells.succ (fun k => by rw [sequiturref19_Right.j0]) (Tells.pos rfl (Tells.const _))
  by_cases h0 : n < 0
  · rw [if_pos (by omega)]
    exact Tells.pos h0 stop
  refine Tells.neg h0 ?_
  by_cases h1 : n > 1024
  · rw [if_pos (by omega), decide_eq_true h1]; exact stop
  rw [if_neg (by omega), decide_eq_false h1]
  refine Tells.succ (fun k => by rw [sequiturref19_Right.j0]) (Tells.neg (by decide) ?_)
  by_cases h2 : l.length > 4096
  · rw [if_pos h2]
    exact Tells.pos (by omega) (Tells.const _)
  · rw [if_neg h2]
    exact Tells.neg (by omega) (ref19_Right_loop l n hl hn (by omega) l.length 0 rfl)

/-- No literal is the least number. -/
def Plain (c : List Int) : Prop := ∀ x ∈ c, I64 x ∧ x ≠ -9223372036854775808
theorem ref19_True_eq (a : Int) (v : List Bool) (h : I64 a) (hm : a ≠ -9223372036854775808) (hv : v.length < 4611686018427387904) : sequiturref19_True.f a v = some (litT a v) := by
  have h1 := h.lo; have h2 := h.hi
  unfold sequiturref19_True.f litT
  by_cases h0 : a < 0
  · have e : wrap64 (-a) = ((a.natAbs : Nat) : Int) := by unfold wrap64; omega
    rw [if_pos h0, e, decide_eq_true (by omega : a ≠ 0), Bool.true_and]
    by_cases hx : ((a.natAbs : Nat) : Int) ≤ (v.length : Int)
    · have hw : wrap64 (((a.natAbs : Nat) : Int) - 1) = ((a.natAbs - 1 : Nat) : Int) := by unfold wrap64; omega
      have hlt : a.natAbs - 1 < v.length := by omega
      rw [if_pos hx, hw, if_pos (by omega), if_pos (by omega), rdOf_at _ _ _ hlt, decide_eq_true (by omega : a.natAbs ≤ v.length), Bool.true_and, List.getD_eq_getElem?_getD, List.getElem?_eq_getElem hlt, decide_eq_false (by omega : ¬ a > 0)]
      simp
    · rw [if_neg hx, decide_eq_false (by omega : ¬ a.natAbs ≤ v.length)]; rfl
  · rw [if_neg h0]
    by_cases h3 : a > 0
    · have e : a = ((a.natAbs : Nat) : Int) := by omega
      rw [if_pos h3, decide_eq_true (by omega : a ≠ 0), Bool.true_and]
      by_cases hx : a ≤ (v.length : Int)
      · have hw : wrap64 (a - 1) = ((a.natAbs - 1 : Nat) : Int) := by unfold wrap64; omega
        have hlt : a.natAbs - 1 < v.length := by omega
        rw [if_pos hx, hw, if_pos (by omega), if_pos (by omega), rdOf_at _ _ _ hlt, decide_eq_true (by omega : a.natAbs ≤ v.length), Bool.true_and, List.getD_eq_getElem?_getD, List.getElem?_eq_getElem hlt, decide_eq_true h3]
        simp
      · rw [if_neg hx, decide_eq_false (by omega : ¬ a.natAbs ≤ v.length)]; rfl
    · rw [if_neg h3, decide_eq_false (by omega : ¬ a ≠ 0)]; rfl
theorem ref19_Holds_loop (c : List Int) (v : List Bool) (hc : Plain c) (hs : c.length < 4611686018427387904) (hv : v.length < 4611686018427387904) : ∀ (m i : Nat), m + i = c.length →
    Tells (fun k => sequiturref19_Holds.l0 k c v (i : Int)) (holds (c.drop i) v)
  | 0, i, h => by
    refine Tells.succ (fun k => by rw [sequiturref19_Holds.l0]) (Tells.neg (by omega) ?_)
    rw [List.drop_of_length_le (by omega)]; exact Tells.const _
  | m + 1, i, h => by
    have hi : i < c.length := by omega
    have hl := hc _ (List.getElem_mem hi)
    refine Tells.succ (fun k => by rw [sequiturref19_Holds.l0]) (Tells.pos (by omega) (Tells.pos (by omega) ?_))
    rw [rd_at _ _ hi, w64s hi hs, List.drop_eq_getElem_cons hi, holds, List.any_cons, ref19_True_eq _ _ hl.1 hl.2 hv]
    refine Tells.bind (Tells.const _) ?_
    by_cases hq : litT c[i] v = true
    · refine Tells.pos hq ?_
      rw [hq, Bool.true_or]; exact Tells.const _
    · refine Tells.neg hq ?_
      rw [Bool.eq_false_iff.2 hq, Bool.false_or]
      exact ref19_Holds_loop c v hc hs hv m (i + 1) (by omega)
theorem ref19_Holds_tells (c : List Int) (v : List Bool) (hc : Plain c) (hs : c.length < 4611686018427387904) (hv : v.length < 4611686018427387904) : Tells (fun k => sequiturref19_Holds.f k c v) (holds c v) :=
  ref19_Holds_loop c v hc hs hv c.length 0 rfl
theorem ref19_Every_loop (l : List (List Int)) (v : List Bool) (hl : Rows64 l) (hp : ∀ c ∈ l, Plain c) (hv : v.length < 4611686018427387904) : ∀ (m i : Nat), m + i = l.length →
    Tells (fun k => sequiturref19_Every.l0 k l v (i : Int)) (every (l.drop i) v)
  | 0, i, h => by
    refine Tells.succ (fun k => by rw [sequiturref19_Every.l0]) (Tells.neg (by omega) ?_)
    rw [List.drop_of_length_le (by omega)]; exact Tells.const _
  | m + 1, i, h => by
    have hi : i < l.length := by omega
    have hc := hl.2 _ (List.getElem_mem hi)
    have hR := ref19_Holds_tells l[i] v (hp _ (List.getElem_mem hi)) hc.1 hv
    refine Tells.succ (fun k => by rw [sequiturref19_Every.l0]) (Tells.pos (by omega) (Tells.pos (by omega) ?_))
    rw [rdL_at _ _ hi, w64s hi hl.1, List.drop_eq_getElem_cons hi, every, List.all_cons]
    refine Tells.bind hR ?_
    by_cases hz : holds l[i] v = true
    · refine Tells.pos hz ?_
      rw [hz, Bool.true_and]; exact ref19_Every_loop l v hl hp hv m (i + 1) (by omega)
    · refine Tells.neg hz ?_
      rw [Bool.eq_false_iff.2 hz, Bool.false_and]; exact Tells.const _
theorem ref19_Every_tells (l : List (List Int)) (v : List Bool) (hl : Rows64 l) (hp : ∀ c ∈ l, Plain c) (hv : v.length < 4611686018427387904) : Tells (fun k => sequiturref19_Every.f k l v) (every l v) :=
  ref19_Every_loop l v hl hp hv l.length 0 rfl
theorem clauseErr_plain {c : List Int} {n : Int} (hn : I64 n) (hn0 : 0 ≤ n) (hc : ∀ x ∈ c, I64 x) (h : clauseErr c n = 0) : Plain c := fun x hx => by
  refine ⟨hc x hx, fun e => ?_⟩
  have := hn.hi
  unfold clauseErr at h
  split at h
  · cases h
  split at h
  · cases h
  · rename_i hb
    refine hb (List.any_eq_true.2 ⟨x, hx, decide_eq_true (by omega)⟩)
theorem clausesErr_all {n : Int} : ∀ {l : List (List Int)}, clausesErr n l = 0 → ∀ c ∈ l, clauseErr c n = 0
  | [], _, c, hc => by cases hc
  | x :: l, h, c, hc => by
    unfold clausesErr at h
    split at h
    · rename_i hx
      rcases List.mem_cons.1 hc with rfl | hc
      · exact hx
      · exact clausesErr_all h c hc
    · rename_i hx; exact absurd h hx
theorem setErr_ok {n : Int} {l : List (List Int)} (h : setErr n l = 0) : 0 ≤ n ∧ n ≤ 1024 ∧ l.length ≤ 4096 ∧ clausesErr n l = 0 := by
  unfold setErr at h
  split at h
  · cases h
  split at h
  · cases h
  · exact ⟨by omega, by omega, by omega, h⟩
theorem setErr_plain {n : Int} {l : List (List Int)} (hn : I64 n) (hl : Rows64 l) (h : setErr n l = 0) : ∀ c ∈ l, Plain c := fun c hc => by
  obtain ⟨h0, _, _, h3⟩ := setErr_ok h
  exact clauseErr_plain hn h0 (hl.2 c hc).2 (clausesErr_all h3 c hc)
end Go.Proofs.Ytkfnaiobgddjpaa.Pu

namespace Go.Proofs.Ytkfnaiobgddjpaa.Pu
open Go.RowKit Go.Proofs.Ytkfnaiobgddjpaa.P Go.Proofs.YtkfnaiobgddjpaaW.PrintWords Go.Proofs.YtkfnaiobgddjpaaW.PrintLast Go.Proofs.YtkfnaiobgddjpaaW.PrintMore

/-- The error of a set whose values are gone through. -/
def fits (n : Int) (l : List (List Int)) : Int := if setErr n l = 0 then (if n > 16 then 2 else 0) else setErr n l
theorem fits_ok {n : Int} {l : List (List Int)} (h : fits n l = 0) : setErr n l = 0 ∧ 0 ≤ n ∧ n ≤ 16 := by
  unfold fits at h
  split at h
  · rename_i hs
    split at h
    · cases h
    · exact ⟨hs, (setErr_ok hs).1, by omega⟩
  · rename_i hs; exact absurd h hs
/-- The values from the i-th on by which all clauses hold. -/
def satFrom (n : Nat) (l : List (List Int)) (i : Nat) : List (List Bool) := ((List.range' i (2 ^ n - i)).map (vals n)).filter (every l)
def sat (n : Nat) (l : List (List Int)) : List (List Bool) := satFrom n l 0
theorem satFrom_end (n : Nat) (l : List (List Int)) : satFrom n l (2 ^ n) = [] := by simp [satFrom]
theorem satFrom_step {n i : Nat} (l : List (List Int)) (h : i < 2 ^ n) : satFrom n l i = if every l (vals n i) = true then vals n i :: satFrom n l (i + 1) else satFrom n l (i + 1) := by
  unfold satFrom
  rw [show 2 ^ n - i = (2 ^ n - (i + 1)) + 1 by omega, List.range'_succ, List.map_cons, List.filter_cons]
theorem satFrom_length (n : Nat) (l : List (List Int)) (i : Nat) : (satFrom n l i).length ≤ 2 ^ n - i := by
  unfold satFrom
  refine Nat.le_trans (List.length_filter_le _ _) ?_
  simp
theorem sat_length (n : Nat) (l : List (List Int)) : (sat n l).length ≤ 2 ^ n := satFrom_length n l 0
theorem sat_mem {n : Nat} {l : List (List Int)} {v : List Bool} : v ∈ sat n l ↔ (∃ i, i < 2 ^ n ∧ vals n i = v) ∧ every l v = true := by
  simp only [sat, satFrom, List.mem_filter, List.mem_map, List.mem_range'_1]
  constructor
  · rintro ⟨⟨i, hi, rfl⟩, h⟩; exact ⟨⟨i, by omega, rfl⟩, h⟩
  · rintro ⟨⟨i, hi, rfl⟩, h⟩; exact ⟨⟨i, by omega, rfl⟩, h⟩
theorem sat_size {n : Nat} {l : List (List Int)} {v : List Bool} (h : v ∈ sat n l) : v.length = n := by
  obtain ⟨⟨i, _, rfl⟩, _⟩ := sat_mem.1 h
  exact vals_length n i
theorem valsI_at {n i : Nat} (hn : n ≤ 16) (hi : i < 2 ^ n) : valsI (n : Int) (i : Int) = vals n i := by
  have e : ((2 : Int) ^ n) = ((2 ^ n : Nat) : Int) := by simp
  have := pow_le16 hn
  exact if_neg (by rw [Int.toNat_natCast, e]; generalize 2 ^ n = p at *; omega)

theorem table_wrong_tells (n : Int) (l : List (List Int)) (hl : Rows64 l) (hn : I64 n) : Tells (fun k => table_wrong.f k n l) (fits n l) := by
  unfold table_wrong.f fits
  obtain ⟨x, hx⟩ := cnf_Right_tells n l hl hn
  refine Tells.bind hx ?_
  by_cases h : setErr n l = 0
  · refine Tells.pos h ?_
    rw [if_pos h]
    by_cases h2 : n > 16
    · refine Tells.pos h2 ?_
      rw [if_pos h2]; exact Tells.const _
    · refine Tells.neg h2 ?_
      rw [if_neg h2]; exact Tells.const _
  · refine Tells.neg h ?_
    rw [if_neg h]; exact Tells.const _
theorem ref19_Fits_tells (n : Int) (l : List (List Int)) (hl : Rows64 l) (hn : I64 n) : Tells (fun k => sequiturref19_Fits.f k n l) (fits n l) := by
  unfold sequiturref19_Fits.f fits
  refine Tells.bind (ref19_Right_tells n l hl hn) ?_
  by_cases h : setErr n l = 0
  · refine Tells.pos h ?_
    rw [if_pos h]
    by_cases h2 : n > 16
    · refine Tells.pos h2 ?_
      rw [if_pos h2]; exact Tells.const _
    · refine Tells.neg h2 ?_
      rw [if_neg h2]; exact Tells.const _
  · refine Tells.neg h ?_
    rw [if_neg h]; exact Tells.const _

theorem table_All_loop (n : Nat) (hn : n ≤ 16) (l : List (List Int)) (hl : Rows64 l) : ∀ (m i : Nat), m + i = 2 ^ n → Tells (fun k => table_All.l0 k (n : Int) l ((2 ^ n : Nat) : Int) (i : Int)) (satFrom n l i)
  | 0, i, h => by
    obtain rfl : i = 2 ^ n := by omega
    refine Tells.succ (fun k => by rw [table_All.l0]) (Tells.neg (by omega) ?_)
    rw [satFrom_end]; exact Tells.const _
  | m + 1, i, h => by
    have hi : i < 2 ^ n := by omega
    have := pow_le16 hn
    refine Tells.succ (fun k => by rw [table_All.l0]) (Tells.pos (Int.ofNat_lt.2 hi) ?_)
    have hv := table_Values_ev (n : Int) (i : Int)
    rw [valsI_at hn hi] at hv
    obtain ⟨x, hx⟩ := cnf_Holds_tells (n : Int) l (vals n i) hl (by rw [vals_length]; omega)
    refine Tells.bind hv (Tells.bind hx ?_)
    rw [w64s hi (by omega), satFrom_step l hi]
    exact Tells.bind (table_All_loop n hn l hl m (i + 1) (by omega)) (Tells.const _)
theorem table_All_tells (n : Int) (l : List (List Int)) (hl : Rows64 l) (hn : I64 n) : Tells (fun k => table_All.f k n l) (if fits n l = 0 then sat n.toNat l else []) := by
  unfold table_All.f
  refine Tells.bind (table_wrong_tells n l hl hn) ?_
  by_cases h : fits n l = 0
  · obtain ⟨hs, h0, h1⟩ := fits_ok h
    obtain ⟨m, rfl⟩ := Int.eq_ofNat_of_zero_le h0
    rw [if_pos h]
    refine Tells.pos h (Tells.pos h0 ?_)
    rw [shl1 (by omega)]
    exact table_All_loop m (by omega) l hl (2 ^ m) 0 rfl
  · rw [if_neg h]; exact Tells.neg h (Tells.const _)
theorem ref19_All_loop (n : Nat) (hn : n ≤ 16) (l : List (List Int)) (hl : Rows64 l) (hp : ∀ c ∈ l, Plain c) : ∀ (m i : Nat), m + i = 2 ^ n → ∀ o : List (List Bool), o.length ≤ i → Tells (fun k => sequiturref19_All.l0 k o (i : Int) (n : Int) l) (o ++ satFrom n l i)
  | 0, i, h => by
    intro o ho
    obtain rfl : i = 2 ^ n := by omega
    refine Tells.succ (fun k => by rw [sequiturref19_All.l0]) (Tells.pos (Int.natCast_nonneg _) ?_)
    rw [shl1 hn]
    refine Tells.neg (by omega) ?_
    rw [satFrom_end, List.append_nil]; exact Tells.const _
  | m + 1, i, h => by
    intro o ho
    have hi : i < 2 ^ n := by omega
    have := pow_le16 hn
    refine Tells.succ (fun k => by rw [sequiturref19_All.l0]) (Tells.pos (Int.natCast_nonneg _) ?_)
    rw [shl1 hn]
    refine Tells.pos (Int.ofNat_lt.2 hi) ?_
    have hv := ref19_Values_ev (n : Int) (i : Int)
    rw [valsI_at hn hi] at hv
    refine Tells.bind hv (Tells.bind (ref19_Every_tells l (vals n i) hl hp (by rw [vals_length]; omega)) ?_)
    rw [w64s hi (by omega), satFrom_step l hi]
    by_cases hz : every l (vals n i) = true
    · refine Tells.pos hz (Tells.pos (by omega) ?_)
      rw [if_pos hz, show o ++ vals n i :: satFrom n l (i + 1) = (o ++ [vals n i]) ++ satFrom n l (i + 1) by simp]
      exact ref19_All_loop n hn l hl hp m (i + 1) (by omega) _ (by rw [List.length_append, List.length_singleton]; omega)
    · rw [if_neg hz]
      exact Tells.neg hz (ref19_All_loop n hn l hl hp m (i + 1) (by omega) _ (by omega))
theorem ref19_All_tells (n : Int) (l : List (List Int)) (hl : Rows64 l) (hn : I64 n) (h : fits n l = 0) : Tells (fun k => sequiturref19_All.f k n l) (sat n.toNat l) := by
  unfold sequiturref19_All.f
  obtain ⟨hs, h0, h1⟩ := fits_ok h
  obtain ⟨m, rfl⟩ := Int.eq_ofNat_of_zero_le h0
  exact ref19_All_loop m (by omega) l hl (setErr_plain hn hl hs) (2 ^ m) 0 rfl [] (Nat.zero_le _)
theorem table_Count_n (l : List (List Bool)) (h : l.length < 4611686018427387904) : table_Count.n l = (l.length : Int) := by
  have : ∀ (l : List (List Bool)) (i : Nat), i + l.length < 4611686018427387904 → l.foldl (fun n _ => wrap64 (n + 1)) (i : Int) = ((i + l.length : Nat) : Int) := by
    intro l
    induction l with
    | nil => intro i _; rfl
    | cons x l ih =>
      intro i hi
      rw [List.foldl_cons, w64s (Nat.lt_succ_self i) (by rw [List.length_cons] at hi; omega), ih (i + 1) (by rw [List.length_cons] at hi; omega), List.length_cons, show i + 1 + l.length = i + (l.length + 1) by omega]
  have := this l 0 (by omega)
  simpa [table_Count.n] using this
def allOf (n : Int) (l : List (List Int)) : List (List Bool) := if fits n l = 0 then sat n.toNat l else []
theorem allOf_length (n : Int) (l : List (List Int)) : (allOf n l).length ≤ 65536 := by
  unfold allOf
  split
  · rename_i h
    obtain ⟨_, h0, h1⟩ := fits_ok h
    exact Nat.le_trans (sat_length _ _) (pow_le16 (by omega))
  · simp
theorem table_Count_tells (n : Int) (l : List (List Int)) (hl : Rows64 l) (hn : I64 n) : Tells (fun k => table_Count.f k n l) (((allOf n l).length : Nat), fits n l) := by
  unfold table_Count.f
  refine Tells.bind (table_All_tells n l hl hn) (Tells.bind (table_wrong_tells n l hl hn) ?_)
  have := allOf_length n l
  rw [table_Count_n _ (by show (allOf n l).length < _; omega)]
  exact Tells.const _
theorem table_First_tells (n : Int) (l : List (List Int)) (hl : Rows64 l) (hn : I64 n) : Tells (fun k => table_First.f k n l) (match allOf n l with | [] => ([], false, fits n l) | v :: _ => (v, true, 0)) := by
  unfold table_First.f
  refine Tells.bind (table_All_tells n l hl hn) ?_
  show Tells (fun k => match allOf n l with | [] => _ | v :: _ => _) _
  cases allOf n l with
  | nil => exact Tells.bind (table_wrong_tells n l hl hn) (Tells.const _)
  | cons v t => exact Tells.const _
end Go.Proofs.Ytkfnaiobgddjpaa.Pu

namespace Go.Proofs.Ytkfnaiobgddjpaa.Pu
open Go.RowKit Go.Proofs.Ytkfnaiobgddjpaa.P Go.Proofs.YtkfnaiobgddjpaaW.PrintWords Go.Proofs.YtkfnaiobgddjpaaW.PrintLast Go.Proofs.YtkfnaiobgddjpaaW.PrintMore

theorem Small_loop (n : Int) (l : List (List Int)) (hl : Rows64 l) : ∀ (m i : Nat), m + i = l.length → ∀ s : Int, 0 ≤ s → s < 4611686018427387904 + 1000 → ∃ b, Tells (fun k => sequiturlaw19_Small.l0 k s (i : Int) n l) b ∧ (b = true → (n ≤ 10 ∨ n > 16) ∧ s ≤ 200)
  | 0, i, h => by
    intro s h0 h1
    by_cases hs : s ≤ 200
    · by_cases hn : n ≤ 10
      · exact ⟨true, Tells.succ (fun k => by rw [sequiturlaw19_Small.l0]) (Tells.neg (by omega) (Tells.pos hs (Tells.pos hn (Tells.const _)))), fun _ => ⟨.inl hn, hs⟩⟩
      · exact ⟨decide (n > 16), Tells.succ (fun k => by rw [sequiturlaw19_Small.l0]) (Tells.neg (by omega) (Tells.pos hs (Tells.neg hn (Tells.const _)))), fun h => ⟨.inr (of_decide_eq_true h), hs⟩⟩
    · exact ⟨false, Tells.succ (fun k => by rw [sequiturlaw19_Small.l0]) (Tells.neg (by omega) (Tells.neg hs (Tells.const _))), fun h => by cases h⟩
  | m + 1, i, h => by
    intro s h0 h1
    have hi : i < l.length := by omega
    have hc := (hl.2 _ (List.getElem_mem hi)).1
    by_cases hs : s ≤ 200
    · have hw : wrap64 (s + ((l[i].length : Nat) : Int)) = s + ((l[i].length : Nat) : Int) := w64 (by omega) (by omega)
      obtain ⟨b, hb, hq⟩ := Small_loop n l hl m (i + 1) (by omega) (s + ((l[i].length : Nat) : Int)) (by omega) (by omega)
      refine ⟨b, Tells.succ (fun k => by rw [sequiturlaw19_Small.l0]) (Tells.pos (by omega) (Tells.pos hs (Tells.pos (by omega) ?_))), fun h => ⟨(hq h).1, hs⟩⟩
      rw [rdL_at _ _ hi, w64s hi hl.1, hw]; exact hb
    · exact ⟨false, Tells.succ (fun k => by rw [sequiturlaw19_Small.l0]) (Tells.pos (by omega) (Tells.neg hs (Tells.const _))), fun h => by cases h⟩
theorem Small_tells (n : Int) (l : List (List Int)) (hl : Rows64 l) : ∃ b, Tells (fun k => sequiturlaw19_Small.f k n l) b ∧ (b = true → (n ≤ 10 ∨ n > 16) ∧ l.length ≤ 200) := by
  obtain ⟨b, h1, h2⟩ := Small_loop n l hl l.length 0 rfl (l.length : Int) (by omega) (by have := hl.1; omega)
  exact ⟨b, h1, fun h => ⟨(h2 h).1, by have := (h2 h).2; omega⟩⟩

end Go.Proofs.Ytkfnaiobgddjpaa.Pu

namespace Go.Proofs.Ytkfnaiobgddjpaa.Pu
open Go.RowKit Go.Proofs.Ytkfnaiobgddjpaa.P Go.Proofs.YtkfnaiobgddjpaaW.PrintWords Go.Proofs.YtkfnaiobgddjpaaW.PrintLast Go.Proofs.YtkfnaiobgddjpaaW.PrintMore
theorem goes25_at : sequiturlaw25_goes.f 80 = some true := by decide +kernel
theorem goes25 : Tells (fun k => sequiturlaw25_goes.f k) true := Tells.mono sequiturlaw25_goes.mono goes25_at

theorem Ints_loop (a b : List Int) (hl : a.length = b.length) (hs : a.length < 4611686018427387904) : ∀ (n i : Nat), n + i = a.length → Tells (fun k => sequiturbase_Ints.l0 k a b (i : Int)) (a.drop i == b.drop i)
  | 0, i, h => by
    refine Tells.succ (fun k => by rw [sequiturbase_Ints.l0]) (Tells.neg (by omega) ?_)
    rw [List.drop_of_length_le (by omega), List.drop_of_length_le (by omega)]; exact Tells.const _
  | n + 1, i, h => by
    refine Tells.succ (fun k => by rw [sequiturbase_Ints.l0]) (Tells.pos (by omega) (Tells.pos (by omega) (Tells.pos (by omega) ?_)))
    rw [rd_at _ _ (by omega : i < a.length), rd_at _ _ (by omega : i < b.length), w64s (by omega : i < a.length) hs,
      List.drop_eq_getElem_cons (by omega : i < a.length), List.drop_eq_getElem_cons (by omega : i < b.length), List.cons_beq_cons]
    by_cases e : a[i] = b[i]
    · refine Tells.pos e ?_
      rw [beq_iff_eq.2 e, Bool.true_and]
      exact Ints_loop a b hl hs n (i + 1) (by omega)
    · refine Tells.neg e ?_
      rw [beq_eq_false_iff_ne.mpr e, Bool.false_and]; exact Tells.const _
theorem Ints_tells (a b : List Int) (hs : a.length < 4611686018427387904) : Tells (fun k => sequiturbase_Ints.f k a b) (a == b) := by
  unfold sequiturbase_Ints.f
  by_cases h : a.length = b.length
  · exact Tells.pos (by omega) (Ints_loop a b h hs a.length 0 rfl)
  · refine Tells.neg (by omega) ?_
    rw [show (a == b) = false from beq_eq_false_iff_ne.mpr fun e => h (by rw [e])]
    exact Tells.const _

/-- Do some values make all clauses hold? -/
def can (n : Nat) (l : List (List Int)) : Bool := !(sat n l).isEmpty
theorem Some_loop (n : Nat) (hn : n ≤ 16) (l : List (List Int)) (hl : Rows64 l) (hp : ∀ c ∈ l, Plain c) : ∀ (m i : Nat), m + i = 2 ^ n → Tells (fun k => sequiturref22_Some.l0 k (i : Int) (n : Int) l) (!(satFrom n l i).isEmpty)
  | 0, i, h => by
    obtain rfl : i = 2 ^ n := by omega
    refine Tells.succ (fun k => by rw [sequiturref22_Some.l0]) (Tells.pos (Int.natCast_nonneg _) ?_)
    rw [shl1 hn]
    refine Tells.neg (by omega) ?_
    rw [satFrom_end]; exact Tells.const _
  | m + 1, i, h => by
    have hi : i < 2 ^ n := by omega
    have := pow_le16 hn
    refine Tells.succ (fun k => by rw [sequiturref22_Some.l0]) (Tells.pos (Int.natCast_nonneg _) ?_)
    rw [shl1 hn]
    refine Tells.pos (Int.ofNat_lt.2 hi) ?_
    have hv := ref19_Values_ev (n : Int) (i : Int)
    rw [valsI_at hn hi] at hv
    refine Tells.bind hv (Tells.bind (ref19_Every_tells l (vals n i) hl hp (by rw [vals_length]; omega)) ?_)
    rw [w64s hi (by omega), satFrom_step l hi]
    by_cases hz : every l (vals n i) = true
    · refine Tells.pos hz ?_
      rw [if_pos hz]; exact Tells.const _
    · rw [if_neg hz]
      exact Tells.neg hz (Some_loop n hn l hl hp m (i + 1) (by omega))
theorem Some_tells (n : Int) (l : List (List Int)) (hl : Rows64 l) (hn : I64 n) (h : fits n l = 0) : Tells (fun k => sequiturref22_Some.f k n l) (can n.toNat l) := by
  unfold sequiturref22_Some.f
  obtain ⟨hs, h0, h1⟩ := fits_ok h
  obtain ⟨m, rfl⟩ := Int.eq_ofNat_of_zero_le h0
  exact Some_loop m (by omega) l hl (setErr_plain hn hl hs) (2 ^ m) 0 rfl

/-- The clauses of these numbers. -/
def pick (l : List (List Int)) (ids : List Int) : List (List Int) := ids.map fun i => l.getD i.toNat []
def Ids (n : Nat) (ids : List Int) : Prop := (∀ x ∈ ids, 0 ≤ x ∧ x < (n : Int)) ∧ ids.length ≤ n
theorem pick_mem {l : List (List Int)} {ids : List Int} (h : Ids l.length ids) : ∀ c ∈ pick l ids, c ∈ l := fun c hc => by
  obtain ⟨i, hi, rfl⟩ := List.mem_map.1 hc
  obtain ⟨h0, h1⟩ := h.1 i hi
  obtain ⟨j, rfl⟩ := Int.eq_ofNat_of_zero_le h0
  have hj : j < l.length := by omega
  show l.getD j [] ∈ l
  rw [List.getD_eq_getElem?_getD, List.getElem?_eq_getElem hj]
  exact List.getElem_mem hj
theorem clausesErr_of_all {n : Int} : ∀ {l : List (List Int)}, (∀ c ∈ l, clauseErr c n = 0) → clausesErr n l = 0
  | [], _ => rfl
  | x :: l, h => by
    rw [clausesErr, if_pos (h x (by simp))]
    exact clausesErr_of_all (fun c hc => h c (by simp [hc]))
theorem pick_right {n : Int} {l : List (List Int)} {ids : List Int} (hl : Rows64 l) (h : Ids l.length ids) (hf : fits n l = 0) : Rows64 (pick l ids) ∧ fits n (pick l ids) = 0 := by
  obtain ⟨hs, h0, h16⟩ := fits_ok hf
  obtain ⟨_, hb, hlen, hc⟩ := setErr_ok hs
  have hpl : (pick l ids).length ≤ l.length := by simp [pick]; exact h.2
  refine ⟨⟨by have := hl.1; omega, fun c hc => hl.2 c (pick_mem h c hc)⟩, ?_⟩
  have hse : setErr n (pick l ids) = 0 := by
    unfold setErr
    rw [if_neg (by omega), if_neg (by omega)]
    exact clausesErr_of_all (fun c hc' => clausesErr_all hc c (pick_mem h c hc'))
  unfold fits; rw [if_pos hse, if_neg (by omega)]
theorem some_loop (n : Int) (l : List (List Int)) (ids : List Int) (h : Ids l.length ids) (hs : l.length < 5864062014805) : ∀ (m i : Nat), m + i = ids.length → ∀ o : List (List Int), o.length = i → Tells (fun k => core_some.l0 k ids (ids.length : Int) (i : Int) n l n o) (n, o ++ pick l (ids.drop i))
  | 0, i, hi => by
    intro o ho
    refine Tells.succ (fun k => by rw [core_some.l0]) (Tells.neg (by omega) ?_)
    rw [List.drop_of_length_le (by omega)]; simp only [pick, List.map_nil, List.append_nil]; exact Tells.const _
  | m + 1, i, hi => by
    intro o ho
    have hlt : i < ids.length := by omega
    obtain ⟨h0, h1⟩ := h.1 _ (List.getElem_mem hlt)
    have hle := h.2
    refine Tells.succ (fun k => by rw [core_some.l0]) (Tells.pos (by omega) (Tells.pos (by omega) (Tells.pos (by omega) ?_)))
    rw [rd_at _ _ hlt, w64s hlt (by omega)]
    refine Tells.pos h0 (Tells.pos h1 (Tells.pos (by omega) ?_))
    rw [List.drop_eq_getElem_cons hlt, show o ++ pick l (ids[i] :: ids.drop (i + 1)) = (o ++ [rd_L3 l ids[i]]) ++ pick l (ids.drop (i + 1)) by unfold pick; rw [List.map_cons, List.append_assoc]; rfl]
    exact some_loop n l ids h hs m (i + 1) (by omega) _ (by simp [ho])
theorem some_tells (n : Int) (l : List (List Int)) (ids : List Int) (h : Ids l.length ids) (hs : l.length < 5864062014805) : Tells (fun k => core_some.f k n l ids) (n, pick l ids) := by
  have := some_loop n l ids h hs ids.length 0 rfl [] rfl
  unfold core_some.f
  simpa using this
theorem Just_loop (n : Int) (l : List (List Int)) (ids : List Int) (h : Ids l.length ids) (hs : l.length < 5864062014805) : ∀ (m i : Nat), m + i = ids.length → ∀ o : List (List Int), o.length = i → Tells (fun k => sequiturref25_Just.l0 k ids (i : Int) n l n o) (n, o ++ pick l (ids.drop i))
  | 0, i, hi => by
    intro o ho
    refine Tells.succ (fun k => by rw [sequiturref25_Just.l0]) (Tells.neg (by omega) ?_)
    rw [List.drop_of_length_le (by omega)]; simp only [pick, List.map_nil, List.append_nil]; exact Tells.const _
  | m + 1, i, hi => by
    intro o ho
    have hlt : i < ids.length := by omega
    obtain ⟨h0, h1⟩ := h.1 _ (List.getElem_mem hlt)
    have hle := h.2
    refine Tells.succ (fun k => by rw [sequiturref25_Just.l0]) (Tells.pos (by omega) (Tells.pos (by omega) ?_))
    rw [rd_at _ _ hlt, w64s hlt (by omega)]
    refine Tells.pos h0 (Tells.pos h1 (Tells.pos (by omega) ?_))
    rw [List.drop_eq_getElem_cons hlt, show o ++ pick l (ids[i] :: ids.drop (i + 1)) = (o ++ [rd_L3 l ids[i]]) ++ pick l (ids.drop (i + 1)) by unfold pick; rw [List.map_cons, List.append_assoc]; rfl]
    exact Just_loop n l ids h hs m (i + 1) (by omega) _ (by simp [ho])
theorem Just_tells (n : Int) (l : List (List Int)) (ids : List Int) (h : Ids l.length ids) (hs : l.length < 5864062014805) : Tells (fun k => sequiturref25_Just.f k n l ids) (n, pick l ids) := by
  have := Just_loop n l ids h hs ids.length 0 rfl [] rfl
  unfold sequiturref25_Just.f
  simpa using this

/-- Leaving out what can be left out, number by number. -/
def leave (n : Nat) (l : List (List Int)) : Nat → Int → List Int → List Int
  | 0, _, left => left
  | m + 1, i, left => if can n (pick l (left.filter fun x => !(x == i))) = true then leave n l m (i + 1) left else leave n l m (i + 1) (left.filter fun x => !(x == i))
theorem ids_filter {n : Nat} {ids : List Int} (h : Ids n ids) (p : Int → Bool) : Ids n (ids.filter p) :=
  ⟨fun x hx => h.1 x (List.mem_filter.1 hx).1, Nat.le_trans (List.length_filter_le _ _) h.2⟩
theorem ids_idx (n : Nat) : Ids n (idx n) := ⟨fun x hx => by
  simp only [idx, List.mem_map, List.mem_range] at hx
  obtain ⟨a, ha, rfl⟩ := hx
  exact ⟨Int.natCast_nonneg _, Int.ofNat_lt.2 ha⟩, by rw [idx_length]; exact Nat.le_refl _⟩
theorem First_can (n : Int) (l : List (List Int)) (hl : Rows64 l) (hn : I64 n) (hf : fits n l = 0) : ∃ v, Tells (fun k => table_First.f k n l) (v, can n.toNat l, 0) := by
  have h := table_First_tells n l hl hn
  have hA : allOf n l = sat n.toNat l := if_pos hf
  simp only [hA, hf] at h
  unfold can
  cases hc : sat n.toNat l with
  | nil => rw [hc] at h; exact ⟨_, h⟩
  | cons v t => rw [hc] at h; exact ⟨_, h⟩
theorem Minimal_l1_tells (n : Int) (l : List (List Int)) (hl : Rows64 l) (hn : I64 n) (hf : fits n l = 0) (hs : l.length < 5864062014805) : ∀ (m : Nat) (i : Int) (left : List Int), Ids l.length left → Tells (fun k => core_Minimal.l1 k n l m i left) (leave n.toNat l m i left)
  | 0, _, _, _ => Tells.const _
  | m + 1, i, left, h => by
    have h2 := ids_filter h (fun x => !(x == i))
    obtain ⟨hr, hf2⟩ := pick_right hl h2 hf
    obtain ⟨v, hv⟩ := First_can n _ hr hn hf2
    unfold core_Minimal.l1 leave
    refine Tells.bind (some_tells n l _ h2 hs) (Tells.bind hv ?_)
    by_cases hc : can n.toNat (pick l (left.filter fun x => !(x == i))) = true
    · rw [if_pos hc]
      exact Tells.pos hc (Minimal_l1_tells n l hl hn hf hs m (i + 1) left h)
    · rw [if_neg hc]
      exact Tells.neg hc (Minimal_l1_tells n l hl hn hf hs m (i + 1) _ h2)
/-- What Minimal tells. -/
def minimal (n : Int) (l : List (List Int)) : List Int × Int := if fits n l = 0 then (if can n.toNat l = true then ([], 32) else (leave n.toNat l l.length 0 (idx l.length), 0)) else ([], fits n l)
theorem Minimal_tells (n : Int) (l : List (List Int)) (hl : Rows64 l) (hn : I64 n) (hs : l.length < 5864062014805) : Tells (fun k => core_Minimal.f k n l) (minimal n l) := by
  unfold core_Minimal.f minimal
  obtain ⟨x, hx⟩ := cnf_Right_tells n l hl hn
  refine Tells.bind hx ?_
  by_cases h : setErr n l = 0
  · refine Tells.pos h ?_
    by_cases hf : fits n l = 0
    · rw [if_pos hf]
      obtain ⟨v, hv⟩ := First_can n l hl hn hf
      refine Tells.bind hv (Tells.pos rfl ?_)
      by_cases hc : can n.toNat l = true
      · rw [if_pos hc]; exact Tells.pos hc (Tells.const _)
      · rw [if_neg hc]
        exact Tells.neg hc (Tells.pos hs (Tells.bind (Minimal_l1_tells n l hl hn hf hs _ _ _ (ids_idx _)) (Tells.const _)))
    · rw [if_neg hf]
      have hF := table_First_tells n l hl hn
      have hA : allOf n l = [] := if_neg hf
      simp only [hA] at hF
      exact Tells.bind hF (Tells.neg hf (Tells.const _))
  · have hf : fits n l = setErr n l := if_neg h
    rw [if_neg (by rw [hf]; exact h), hf]
    exact Tells.neg h (Tells.const _)
end Go.Proofs.Ytkfnaiobgddjpaa.Pu

namespace Go.Proofs.Ytkfnaiobgddjpaa.Open
open Go.RowKit Go.Proofs.YtkfnaiobgddjpaaW.PrintWords Go.Proofs.YtkfnaiobgddjpaaW.PrintLast Go.Proofs.YtkfnaiobgddjpaaW.PrintMore Go.ChangeShapes Go.WideShapes Go.Deep

/-- What a reading of type t tells of the cells: they hold a value of kind d, which is good, and which leads to blocks that lie there; all weights are within the bound. -/
def Opens (P : Program) (t : TypeId) {α : Type} (d : Kd α) (good : α → Prop) : Prop :=
  ∀ {H : Type} (enc : TypeId × Value → H) (w : World) (fuel : Nat) (cs : List Value) (x : DataW H × List MemPlace),
    DataW.trod enc P w 0 (fun _ => true) true fuel t cs = some x → (∀ n ∈ DataW.weights P t x.1, n ≤ 140737488351232) → ∃ a, Kd.FK d w (fun _ => True) a cs ∧ good a
/-- A row that is good: not longer than its bytes, each element good. -/
def Row (B : Nat) {α : Type} (good : α → Prop) (xs : List α) : Prop := xs.length * B ≤ 140737488351232 ∧ ∀ x ∈ xs, good x
def I64 (n : Int) : Prop := (Lit.int .i64 n).wf = true

variable {P : Program}
theorem cell_same {w W' : World} (hW : ∀ k, (fun _ => True) k → k < w.heap.size → W'.heap[k]? = w.heap[k]?) {p : Addr} {u : Value} (h : w.cell? p = some u) : W'.cell? p = some u := by
  have hlt : p.block < w.heap.size := by
    rcases Nat.lt_or_ge p.block w.heap.size with h1 | h1
    · exact h1
    · simp [World.cell?, Array.getElem?_eq_none h1] at h
  have hb : W'.heap[p.block]? = w.heap[p.block]? := hW _ trivial hlt
  unfold World.cell? at h ⊢
  rw [hb]; exact h
theorem int_ {t : TypeId} {k : IntKind} (ht : P.underlying t = some (.int k)) : Opens P t (Kd.int k) (fun n => (Lit.int k n).wf = true) := by
  intro H enc w fuel cs x h _
  obtain ⟨n, rfl, hx, hw⟩ := DataW.trod_int ht h
  exact ⟨n, fun _ _ => rfl, hw⟩
theorem bool_ {t : TypeId} (ht : P.underlying t = some .bool) : Opens P t Kd.bool (fun _ => True) := by
  intro H enc w fuel cs x h _
  obtain ⟨b, rfl, hx⟩ := DataW.trod_bool ht h
  exact ⟨b, fun _ _ => rfl, trivial⟩
theorem string_ {t : TypeId} (ht : P.underlying t = some .string) : Opens P t Kd.string (fun s => s.size ≤ maxLen) := by
  intro H enc w fuel cs x h _
  obtain ⟨s, rfl, hx, hs⟩ := DataW.trod_string ht h
  exact ⟨s, fun _ _ => rfl, hs⟩
theorem mem_weightsAll {H : Type} {e : TypeId} {n : Nat} : ∀ {l : List (DataW H)} {d : DataW H}, d ∈ l → n ∈ DataW.weights P e d → n ∈ DataW.weightsAll P e l
  | [], _, h, _ => by cases h
  | y :: l, d, h, hn => by
    rw [DataW.weightsAll]
    rcases List.mem_cons.1 h with rfl | h
    · exact List.mem_append_left _ hn
    · exact List.mem_append_right _ (mem_weightsAll h hn)
theorem slice_ {t e : TypeId} {α : Type} {d : Kd α} {good : α → Prop} {B : Nat} (ht : P.underlying t = some (.slice e)) (hd : P.cellsOf e = d.sz) (hB : P.bytesOf e = B) (hB0 : 0 < B) (he : Opens P e d good) :
    Opens P t (Kd.slice e d) (Row B good) := by
  intro H enc w fuel cs x h hx
  rcases open_slice ht h with ⟨rfl, rfl⟩ | ⟨a, len, cap, m, n, D, Pl, rfl, _, hl, hm, hmm, rfl, hel⟩
  · exact ⟨[], fun _ _ => ⟨none, 0, rfl, Nat.le_refl _, rfl, Nat.zero_le _, fun h => absurd h (Nat.lt_irrefl 0)⟩, by simp, fun x hx => by cases hx⟩
  · simp only [if_true] at hmm
    obtain rfl : m = cap := hmm
    rw [hd] at hel
    have hw : ∀ i, i < len → ∀ q ∈ DataW.weights P e (D i), q ≤ 140737488351232 := fun i hi q hq => by
      refine hx q ?_
      show q ∈ DataW.weights P t (DataW.slice _ _)
      rw [DataW.weights, ht]
      exact List.mem_cons_of_mem _ (List.mem_append_left _ (mem_weightsAll (List.mem_map.2 ⟨i, List.mem_range.2 hi, rfl⟩) hq))
    have hlen : len * B ≤ 140737488351232 := by
      have := hx ((len + (m - len)) * B) (by
        show _ ∈ DataW.weights P t (DataW.slice _ _)
        rw [DataW.weights, ht]
        simp [hB])
      exact Nat.le_trans (Nat.mul_le_mul_right _ (by omega)) this
    have hlt : len ≤ 140737488351232 := Nat.le_trans (Nat.le_mul_of_pos_right _ hB0) hlen
    have each : ∀ i, i < len → ∃ y, (∃ cs', w.cells? 0 (a.add (i * d.sz)) d.sz = some cs' ∧ Kd.FK d w (fun _ => True) y cs') ∧ good y := fun i hi => by
      obtain ⟨cs', h1, h2⟩ := hel i (by omega)
      obtain ⟨y, hy, hg⟩ := he enc w n cs' (D i, Pl i) h2 (hw i hi)
      exact ⟨y, ⟨cs', h1, hy⟩, hg⟩
    have : ∃ xs : List α, xs.length = len ∧ ∀ i y, xs[i]? = some y → (∃ cs', w.cells? 0 (a.add (i * d.sz)) d.sz = some cs' ∧ Kd.FK d w (fun _ => True) y cs') ∧ good y := by
      clear hw hlen hlt hel hx h
      clear hl
      induction len with
      | zero => exact ⟨[], rfl, fun i y h => by simp at h⟩
      | succ j ih =>
        obtain ⟨xs, hxs, hk⟩ := ih (fun i hi => each i (by omega))
        obtain ⟨y, hy⟩ := each j (by omega)
        refine ⟨xs ++ [y], by simp [hxs], fun i z hz => ?_⟩
        rcases Nat.lt_or_ge i xs.length with hi | hi
        · rw [List.getElem?_append_left hi] at hz; exact hk i z hz
        · rw [List.getElem?_append_right hi] at hz
          have : i - xs.length = 0 := by
            rcases Nat.eq_zero_or_pos (i - xs.length) with h0 | h0
            · exact h0
            · rw [List.getElem?_eq_none (by simp; omega)] at hz; cases hz
          rw [this] at hz
          simp at hz
          subst hz
          obtain rfl : i = j := by omega
          exact hy
    obtain ⟨xs, hxs, hk⟩ := this
    refine ⟨xs, fun W' hW => ⟨some a, m, by rw [hxs], by omega, ⟨rfl, by omega, fun _ => ⟨a, rfl, fun j p hj => ?_⟩⟩⟩, by rw [hxs]; exact hlen, fun y hy => ?_⟩
    · obtain ⟨⟨cs', h1, h2⟩, _⟩ := hk j p hj
      obtain ⟨_, h3, h4⟩ := World.cells?_some h1
      refine ⟨cs', h3, h2 W' hW, fun i u hu => ?_⟩
      have hi : i < d.sz := by rw [← h3]; exact (List.getElem?_eq_some_iff.1 hu).1
      have hc := h4 i hi
      rw [hu] at hc
      rw [Addr.add_add] at hc
      exact cell_same hW hc
    · obtain ⟨i, hi, rfl⟩ := List.getElem_of_mem hy
      exact (hk i _ (List.getElem?_eq_getElem hi)).2
/-- A struct of two fields in line. -/
theorem struct2_ {t : TypeId} {f0 f1 : Field} {α β : Type} {d0 : Kd α} {d1 : Kd β} {g0 : α → Prop} {g1 : β → Prop} (ht : P.underlying t = some (.struct #[f0, f1])) (h0 : f0.offset = 0) (c0 : P.cellsOf f0.type = d0.sz) (h1 : f1.offset = d0.sz) (c1 : P.cellsOf f1.type = d1.sz) (hc : P.cellsOf t = d0.sz + d1.sz)
    (o0 : Opens P f0.type d0 g0) (o1 : Opens P f1.type d1 g1) : Opens P t (Kd.pair d0 d1) (fun x => g0 x.1 ∧ g1 x.2) := by
  intro H enc w fuel cs x h hx
  obtain ⟨y0, y1, n, rfl, hl, t0, t1⟩ := trod_struct2 ht h
  have hw : ∀ (j : Nat) (f : Field) (q : DataW H), (#[f0, f1] : Array Field).toList[j]? = some f → [y0.1, y1.1][j]? = some q → ∀ m ∈ DataW.weights P f.type q, m ≤ 140737488351232 := fun j f q hf hq m hm => by
    refine hx m ?_
    show m ∈ DataW.weights P t (.agg [y0.1, y1.1])
    rw [DataW.weights, ht]
    exact DataW.weights_mem_each (ts := (#[f0, f1] : Array Field).toList.map (·.type)) (by rw [List.getElem?_map, hf]; rfl) hq m hm
  obtain ⟨a, ha, ga⟩ := o0 enc w n _ y0 t0 (hw 0 f0 y0.1 rfl rfl)
  obtain ⟨b, hb, gb⟩ := o1 enc w n _ y1 t1 (hw 1 f1 y1.1 rfl rfl)
  refine ⟨(a, b), fun W' hW => ⟨_, _, ?_, ha W' hW, hb W' hW⟩, ga, gb⟩
  rw [h0, c0, h1, c1, List.drop_zero, List.take_of_length_le (l := cs.drop d0.sz) (by rw [List.length_drop]; omega), List.take_append_drop]
theorem iso_ {t : TypeId} {α β : Type} {d : Kd α} {good : α → Prop} (f : β → α) (g : α → β) (hfg : ∀ a, f (g a) = a) (o : Opens P t d good) : Opens P t (Kd.iso d f) (fun x => good (f x)) := by
  intro H enc w fuel cs x h hx
  obtain ⟨a, ha, ga⟩ := o enc w fuel cs x h hx
  exact ⟨g a, fun W' hW => by show d.K W' (f (g a)) cs; rw [hfg]; exact ha W' hW, by show good (f (g a)); rw [hfg]; exact ga⟩
/-- A slice that is an argument. -/
theorem slice_arg {H : Type} {enc : TypeId × Value → H} {w : World} {t e : TypeId} {α : Type} {d : Kd α} {good : List α → Prop} (ho : Opens P t (Kd.slice e d) good) {A : Option Addr} {len cap : Nat} {x : DataW H} {p : List MemPlace}
    (h : DataW.Trod enc P w 0 (fun _ => true) true t (.slice A len cap) x p) (hx : ∀ n ∈ DataW.weights P t x, n ≤ 140737488351232) :
    ∃ l : List α, len = l.length ∧ Kd.F d w (fun _ => True) A l.length l ∧ l.length ≤ cap ∧ good l := by
  obtain ⟨fuel, hf⟩ := h
  obtain ⟨l, hF, hg⟩ := ho enc w fuel _ _ hf hx
  obtain ⟨A', c, hcs, hl, hc⟩ := Kd.FK_slice_open hF
  simp [Value.cells] at hcs
  obtain ⟨rfl, rfl, rfl⟩ := hcs
  exact ⟨l, rfl, hc, hl, hg⟩
/-- A slice that is a struct's field. -/
theorem slice_field {H : Type} {enc : TypeId × Value → H} {w : World} {t e : TypeId} {α : Type} {d : Kd α} {good : List α → Prop} (ho : Opens P t (Kd.slice e d) good) {v : Value} {n : Nat} {x : DataW H × List MemPlace}
    (h : DataW.trod enc P w 0 (fun _ => true) true n t [v] = some x) (hx : ∀ n ∈ DataW.weights P t x.1, n ≤ 140737488351232) :
    ∃ (A : Option Addr) (c : Nat) (l : List α), v = .slice A l.length c ∧ Kd.F d w (fun _ => True) A l.length l ∧ l.length ≤ c ∧ good l := by
  obtain ⟨l, hF, hg⟩ := ho enc w n _ _ h hx
  obtain ⟨A', c, hcs, hl, hc⟩ := Kd.FK_slice_open hF
  simp at hcs
  exact ⟨A', c, l, hcs, hc, hl, hg⟩
theorem int_field {H : Type} {enc : TypeId × Value → H} {w : World} {t : TypeId} {k : IntKind} (ht : P.underlying t = some (.int k)) {v : Value} {n : Nat} {x : DataW H × List MemPlace}
    (h : DataW.trod enc P w 0 (fun _ => true) true n t [v] = some x) : ∃ a : Int, v = .int k a ∧ (Lit.int k a).wf = true := by
  obtain ⟨a, hcs, _, hw⟩ := DataW.trod_int ht h
  simp at hcs
  exact ⟨a, hcs, hw⟩
theorem bool_field {H : Type} {enc : TypeId × Value → H} {w : World} {t : TypeId} (ht : P.underlying t = some .bool) {v : Value} {n : Nat} {x : DataW H × List MemPlace}
    (h : DataW.trod enc P w 0 (fun _ => true) true n t [v] = some x) : ∃ b : Bool, v = .bool b := by
  obtain ⟨a, hcs, _⟩ := DataW.trod_bool ht h
  simp at hcs
  exact ⟨a, hcs⟩
theorem at_ {H : Type} {ts : List TypeId} {ds : List (DataW H)} (h : (DataW.weightsEach P ts ds).all (· ≤ reachBytes) = true) {j : Nat} {t : TypeId} {d : DataW H} (ht : ts[j]? = some t) (hd : ds[j]? = some d) :
    ∀ n ∈ DataW.weights P t d, n ≤ 140737488351232 := fun n hn => by
  have := List.all_eq_true.1 h _ (DataW.weights_mem_each ht hd n hn)
  exact of_decide_eq_true this
theorem fields {H : Type} {t : TypeId} {fs : Array Field} {ds : List (DataW H)} (ht : P.underlying t = some (.struct fs)) (hx : ∀ n ∈ DataW.weights P t (.agg ds), n ≤ 140737488351232) {j : Nat} {f : Field} {d : DataW H} (hf : fs.toList[j]? = some f) (hd : ds[j]? = some d) :
    ∀ n ∈ DataW.weights P f.type d, n ≤ 140737488351232 := fun n hn => by
  refine hx n ?_
  rw [DataW.weights, ht]
  exact DataW.weights_mem_each (ts := fs.toList.map (·.type)) (by simp [hf]) hd n hn
end Go.Proofs.Ytkfnaiobgddjpaa.Open

namespace Go.Proofs.Ytkfnaiobgddjpaa.Pu
open Go.RowKit Go.Proofs.Ytkfnaiobgddjpaa.P Go.Proofs.YtkfnaiobgddjpaaW.PrintWords Go.Proofs.YtkfnaiobgddjpaaW.PrintLast Go.Proofs.YtkfnaiobgddjpaaW.PrintMore

theorem rows64 {l : List (List Int)} (h : Open.Row 24 (Open.Row 8 fun n => (Lit.int .i64 n).wf = true) l) : Rows64 l :=
  ⟨by have := h.1; omega, fun c hc => ⟨by have := (h.2 c hc).1; omega, (h.2 c hc).2⟩⟩
end Go.Proofs.Ytkfnaiobgddjpaa.Pu

namespace Go.Proofs.Ytkfnaiobgddjpaa.Pu
open Go.RowKit Go.Proofs.Ytkfnaiobgddjpaa.P Go.Proofs.YtkfnaiobgddjpaaW.PrintWords Go.Proofs.YtkfnaiobgddjpaaW.PrintLast Go.Proofs.YtkfnaiobgddjpaaW.PrintMore
theorem without_loop (ids : List Int) (n : Int) (hs : ids.length < 17592186044416) : ∀ (m i : Nat), m + i = ids.length → ∀ o : List Int, o.length ≤ i → Tells (fun k => sequiturref25_without.l0 k ids n o (i : Int)) (o ++ (ids.drop i).filter fun x => !(x == n))
  | 0, i, hi => by
    intro o ho
    refine Tells.succ (fun k => by rw [sequiturref25_without.l0]) (Tells.neg (by omega) ?_)
    rw [List.drop_of_length_le (by omega), List.filter_nil, List.append_nil]; exact Tells.const _
  | m + 1, i, hi => by
    intro o ho
    have hlt : i < ids.length := by omega
    refine Tells.succ (fun k => by rw [sequiturref25_without.l0]) (Tells.pos (by omega) (Tells.pos (by omega) ?_))
    rw [rd_at _ _ hlt, w64s hlt (by omega), List.drop_eq_getElem_cons hlt, List.filter_cons]
    by_cases e : ids[i] = n
    · rw [if_neg (by simp [e])]
      exact Tells.pos e (without_loop ids n hs m (i + 1) (by omega) o (by omega))
    · rw [if_pos (by simp [e])]
      refine Tells.neg e (Tells.pos (by omega) ?_)
      rw [show o ++ ids[i] :: (ids.drop (i + 1)).filter (fun x => !(x == n)) = (o ++ [ids[i]]) ++ (ids.drop (i + 1)).filter (fun x => !(x == n)) by rw [List.append_assoc]; rfl]
      exact without_loop ids n hs m (i + 1) (by omega) _ (by rw [List.length_append, List.length_singleton]; omega)
theorem without_tells (ids : List Int) (n : Int) (hs : ids.length < 17592186044416) : Tells (fun k => sequiturref25_without.f k ids n) (ids.filter fun x => !(x == n)) := by
  have := without_loop ids n hs ids.length 0 rfl [] (Nat.le_refl _)
  unfold sequiturref25_without.f
  simpa using this
theorem rMinimal_l1 (n : Int) (l : List (List Int)) (hl : Rows64 l) (hn : I64 n) (hf : fits n l = 0) (hs : l.length < 5864062014805) : ∀ (m i : Nat), m + i = l.length → ∀ left : List Int, Ids l.length left → Tells (fun k => sequiturref25_Minimal.l1 k left (i : Int) n l) (leave n.toNat l m (i : Int) left)
  | 0, i, hi => by
    intro left h
    refine Tells.succ (fun k => by rw [sequiturref25_Minimal.l1]) (Tells.neg (by omega) ?_)
    exact Tells.const _
  | m + 1, i, hi => by
    intro left h
    have h2 := ids_filter h (fun x => !(x == (i : Int)))
    obtain ⟨hr, hf2⟩ := pick_right hl h2 hf
    refine Tells.succ (fun k => by rw [sequiturref25_Minimal.l1]) (Tells.pos (by omega) ?_)
    rw [w64s (by omega : i < l.length) (by omega), leave]
    refine Tells.bind (without_tells left i (by have := h.2; omega)) (Tells.bind (Just_tells n l _ h2 hs) (Tells.bind (Some_tells n _ hr hn hf2) ?_))
    by_cases hc : can n.toNat (pick l (left.filter fun x => !(x == (i : Int)))) = true
    · rw [if_pos hc]
      exact Tells.pos hc (rMinimal_l1 n l hl hn hf hs m (i + 1) (by omega) left h)
    · rw [if_neg hc]
      exact Tells.neg hc (rMinimal_l1 n l hl hn hf hs m (i + 1) (by omega) _ h2)
theorem rMinimal_l0 (n : Int) (l : List (List Int)) (hl : Rows64 l) (hn : I64 n) (hf : fits n l = 0) (hs : l.length < 5864062014805) : ∀ (m i : Nat), m + i = l.length → Tells (fun k => sequiturref25_Minimal.l0 k (idx i) (i : Int) n l) (leave n.toNat l l.length 0 (idx l.length))
  | 0, i, hi => by
    obtain rfl : i = l.length := by omega
    have h1 : Tells (fun k => sequiturref25_Minimal.l1 k (idx l.length) 0 n l) (leave n.toNat l l.length 0 (idx l.length)) := rMinimal_l1 n l hl hn hf hs l.length 0 rfl _ (ids_idx _)
    refine Tells.succ (fun k => by rw [sequiturref25_Minimal.l0]) (Tells.neg (by omega) ?_)
    exact h1
  | m + 1, i, hi => by
    refine Tells.succ (fun k => by rw [sequiturref25_Minimal.l0]) (Tells.pos (by omega) (Tells.pos (by rw [idx_length]; omega) ?_))
    rw [w64s (by omega : i < l.length) (by omega), ← idx_succ]
    exact rMinimal_l0 n l hl hn hf hs m (i + 1) (by omega)
theorem rMinimal_tells (n : Int) (l : List (List Int)) (hl : Rows64 l) (hn : I64 n) (hf : fits n l = 0) (hs : l.length < 5864062014805) : Tells (fun k => sequiturref25_Minimal.f k n l) (leave n.toNat l l.length 0 (idx l.length)) :=
  rMinimal_l0 n l hl hn hf hs l.length 0 rfl
theorem leave_ids (n N : Nat) (l : List (List Int)) : ∀ (m : Nat) (i : Int) (left : List Int), Ids N left → Ids N (leave n l m i left)
  | 0, _, _, h => h
  | m + 1, i, left, h => by
    unfold leave
    split
    · exact leave_ids n N l m _ _ h
    · exact leave_ids n N l m _ _ (ids_filter h _)
theorem cm_f (n : Int) (l : List (List Int)) (hl : Rows64 l) (hn : I64 n) (hs : l.length < 5864062014805) : Tells (fun k => sequiturlaw25_CoreMinimals.f k n l) true := by
  unfold sequiturlaw25_CoreMinimals.f
  obtain ⟨s, hs1, _⟩ := Small_tells n l hl
  have main : ∀ x : Bool, Tells (fun k => sequiturlaw25_CoreMinimals.j0 k x n l) true := by
    intro x
    refine Tells.succ (fun k => by rw [sequiturlaw25_CoreMinimals.j0]) ?_
    by_cases hx : x = true
    · exact Tells.pos hx (Tells.bind goes25 (Tells.const _))
    refine Tells.neg hx (Tells.bind (Minimal_tells n l hl hn hs) (Tells.bind (ref19_Fits_tells n l hl hn) ?_))
    by_cases hf : fits n l = 0
    · refine Tells.pos hf (Tells.bind (Some_tells n l hl hn hf) (Tells.succ (fun k => by rw [sequiturlaw25_CoreMinimals.j1]) ?_))
      by_cases hc : can n.toNat l = true
      · have hm : minimal n l = ([], 32) := by unfold minimal; rw [if_pos hf, if_pos hc]
        rw [hm]
        refine Tells.pos hc ?_
        refine Tells.succ (fun k => by rw [sequiturlaw25_CoreMinimals.j2]) ?_
        exact Tells.neg (by decide) (Tells.pos rfl (Tells.pos rfl (Tells.bind goes25 (Tells.const _))))
      · have hm : minimal n l = (leave n.toNat l l.length 0 (idx l.length), 0) := by unfold minimal; rw [if_pos hf, if_neg hc]
        rw [hm]
        have hL := leave_ids n.toNat l.length l l.length 0 (idx l.length) (ids_idx _)
        refine Tells.neg hc ?_
        refine Tells.succ (fun k => by rw [sequiturlaw25_CoreMinimals.j2]) ?_
        refine Tells.pos hf (Tells.pos rfl (Tells.bind (rMinimal_tells n l hl hn hf hs) (Tells.bind (Ints_tells _ _ (by have := hL.2; show (leave n.toNat l l.length 0 (idx l.length)).length < _; omega)) ?_)))
        exact Tells.pos (by simp) (Tells.bind goes25 (Tells.const _))
    · have hm : minimal n l = ([], fits n l) := by unfold minimal; rw [if_neg hf]
      rw [hm]
      refine Tells.neg hf ?_
      refine Tells.succ (fun k => by rw [sequiturlaw25_CoreMinimals.j1]) ?_
      refine Tells.neg (by decide) ?_
      refine Tells.succ (fun k => by rw [sequiturlaw25_CoreMinimals.j2]) ?_
      exact Tells.neg hf (Tells.pos rfl (Tells.pos rfl (Tells.bind goes25 (Tells.const _))))
  refine Tells.bind hs1 ?_
  by_cases h : s = true
  · refine Tells.pos h ?_
    by_cases h8 : n > 8
    · refine Tells.pos h8 ?_
      by_cases h16 : n ≤ 16
      · exact Tells.pos h16 (main _)
      · exact Tells.neg h16 (main _)
    · exact Tells.neg h8 (main _)
  · exact Tells.neg h (main _)
end Go.Proofs.Ytkfnaiobgddjpaa.Pu
namespace Go.Proofs.Ytkfnaiobgddjpaa.Pure
open Go.Proofs.Ytkfnaiobgddjpaa.Pu Go.Proofs.Ytkfnaiobgddjpaa.P
theorem CoreMinimals (n : Int) (l : List (List Int)) (hn : (Lit.int .i64 n).wf = true) (hl : Open.Row 24 (Open.Row 8 fun n => (Lit.int .i64 n).wf = true) l) : ∃ k, sequiturlaw25_CoreMinimals.f k n l = some true :=
  (cm_f n l (rows64 hl) hn (by have := hl.1; omega)).ex
end Go.Proofs.Ytkfnaiobgddjpaa.Pure

namespace Go.Proofs.Ytkfnaiobgddjpaa.Pu
open Go.RowKit Go.Proofs.Ytkfnaiobgddjpaa.P Go.Proofs.YtkfnaiobgddjpaaW.PrintWords Go.Proofs.YtkfnaiobgddjpaaW.PrintLast Go.Proofs.YtkfnaiobgddjpaaW.PrintMore
theorem can_mono {n : Nat} {a b : List (List Int)} (h : ∀ c ∈ b, c ∈ a) (ha : can n a = true) : can n b = true := by
  unfold can at ha ⊢
  cases hs : sat n a with
  | nil => rw [hs] at ha; cases ha
  | cons v t =>
    have hv : v ∈ sat n a := by rw [hs]; simp
    obtain ⟨h1, h2⟩ := sat_mem.1 hv
    have hb : v ∈ sat n b := sat_mem.2 ⟨h1, List.all_eq_true.2 (fun c hc => List.all_eq_true.1 h2 c (h c hc))⟩
    cases hb' : sat n b with
    | nil => rw [hb'] at hb; cases hb
    | cons _ _ => rfl
theorem pick_idx (l : List (List Int)) : pick l (idx l.length) = l := by
  unfold pick idx
  rw [List.map_map]
  apply List.ext_getElem
  · simp
  · intro i h1 h2
    simp [h2]
theorem leave_least (n : Nat) (l : List (List Int)) : ∀ (m i : Nat), m + i = l.length → ∀ left : List Int, Ids l.length left → can n (pick l left) = false →
    (leave n l m (i : Int) left).Sublist left ∧ can n (pick l (leave n l m (i : Int) left)) = false ∧ ∀ j ∈ leave n l m (i : Int) left, (i : Int) ≤ j → can n (pick l ((leave n l m (i : Int) left).filter fun x => !(x == j))) = true
  | 0, i, hi => by
    intro left h hc
    refine ⟨List.Sublist.refl _, hc, fun j hj hij => ?_⟩
    have := (h.1 j hj).2
    omega
  | m + 1, i, hi => by
    intro left h hc
    unfold leave
    have hcast : (i : Int) + 1 = ((i + 1 : Nat) : Int) := by omega
    by_cases hl : can n (pick l (left.filter fun x => !(x == (i : Int)))) = true
    · rw [if_pos hl, hcast]
      obtain ⟨h1, h2, h3⟩ := leave_least n l m (i + 1) (by omega) left h hc
      refine ⟨h1, h2, fun j hj hij => ?_⟩
      by_cases hji : j = (i : Int)
      · subst hji
        refine can_mono (fun c hc' => ?_) hl
        obtain ⟨x, hx, rfl⟩ := List.mem_map.1 hc'
        exact List.mem_map.2 ⟨x, (h1.filter _).subset hx, rfl⟩
      · exact h3 j hj (by omega)
    · rw [if_neg hl, hcast]
      obtain ⟨h1, h2, h3⟩ := leave_least n l m (i + 1) (by omega) _ (ids_filter h _) (Bool.eq_false_iff.2 hl)
      refine ⟨h1.trans List.filter_sublist, h2, fun j hj hij => ?_⟩
      have := (List.mem_filter.1 (h1.subset hj)).2
      have hji : j ≠ (i : Int) := by simpa using this
      exact h3 j hj (by omega)
theorem idx_sorted (n : Nat) : (idx n).Pairwise (· < ·) := by
  unfold idx
  rw [List.pairwise_map]
  exact List.Pairwise.imp (fun h => Int.ofNat_lt.2 h) List.pairwise_lt_range
theorem sorted_without {ids : List Int} (h : ids.Pairwise (· < ·)) (i : Nat) (hi : i < ids.length) : ids.filter (fun x => !(x == ids[i])) = ids.take i ++ ids.drop (i + 1) := by
  have hsplit : ids = ids.take i ++ ids[i] :: ids.drop (i + 1) := by rw [List.getElem_cons_drop, List.take_append_drop]
  have hp := h
  rw [hsplit] at hp
  obtain ⟨_, h2, h3⟩ := List.pairwise_append.1 hp
  obtain ⟨h4, _⟩ := List.pairwise_cons.1 h2
  have ha : (ids.take i).filter (fun x => !(x == ids[i])) = ids.take i := List.filter_eq_self.2 (fun x hx => by
    have := h3 x hx ids[i] List.mem_cons_self
    have : x ≠ ids[i] := by omega
    simpa using this)
  have hb : (ids.drop (i + 1)).filter (fun x => !(x == ids[i])) = ids.drop (i + 1) := List.filter_eq_self.2 (fun x hx => by
    have := h4 x hx
    have : x ≠ ids[i] := by omega
    simpa using this)
  have : ids.filter (fun x => !(x == ids[i])) = (ids.take i ++ ids[i] :: ids.drop (i + 1)).filter (fun x => !(x == ids[i])) := by rw [← hsplit]
  rw [this, List.filter_append, List.filter_cons, if_neg (by simp), ha, hb]
theorem cl_l1 (n : Int) (l : List (List Int)) (hl : Rows64 l) (hn : I64 n) (hf : fits n l = 0) (hs : l.length < 5864062014805) (ids : List Int) (h : Ids l.length ids) (hso : ids.Pairwise (· < ·)) (h0 : can n.toNat (pick l ids) = false)
    (h1 : ∀ j ∈ ids, can n.toNat (pick l (ids.filter fun x => !(x == j))) = true) : ∀ (m i : Nat), m + i = ids.length → Tells (fun k => sequiturlaw25_CoreLeast.l1 k ids (i : Int) n l) true
  | 0, i, hi => by
    refine Tells.succ (fun k => by rw [sequiturlaw25_CoreLeast.l1]) (Tells.neg (by omega) ?_)
    obtain ⟨hr, hf2⟩ := pick_right hl h hf
    refine Tells.bind (Just_tells n l ids h hs) (Tells.bind (Some_tells n _ hr hn hf2) ?_)
    refine Tells.neg (by rw [h0]; decide) ?_
    exact Tells.bind goes25 (Tells.const _)
  | m + 1, i, hi => by
    have hlt : i < ids.length := by omega
    have hle := h.2
    have hw : wrap64 ((i : Int) + 1) = ((i + 1 : Nat) : Int) := w64s hlt (by omega)
    have hj := h1 _ (List.getElem_mem hlt)
    have hid := ids_filter h (fun x => !(x == ids[i]))
    rw [sorted_without hso i hlt] at hj hid
    obtain ⟨hr, hf2⟩ := pick_right hl hid hf
    refine Tells.succ (fun k => by rw [sequiturlaw25_CoreLeast.l1]) (Tells.pos (by omega) ?_)
    rw [hw]
    refine Tells.bind (Tells.const _) (Tells.pos (by omega) (Tells.pos (by omega) (Tells.bind (Tells.const _) ?_)))
    refine Tells.pos (by simp; omega) (Tells.bind (Tells.const _) (Tells.pos (by omega) (Tells.pos (by omega) (Tells.bind (Tells.const _) ?_))))
    refine Tells.pos (by simp; omega) ?_
    simp only [Int.toNat_natCast, List.nil_append]
    refine Tells.bind (Just_tells n l _ hid hs) (Tells.bind (Some_tells n _ hr hn hf2) ?_)
    exact Tells.pos hj (cl_l1 n l hl hn hf hs ids h hso h0 h1 m (i + 1) (by omega))
theorem cl_l0 (n : Int) (l : List (List Int)) (hl : Rows64 l) (hn : I64 n) (hf : fits n l = 0) (hs : l.length < 5864062014805) (ids : List Int) (h : Ids l.length ids) (hso : ids.Pairwise (· < ·)) (h0 : can n.toNat (pick l ids) = false)
    (h1 : ∀ j ∈ ids, can n.toNat (pick l (ids.filter fun x => !(x == j))) = true) : ∀ (m i : Nat), m + i = ids.length → Tells (fun k => sequiturlaw25_CoreLeast.l0 k ids (i : Int) n l) true
  | 0, i, hi => by
    have hx : Tells (fun k => sequiturlaw25_CoreLeast.l1 k ids 0 n l) true := cl_l1 n l hl hn hf hs ids h hso h0 h1 ids.length 0 rfl
    refine Tells.succ (fun k => by rw [sequiturlaw25_CoreLeast.l0]) (Tells.neg (by omega) ?_)
    exact hx
  | m + 1, i, hi => by
    have hlt : i < ids.length := by omega
    have hle := h.2
    have hw : wrap64 ((i : Int) + 1) = ((i + 1 : Nat) : Int) := w64s hlt (by omega)
    obtain ⟨hb0, hb1⟩ := h.1 _ (List.getElem_mem hlt)
    refine Tells.succ (fun k => by rw [sequiturlaw25_CoreLeast.l0]) (Tells.pos (by omega) (Tells.pos (by omega) ?_))
    rw [hw, rd_at _ _ hlt]
    refine Tells.neg (by omega) (Tells.neg (by omega) ?_)
    by_cases hi0 : (i : Int) > 0
    · have hw2 : wrap64 ((i : Int) - 1) = ((i - 1 : Nat) : Int) := by unfold wrap64; omega
      have hlt2 : i - 1 < ids.length := by omega
      have hord : ids[i - 1] < ids[i] := List.pairwise_iff_getElem.1 hso (i - 1) i hlt2 hlt (by omega)
      refine Tells.pos hi0 ?_
      rw [hw2, rd_at _ _ hlt2]
      refine Tells.pos (by omega) (Tells.pos (by omega) (Tells.neg (by omega) ?_))
      exact cl_l0 n l hl hn hf hs ids h hso h0 h1 m (i + 1) (by omega)
    · refine Tells.neg hi0 ?_
      exact cl_l0 n l hl hn hf hs ids h hso h0 h1 m (i + 1) (by omega)
theorem cl_f (n : Int) (l : List (List Int)) (hl : Rows64 l) (hn : I64 n) (hs : l.length < 5864062014805) : Tells (fun k => sequiturlaw25_CoreLeast.f k n l) true := by
  unfold sequiturlaw25_CoreLeast.f
  obtain ⟨s, hs1, _⟩ := Small_tells n l hl
  have main : ∀ x : Bool, Tells (fun k => sequiturlaw25_CoreLeast.j0 k x n l) true := by
    intro x
    refine Tells.succ (fun k => by rw [sequiturlaw25_CoreLeast.j0]) ?_
    by_cases hx : x = true
    · exact Tells.pos hx (Tells.bind goes25 (Tells.const _))
    refine Tells.neg hx (Tells.bind (Minimal_tells n l hl hn hs) ?_)
    by_cases he : (minimal n l).2 = 0
    · refine Tells.pos he ?_
      by_cases hf : fits n l = 0
      · by_cases hc : can n.toNat l = true
        · unfold minimal at he; rw [if_pos hf, if_pos hc] at he; cases he
        · have hm : minimal n l = (leave n.toNat l l.length 0 (idx l.length), 0) := by unfold minimal; rw [if_pos hf, if_neg hc]
          have hI := leave_ids n.toNat l.length l l.length 0 (idx l.length) (ids_idx _)
          obtain ⟨h1, h2, h3⟩ := leave_least n.toNat l l.length 0 rfl (idx l.length) (ids_idx _) (by rw [pick_idx]; exact Bool.eq_false_iff.2 hc)
          rw [hm]
          exact cl_l0 n l hl hn hf hs _ hI ((idx_sorted _).sublist h1) h2 (fun j hj => h3 j hj (hI.1 j hj).1) _ 0 rfl
      · unfold minimal at he; rw [if_neg hf] at he; exact absurd he hf
    · exact Tells.neg he (Tells.bind goes25 (Tells.const _))
  refine Tells.bind hs1 ?_
  by_cases h : s = true
  · refine Tells.pos h ?_
    by_cases h8 : n > 8
    · exact Tells.pos h8 (main _)
    · exact Tells.neg h8 (main _)
  · exact Tells.neg h (main _)
end Go.Proofs.Ytkfnaiobgddjpaa.Pu
namespace Go.Proofs.Ytkfnaiobgddjpaa.Pure
open Go.Proofs.Ytkfnaiobgddjpaa.Pu Go.Proofs.Ytkfnaiobgddjpaa.P
theorem CoreLeast (n : Int) (l : List (List Int)) (hn : (Lit.int .i64 n).wf = true) (hl : Open.Row 24 (Open.Row 8 fun n => (Lit.int .i64 n).wf = true) l) : ∃ k, sequiturlaw25_CoreLeast.f k n l = some true :=
  (cl_f n l (rows64 hl) hn (by have := hl.1; omega)).ex
end Go.Proofs.Ytkfnaiobgddjpaa.Pure
