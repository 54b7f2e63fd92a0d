import Derived.SizedLaws
import Derived.Deep.Slices
import Derived.WideShapes
import Derived.ChangeShapes
import Derived.ChangeMaps5
import Derived.Lib.SmallJoins
import Derived.ChangeSlices
import Derived.Test.YtaibnbhgjnddnaaKSolveUnders1
import Derived.Test.YtaibnbhgjnddnaaKSolveUnders10
import Derived.Test.YtaibnbhgjnddnaaKSolveUnders4
import Derived.Test.YtaibnbhgjnddnaaKSolveUnders11
import Derived.Test.YtaibnbhgjnddnaaKSolveUnders7
import Derived.Test.YtaibnbhgjnddnaaKSolveUnders6
import Derived.Test.YtaibnbhgjnddnaaKSolveUnders5
import Derived.Test.YtaibnbhgjnddnaaKSolveUnders12
namespace Go.Proofs.Ytaibnbhgjnddnaa.Pu
open Go.RowKit Go.Proofs.YtaibnbhgjnddnaaW.PrintWords Go.Proofs.YtaibnbhgjnddnaaW.PrintLast Go.Proofs.YtaibnbhgjnddnaaW.PrintMore
def Tells {α : Type} (g : Nat → Option α) (v : α) : Prop := ∃ k0, ∀ k, k0 ≤ k → g k = some v
theorem Tells.ex {α : Type} {g : Nat → Option α} {v : α} (h : Tells g v) : ∃ k, g k = some v := by
  obtain ⟨k0, h⟩ := h; exact ⟨k0, h k0 (zqx _)⟩
theorem Tells.const {α : Type} (v : α) : Tells (fun _ => some v) v := ⟨0, fun _ _ => rfl⟩
theorem Tells.of_eq {α : Type} {g : Nat → Option α} {v : α} (h : ∀ k, g k = some v) : Tells g v := ⟨0, fun k _ => h k⟩
theorem Tells.congr {α : Type} {g h : Nat → Option α} {v : α} (e : ∀ k, g k = h k) (H : Tells h v) : Tells g v := by
  obtain ⟨k0, H⟩ := H; exact ⟨k0, fun k hk => (e k).trans (H k hk)⟩
theorem Tells.bind {α β : Type} {g : Nat → Option α} {v : α} {h : Nat → α → Option β} {u : β} (H : Tells g v) (K : Tells (fun k => h k v) u) :
    Tells (fun k => (g k).bind (h k)) u := by
  obtain ⟨k0, H⟩ := H; obtain ⟨k1, K⟩ := K
  refine ⟨k0 + k1, fun k hk => ?_⟩
  show (g k).bind (h k) = some u
  rw [H k (by omega)]; exact K k (by omega)
theorem Tells.succ {α : Type} {g h : Nat → Option α} {v : α} (e : ∀ k, g (k + 1) = h k) (H : Tells h v) : Tells g v := by
  obtain ⟨k0, H⟩ := H
  refine ⟨k0 + 1, fun k hk => ?_⟩
  obtain ⟨j, rfl⟩ : ∃ j, k = j + 1 := ⟨k - 1, by omega⟩
  exact (e j).trans (H j (by omega))
theorem Tells.mono {α : Type} {g : Nat → Option α} (hm : ∀ k, LeO (g k) (g (k + 1))) {k : Nat} {v : α} (h : g k = some v) : Tells g v :=
  ⟨k, fun _ hk => at_rounds hm hk h⟩
theorem Tells.pos {α : Type} {c : Prop} [Decidable c] {g h : Nat → Option α} {v : α} (hc : c) (H : Tells g v) : Tells (fun k => if c then g k else h k) v := by
  obtain ⟨k0, H⟩ := H; exact ⟨k0, fun k hk => (if_pos hc).trans (H k hk)⟩
theorem Tells.neg {α : Type} {c : Prop} [Decidable c] {g h : Nat → Option α} {v : α} (hc : ¬ c) (H : Tells h v) : Tells (fun k => if c then g k else h k) v := by
  obtain ⟨k0, H⟩ := H; exact ⟨k0, fun k hk => (if_neg hc).trans (H k hk)⟩
theorem Tells.ite {α : Type} {c : Prop} [Decidable c] {g h : Nat → Option α} {u v : α} (H : c → Tells g u) (K : ¬ c → Tells h v) : Tells (fun k => if c then g k else h k) (if c then u else v) := by
  by_cases hc : c
  · rw [if_pos hc]; exact Tells.pos hc (H hc)
  · rw [if_neg hc]; exact Tells.neg hc (K hc)
theorem w64 {n : Int} (h0 : -9223372036854775808 ≤ n) (h1 : n < 9223372036854775808) : wrap64 n = n := by unfold wrap64; omega
theorem w64s {i n : Nat} (h : i < n) (hn : n < 4611686018427387904) : wrap64 ((i : Int) + 1) = ((i + 1 : Nat) : Int) := by unfold wrap64; omega
theorem wf64 {n : Int} (h : (Lit.int .i64 n).wf = true) : -9223372036854775808 ≤ n ∧ n ≤ 9223372036854775807 := by
  simp only [Lit.wf, Bool.and_eq_true, decide_eq_true_eq] at h
  have a : IntKind.i64.min = -9223372036854775808 := by decide
  have b : IntKind.i64.max = 9223372036854775807 := by decide
  omega
theorem rdOf_nat {α : Type} (d : α) (xs : List α) (i : Nat) : rdOf d xs (i : Int) = xs.getD i d := by simp [rdOf]
theorem rdOf_at {α : Type} (d : α) (xs : List α) (i : Nat) (h : i < xs.length) : rdOf d xs (i : Int) = xs[i] := by simp [rdOf_nat, h]
end Go.Proofs.Ytaibnbhgjnddnaa.Pu
namespace Go.Proofs.Ytaibnbhgjnddnaa.Pu
open Go.RowKit Go.Proofs.Ytaibnbhgjnddnaa.P Go.Proofs.YtaibnbhgjnddnaaW.PrintWords Go.Proofs.YtaibnbhgjnddnaaW.PrintLast Go.Proofs.YtaibnbhgjnddnaaW.PrintMore
def I64 (n : Int) : Prop := (Lit.int .i64 n).wf = true
theorem I64.lo {n : Int} (h : I64 n) : -9223372036854775808 ≤ n := (wf64 h).1
theorem I64.hi {n : Int} (h : I64 n) : n ≤ 9223372036854775807 := (wf64 h).2
def litT (l : Int) (v : List Bool) : Bool := decide (l ≠ 0) && decide (l.natAbs ≤ v.length) && (v.getD (l.natAbs - 1) false == decide (l > 0))
def holds (c : List Int) (v : List Bool) : Bool := c.any fun l => litT l v
def every (c : List (List Int)) (v : List Bool) : Bool := c.all fun x => holds x v
def badLit (n l : Int) : Bool := decide (l = 0 ∨ l > n ∨ l < -n)
def clauseErr (c : List Int) (n : Int) : Int := if c.length > 64 then 2 else if c.any (badLit n) then 1 else 0
theorem lit_is_eq (a : Int) : lit_is.f a = some (decide (a ≠ 0 ∧ a ≠ -9223372036854775808)) := by
  unfold lit_is.f
  by_cases h : a = 0
  · rw [if_pos h, zqu (by simp [h])]
  · rw [if_neg h]
    by_cases h2 : a = -9223372036854775808
    · rw [h2]; rfl
    · rw [zqt ⟨h, h2⟩]
      simpa using h2
theorem lit_variable_eq {a : Int} (h : I64 a) (hm : a ≠ -9223372036854775808) : lit_variable.f a = some ((a.natAbs : Nat) : Int) := by
  have := h.lo; have := h.hi
  unfold lit_variable.f mx wrap64
  split <;> (congr 1; omega)
theorem rd_at (xs : List Int) (i : Nat) (h : i < xs.length) : rd xs (i : Int) = xs[i] := by simp [rd, h]
theorem lit_Right_loop (c : List Int) (n : Int) (hc : ∀ l ∈ c, I64 l) (hn : I64 n) (hs : c.length < 4611686018427387904) : ∀ (m i : Nat), m + i = c.length →
    Tells (fun k => lit_Right.l0 k n c (c.length : Int) (i : Int)) (if (c.drop i).any (badLit n) then 1 else 0)
  | 0, i, h => by
    refine Tells.succ (fun k => by rw [lit_Right.l0]) (Tells.neg (by omega) ?_)
    rw [List.drop_of_length_le (by omega)]; exact Tells.const _
  | m + 1, i, h => by
    have hi : i < c.length := by omega
    have hl := hc _ (List.getElem_mem hi); have h1 := hl.lo; have h2 := hl.hi; have := hn.lo; have := hn.hi
    refine Tells.succ (fun k => by rw [lit_Right.l0]) (Tells.pos (by omega) (Tells.pos (by omega) (Tells.pos (by omega) ?_)))
    rw [rd_at _ _ hi, w64s hi hs, List.drop_eq_getElem_cons hi, List.any_cons, lit_is_eq]
    refine Tells.bind (Tells.const _) ?_
    by_cases hb : c[i] ≠ 0 ∧ c[i] ≠ -9223372036854775808
    · refine Tells.pos (zqt hb) ?_
      rw [lit_variable_eq hl hb.2]
      refine Tells.bind (Tells.const _) ?_
      by_cases hv : ((c[i].natAbs : Nat) : Int) > n
      · have e : badLit n c[i] = true := zqt (by omega)
        rw [e, Bool.true_or, if_pos rfl]
        exact Tells.pos hv (Tells.const _)
      · have e : badLit n c[i] = false := zqu (by omega)
        rw [e, Bool.false_or]
        exact Tells.neg hv (lit_Right_loop c n hc hn hs m (i + 1) (by omega))
    · have e : badLit n c[i] = true := zqt (by omega)
      rw [e, Bool.true_or, if_pos rfl]
      exact Tells.neg (by simpa using hb) (Tells.const _)
theorem lit_Right_tells (c : List Int) (n : Int) (hc : ∀ l ∈ c, I64 l) (hn : I64 n) (hs : c.length < 4611686018427387904) : Tells (fun k => lit_Right.f k c n) (clauseErr c n) := by
  unfold lit_Right.f clauseErr
  by_cases h : c.length > 64
  · rw [if_pos h]; exact Tells.pos (by omega) (Tells.const _)
  · rw [if_neg h]; exact Tells.neg (by omega) (lit_Right_loop c n hc hn hs c.length 0 rfl)
def clausesErr (n : Int) : List (List Int) → Int
  | [] => 0
  | c :: l => if clauseErr c n = 0 then clausesErr n l else clauseErr c n
def setErr (n : Int) (l : List (List Int)) : Int := if n < 0 ∨ n > 1024 then 1 else if l.length > 4096 then 2 else clausesErr n l
def Rows64 (l : List (List Int)) : Prop := l.length < 4611686018427387904 ∧ ∀ c ∈ l, c.length < 4611686018427387904 ∧ ∀ x ∈ c, I64 x
theorem rdL_at (xs : List (List Int)) (i : Nat) (h : i < xs.length) : rd_L3 xs (i : Int) = xs[i] := by simp [rd_L3, h]
def isL (l : Int) : Bool := decide (l ≠ 0 ∧ l ≠ -9223372036854775808)
def hasL (c : List Int) (l : Int) : Bool := isL l && c.any fun x => x == l
theorem hasL_iff {c : List Int} {l : Int} : hasL c l = true ↔ isL l = true ∧ l ∈ c := by
  unfold hasL
  rw [Bool.and_eq_true, List.any_eq_true]
  refine ⟨fun h => ⟨h.1, ?_⟩, fun h => ⟨h.1, l, h.2, by simp⟩⟩
  obtain ⟨x, hx, e⟩ := h.2
  rw [← beq_iff_eq.1 e]; exact hx
theorem lit_is_isL (a : Int) : lit_is.f a = some (isL a) := lit_is_eq a
def aheadL (a b : Int) : Bool := decide (a.natAbs < b.natAbs) || (decide (a.natAbs = b.natAbs) && decide (a < b))
def insL (x : Int) (out : List Int) : List Int := out.takeWhile (fun y => aheadL y x) ++ x :: out.dropWhile (fun y => aheadL y x)
def cleanStep (out : List Int) (x : Int) : List Int := if isL x && !hasL out x then insL x out else out
def cleanL (c : List Int) : List Int := c.foldl cleanStep []
def oppL (c : List Int) : Bool := c.any fun x => hasL c (-x)
theorem insL_mem {x y : Int} {out : List Int} : y ∈ insL x out ↔ y = x ∨ y ∈ out := by
  unfold insL
  rw [List.mem_append, List.mem_cons]
  constructor
  · rintro (h | h | h)
    · exact .inr (List.takeWhile_subset _ h)
    · exact .inl h
    · exact .inr (List.dropWhile_subset _ h)
  · rintro (h | h)
    · exact .inr (.inl h)
    · rw [← List.takeWhile_append_dropWhile (p := fun y => aheadL y x) (l := out), List.mem_append] at h
      rcases h with h | h
      · exact .inl h
      · exact .inr (.inr h)
theorem insL_length (x : Int) (out : List Int) : (insL x out).length = out.length + 1 := by
  have := congrArg List.length (List.takeWhile_append_dropWhile (p := fun y => aheadL y x) (l := out))
  unfold insL
  rw [List.length_append] at this ⊢
  rw [List.length_cons]; omega
theorem insL_nodup {x : Int} {out : List Int} (h : out.Nodup) (hx : ¬ x ∈ out) : (insL x out).Nodup := by
  have e := List.takeWhile_append_dropWhile (p := fun y => aheadL y x) (l := out)
  unfold insL
  rw [← e] at h hx
  rw [List.nodup_append] at h ⊢
  rw [List.mem_append] at hx
  refine ⟨h.1, List.nodup_cons.2 ⟨fun hh => hx (.inr hh), h.2.1⟩, fun a ha b hb => ?_⟩
  rcases List.mem_cons.1 hb with rfl | hb
  · exact fun e => hx (.inl (e ▸ ha))
  · exact h.2.2 a ha b hb
theorem cleanStep_mem {out : List Int} {x y : Int} : y ∈ cleanStep out x ↔ y ∈ out ∨ (y = x ∧ isL x = true) := by
  unfold cleanStep
  by_cases h : (isL x && !hasL out x) = true
  · rw [if_pos h, insL_mem]
    have := (Bool.and_eq_true _ _ ▸ h).1
    exact ⟨fun h => h.elim (fun e => .inr ⟨e, this⟩) .inl, fun h => h.elim .inr (fun e => .inl e.1)⟩
  · rw [if_neg h]
    refine ⟨.inl, fun h' => h'.elim id fun ⟨e, hl⟩ => ?_⟩
    have : hasL out x = true := by
      rw [hl, Bool.true_and] at h
      simpa using h
    rw [e]; exact (hasL_iff.1 this).2
theorem cleanFold_mem : ∀ (c out : List Int) {y : Int}, y ∈ c.foldl cleanStep out ↔ y ∈ out ∨ (y ∈ c ∧ isL y = true)
  | [], _, _ => by simp
  | _ :: t, _, y => by
    rw [List.foldl_cons, cleanFold_mem t, cleanStep_mem, List.mem_cons]
    constructor
    · rintro ((h | ⟨rfl, h⟩) | ⟨h, h'⟩)
      · exact .inl h
      · exact .inr ⟨.inl rfl, h⟩
      · exact .inr ⟨.inr h, h'⟩
    · rintro (h | ⟨rfl | h, h'⟩)
      · exact .inl (.inl h)
      · exact .inl (.inr ⟨rfl, h'⟩)
      · exact .inr ⟨h, h'⟩
theorem cleanL_mem {c : List Int} {y : Int} : y ∈ cleanL c ↔ y ∈ c ∧ isL y = true := by unfold cleanL; rw [cleanFold_mem]; simp
theorem cleanStep_nodup {out : List Int} {x : Int} (h : out.Nodup) : (cleanStep out x).Nodup := by
  unfold cleanStep
  by_cases hx : (isL x && !hasL out x) = true
  · rw [if_pos hx]
    refine insL_nodup h fun hm => ?_
    rw [Bool.and_eq_true] at hx
    have := hasL_iff.2 ⟨hx.1, hm⟩
    rw [this] at hx
    simp at hx
  · rw [if_neg hx]; exact h
theorem cleanFold_nodup : ∀ (c out : List Int), out.Nodup → (c.foldl cleanStep out).Nodup
  | [], _, h => h
  | _ :: t, _, h => cleanFold_nodup t _ (cleanStep_nodup h)
theorem cleanL_nodup (c : List Int) : (cleanL c).Nodup := cleanFold_nodup c [] List.nodup_nil
theorem cleanStep_length (out : List Int) (x : Int) : (cleanStep out x).length ≤ out.length + 1 := by
  unfold cleanStep
  split
  · rw [insL_length]; omega
  · omega
theorem ahead_iff {a b : Int} : aheadL a b = true ↔ a.natAbs < b.natAbs ∨ (a.natAbs = b.natAbs ∧ a < b) := by
  unfold aheadL
  simp only [Bool.or_eq_true, Bool.and_eq_true, decide_eq_true_eq]
theorem ahead_asymm {a b : Int} (h : aheadL a b = true) : ¬ aheadL b a = true := by
  rw [ahead_iff] at h ⊢; omega
theorem ahead_irrefl (a : Int) : ¬ aheadL a a = true := by
  rw [ahead_iff]; omega
theorem ahead_trans {a b c : Int} (h : aheadL a b = true) (h' : aheadL b c = true) : aheadL a c = true := by
  rw [ahead_iff] at h h' ⊢; omega
theorem ahead_total {a b : Int} (h : a ≠ b) : aheadL a b = true ∨ aheadL b a = true := by
  rw [ahead_iff, ahead_iff]; omega
theorem rising_ext : ∀ (a b : List Int), a.Pairwise (fun x y => aheadL x y = true) → b.Pairwise (fun x y => aheadL x y = true) → (∀ x, x ∈ a ↔ x ∈ b) → a = b
  | [], [], _, _, _ => rfl
  | [], y :: b, _, _, h => absurd ((h y).2 (by simp)) (by simp)
  | x :: a, [], _, _, h => absurd ((h x).1 (by simp)) (by simp)
  | x :: a, y :: b, ha, hb, h => by
    rw [List.pairwise_cons] at ha hb
    have e : x = y := by
      refine Decidable.byContradiction fun hne => ?_
      have h1 : aheadL y x = true := by
        rcases List.mem_cons.1 ((h x).1 (by simp)) with e | hm
        · exact absurd e hne
        · exact hb.1 x hm
      have h2 : aheadL x y = true := by
        rcases List.mem_cons.1 ((h y).2 (by simp)) with e | hm
        · exact absurd e.symm hne
        · exact ha.1 y hm
      exact ahead_asymm h1 h2
    subst e
    rw [rising_ext a b ha.2 hb.2 (fun z => ?_)]
    constructor
    · intro hz
      rcases List.mem_cons.1 ((h z).1 (by simp [hz])) with e | hm
      · exact absurd (ha.1 z hz) (e ▸ ahead_irrefl z)
      · exact hm
    · intro hz
      rcases List.mem_cons.1 ((h z).2 (by simp [hz])) with e | hm
      · exact absurd (hb.1 z hz) (e ▸ ahead_irrefl z)
      · exact hm
theorem insL_rises {x : Int} : ∀ {out : List Int}, out.Pairwise (fun x y => aheadL x y = true) → ¬ x ∈ out → (insL x out).Pairwise (fun x y => aheadL x y = true)
  | [], _, _ => by unfold insL; simp
  | y :: out, h, hx => by
    rw [List.pairwise_cons] at h
    have hne : y ≠ x := fun e => hx (by simp [e])
    by_cases hy : aheadL y x = true
    · have e : insL x (y :: out) = y :: insL x out := by
        unfold insL
        rw [List.takeWhile_cons_of_pos (p := fun y => aheadL y x) hy, List.dropWhile_cons_of_pos (p := fun y => aheadL y x) hy]; rfl
      rw [e, List.pairwise_cons]
      refine ⟨fun z hz => ?_, insL_rises h.2 (fun hm => hx (by simp [hm]))⟩
      rcases insL_mem.1 hz with rfl | hz
      · exact hy
      · exact h.1 z hz
    · have e : insL x (y :: out) = x :: y :: out := by
        unfold insL
        rw [List.takeWhile_cons_of_neg (p := fun y => aheadL y x) hy, List.dropWhile_cons_of_neg (p := fun y => aheadL y x) hy]; rfl
      have hxy : aheadL x y = true := (ahead_total hne).resolve_left hy
      rw [e, List.pairwise_cons, List.pairwise_cons]
      refine ⟨fun z hz => ?_, h⟩
      rcases List.mem_cons.1 hz with rfl | hz
      · exact hxy
      · exact ahead_trans hxy (h.1 z hz)
theorem cleanStep_rises {out : List Int} {x : Int} (h : out.Pairwise (fun x y => aheadL x y = true)) : (cleanStep out x).Pairwise (fun x y => aheadL x y = true) := by
  unfold cleanStep
  by_cases hc : (isL x && !hasL out x) = true
  · rw [if_pos hc]
    refine insL_rises h fun hm => ?_
    rw [Bool.and_eq_true] at hc
    have := hasL_iff.2 ⟨hc.1, hm⟩
    rw [this] at hc
    simp at hc
  · rw [if_neg hc]; exact h
theorem cleanFold_rises : ∀ (c out : List Int), out.Pairwise (fun x y => aheadL x y = true) → (c.foldl cleanStep out).Pairwise (fun x y => aheadL x y = true)
  | [], _, h => h
  | _ :: t, _, h => cleanFold_rises t _ (cleanStep_rises h)
theorem cleanL_rises (c : List Int) : (cleanL c).Pairwise (fun x y => aheadL x y = true) := cleanFold_rises c [] List.Pairwise.nil
theorem cfL_ahead {a b : Int} (ha : I64 a) (hb : I64 b) (la : isL a = true) (lb : isL b = true) : Go.Proofs.ltOf cfL a b = aheadL a b := by
  have := ha.lo; have := ha.hi; have := hb.lo; have := hb.hi
  have l1 := (zqe la).2
  have l2 := (zqe lb).2
  have e1 : mx a (wrap64 (-a)) = ((a.natAbs : Nat) : Int) := by
    unfold mx wrap64; split <;> omega
  have e2 : mx b (wrap64 (-b)) = ((b.natAbs : Nat) : Int) := by
    unfold mx wrap64; split <;> omega
  unfold Go.Proofs.ltOf
  rw [Bool.eq_iff_iff, decide_eq_true_eq, cfL_lt, e1, e2, ahead_iff]
  omega
theorem compact_mem (xs : List Int) (z : Int) : z ∈ Lib.compact xs ↔ z ∈ xs := by
  unfold Lib.compact Lib.compactUpTo
  rw [List.mem_map]
  constructor
  · rintro ⟨j, hj, rfl⟩
    have hj := List.mem_range.1 (List.mem_filter.1 hj).1
    simp [hj]
  · intro hz
    obtain ⟨i, hi, rfl⟩ := List.getElem_of_mem hz
    have key : ∀ j : Nat, j < xs.length → ∃ a, a ∈ (List.range xs.length).filter (Lib.keeps xs.toArray) ∧ xs.toArray[a]! = xs.toArray[j]! := by
      intro j
      induction j with
      | zero => exact fun h => ⟨0, List.mem_filter.2 ⟨List.mem_range.2 h, Lib.keeps_lt_one _ 0 (by omega)⟩, rfl⟩
      | succ j ih =>
        intro h
        by_cases e : xs.toArray[j + 1]! = xs.toArray[j + 1 - 1]!
        · obtain ⟨a, ha, ea⟩ := ih (by omega)
          exact ⟨a, ha, ea.trans e.symm⟩
        · exact ⟨j + 1, List.mem_filter.2 ⟨List.mem_range.2 h, Lib.keeps_pos e⟩, rfl⟩
    obtain ⟨a, ha, ea⟩ := key i hi
    exact ⟨a, ha, by rw [ea]; simp [hi]⟩
theorem compact_rises (xs : List Int) (h : xs.Pairwise (fun x y => ¬ aheadL y x = true)) : (Lib.compact xs).Pairwise (fun x y => aheadL x y = true) := by
  unfold Lib.compact Lib.compactUpTo
  rw [List.pairwise_map]
  have hs : ∀ i j : Nat, i < j → j < xs.length → ¬ aheadL xs.toArray[j]! xs.toArray[i]! = true := fun i j hij hj => by
    have := List.pairwise_iff_getElem.1 h i j (by omega) hj hij
    simpa [hj, show i < xs.length by omega] using this
  have hr : (List.range xs.length).Pairwise (· < ·) := List.pairwise_lt_range
  refine List.Pairwise.imp_of_mem (R := (· < ·)) (fun {i j} hi hj hij => ?_) (hr.filter _)
  obtain ⟨hj, hk⟩ := List.mem_filter.1 hj
  have hj := List.mem_range.1 hj
  have hk := zqe hk
  have hne : xs.toArray[j]! ≠ xs.toArray[j - 1]! := hk.resolve_left (by omega)
  have h1 : aheadL xs.toArray[j - 1]! xs.toArray[j]! = true := (ahead_total hne).resolve_left (hs (j - 1) j (by omega) hj)
  rcases Nat.lt_or_ge i (j - 1) with h2 | h2
  · by_cases e : xs.toArray[i]! = xs.toArray[j - 1]!
    · rw [e]; exact h1
    · exact ahead_trans ((ahead_total e).resolve_right (hs i (j - 1) h2 (by omega))) h1
  · obtain rfl : i = j - 1 := by omega
    exact h1
theorem lit_Clean_out (c : List Int) (hc : ∀ x ∈ c, I64 x) : lit_Clean.out c = cleanL c := by
  unfold lit_Clean.out
  have ef : (fun l => (lit_is.f l).getD false) = isL := funext fun l => by rw [lit_is_isL]; rfl
  rw [ef]
  have hm : ∀ z, z ∈ (c.filter isL).mergeSort (fun x y => !(Go.Proofs.ltOf cfL) y x) ↔ z ∈ c ∧ isL z = true := fun z => by rw [List.mem_mergeSort, List.mem_filter]
  refine rising_ext _ _ (compact_rises _ ?_) (cleanL_rises c) (fun z => by rw [compact_mem, hm, cleanL_mem])
  have hp := List.pairwise_mergeSort (le := fun x y => !(Go.Proofs.ltOf cfL) y x) (fun a b d h1 h2 => by
    rw [Bool.not_eq_true'] at h1 h2 ⊢
    exact cfL_swo.ntrans _ _ _ h2 h1) (fun a b => by
    rw [Bool.or_eq_true, Bool.not_eq_true', Bool.not_eq_true']
    by_cases h : Go.Proofs.ltOf cfL b a = true
    · refine .inr ?_
      rw [Bool.eq_false_iff]
      intro h'
      have := cfL_swo.trans _ _ _ h h'
      rw [cfL_swo.irrefl] at this; cases this
    · exact .inl (Bool.eq_false_iff.2 h)) (c.filter isL)
  refine hp.imp_of_mem fun {x y} hx hy h => ?_
  rw [hm] at hx hy
  rw [Bool.not_eq_true', cfL_ahead (hc _ hy.1) (hc _ hx.1) hy.2 hx.2] at h
  rw [h]; decide
theorem adjB_iff : ∀ (l : List Int), l.Pairwise (fun x y => aheadL x y = true) → (∀ x ∈ l, I64 x ∧ isL x = true) → (adjB l = true ↔ ∃ x ∈ l, -x ∈ l)
  | [], _, _ => by simp [adjB]
  | [x], _, h => by
    have h1 := zqe (h x (by simp)).2
    simp only [adjB, List.mem_singleton, exists_eq_left]
    constructor
    · intro h; cases h
    · intro h; omega
  | x :: y :: t, hp, h => by
    obtain ⟨hx, hp'⟩ := List.pairwise_cons.1 hp
    have ih := adjB_iff (y :: t) hp' (fun z hz => h z (List.mem_cons_of_mem _ hz))
    obtain ⟨i1, i2⟩ := h x (by simp)
    have j1 := i1.lo; have j2 := i1.hi
    have i3 := zqe i2
    have hw : wrap64 (-x) = -x := w64 (by omega) (by omega)
    rw [adjB, Bool.or_eq_true, ih, beq_iff_eq, hw]
    constructor
    · rintro (h | ⟨z, h1, h2⟩)
      · exact ⟨x, by simp, by simp [h]⟩
      · exact ⟨z, List.mem_cons_of_mem _ h1, List.mem_cons_of_mem _ h2⟩
    · have key : -x ∈ y :: t → y = -x := fun hm => by
        rcases List.mem_cons.1 hm with e | hm
        · exact e.symm
        · have a1 := ahead_iff.1 (hx y (by simp))
          have a2 := ahead_iff.1 ((List.pairwise_cons.1 hp').1 _ hm)
          omega
      rintro ⟨z, h1, h2⟩
      rcases List.mem_cons.1 h1 with rfl | h1
      · rcases List.mem_cons.1 h2 with e | h2
        · omega
        · exact .inl (key h2)
      · rcases List.mem_cons.1 h2 with e | h2
        · have : z = -x := by omega
          exact .inl (key (this ▸ h1))
        · exact .inr ⟨z, h1, h2⟩
theorem oppL_iff {l : List Int} (h : ∀ x ∈ l, I64 x ∧ isL x = true) : oppL l = true ↔ ∃ x ∈ l, -x ∈ l := by
  unfold oppL
  rw [List.any_eq_true]
  constructor
  · rintro ⟨x, h1, h2⟩
    exact ⟨x, h1, (hasL_iff.1 h2).2⟩
  · rintro ⟨x, h1, h2⟩
    exact ⟨x, h1, hasL_iff.2 ⟨(h _ h2).2, h2⟩⟩
theorem cleanL_good {c : List Int} (hc : ∀ x ∈ c, I64 x) : ∀ x ∈ cleanL c, I64 x ∧ isL x = true := fun x hx => by
  rw [cleanL_mem] at hx
  exact ⟨hc x hx.1, hx.2⟩
theorem cleanL_length (c : List Int) : (cleanL c).length ≤ c.length := by
  have : ∀ (c out : List Int), (c.foldl cleanStep out).length ≤ out.length + c.length := by
    intro c
    induction c with
    | nil => intro out; simp
    | cons x t ih =>
      intro out
      rw [List.foldl_cons, List.length_cons]
      have := ih (cleanStep out x); have := cleanStep_length out x
      omega
  have := this c []
  unfold cleanL
  simpa using this
theorem adjB_oppL {c : List Int} (hc : ∀ x ∈ c, I64 x) : adjB (cleanL c) = oppL (cleanL c) := by
  rw [Bool.eq_iff_iff, adjB_iff _ (cleanL_rises c) (cleanL_good hc), oppL_iff (cleanL_good hc)]
theorem lit_Clean_eq (c : List Int) (hc : ∀ x ∈ c, I64 x) (hs : c.length < 17592186044416) : lit_Clean.f c = some (cleanL c, !oppL (cleanL c)) := by
  unfold lit_Clean.f
  rw [lit_Clean_out c hc, adjB_oppL hc, if_pos ⟨hs, cleanL_length c⟩]
def InN (n x : Int) : Prop := x ≠ 0 ∧ -n ≤ x ∧ x ≤ n
structure Fine (E : Eng) : Prop where
  n0 : 0 ≤ E.n ∧ E.n ≤ 1024
  cls : ∀ c ∈ E.cls, ∀ x ∈ c, InN E.n x
  tr : ∀ x ∈ E.tr, InN E.n x
  mks : ∀ x, (E.ms x).isSome = true ↔ x ∈ E.tr
  nd : E.tr.Nodup
  con : ∀ x ∈ E.tr, -x ∉ E.tr
  wt : ∀ x, ∀ i ∈ E.wt x, 0 ≤ i ∧ i.toNat < E.cls.length
def Neg (n : Int) (tv : Int → Bool) : Prop := ∀ x, InN n x → tv (-x) = !tv x
def Sat (tv : Int → Bool) (c : List Int) : Prop := ∃ x ∈ c, tv x = true
def Ok (tv : Int → Bool) (E : Eng) : Prop := (∀ y ∈ E.tr, tv y = true) ∧ E.br < 0
structure Grew (E E' : Eng) : Prop where
  n : E'.n = E.n
  cls : E'.cls = E.cls
  wt : E'.wt = E.wt
  ws : E'.ws = E.ws
  st : E'.st = E.st
  tr : ∃ more, E'.tr = E.tr ++ more
  ok : ∀ tv, Neg E.n tv → (∀ c ∈ E.cls, Sat tv c) → Ok tv E → Ok tv E'
theorem Grew.refl (E : Eng) : Grew E E := ⟨rfl, rfl, rfl, rfl, rfl, ⟨[], by simp⟩, fun _ _ _ h => h⟩
theorem Grew.trans {A B C : Eng} (h : Grew A B) (k : Grew B C) : Grew A C where
  n := k.n.trans h.n
  cls := k.cls.trans h.cls
  wt := k.wt.trans h.wt
  ws := k.ws.trans h.ws
  st := k.st.trans h.st
  tr := by
    obtain ⟨a, ha⟩ := h.tr
    obtain ⟨b, hb⟩ := k.tr
    exact ⟨a ++ b, by rw [hb, ha, List.append_assoc]⟩
  ok tv h1 h2 h3 := k.ok tv (by rw [h.n]; exact h1) (by rw [h.cls]; exact h2) (h.ok tv h1 h2 h3)
theorem InN.neg {n x : Int} (h : InN n x) : InN n (-x) := by unfold InN at *; omega
theorem InN.w {n x : Int} (h : InN n x) (hn : n ≤ 1024) : wrap64 (-x) = -x := by unfold InN at h; unfold wrap64; omega
theorem InN.wf {n x : Int} (h : InN n x) (hn : n ≤ 1024) : (Lit.int .i64 x).wf = true := by
  have a : IntKind.i64.min = -9223372036854775808 := by decide
  have b : IntKind.i64.max = 9223372036854775807 := by decide
  unfold InN at h
  unfold Lit.wf
  rw [Bool.and_eq_true, decide_eq_true_eq, decide_eq_true_eq]
  omega
section
variable {E : Eng}
theorem Fine.lits (h : Fine E) : E.Lits := fun c hc x hx => (h.cls c hc x hx).wf h.n0.2
theorem Fine.short (h : Fine E) : E.tr.length ≤ 2049 := by
  have := nodup_le (L := (List.range 2049).map fun i : Nat => (i : Int) - 1024) h.nd (fun x hx => by
    have h1 := h.tr x hx
    have h2 := h.n0
    unfold InN at h1
    exact List.mem_map.2 ⟨(x + 1024).toNat, List.mem_range.2 (by omega), by omega⟩)
  simpa using this
theorem Fine.val (h : Fine E) {x : Int} (hx : InN E.n x) : E.val x = if x ∈ E.tr then 1 else if -x ∈ E.tr then -1 else 0 := by
  unfold Eng.val
  rw [hx.w h.n0.2]
  by_cases h1 : x ∈ E.tr
  · rw [if_pos ((h.mks x).2 h1), if_pos h1]
  · rw [if_neg (fun e => h1 ((h.mks x).1 e)), if_neg h1]
    by_cases h2 : -x ∈ E.tr
    · rw [if_pos ((h.mks _).2 h2), if_pos h2]
    · rw [if_neg (fun e => h2 ((h.mks _).1 e)), if_neg h2]
theorem scan_some : ∀ (c : List Int) (o o' : Int), (∀ x ∈ c, x ≠ 0) → scanU E c o = some o' → (o ≠ 0 → o' = o) ∧ (∀ x ∈ c, E.val x = -1 ∨ x = o') ∧ (o' = o ∨ o' ∈ c ∧ E.val o' = 0)
  | [], o, o', _, h => by
    injection h with h
    subst h
    exact ⟨fun _ => rfl, fun x hx => by simp at hx, .inl rfl⟩
  | l :: t, o, o', hc, h => by
    have h : (if E.val l > 0 then none else if E.val l = 0 then (if o = 0 then scanU E t l else none) else scanU E t o) = some o' := h
    have ht : ∀ x ∈ t, x ≠ 0 := fun x hx => hc x (List.mem_cons_of_mem _ hx)
    have hl : l ≠ 0 := hc l (by simp)
    rcases E.val_or l with hv | hv | hv
    · rw [hv, if_pos (by decide)] at h; cases h
    · rw [hv, if_neg (by decide), if_pos rfl] at h
      by_cases ho : o = 0
      · rw [if_pos ho] at h
        obtain ⟨i1, i2, i3⟩ := scan_some t l o' ht h
        have e := i1 hl
        subst e
        refine ⟨fun hne => absurd ho hne, fun x hx => ?_, .inr ⟨by simp, hv⟩⟩
        rcases List.mem_cons.1 hx with e | hx
        · exact .inr e
        · exact i2 x hx
      · rw [if_neg ho] at h; cases h
    · rw [hv, if_neg (by decide), if_neg (by decide)] at h
      obtain ⟨i1, i2, i3⟩ := scan_some t o o' ht h
      refine ⟨i1, fun x hx => ?_, ?_⟩
      · rcases List.mem_cons.1 hx with e | hx
        · exact .inl (by rw [e]; exact hv)
        · exact i2 x hx
      · rcases i3 with i3 | i3
        · exact .inl i3
        · exact .inr ⟨List.mem_cons_of_mem _ i3.1, i3.2⟩
theorem Fine.put (h : Fine E) {l : Int} (hl : InN E.n l) (hv : E.val l = 0) (why : Int) : Fine (E.put l why) := by
  have hv2 := h.val hl
  rw [hv] at hv2
  have h1 : l ∉ E.tr := fun e => by rw [if_pos e] at hv2; exact absurd hv2 (by decide)
  have h2 : -l ∉ E.tr := fun e => by rw [if_neg h1, if_pos e] at hv2; exact absurd hv2 (by decide)
  refine ⟨h.n0, h.cls, fun x hx => ?_, fun x => ?_, ?_, fun x hx => ?_, h.wt⟩
  · have hx : x ∈ E.tr ++ [l] := hx
    rcases List.mem_append.1 hx with hx | hx
    · exact h.tr x hx
    · rw [List.mem_singleton.1 hx]; exact hl
  · show (if x = l then some ((E.st.length : Int), why) else E.ms x).isSome = true ↔ x ∈ E.tr ++ [l]
    by_cases e : x = l
    · rw [if_pos e, e]; simp
    · rw [if_neg e, h.mks x]; simp [e]
  · show (E.tr ++ [l]).Nodup
    rw [List.nodup_append]
    exact ⟨h.nd, by simp, fun a ha b hb => by rw [List.mem_singleton.1 hb]; exact fun e => h1 (e ▸ ha)⟩
  · have hx : x ∈ E.tr ++ [l] := hx
    show -x ∉ E.tr ++ [l]
    have h0 : l ≠ 0 := hl.1
    intro hn
    rcases List.mem_append.1 hx with hx | hx <;> rcases List.mem_append.1 hn with hn | hn
    · exact h.con x hx hn
    · have := List.mem_singleton.1 hn
      exact h2 (by rw [← this, Int.neg_neg]; exact hx)
    · rw [List.mem_singleton.1 hx] at hn
      exact h2 hn
    · have e1 := List.mem_singleton.1 hx
      have e2 := List.mem_singleton.1 hn
      omega
theorem Fine.br (h : Fine E) (n : Int) : Fine { E with br := n } := ⟨h.n0, h.cls, h.tr, h.mks, h.nd, h.con, h.wt⟩
theorem Fine.look (h : Fine E) {n : Nat} (hn : n < E.cls.length) : Fine (E.look n) ∧ Grew E (E.look n) := by
  have hc : ∀ x ∈ E.cls.getD n [], InN E.n x := fun x hx => by
    rw [List.getD_eq_getElem?_getD, List.getElem?_eq_getElem hn] at hx
    exact h.cls _ (List.getElem_mem hn) x hx
  have hm : E.cls.getD n [] ∈ E.cls := by
    rw [List.getD_eq_getElem?_getD, List.getElem?_eq_getElem hn]; exact List.getElem_mem hn
  unfold Eng.look
  cases hs : scanU E (E.cls.getD n []) 0 with
  | none => exact ⟨h, Grew.refl E⟩
  | some o =>
    obtain ⟨_, i2, i3⟩ := scan_some _ 0 o (fun x hx => (hc x hx).1) hs
    have hfalse : ∀ tv, Neg E.n tv → Ok tv E → ∀ x, InN E.n x → E.val x = -1 → tv x = false := fun tv hn hok x hx hv => by
      have hv2 := h.val hx
      rw [hv] at hv2
      by_cases e1 : x ∈ E.tr
      · rw [if_pos e1] at hv2; exact absurd hv2 (by decide)
      · rw [if_neg e1] at hv2
        by_cases e2 : -x ∈ E.tr
        · have := hok.1 _ e2
          rw [hn x hx] at this
          simpa using this
        · rw [if_neg e2] at hv2; exact absurd hv2 (by decide)
    show Fine (if o = 0 then { E with br := (n : Int) } else E.put o (n : Int)) ∧ Grew E (if o = 0 then { E with br := (n : Int) } else E.put o (n : Int))
    by_cases ho : o = 0
    · rw [if_pos ho]
      refine ⟨h.br _, ⟨rfl, rfl, rfl, rfl, rfl, ⟨[], by simp⟩, fun tv hneg hall hok => ?_⟩⟩
      obtain ⟨x, hx, ht⟩ := hall _ hm
      rcases i2 x hx with hv | e
      · rw [hfalse tv hneg hok x (hc x hx) hv] at ht; cases ht
      · exact absurd (e.trans ho) (hc x hx).1
    · rw [if_neg ho]
      obtain ⟨hmo, hvo⟩ := i3.resolve_left ho
      refine ⟨h.put (hc o hmo) hvo _, ⟨rfl, rfl, rfl, rfl, rfl, ⟨[o], rfl⟩, fun tv hneg hall hok => ⟨fun y hy => ?_, hok.2⟩⟩⟩
      have hy : y ∈ E.tr ++ [o] := hy
      rcases List.mem_append.1 hy with hy | hy
      · exact hok.1 y hy
      · rw [List.mem_singleton.1 hy]
        obtain ⟨x, hx, ht⟩ := hall _ hm
        rcases i2 x hx with hv | e
        · rw [hfalse tv hneg hok x (hc x hx) hv] at ht; cases ht
        · rw [← e]; exact ht
end
theorem looks_some : ∀ (l : List Int) (E : Eng), Fine E → (∀ i ∈ l, 0 ≤ i ∧ i.toNat < E.cls.length) → ∃ E' b, Eng.looks l E = some (E', b) ∧ Fine E' ∧ Grew E E'
  | [], E, h, _ => ⟨E, false, rfl, h, Grew.refl E⟩
  | n :: t, E, h, hl => by
    show ∃ E' b, (if E.br ≥ 0 then some (E, true) else if 0 ≤ n ∧ n.toNat < E.cls.length ∧ E.tr.length < 4398046511104 then Eng.looks t (E.look n.toNat) else none) = some (E', b) ∧ Fine E' ∧ Grew E E'
    by_cases hb : E.br ≥ 0
    · rw [if_pos hb]
      exact ⟨E, true, rfl, h, Grew.refl E⟩
    · obtain ⟨h1, h2⟩ := hl n (by simp)
      have h3 := h.short
      rw [if_neg hb, if_pos ⟨h1, h2, by omega⟩]
      obtain ⟨g1, g2⟩ := h.look h2
      obtain ⟨E', b, e1, e2, e3⟩ := looks_some t (E.look n.toNat) g1 (fun i hi => by rw [g2.cls]; exact hl i (List.mem_cons_of_mem _ hi))
      exact ⟨E', b, e1, e2, g2.trans e3⟩
theorem follow_tells : ∀ (m i : Nat) (E : Eng), m + i ≥ 2050 → Fine E → ∃ E', Tells (fun k => Eng.follow k E i) E' ∧ Fine E' ∧ Grew E E'
  | m, i, E, hm, h => by
    by_cases hi : i < E.tr.length
    · have hs := h.short
      cases m with
      | zero => omega
      | succ m =>
        obtain ⟨E1, b, e1, e2, e3⟩ := looks_some (E.wt (wrap64 (-(rd E.tr (i : Int))))) E h (h.wt _)
        cases b with
        | true =>
          refine ⟨E1, Tells.succ (h := fun _ => some E1) (fun k => by rw [Eng.follow, if_pos hi, e1]; rfl) (Tells.const _), e2, e3⟩
        | false =>
          obtain ⟨E2, t2, f2, g2⟩ := follow_tells m (i + 1) E1 (by omega) e2
          exact ⟨E2, Tells.succ (fun k => by rw [Eng.follow, if_pos hi, e1]; rfl) t2, f2, e3.trans g2⟩
    · exact ⟨E, Tells.succ (fun k => by rw [Eng.follow, if_neg hi]) (Tells.const _), h, Grew.refl E⟩
theorem scan_eng : ∀ (m n : Nat) (E : Eng), n + m ≤ E.cls.length → Fine E → ∃ E', Eng.scan m n E = some E' ∧ Fine E' ∧ Grew E E'
  | 0, n, E, _, h => ⟨E, rfl, h, Grew.refl E⟩
  | m + 1, n, E, hn, h => by
    show ∃ E', (if E.br < 0 then (if E.tr.length < 4398046511104 then Eng.scan m (n + 1) (E.look n) else none) else some E) = some E' ∧ Fine E' ∧ Grew E E'
    by_cases hb : E.br < 0
    · have h3 := h.short
      rw [if_pos hb, if_pos (by omega)]
      obtain ⟨g1, g2⟩ := h.look (n := n) (by omega)
      obtain ⟨E', e1, e2, e3⟩ := scan_eng m (n + 1) (E.look n) (by rw [g2.cls]; omega) g1
      exact ⟨E', e1, e2, g2.trans e3⟩
    · rw [if_neg hb]
      exact ⟨E, rfl, h, Grew.refl E⟩
theorem settle_tells {E : Eng} (h : Fine E) : ∃ E', Tells (fun k => Eng.settle k E) E' ∧ Fine E' ∧ Grew E E' := by
  obtain ⟨E1, e1, e2, e3⟩ := scan_eng E.cls.length 0 E (by omega) h
  obtain ⟨E2, t2, f2, g2⟩ := follow_tells 2050 E.tr.length E1 (by omega) e2
  refine ⟨E2, ?_, f2, e3.trans g2⟩
  unfold Eng.settle
  rw [e1]
  exact t2
theorem badLit_InN {n l : Int} : badLit n l = false ↔ InN n l := by
  unfold badLit InN
  rw [decide_eq_false_iff_not]
  omega
theorem clauseErr_one (n l : Int) : clauseErr [l] n = 0 ↔ InN n l := by
  rw [← badLit_InN]
  unfold clauseErr
  cases h : badLit n l <;> simp [h]
theorem I64n {E : Eng} (h : Fine E) : I64 E.n := by
  have a : IntKind.i64.min = -9223372036854775808 := by decide
  have b : IntKind.i64.max = 9223372036854775807 := by decide
  have := h.n0
  unfold I64 Lit.wf
  rw [Bool.and_eq_true, decide_eq_true_eq, decide_eq_true_eq]
  omega
def pushed0 (E : Eng) (l : Int) : Eng := ({ E with st := E.st ++ [(E.tr.length : Int)] } : Eng).put l (-1)
theorem push_tells {E : Eng} (h : Fine E) {l : Int} (hl : I64 l) (hst : E.st.length < 2199023255552) : ∃ E' b, Tells (fun k => Eng.push k E l) (E', b) ∧ Fine E' ∧ (b = false → E' = E ∧ (E.br ≥ 0 ∨ ¬ InN E.n l ∨ E.val l ≠ 0)) ∧
    (b = true → InN E.n l ∧ E.br < 0 ∧ E.val l = 0 ∧ Fine (pushed0 E l) ∧ Grew (pushed0 E l) E') := by
  by_cases hb : E.br ≥ 0
  · refine ⟨E, false, ?_, h, fun _ => ⟨rfl, .inl hb⟩, fun e => (by cases e)⟩
    unfold Eng.push
    exact Tells.pos hb (Tells.const _)
  · have hr := lit_Right_tells [l] E.n (fun x hx => by rw [List.mem_singleton.1 hx]; exact hl) (I64n h) (by simp)
    by_cases hi : InN E.n l
    · rw [(clauseErr_one _ _).2 hi] at hr
      by_cases hv : E.val l = 0
      · have hs := h.short
        have hf0 : Fine ({ E with st := E.st ++ [(E.tr.length : Int)] } : Eng) := ⟨h.n0, h.cls, h.tr, h.mks, h.nd, h.con, h.wt⟩
        have hf1 : Fine (pushed0 E l) := hf0.put (l := l) hi hv (-1)
        obtain ⟨E', t', f', g'⟩ := follow_tells 2050 E.tr.length (pushed0 E l) (by omega) hf1
        refine ⟨E', true, ?_, f', fun e => (by cases e), fun _ => ⟨hi, by omega, hv, hf1, g'⟩⟩
        unfold Eng.push
        exact Tells.neg hb (Tells.bind hr (Tells.neg (by decide) (Tells.neg (by simpa using hv) (Tells.pos ⟨by omega, hst⟩ (Tells.bind t' (Tells.const _))))))
      · refine ⟨E, false, ?_, h, fun _ => ⟨rfl, .inr (.inr hv)⟩, fun e => (by cases e)⟩
        unfold Eng.push
        exact Tells.neg hb (Tells.bind hr (Tells.neg (by decide) (Tells.pos hv (Tells.const _))))
    · have hne : clauseErr [l] E.n ≠ 0 := fun e => hi ((clauseErr_one _ _).1 e)
      refine ⟨E, false, ?_, h, fun _ => ⟨rfl, .inr (.inl hi)⟩, fun e => (by cases e)⟩
      unfold Eng.push
      exact Tells.neg hb (Tells.bind hr (Tells.pos hne (Tells.const _)))
theorem Fine.popped {E : Eng} (h : Fine E) (a : Nat) : Fine (E.popped a) := by
  obtain ⟨s1, s2, s3, s4, s5, s6, s7, s8⟩ := E.dels_same (E.tr.drop a)
  have hta : E.tr = E.tr.take a ++ E.tr.drop a := (List.take_append_drop a E.tr).symm
  have hnd := h.nd
  rw [hta, List.nodup_append] at hnd
  refine ⟨?_, ?_, fun x hx => ?_, fun x => ?_, hnd.1, fun x hx => ?_, fun x i hi => ?_⟩
  · show 0 ≤ (E.dels (E.tr.drop a)).n ∧ (E.dels (E.tr.drop a)).n ≤ 1024
    rw [s4]; exact h.n0
  · show ∀ c ∈ (E.dels (E.tr.drop a)).cls, ∀ x ∈ c, InN (E.dels (E.tr.drop a)).n x
    rw [s1, s4]; exact h.cls
  · show InN (E.dels (E.tr.drop a)).n x
    rw [s4]
    exact h.tr x (List.mem_of_mem_take hx)
  · show ((E.dels (E.tr.drop a)).ms x).isSome = true ↔ x ∈ E.tr.take a
    rw [s8]
    by_cases hd : x ∈ E.tr.drop a
    · rw [if_pos hd]
      exact ⟨fun e => (by cases e), fun e => absurd rfl (hnd.2.2 x e x hd)⟩
    · rw [if_neg hd, h.mks x]
      refine ⟨fun e => ?_, fun e => List.mem_of_mem_take e⟩
      rw [hta] at e
      exact (List.mem_append.1 e).resolve_right hd
  · show -x ∉ E.tr.take a
    exact fun e => h.con x (List.mem_of_mem_take hx) (List.mem_of_mem_take e)
  · have hi : i ∈ (E.dels (E.tr.drop a)).wt x := hi
    show 0 ≤ i ∧ i.toNat < (E.dels (E.tr.drop a)).cls.length
    rw [s7] at hi
    rw [s1]
    exact h.wt x i hi
theorem pop_tells {E : Eng} (h : Fine E) (hlev : ∀ a ∈ E.st, 0 ≤ a ∧ a.toNat ≤ E.tr.length) : ∃ E' b, Tells (fun k => Eng.pop k E) (E', b) ∧ Fine E' ∧ (b = false → E' = E ∧ E.st = []) ∧
    (b = true → ∃ ss a, E.st = ss ++ [a] ∧ Grew (E.popped a.toNat) E') := by
  cases hst : E.st.getLast? with
  | none =>
    refine ⟨E, false, Tells.of_eq fun k => ?_, h, fun _ => ⟨rfl, List.getLast?_eq_none_iff.1 hst⟩, fun e => (by cases e)⟩
    unfold Eng.pop
    rw [hst]
  | some a =>
    obtain ⟨ss, hss⟩ := List.getLast?_eq_some_iff.1 hst
    obtain ⟨E', t', f', g'⟩ := settle_tells (h.popped a.toNat)
    refine ⟨E', true, Tells.congr (fun k => ?_) (Tells.bind (h := fun _ E' => some (E', true)) t' (Tells.const _)), f', fun e => (by cases e), fun _ => ⟨ss, a, hss, g'⟩⟩
    unfold Eng.pop
    rw [hst]
    show (if 0 ≤ a ∧ a.toNat ≤ E.tr.length then (Eng.settle k (E.popped a.toNat)).bind fun E' => some (E', true) else none) = _
    rw [if_pos (hlev a (by rw [hss]; simp))]
theorem layW_wt (n : Int) : ∀ (c : List Int) (E : Eng) (y i : Int), i ∈ (E.layW n c).wt y → i ∈ E.wt y ∨ i = n
  | [], E, y, i, h => .inl h
  | x :: c, E, y, i, h => by
    have h : i ∈ ((E.wput n x).layW n c).wt y := h
    rcases layW_wt n c (E.wput n x) y i h with h | h
    · have h : i ∈ (if y = x then E.wt x ++ [n] else E.wt y) := h
      by_cases e : y = x
      · rw [if_pos e] at h
        rcases List.mem_append.1 h with h | h
        · exact .inl (by rw [e]; exact h)
        · exact .inr (List.mem_singleton.1 h)
      · rw [if_neg e] at h
        exact .inl h
    · exact .inr h
theorem Fine.laid {E : Eng} (h : Fine E) {c : List Int} (hc : ∀ x ∈ c, InN E.n x) : Fine (E.laid c) := by
  obtain ⟨l1, l2, l3, l4, l5, l6, l7⟩ := E.laid_same c
  refine ⟨by rw [l5]; exact h.n0, fun d hd x hx => ?_, fun x hx => ?_, fun x => by rw [l6, l2]; exact h.mks x, by rw [l2]; exact h.nd, fun x hx => ?_, fun x i hi => ?_⟩
  · rw [l3] at hd
    rw [l5]
    rcases List.mem_append.1 hd with hd | hd
    · exact h.cls d hd x hx
    · rw [List.mem_singleton.1 hd] at hx
      exact hc x hx
  · rw [l2] at hx
    rw [l5]
    exact h.tr x hx
  · rw [l2] at hx ⊢
    exact h.con x hx
  · have hi : i ∈ (E.layW (E.cls.length : Int) c).wt x := hi
    rw [l3, List.length_append, List.length_singleton]
    rcases layW_wt _ c E x i hi with hi | hi
    · obtain ⟨h1, h2⟩ := h.wt x i hi
      exact ⟨h1, by omega⟩
    · rw [hi]
      exact ⟨by omega, by omega⟩
theorem cleanL_InN {n : Int} {c : List Int} (h : ∀ x ∈ c, InN n x) : ∀ x ∈ cleanL c, InN n x := fun x hx => h x (cleanL_mem.1 hx).1
theorem InN.isL {n x : Int} (h : InN n x) (hn : n ≤ 1024) : isL x = true := by
  unfold InN at h
  unfold Pu.isL
  rw [decide_eq_true_eq]
  omega
theorem lays_some : ∀ (l : List (List Int)) (E : Eng), Fine E → (∀ c ∈ l, (∀ x ∈ c, InN E.n x) ∧ c.length ≤ 64) → E.ws + 64 * l.length < 4398046511104 → E.cls.length + l.length < 5864062014805 →
    ∃ E', Eng.lays l E = some E' ∧ Fine E' ∧ E'.n = E.n ∧ E'.st = E.st ∧ E'.tr = E.tr ∧ E'.br = E.br ∧ E'.cls = E.cls ++ l.map cleanL ∧ E'.ws ≤ E.ws + 64 * l.length
  | [], E, h, _, _, _ => ⟨E, rfl, h, rfl, rfl, rfl, rfl, by simp, by simp⟩
  | c :: l, E, h, hc, hw, hl => by
    obtain ⟨h1, h2⟩ := hc c (by simp)
    obtain ⟨l1, l2, l3, l4, l5, l6, l7⟩ := E.laid_same (cleanL c)
    have hcl := lit_Clean_eq c (fun x hx => (h1 x hx).wf h.n0.2) (by omega)
    have hlen := cleanL_length c
    rw [List.length_cons] at hw hl
    obtain ⟨E', e1, e2, e3, e4, e5, e6, e7, e8⟩ := lays_some l (E.laid (cleanL c)) (h.laid (cleanL_InN h1)) (fun d hd => by rw [l5]; exact hc d (List.mem_cons_of_mem _ hd)) (by rw [l7]; omega) (by rw [l3, List.length_append, List.length_singleton]; omega)
    refine ⟨E', ?_, e2, e3.trans l5, e4.trans l4, e5.trans l2, e6.trans l1, ?_, ?_⟩
    · show ((lit_Clean.f c).bind fun r => if E.ws + r.1.length < 4398046511104 ∧ E.cls.length + 1 < 5864062014805 then Eng.lays l (E.laid r.1) else none) = some E'
      rw [hcl]
      show (if E.ws + (cleanL c).length < 4398046511104 ∧ E.cls.length + 1 < 5864062014805 then Eng.lays l (E.laid (cleanL c)) else none) = some E'
      rw [if_pos ⟨by omega, by omega⟩]
      exact e1
    · rw [e7, l3, List.append_assoc]; rfl
    · rw [l7] at e8
      rw [List.length_cons]
      omega
theorem fresh_fine {n : Int} (h : 0 ≤ n ∧ n ≤ 1024) : Fine (Eng.fresh n) := ⟨h, fun c hc => by simp [Eng.fresh] at hc, fun x hx => by simp [Eng.fresh] at hx, fun x => by simp [Eng.fresh], by simp [Eng.fresh], fun x hx => by simp [Eng.fresh] at hx, fun x i hi => by simp [Eng.fresh] at hi⟩
theorem clauseErr_InN {c : List Int} {n : Int} (h : clauseErr c n = 0) : (∀ x ∈ c, InN n x) ∧ c.length ≤ 64 := by
  unfold clauseErr at h
  by_cases h1 : c.length > 64
  · rw [if_pos h1] at h; exact absurd h (by decide)
  · rw [if_neg h1] at h
    by_cases h2 : c.any (badLit n) = true
    · rw [if_pos h2] at h; exact absurd h (by decide)
    · refine ⟨fun x hx => badLit_InN.1 ?_, by omega⟩
      cases hb : badLit n x with
      | false => rfl
      | true => exact absurd (List.any_eq_true.2 ⟨x, hx, hb⟩) h2
theorem add_tells {E : Eng} (h : Fine E) {c : List Int} (hc : ∀ x ∈ c, I64 x) (hcs : c.length < 17592186044416) (hws : E.ws + 64 < 4398046511104) :
    ∃ E' f, Tells (fun k => Eng.add k E c) (E', f) ∧ Fine E' ∧ (f ≠ 0 → E' = E) ∧ (f = 0 → ((∀ x ∈ c, InN E.n x) ∧ c.length ≤ 64) ∧ E.cls.length < 4096 ∧ Grew (E.laid (cleanL c)) E') := by
  have hr := lit_Right_tells c E.n hc (I64n h) (by omega)
  by_cases h0 : clauseErr c E.n = 0
  · obtain ⟨g1, g2⟩ := clauseErr_InN h0
    by_cases hl : E.cls.length ≥ 4096
    · refine ⟨E, 2, ?_, h, fun _ => rfl, fun e => absurd e (by decide)⟩
      unfold Eng.add
      exact Tells.bind hr (Tells.neg (by simpa using h0) (Tells.pos hl (Tells.const _)))
    · have hlen := cleanL_length c
      have hs := h.short
      have hf := h.laid (cleanL_InN g1)
      have hcl := lit_Clean_eq c hc hcs
      obtain ⟨l1, l2, l3, l4, l5, l6, l7⟩ := E.laid_same (cleanL c)
      by_cases hb : E.br < 0
      · obtain ⟨a1, a2⟩ := hf.look (n := E.cls.length) (by rw [l3]; simp)
        obtain ⟨E', t', f', g'⟩ := follow_tells 2050 E.tr.length _ (by omega) a1
        refine ⟨E', 0, ?_, f', fun e => absurd rfl e, fun _ => ⟨⟨g1, g2⟩, by omega, a2.trans g'⟩⟩
        unfold Eng.add
        refine Tells.bind hr (Tells.neg (by simpa using h0) (Tells.neg hl ?_))
        rw [hcl]
        exact Tells.bind (Tells.const _) (Tells.pos ⟨by show E.ws + (cleanL c).length < _; omega, by omega⟩ (Tells.pos hb (Tells.bind t' (Tells.const _))))
      · refine ⟨E.laid (cleanL c), 0, ?_, hf, fun e => absurd rfl e, fun _ => ⟨⟨g1, g2⟩, by omega, Grew.refl _⟩⟩
        unfold Eng.add
        refine Tells.bind hr (Tells.neg (by simpa using h0) (Tells.neg hl ?_))
        rw [hcl]
        exact Tells.bind (Tells.const _) (Tells.pos ⟨by show E.ws + (cleanL c).length < _; omega, by omega⟩ (Tells.neg hb (Tells.const _)))
  · refine ⟨E, clauseErr c E.n, ?_, h, fun _ => rfl, fun e => absurd e h0⟩
    unfold Eng.add
    exact Tells.bind hr (Tells.pos h0 (Tells.const _))
theorem cnf_Right_loop (l : List (List Int)) (n : Int) (hl : Rows64 l) (hn : I64 n) : ∀ (m i : Nat), m + i = l.length →
    ∃ x, Tells (fun k => cnf_Right.l0 k l (l.length : Int) (i : Int) n l) (x, clausesErr n (l.drop i))
  | 0, i, h => by
    refine ⟨0, Tells.succ (fun k => by rw [cnf_Right.l0]) (Tells.neg (by omega) ?_)⟩
    rw [List.drop_of_length_le (by omega)]; exact Tells.const _
  | m + 1, i, h => by
    have hi : i < l.length := by omega
    have hc := hl.2 _ (List.getElem_mem hi)
    have hR := lit_Right_tells l[i] n hc.2 hn hc.1
    rw [List.drop_eq_getElem_cons hi, clausesErr]
    by_cases hz : clauseErr l[i] n = 0
    · obtain ⟨x, hx⟩ := cnf_Right_loop l n hl hn m (i + 1) (by omega)
      refine ⟨x, Tells.succ (fun k => by rw [cnf_Right.l0]) (Tells.pos (by omega) (Tells.pos (by omega) (Tells.pos (by omega) ?_)))⟩
      rw [rdL_at _ _ hi, w64s hi hl.1]
      refine Tells.bind hR (Tells.pos hz ?_)
      rw [if_pos hz]; exact hx
    · refine ⟨(i : Int), Tells.succ (fun k => by rw [cnf_Right.l0]) (Tells.pos (by omega) (Tells.pos (by omega) (Tells.pos (by omega) ?_)))⟩
      rw [rdL_at _ _ hi]
      refine Tells.bind hR (Tells.neg hz ?_)
      rw [if_neg hz]; exact Tells.const _
theorem cnf_Right_tells (n : Int) (l : List (List Int)) (hl : Rows64 l) (hn : I64 n) : ∃ x, Tells (fun k => cnf_Right.f k n l) (x, setErr n l) := by
  unfold cnf_Right.f setErr
  have stop : ∀ n : Int, Tells (fun k => cnf_Right.j0 k true n l) (-1, 1) := fun n => Tells.succ (fun k => by rw [cnf_Right.j0]) (Tells.pos rfl (Tells.const _))
  by_cases h0 : n < 0
  · rw [if_pos (by omega)]
    exact ⟨_, Tells.pos h0 (stop n)⟩
  by_cases h1 : n > 1024
  · rw [if_pos (by omega)]
    refine ⟨-1, Tells.neg h0 ?_⟩
    rw [zqt h1]; exact stop n
  rw [if_neg (by omega)]
  by_cases h2 : l.length > 4096
  · rw [if_pos h2]
    refine ⟨-1, Tells.neg h0 ?_⟩
    rw [zqu h1]
    exact Tells.succ (fun k => by rw [cnf_Right.j0]) (Tells.neg (by decide) (Tells.pos (by omega) (Tells.const _)))
  · rw [if_neg h2]
    obtain ⟨x, hx⟩ : ∃ x, Tells (fun k => cnf_Right.l0 k l (l.length : Int) 0 n l) (x, clausesErr n l) := cnf_Right_loop l n hl hn l.length 0 rfl
    refine ⟨x, Tells.neg h0 ?_⟩
    rw [zqu h1]
    exact Tells.succ (fun k => by rw [cnf_Right.j0]) (Tells.neg (by decide) (Tells.neg (by omega) hx))
theorem clausesErr_InN {n : Int} : ∀ {l : List (List Int)}, clausesErr n l = 0 → ∀ c ∈ l, (∀ x ∈ c, InN n x) ∧ c.length ≤ 64
  | [], _, c, hc => by simp at hc
  | d :: l, h, c, hc => by
    have h : (if clauseErr d n = 0 then clausesErr n l else clauseErr d n) = 0 := by
      have := h
      unfold clausesErr at this
      first | exact this | (split at this <;> simp_all)
    by_cases hd : clauseErr d n = 0
    · rw [if_pos hd] at h
      rcases List.mem_cons.1 hc with e | hc
      · rw [e]; exact clauseErr_InN hd
      · exact clausesErr_InN h c hc
    · rw [if_neg hd] at h; exact absurd h hd
theorem setErr_InN {n : Int} {l : List (List Int)} (h : setErr n l = 0) : (0 ≤ n ∧ n ≤ 1024) ∧ l.length ≤ 4096 ∧ ∀ c ∈ l, (∀ x ∈ c, InN n x) ∧ c.length ≤ 64 := by
  unfold setErr at h
  by_cases h1 : n < 0 ∨ n > 1024
  · rw [if_pos h1] at h; exact absurd h (by decide)
  · rw [if_neg h1] at h
    by_cases h2 : l.length > 4096
    · rw [if_pos h2] at h; exact absurd h (by decide)
    · rw [if_neg h2] at h
      exact ⟨by omega, by omega, clausesErr_InN h⟩
theorem new_tells {n : Int} {l : List (List Int)} (hn : I64 n) (hl : Rows64 l) (h : setErr n l = 0) : ∃ E0 E, Tells (fun k => Eng.new k n l) (E, 0) ∧ Fine E ∧ E0.n = n ∧ E0.st = [] ∧ E0.tr = [] ∧ E0.br = -1 ∧ E0.cls = l.map cleanL ∧ E0.ws ≤ 64 * l.length ∧ Grew E0 E := by
  obtain ⟨s1, s2, s3⟩ := setErr_InN h
  obtain ⟨x, hx⟩ := cnf_Right_tells n l hl hn
  rw [h] at hx
  obtain ⟨E0, e1, e2, e3, e4, e5, e6, e7, e8⟩ := lays_some l (Eng.fresh n) (fresh_fine s1) s3 (by show 0 + 64 * l.length < _; omega) (by show 0 + l.length < _; omega)
  obtain ⟨E, t', f', g'⟩ := settle_tells e2
  refine ⟨E0, E, ?_, f', e3, e4, e5, e6, by rw [e7]; rfl, by simpa [Eng.fresh] using e8, g'⟩
  unfold Eng.new
  refine Tells.bind hx (Tells.neg (by simp) ?_)
  rw [e1]
  exact Tells.bind (Tells.const _) (Tells.bind t' (Tells.const _))
structure Sound (E : Eng) (all : List (List Int)) (pushed : List Int) : Prop where
  len : E.st.length = pushed.length
  cls : ∀ tv, (∀ c ∈ all, Sat tv c) → ∀ c ∈ E.cls, Sat tv c
  low : ∀ (i : Nat) (a : Int), E.st[i]? = some a → ∀ tv, Neg E.n tv → (∀ c ∈ all, Sat tv c) → (∀ y ∈ pushed.take i, tv y = true) → ∀ y ∈ E.tr.take a.toNat, tv y = true
  top : ∀ tv, Neg E.n tv → (∀ c ∈ all, Sat tv c) → (∀ y ∈ pushed, tv y = true) → Ok tv E
  lev : ∀ a ∈ E.st, 0 ≤ a ∧ a.toNat ≤ E.tr.length
  up : E.st.Pairwise (· ≤ ·)
section
variable {P : Eng → Prop}
theorem looks_keeps (hP : ∀ E n, P E → E.br < 0 → n < E.cls.length → P (E.look n)) : ∀ (l : List Int) (E E' : Eng) (b : Bool), Eng.looks l E = some (E', b) → P E → P E'
  | [], E, E', b, h, p => by
    have h : some (E, false) = some (E', b) := h
    injection h with h
    injection h with h _
    rw [← h]; exact p
  | n :: t, E, E', b, h, p => by
    have h : (if E.br ≥ 0 then some (E, true) else if 0 ≤ n ∧ n.toNat < E.cls.length ∧ E.tr.length < 4398046511104 then Eng.looks t (E.look n.toNat) else none) = some (E', b) := h
    by_cases hb : E.br ≥ 0
    · rw [if_pos hb] at h
      injection h with h
      injection h with h _
      rw [← h]; exact p
    · rw [if_neg hb] at h
      split at h
      · rename_i hc
        exact looks_keeps hP t _ _ _ h (hP E n.toNat p (by omega) hc.2.1)
      · cases h
theorem follow_keeps (hP : ∀ E n, P E → E.br < 0 → n < E.cls.length → P (E.look n)) : ∀ (k : Nat) (E E' : Eng) (i : Nat), Eng.follow k E i = some E' → P E → P E'
  | 0, E, E', i, h, p => by cases h
  | k + 1, E, E', i, h, p => by
    rw [Eng.follow] at h
    split at h
    · obtain ⟨⟨E1, b⟩, h1, h2⟩ := Option.bind_eq_some_iff.mp h
      have p1 := looks_keeps hP _ _ _ _ h1 p
      have h2 : (if b = true then some E1 else Eng.follow k E1 (i + 1)) = some E' := h2
      split at h2
      · injection h2 with h2
        rw [← h2]; exact p1
      · exact follow_keeps hP k _ _ _ h2 p1
    · injection h with h
      rw [← h]; exact p
theorem scan_keeps (hP : ∀ E n, P E → E.br < 0 → n < E.cls.length → P (E.look n)) : ∀ (m n : Nat) (E E' : Eng), n + m ≤ E.cls.length → Eng.scan m n E = some E' → P E → P E'
  | 0, n, E, E', _, h, p => by
    have h : some E = some E' := h
    injection h with h
    rw [← h]; exact p
  | m + 1, n, E, E', hn, h, p => by
    have h : (if E.br < 0 then (if E.tr.length < 4398046511104 then Eng.scan m (n + 1) (E.look n) else none) else some E) = some E' := h
    by_cases hb : E.br < 0
    · rw [if_pos hb] at h
      split at h
      · exact scan_keeps hP m (n + 1) _ _ (by rw [(E.look_cls n).1]; omega) h (hP E n p hb (by omega))
      · cases h
    · rw [if_neg hb] at h
      injection h with h
      rw [← h]; exact p
theorem settle_keeps (hP : ∀ E n, P E → E.br < 0 → n < E.cls.length → P (E.look n)) {k : Nat} {E E' : Eng} (h : Eng.settle k E = some E') (p : P E) : P E' := by
  unfold Eng.settle at h
  obtain ⟨E1, h1, h2⟩ := Option.bind_eq_some_iff.mp h
  exact follow_keeps hP _ _ _ _ h2 (scan_keeps hP _ _ _ _ (by omega) h1 p)
end
theorem push_inv {k : Nat} {E E' : Eng} {l : Int} (h : Eng.push k E l = some (E', true)) : E.br < 0 ∧ E.val l = 0 ∧ Eng.follow k (pushed0 E l) E.tr.length = some E' := by
  unfold Eng.push at h
  by_cases h1 : E.br ≥ 0
  · rw [if_pos h1] at h
    injection h with h
    injection h with _ h
    cases h
  · rw [if_neg h1] at h
    obtain ⟨q, _, h⟩ := Option.bind_eq_some_iff.mp h
    split at h
    · injection h with h
      injection h with _ h
      cases h
    · split at h
      · injection h with h
        injection h with _ h
        cases h
      · rename_i h3
        split at h
        · obtain ⟨z, hz, h⟩ := Option.bind_eq_some_iff.mp h
          injection h with h
          injection h with h _
          rw [← h]
          exact ⟨by omega, Decidable.not_not.1 h3, hz⟩
        · cases h
theorem pop_inv {k : Nat} {E E' : Eng} (h : Eng.pop k E = some (E', true)) : ∃ ss a, E.st = ss ++ [a] ∧ Eng.settle k (E.popped a.toNat) = some E' := by
  unfold Eng.pop at h
  cases hst : E.st.getLast? with
  | none =>
    rw [hst] at h
    injection h with h
    injection h with _ h
    cases h
  | some a =>
    rw [hst] at h
    obtain ⟨ss, hss⟩ := List.getLast?_eq_some_iff.1 hst
    have h : (if 0 ≤ a ∧ a.toNat ≤ E.tr.length then (Eng.settle k (E.popped a.toNat)).bind fun E' => some (E', true) else none) = some (E', true) := h
    split at h
    · obtain ⟨z, hz, h⟩ := Option.bind_eq_some_iff.mp h
      injection h with h
      injection h with h _
      rw [← h]
      exact ⟨ss, a, hss, hz⟩
    · cases h
theorem add_inv {k : Nat} {E E' : Eng} {c : List Int} (hc : ∀ x ∈ c, I64 x) (hcs : c.length < 17592186044416) (h : Eng.add k E c = some (E', 0)) :
    (E.br < 0 → Eng.follow k ((E.laid (cleanL c)).look E.cls.length) E.tr.length = some E') ∧ (E.br ≥ 0 → E' = E.laid (cleanL c)) := by
  unfold Eng.add at h
  obtain ⟨q, _, h⟩ := Option.bind_eq_some_iff.mp h
  split at h
  · rename_i h1
    injection h with h
    injection h with _ h
    exact absurd h h1
  · split at h
    · injection h with h
      injection h with _ h
      exact absurd h (by decide)
    · rw [lit_Clean_eq c hc hcs] at h
      obtain ⟨r, hr, h⟩ := Option.bind_eq_some_iff.mp h
      injection hr with hr
      rw [← hr] at h
      split at h
      · split at h
        · rename_i hb
          obtain ⟨z, hz, h⟩ := Option.bind_eq_some_iff.mp h
          injection h with h
          injection h with h _
          rw [← h]
          exact ⟨fun _ => hz, fun h => by omega⟩
        · rename_i hb
          injection h with h
          injection h with h _
          exact ⟨fun h => absurd h hb, fun _ => h.symm⟩
      · cases h
def Quiet (E : Eng) (c : List Int) : Prop := scanU E c 0 = none
theorem scan_none {E : Eng} : ∀ (c : List Int) (o : Int), (∀ x ∈ c, x ≠ 0) → (scanU E c o = none ↔ (∃ x ∈ c, E.val x > 0) ∨ 2 ≤ (c.filter fun x => decide (E.val x = 0)).length + (if o = 0 then 0 else 1))
  | [], o, _ => by
    refine ⟨fun h => (by cases h), fun h => ?_⟩
    rcases h with ⟨x, hx, _⟩ | h
    · cases hx
    · simp at h
      split at h <;> omega
  | l :: t, o, hc => by
    have ht : ∀ x ∈ t, x ≠ 0 := fun x hx => hc x (List.mem_cons_of_mem _ hx)
    have hl : l ≠ 0 := hc l (by simp)
    show (if E.val l > 0 then none else if E.val l = 0 then (if o = 0 then scanU E t l else none) else scanU E t o) = none ↔ _
    rcases E.val_or l with hv | hv | hv
    · rw [hv, if_pos (by decide)]
      exact ⟨fun _ => .inl ⟨l, by simp, by rw [hv]; decide⟩, fun _ => rfl⟩
    · rw [hv, if_neg (by decide), if_pos rfl, List.filter_cons_of_pos (by simpa using hv), List.length_cons]
      have ex : (∃ x ∈ l :: t, E.val x > 0) ↔ ∃ x ∈ t, E.val x > 0 := by
        refine ⟨fun ⟨x, hx, h⟩ => ?_, fun ⟨x, hx, h⟩ => ⟨x, List.mem_cons_of_mem _ hx, h⟩⟩
        rcases List.mem_cons.1 hx with e | hx
        · rw [e, hv] at h; exact absurd h (by decide)
        · exact ⟨x, hx, h⟩
      rw [ex]
      by_cases ho : o = 0
      · rw [if_pos ho, if_pos ho, scan_none t l ht, if_neg hl]
      · rw [if_neg ho, if_neg ho]
        exact ⟨fun _ => .inr (by omega), fun _ => rfl⟩
    · rw [hv, if_neg (by decide), if_neg (by decide), List.filter_cons_of_neg (by rw [hv]; decide)]
      have ex : (∃ x ∈ l :: t, E.val x > 0) ↔ ∃ x ∈ t, E.val x > 0 := by
        refine ⟨fun ⟨x, hx, h⟩ => ?_, fun ⟨x, hx, h⟩ => ⟨x, List.mem_cons_of_mem _ hx, h⟩⟩
        rcases List.mem_cons.1 hx with e | hx
        · rw [e, hv] at h; exact absurd h (by decide)
        · exact ⟨x, hx, h⟩
      rw [ex]
      exact scan_none t o ht
theorem quiet_iff {E : Eng} {c : List Int} (hc : ∀ x ∈ c, x ≠ 0) : Quiet E c ↔ (∃ x ∈ c, E.val x > 0) ∨ 2 ≤ (c.filter fun x => decide (E.val x = 0)).length := by
  unfold Quiet
  rw [scan_none c 0 hc, if_pos rfl, Nat.add_zero]
theorem quiet_congr {E E' : Eng} {c : List Int} (h : ∀ x ∈ c, E'.val x = E.val x) : ∀ o, scanU E' c o = scanU E c o := by
  induction c with
  | nil => exact fun _ => rfl
  | cons l t ih =>
    intro o
    have ih := ih (fun x hx => h x (List.mem_cons_of_mem _ hx))
    show (if E'.val l > 0 then none else if E'.val l = 0 then (if o = 0 then scanU E' t l else none) else scanU E' t o) = (if E.val l > 0 then none else if E.val l = 0 then (if o = 0 then scanU E t l else none) else scanU E t o)
    rw [h l (by simp), ih, ih]
section
variable {E : Eng}
theorem Fine.val_put (h : Fine E) {l : Int} (hl : InN E.n l) (hv : E.val l = 0) (why : Int) {x : Int} (hx : InN E.n x) : (E.put l why).val x = if x = l then 1 else if x = -l then -1 else E.val x := by
  have hp := h.put hl hv why
  rw [hp.val hx, h.val hx]
  show (if x ∈ E.tr ++ [l] then (1 : Int) else if -x ∈ E.tr ++ [l] then -1 else 0) = _
  have hv2 := h.val hl
  rw [hv] at hv2
  have h1 : l ∉ E.tr := fun e => by rw [if_pos e] at hv2; exact absurd hv2 (by decide)
  have h2 : -l ∉ E.tr := fun e => by rw [if_neg h1, if_pos e] at hv2; exact absurd hv2 (by decide)
  have h0 : l ≠ 0 := hl.1
  simp only [List.mem_append, List.mem_singleton]
  by_cases e1 : x = l
  · rw [if_pos (.inr e1), if_pos e1]
  · rw [if_neg e1]
    by_cases e2 : x = -l
    · rw [if_pos e2, if_neg (fun h => h.elim (fun h => h2 (e2 ▸ h)) e1), if_pos (.inr (by omega))]
    · rw [if_neg e2]
      have n1 : ¬ (-x = l) := fun e => e2 (by omega)
      by_cases e3 : x ∈ E.tr
      · rw [if_pos (.inl e3), if_pos e3]
      · rw [if_neg (fun h => h.elim e3 e1), if_neg e3]
        by_cases e4 : -x ∈ E.tr
        · rw [if_pos (.inl e4), if_pos e4]
        · rw [if_neg (fun h => h.elim e4 n1), if_neg e4]
theorem Fine.quiet_put (h : Fine E) {l : Int} (hl : InN E.n l) (hv : E.val l = 0) (why : Int) {c : List Int} (hc : ∀ x ∈ c, InN E.n x) (hq : Quiet E c) (hn : -l ∉ c) : Quiet (E.put l why) c := by
  have h0 : ∀ x ∈ c, x ≠ 0 := fun x hx => (hc x hx).1
  rw [quiet_iff h0] at hq ⊢
  by_cases hlc : l ∈ c
  · exact .inl ⟨l, hlc, by rw [h.val_put hl hv why hl, if_pos rfl]; decide⟩
  · have same : ∀ x ∈ c, (E.put l why).val x = E.val x := fun x hx => by
      rw [h.val_put hl hv why (hc x hx), if_neg (fun e : x = l => hlc (e ▸ hx)), if_neg (fun e : x = -l => hn (e ▸ hx))]
    rcases hq with ⟨x, hx, hp⟩ | hq
    · exact .inl ⟨x, hx, by rw [same x hx]; exact hp⟩
    · refine .inr ?_
      have : (c.filter fun x => decide ((E.put l why).val x = 0)) = c.filter fun x => decide (E.val x = 0) := List.filter_congr fun x hx => by rw [same x hx]
      rw [this]; exact hq
theorem Fine.put_quiet (h : Fine E) {l : Int} (hl : InN E.n l) (hv : E.val l = 0) (why : Int) {c : List Int} (hc : ∀ x ∈ c, InN E.n x) (hlc : l ∈ c) : Quiet (E.put l why) c := by
  rw [quiet_iff (fun x hx => (hc x hx).1)]
  exact .inl ⟨l, hlc, by rw [h.val_put hl hv why hl, if_pos rfl]; decide⟩
end
def Wts (E : Eng) : Prop := ∀ (j : Nat) (c : List Int), E.cls[j]? = some c → ∀ x ∈ c, (j : Int) ∈ E.wt x
def Pend (E : Eng) (m : Nat) (R : Nat → Prop) : Prop := ∀ (j : Nat) (c : List Int), E.cls[j]? = some c → ¬ Quiet E c → (∃ x ∈ c, -x ∈ E.tr.drop m) ∨ R j
def Still (E : Eng) : Prop := ∀ c ∈ E.cls, Quiet E c
theorem Pend.look {E : Eng} (h : Fine E) {m : Nat} (hm : m ≤ E.tr.length) {R : Nat → Prop} {n : Nat} (hn : n < E.cls.length) (hp : Pend E m R) (hb : (E.look n).br < 0) : Pend (E.look n) m (fun j => R j ∧ j ≠ n) := by
  have hcn : E.cls[n]? = some (E.cls.getD n []) := by rw [List.getD_eq_getElem?_getD, List.getElem?_eq_getElem hn]; rfl
  have hin : ∀ {c : List Int} {j : Nat}, E.cls[j]? = some c → ∀ x ∈ c, InN E.n x := fun hj x hx => h.cls _ (List.mem_of_getElem? hj) x hx
  unfold Eng.look at hb ⊢
  cases hs : scanU E (E.cls.getD n []) 0 with
  | none =>
    intro j c hj hq
    rcases hp j c hj hq with h1 | h1
    · exact .inl h1
    · refine .inr ⟨h1, fun e => hq ?_⟩
      rw [e, hcn] at hj
      injection hj with hj
      rw [← hj]; exact hs
  | some o =>
    rw [hs] at hb
    have hb : (if o = 0 then { E with br := (n : Int) } else E.put o (n : Int)).br < 0 := hb
    show Pend (if o = 0 then { E with br := (n : Int) } else E.put o (n : Int)) m (fun j => R j ∧ j ≠ n)
    obtain ⟨_, i2, i3⟩ := scan_some _ 0 o (fun x hx => (hin hcn x hx).1) hs
    by_cases ho : o = 0
    · rw [if_pos ho] at hb
      exact absurd hb (by show ¬ ((n : Int) < 0); omega)
    · rw [if_neg ho]
      obtain ⟨hmo, hvo⟩ := i3.resolve_left ho
      have hio := hin hcn o hmo
      intro j c hj hq
      have hj : E.cls[j]? = some c := hj
      by_cases hq0 : Quiet E c
      · refine .inl ⟨-o, ?_, ?_⟩
        · exact Classical.byContradiction fun hno => hq (h.quiet_put hio hvo _ (hin hj) hq0 hno)
        · show -(-o) ∈ (E.tr ++ [o]).drop m
          rw [Int.neg_neg, List.drop_append_of_le_length hm]
          simp
      · rcases hp j c hj hq0 with ⟨x, hx, hd⟩ | h1
        · refine .inl ⟨x, hx, ?_⟩
          show -x ∈ (E.tr ++ [o]).drop m
          rw [List.drop_append_of_le_length hm]
          exact List.mem_append_left _ hd
        · refine .inr ⟨h1, fun e => hq ?_⟩
          rw [e, hcn] at hj
          injection hj with hj
          rw [← hj]
          exact h.put_quiet hio hvo _ (hin hcn) hmo
theorem Grew.len {E E' : Eng} (g : Grew E E') : E.tr.length ≤ E'.tr.length := by
  obtain ⟨more, e⟩ := g.tr
  rw [e, List.length_append]; omega
theorem looks_pend {m : Nat} : ∀ (l : List Int) (E E' : Eng) (b : Bool), Eng.looks l E = some (E', b) → Fine E → m ≤ E.tr.length → (∀ i ∈ l, 0 ≤ i ∧ i.toNat < E.cls.length) → (E.br < 0 → Pend E m (fun j => (j : Int) ∈ l)) → E'.br < 0 → Pend E' m (fun _ => False) ∧ b = false
  | [], E, E', b, h, f, hm, _, hp, hb => by
    have h : some (E, false) = some (E', b) := h
    injection h with h
    injection h with h1 h2
    subst h1
    refine ⟨fun j c hj hq => ?_, h2.symm⟩
    rcases hp hb j c hj hq with h | h
    · exact .inl h
    · cases h
  | n :: t, E, E', b, h, f, hm, hl, hp, hb => by
    have h : (if E.br ≥ 0 then some (E, true) else if 0 ≤ n ∧ n.toNat < E.cls.length ∧ E.tr.length < 4398046511104 then Eng.looks t (E.look n.toNat) else none) = some (E', b) := h
    by_cases hbr : E.br ≥ 0
    · rw [if_pos hbr] at h
      injection h with h
      injection h with h1 h2
      subst h1
      omega
    · rw [if_neg hbr] at h
      obtain ⟨n0, n1⟩ := hl n (by simp)
      split at h
      · obtain ⟨g1, g2⟩ := f.look n1
        refine looks_pend t _ _ _ h g1 (Nat.le_trans hm g2.len) (fun i hi => by rw [g2.cls]; exact hl i (List.mem_cons_of_mem _ hi)) (fun hb1 => ?_) hb
        intro j c hj hq
        rcases Pend.look f hm n1 (hp (by omega)) hb1 j c hj hq with h | ⟨h, hne⟩
        · exact .inl h
        · rcases List.mem_cons.1 h with e | h
          · exact absurd (by omega) hne
          · exact .inr h
      · cases h
theorem follow_still : ∀ (k : Nat) (E E' : Eng) (i : Nat), Eng.follow k E i = some E' → Fine E → Wts E → (E.br < 0 → Pend E i (fun _ => False)) → E'.br < 0 → Still E'
  | 0, E, E', i, h, _, _, _, _ => by cases h
  | k + 1, E, E', i, h, f, hw, hp, hb => by
    rw [Eng.follow] at h
    split at h
    · rename_i hi
      obtain ⟨⟨E1, b⟩, h1, h2⟩ := Option.bind_eq_some_iff.mp h
      obtain ⟨y, hy⟩ : ∃ y, E.tr[i] = y := ⟨_, rfl⟩
      have hrd : rd E.tr (i : Int) = y := by simp [rd, hi, hy]
      have hin := f.tr y (by rw [← hy]; exact List.getElem_mem hi)
      rw [hrd, hin.w f.n0.2] at h1
      have hlk := looks_pend (m := i + 1) _ _ _ _ h1 f (by omega) (f.wt _) (fun hbr j c hj hq => by
        rcases hp hbr j c hj hq with ⟨x, hx, hd⟩ | h
        · rw [List.drop_eq_getElem_cons hi, hy] at hd
          rcases List.mem_cons.1 hd with e | hd
          · refine .inr ?_
            have : x = -y := by omega
            rw [← this]
            exact hw j c hj x hx
          · exact .inl ⟨x, hx, hd⟩
        · cases h)
      obtain ⟨E1', b', e1, e2, e3⟩ := looks_some (E.wt (-y)) E f (f.wt _)
      rw [h1] at e1
      injection e1 with e1
      injection e1 with e1 _
      subst e1
      have h2 : (if b = true then some E1 else Eng.follow k E1 (i + 1)) = some E' := h2
      split at h2
      · rename_i hbt
        injection h2 with h2
        subst h2
        rw [(hlk hb).2] at hbt
        cases hbt
      · exact follow_still k E1 E' (i + 1) h2 e2 (by unfold Wts; rw [e3.cls, e3.wt]; exact hw) (fun hb1 => (hlk hb1).1) hb
    · rename_i hi
      injection h with h
      subst h
      intro c hc
      obtain ⟨j, hj⟩ := List.mem_iff_getElem?.1 hc
      refine Classical.byContradiction fun hq => ?_
      rcases hp hb j c hj hq with ⟨x, _, hd⟩ | h
      · rw [List.drop_of_length_le (by omega)] at hd
        cases hd
      · exact h
theorem scan_pend {f0 : Nat} : ∀ (m n : Nat) (E E' : Eng), n + m = E.cls.length → Eng.scan m n E = some E' → Fine E → f0 ≤ E.tr.length → (E.br < 0 → Pend E f0 (fun j => n ≤ j)) → E'.br < 0 → Pend E' f0 (fun _ => False)
  | 0, n, E, E', hn, h, f, hf, hp, hb => by
    have h : some E = some E' := h
    injection h with h
    subst h
    intro j c hj hq
    rcases hp hb j c hj hq with h | h
    · exact .inl h
    · have := (List.getElem?_eq_some_iff.1 hj).1
      omega
  | m + 1, n, E, E', hn, h, f, hf, hp, hb => by
    have h : (if E.br < 0 then (if E.tr.length < 4398046511104 then Eng.scan m (n + 1) (E.look n) else none) else some E) = some E' := h
    by_cases hbr : E.br < 0
    · rw [if_pos hbr] at h
      split at h
      · obtain ⟨g1, g2⟩ := f.look (n := n) (by omega)
        refine scan_pend m (n + 1) _ _ (by rw [g2.cls]; omega) h g1 (Nat.le_trans hf g2.len) (fun hb1 => ?_) hb
        intro j c hj hq
        rcases Pend.look f hf (by omega) (hp hbr) hb1 j c hj hq with h | ⟨h, hne⟩
        · exact .inl h
        · exact .inr (by omega)
      · cases h
    · rw [if_neg hbr] at h
      injection h with h
      subst h
      omega
theorem settle_still {k : Nat} {E E' : Eng} (h : Eng.settle k E = some E') (f : Fine E) (hw : Wts E) (hb : E'.br < 0) : Still E' := by
  unfold Eng.settle at h
  obtain ⟨E1, h1, h2⟩ := Option.bind_eq_some_iff.mp h
  obtain ⟨E1', e1, e2, e3⟩ := scan_eng E.cls.length 0 E (by omega) f
  rw [h1] at e1
  injection e1 with e1
  subst e1
  exact follow_still k E1 E' E.tr.length h2 e2 (by unfold Wts; rw [e3.cls, e3.wt]; exact hw)
    (fun hb1 => scan_pend E.cls.length 0 E E1 (by omega) h1 f (zqx _) (fun _ j c _ _ => .inr (Nat.zero_le _)) hb1) hb
def cnt (st : List Int) (i : Nat) : Int := ((st.filter fun a => decide (a ≤ (i : Int))).length : Nat)
def Forced (cls : List (List Int)) (before : List Int) (x why : Int) : Prop := 0 ≤ why ∧ why.toNat < cls.length ∧ x ∈ cls.getD why.toNat [] ∧ ∀ y ∈ cls.getD why.toNat [], y ≠ x → -y ∈ before
def Just (E : Eng) : Prop := ∀ (i : Nat) (x : Int), E.tr[i]? = some x → ∃ why, E.ms x = some (cnt E.st i, why) ∧ ((i : Int) ∈ E.st → why = -1) ∧ ((i : Int) ∉ E.st → Forced E.cls (E.tr.take i) x why)
def Breaks (E : Eng) : Prop := (E.br < 0 → E.br = -1) ∧ (0 ≤ E.br → E.br.toNat < E.cls.length ∧ ∀ y ∈ E.cls.getD E.br.toNat [], -y ∈ E.tr)
structure Base (E : Eng) : Prop where
  fine : Fine E
  wts : Wts E
  inc : E.st.Pairwise (· < ·)
  low : ∀ a ∈ E.st, 0 ≤ a ∧ a.toNat < E.tr.length
  just : Just E
  brk : Breaks E
structure Well (E : Eng) : Prop extends Base E where
  still : E.br < 0 → Still E
theorem getD_at {α : Type} {l : List α} {n : Nat} {d : α} (h : n < l.length) : l[n]? = some (l.getD n d) := by
  rw [List.getD_eq_getElem?_getD, List.getElem?_eq_getElem h]; rfl
theorem getD_mem {α : Type} {l : List α} {n : Nat} {d : α} (h : n < l.length) : l.getD n d ∈ l := List.mem_of_getElem? (getD_at h)
section
variable {E : Eng}
theorem Fine.false_iff (h : Fine E) {x : Int} (hx : InN E.n x) (hv : E.val x = -1) : -x ∈ E.tr := by
  have hv2 := h.val hx
  rw [hv] at hv2
  by_cases e1 : x ∈ E.tr
  · rw [if_pos e1] at hv2; exact absurd hv2 (by decide)
  · rw [if_neg e1] at hv2
    by_cases e2 : -x ∈ E.tr
    · exact e2
    · rw [if_neg e2] at hv2; exact absurd hv2 (by decide)
theorem Fine.open_iff (h : Fine E) {x : Int} (hx : InN E.n x) (hv : E.val x = 0) : x ∉ E.tr ∧ -x ∉ E.tr := by
  have hv2 := h.val hx
  rw [hv] at hv2
  by_cases e1 : x ∈ E.tr
  · rw [if_pos e1] at hv2; exact absurd hv2 (by decide)
  · rw [if_neg e1] at hv2
    refine ⟨e1, fun e2 => ?_⟩
    rw [if_pos e2] at hv2; exact absurd hv2 (by decide)
theorem cnt_all {st : List Int} {i : Nat} (h : ∀ a ∈ st, a ≤ (i : Int)) : cnt st i = (st.length : Nat) := by
  unfold cnt
  rw [List.filter_eq_self.2 (fun a ha => zqt (h a ha))]
theorem Base.put (h : Base E) {l why : Int} (hl : InN E.n l) (hv : E.val l = 0) (hf : Forced E.cls E.tr l why) : Base (E.put l why) := by
  have ho := h.fine.open_iff hl hv
  refine ⟨h.fine.put hl hv why, h.wts, h.inc, fun a ha => ?_, fun i x hi => ?_, ⟨h.brk.1, fun hb => ?_⟩⟩
  · have := h.low a ha
    show 0 ≤ a ∧ a.toNat < (E.tr ++ [l]).length
    rw [List.length_append, List.length_singleton]
    omega
  · have hi2 : (E.tr ++ [l])[i]? = some x := hi
    clear hi
    show ∃ w, (if x = l then some ((E.st.length : Int), why) else E.ms x) = some (cnt E.st i, w) ∧ ((i : Int) ∈ E.st → w = -1) ∧ ((i : Int) ∉ E.st → Forced E.cls ((E.tr ++ [l]).take i) x w)
    rw [List.getElem?_append] at hi2
    by_cases hlt : i < E.tr.length
    · rw [if_pos hlt] at hi2
      have hne : x ≠ l := fun e => ho.1 (e ▸ List.mem_of_getElem? hi2)
      rw [if_neg hne, List.take_append_of_le_length (by omega)]
      exact h.just i x hi2
    · rw [if_neg hlt] at hi2
      have h0 : i - E.tr.length = 0 := by have := (List.getElem?_eq_some_iff.1 hi2).1; simp at this; omega
      rw [h0] at hi2
      simp at hi2
      have e : i = E.tr.length := by omega
      subst e
      rw [if_pos hi2.symm]
      refine ⟨why, ?_, fun hm => ?_, fun _ => ?_⟩
      · rw [cnt_all (fun a ha => by have := h.low a ha; omega)]
      · have := h.low _ hm
        omega
      · rw [List.take_append_of_le_length (zqx _), List.take_length, ← hi2]
        exact hf
  · have := h.brk.2 hb
    refine ⟨this.1, fun y hy => ?_⟩
    show -y ∈ E.tr ++ [l]
    exact List.mem_append_left _ (this.2 y hy)
theorem Base.look (h : Base E) {n : Nat} (hn : n < E.cls.length) : Base (E.look n) := by
  have hcn := getD_at (d := ([] : List Int)) hn
  have hin : ∀ x ∈ E.cls.getD n [], InN E.n x := fun x hx => h.fine.cls _ (getD_mem hn) x hx
  unfold Eng.look
  cases hs : scanU E (E.cls.getD n []) 0 with
  | none => exact h
  | some o =>
    obtain ⟨_, i2, i3⟩ := scan_some _ 0 o (fun x hx => (hin x hx).1) hs
    show Base (if o = 0 then { E with br := (n : Int) } else E.put o (n : Int))
    by_cases ho : o = 0
    · rw [if_pos ho]
      refine ⟨h.fine.br _, h.wts, h.inc, h.low, h.just, ⟨fun hb => absurd hb (by show ¬ ((n : Int) < 0); omega), fun _ => ⟨?_, fun y hy => ?_⟩⟩⟩
      · show ((n : Int)).toNat < E.cls.length
        rw [Int.toNat_natCast]; exact hn
      · have hy : y ∈ E.cls.getD ((n : Int)).toNat [] := hy
        rw [Int.toNat_natCast] at hy
        show -y ∈ E.tr
        rcases i2 y hy with hv | e
        · exact h.fine.false_iff (hin y hy) hv
        · exact absurd (e.trans ho) (hin y hy).1
    · rw [if_neg ho]
      obtain ⟨hmo, hvo⟩ := i3.resolve_left ho
      refine h.put (hin o hmo) hvo ⟨by omega, by rw [Int.toNat_natCast]; exact hn, by rw [Int.toNat_natCast]; exact hmo, fun y hy hne => ?_⟩
      rw [Int.toNat_natCast] at hy
      rcases i2 y hy with hv | e
      · exact h.fine.false_iff (hin y hy) hv
      · exact absurd e hne
theorem base_looks : ∀ E n, Base E → E.br < 0 → n < E.cls.length → Base (E.look n) := fun _ _ h _ hn => h.look hn
theorem Base.pushed (h : Base E) {l : Int} (hl : InN E.n l) (hv : E.val l = 0) : Base (pushed0 E l) := by
  have ho := h.fine.open_iff hl hv
  have hf0 : Fine ({ E with st := E.st ++ [(E.tr.length : Int)] } : Eng) := ⟨h.fine.n0, h.fine.cls, h.fine.tr, h.fine.mks, h.fine.nd, h.fine.con, h.fine.wt⟩
  refine ⟨hf0.put (l := l) hl hv (-1), h.wts, ?_, fun a ha => ?_, fun i x hi => ?_, ⟨h.brk.1, fun hb => ?_⟩⟩
  · show (E.st ++ [(E.tr.length : Int)]).Pairwise (· < ·)
    rw [List.pairwise_append]
    exact ⟨h.inc, by simp, fun a ha b hb => by rw [List.mem_singleton.1 hb]; have := h.low a ha; omega⟩
  · have ha : a ∈ E.st ++ [(E.tr.length : Int)] := ha
    show 0 ≤ a ∧ a.toNat < (E.tr ++ [l]).length
    rw [List.length_append, List.length_singleton]
    rcases List.mem_append.1 ha with ha | ha
    · have := h.low a ha; omega
    · rw [List.mem_singleton.1 ha]; omega
  · have hi2 : (E.tr ++ [l])[i]? = some x := hi
    clear hi
    show ∃ w, (if x = l then some (((E.st ++ [(E.tr.length : Int)]).length : Int), (-1 : Int)) else E.ms x) = some (cnt (E.st ++ [(E.tr.length : Int)]) i, w) ∧ ((i : Int) ∈ E.st ++ [(E.tr.length : Int)] → w = -1) ∧ ((i : Int) ∉ E.st ++ [(E.tr.length : Int)] → Forced E.cls ((E.tr ++ [l]).take i) x w)
    rw [List.getElem?_append] at hi2
    by_cases hlt : i < E.tr.length
    · rw [if_pos hlt] at hi2
      have hne : x ≠ l := fun e => ho.1 (e ▸ List.mem_of_getElem? hi2)
      rw [if_neg hne, List.take_append_of_le_length (by omega)]
      obtain ⟨w, w1, w2, w3⟩ := h.just i x hi2
      have hc : cnt (E.st ++ [(E.tr.length : Int)]) i = cnt E.st i := by
        unfold cnt
        rw [List.filter_append, List.filter_cons_of_neg (by rw [decide_eq_true_eq]; omega), List.filter_nil, List.append_nil]
      have hm : (i : Int) ∈ E.st ++ [(E.tr.length : Int)] ↔ (i : Int) ∈ E.st := by
        rw [List.mem_append, List.mem_singleton]
        exact ⟨fun h => h.resolve_right (by omega), .inl⟩
      rw [hc, hm]
      exact ⟨w, w1, w2, w3⟩
    · rw [if_neg hlt] at hi2
      have h0 : i - E.tr.length = 0 := by have := (List.getElem?_eq_some_iff.1 hi2).1; simp at this; omega
      rw [h0] at hi2
      simp at hi2
      have e : i = E.tr.length := by omega
      subst e
      rw [if_pos hi2.symm]
      refine ⟨-1, ?_, fun _ => rfl, fun hm => absurd (by simp) hm⟩
      rw [cnt_all (fun a ha => by
        rcases List.mem_append.1 ha with ha | ha
        · have := h.low a ha; omega
        · rw [List.mem_singleton.1 ha]; omega)]
  · have := h.brk.2 hb
    refine ⟨this.1, fun y hy => ?_⟩
    show -y ∈ E.tr ++ [l]
    exact List.mem_append_left _ (this.2 y hy)
theorem getD_left {α : Type} {l m : List α} {n : Nat} {d : α} (h : n < l.length) : (l ++ m).getD n d = l.getD n d := by
  rw [List.getD_eq_getElem?_getD, List.getD_eq_getElem?_getD, List.getElem?_append_left h]
theorem Forced.more {cls more : List (List Int)} {b : List Int} {x why : Int} (h : Forced cls b x why) : Forced (cls ++ more) b x why := by
  obtain ⟨h1, h2, h3, h4⟩ := h
  refine ⟨h1, by rw [List.length_append]; omega, ?_, ?_⟩
  · rw [getD_left h2]; exact h3
  · rw [getD_left h2]; exact h4
theorem layW_up (n : Int) : ∀ (c : List Int) (E : Eng) (y i : Int), i ∈ E.wt y ∨ y ∈ c ∧ i = n → i ∈ (E.layW n c).wt y
  | [], E, y, i, h => h.elim id (fun h => by cases h.1)
  | x :: c, E, y, i, h => by
    show i ∈ ((E.wput n x).layW n c).wt y
    refine layW_up n c (E.wput n x) y i ?_
    show i ∈ (if y = x then E.wt x ++ [n] else E.wt y) ∨ _
    by_cases e : y = x
    · rw [if_pos e]
      rcases h with h | ⟨_, h⟩
      · exact .inl (List.mem_append_left _ (e ▸ h))
      · exact .inl (by rw [h]; simp)
    · rw [if_neg e]
      rcases h with h | ⟨h, h2⟩
      · exact .inl h
      · rcases List.mem_cons.1 h with h | h
        · exact absurd h e
        · exact .inr ⟨h, h2⟩
theorem Base.laid (h : Base E) {c : List Int} (hc : ∀ x ∈ c, InN E.n x) : Base (E.laid c) := by
  obtain ⟨l1, l2, l3, l4, l5, l6, l7⟩ := E.laid_same c
  refine ⟨h.fine.laid hc, fun j d hj x hx => ?_, by rw [l4]; exact h.inc, by rw [l4, l2]; exact h.low, fun i x hi => ?_, ⟨by rw [l1]; exact h.brk.1, fun hb => ?_⟩⟩
  · rw [l3] at hj
    show (j : Int) ∈ (E.layW (E.cls.length : Int) c).wt x
    refine layW_up _ c E x _ ?_
    rw [List.getElem?_append] at hj
    by_cases hlt : j < E.cls.length
    · rw [if_pos hlt] at hj
      exact .inl (h.wts j d hj x hx)
    · rw [if_neg hlt] at hj
      have h0 : j - E.cls.length = 0 := by have := (List.getElem?_eq_some_iff.1 hj).1; simp at this; omega
      rw [h0] at hj
      simp at hj
      exact .inr ⟨by rw [hj]; exact hx, by omega⟩
  · rw [l2] at hi
    rw [l6, l4, l3, l2]
    obtain ⟨w, w1, w2, w3⟩ := h.just i x hi
    exact ⟨w, w1, w2, fun hm => (w3 hm).more⟩
  · rw [l1] at hb ⊢
    obtain ⟨b1, b2⟩ := h.brk.2 hb
    rw [l3, l2]
    refine ⟨by rw [List.length_append]; omega, ?_⟩
    rw [getD_left b1]; exact b2
theorem Base.popped (h : Base E) {ss : List Int} {a : Int} (hs : E.st = ss ++ [a]) : Base (E.popped a.toNat) := by
  obtain ⟨s1, s2, s3, s4, s5, s6, s7, s8⟩ := E.dels_same (E.tr.drop a.toNat)
  have hst : (E.popped a.toNat).st = ss := by show E.st.dropLast = ss; rw [hs, List.dropLast_concat]
  have hcl : (E.popped a.toNat).cls = E.cls := s1
  have htr : (E.popped a.toNat).tr = E.tr.take a.toNat := rfl
  have hms : ∀ x, (E.popped a.toNat).ms x = if x ∈ E.tr.drop a.toNat then none else E.ms x := s8
  have hlow := h.low a (by rw [hs]; simp)
  have hinc := h.inc
  rw [hs, List.pairwise_append] at hinc
  have hss : ∀ b ∈ ss, 0 ≤ b ∧ b < a := fun b hb => ⟨(h.low b (by rw [hs]; simp [hb])).1, hinc.2.2 b hb a (by simp)⟩
  refine ⟨h.fine.popped _, fun j c hj x hx => ?_, by rw [hst]; exact hinc.1, fun b hb => ?_, fun i x hi => ?_, ⟨fun _ => rfl, fun hb => absurd hb (by show ¬ ((0 : Int) ≤ -1); decide)⟩⟩
  · rw [hcl] at hj
    show (j : Int) ∈ (E.dels (E.tr.drop a.toNat)).wt x
    rw [s7]
    exact h.wts j c hj x hx
  · rw [hst] at hb
    have := hss b hb
    rw [htr, zqr]
    omega
  · rw [htr, List.getElem?_take] at hi
    split at hi
    · rename_i hia
      have hnd := h.fine.nd
      rw [← List.take_append_drop a.toNat E.tr, List.nodup_append] at hnd
      have hx : x ∈ E.tr.take a.toNat := List.mem_of_getElem? (by rw [List.getElem?_take, if_pos hia]; exact hi)
      obtain ⟨w, w1, w2, w3⟩ := h.just i x hi
      have hc : cnt E.st i = cnt ss i := by
        unfold cnt
        rw [hs, List.filter_append, List.filter_cons_of_neg (by rw [decide_eq_true_eq]; omega), List.filter_nil, List.append_nil]
      have hm : (i : Int) ∈ E.st ↔ (i : Int) ∈ ss := by
        rw [hs, List.mem_append, List.mem_singleton]
        exact ⟨fun h => h.resolve_right (by omega), .inl⟩
      rw [hms, if_neg (fun hd => hnd.2.2 x hx x hd rfl), hst, hcl, htr, List.take_take, Nat.min_eq_left (by omega), ← hc, ← hm]
      exact ⟨w, w1, w2, w3⟩
    · cases hi
end
theorem base_fresh {n : Int} (h : 0 ≤ n ∧ n ≤ 1024) : Base (Eng.fresh n) := ⟨fresh_fine h, fun j c hj => by simp [Eng.fresh] at hj, by simp [Eng.fresh], fun a ha => by simp [Eng.fresh] at ha, fun i x hi => by simp [Eng.fresh] at hi, ⟨fun _ => rfl, fun hb => absurd hb (by show ¬ ((0 : Int) ≤ -1); decide)⟩⟩
theorem lays_base : ∀ (l : List (List Int)) (E E' : Eng), Eng.lays l E = some E' → Base E → (∀ c ∈ l, (∀ x ∈ c, InN E.n x) ∧ c.length ≤ 64) → Base E'
  | [], E, E', h, b, _ => by
    have h : some E = some E' := h
    injection h with h
    rw [← h]; exact b
  | c :: l, E, E', h, b, hc => by
    obtain ⟨h1, h2⟩ := hc c (by simp)
    have h : ((lit_Clean.f c).bind fun r => if E.ws + r.1.length < 4398046511104 ∧ E.cls.length + 1 < 5864062014805 then Eng.lays l (E.laid r.1) else none) = some E' := h
    rw [lit_Clean_eq c (fun x hx => (h1 x hx).wf b.fine.n0.2) (by omega)] at h
    obtain ⟨r, hr, h⟩ := Option.bind_eq_some_iff.mp h
    injection hr with hr
    rw [← hr] at h
    split at h
    · exact lays_base l _ _ h (b.laid (cleanL_InN h1)) (fun d hd => by rw [(E.laid_same _).2.2.2.2.1]; exact hc d (List.mem_cons_of_mem _ hd))
    · cases h
theorem well_new {k : Nat} {n : Int} {l : List (List Int)} {E : Eng} (hs : setErr n l = 0) (hcr : ∀ r, cnf_Right.f k n l = some r → r.2 = 0) (h : Eng.new k n l = some (E, 0)) : Well E := by
  obtain ⟨s1, s2, s3⟩ := setErr_InN hs
  unfold Eng.new at h
  obtain ⟨r, hr, h⟩ := Option.bind_eq_some_iff.mp h
  rw [if_neg (by rw [hcr r hr]; decide)] at h
  obtain ⟨E0, h0, h⟩ := Option.bind_eq_some_iff.mp h
  obtain ⟨E1, h1, h⟩ := Option.bind_eq_some_iff.mp h
  injection h with h
  injection h with h _
  subst h
  have b0 := lays_base l _ _ h0 (base_fresh s1) s3
  exact ⟨settle_keeps base_looks h1 b0, fun hb => settle_still h1 b0.fine b0.wts hb⟩
theorem pend_pushed {E : Eng} (h : Well E) (hb : E.br < 0) {l : Int} (hl : InN E.n l) (hv : E.val l = 0) : Pend (pushed0 E l) E.tr.length (fun _ => False) := fun j c hj hq => by
  have hj : E.cls[j]? = some c := hj
  have hc : ∀ x ∈ c, InN E.n x := fun x hx => h.fine.cls _ (List.mem_of_getElem? hj) x hx
  have hf0 : Fine ({ E with st := E.st ++ [(E.tr.length : Int)] } : Eng) := ⟨h.fine.n0, h.fine.cls, h.fine.tr, h.fine.mks, h.fine.nd, h.fine.con, h.fine.wt⟩
  have hq0 : Quiet ({ E with st := E.st ++ [(E.tr.length : Int)] } : Eng) c := by
    have h1 := h.still hb c (List.mem_of_getElem? hj)
    unfold Quiet at h1 ⊢
    exact (quiet_congr (E := E) (E' := ({ E with st := E.st ++ [(E.tr.length : Int)] } : Eng)) (fun _ _ => rfl) 0).trans h1
  refine .inl ⟨-l, Classical.byContradiction fun hno => hq (hf0.quiet_put (l := l) hl hv (-1) hc hq0 hno), ?_⟩
  show -(-l) ∈ (E.tr ++ [l]).drop E.tr.length
  rw [Int.neg_neg]
  simp
theorem well_push {k : Nat} {E E' : Eng} {l : Int} (h : Well E) (hl : InN E.n l) (hp : Eng.push k E l = some (E', true)) : Well E' := by
  obtain ⟨p1, p2, p3⟩ := push_inv hp
  have b := h.toBase.pushed hl p2
  exact ⟨follow_keeps base_looks _ _ _ _ p3 b, fun hb => follow_still _ _ _ _ p3 b.fine b.wts (fun _ => pend_pushed h p1 hl p2) hb⟩
theorem well_pop {k : Nat} {E E' : Eng} (h : Well E) (hp : Eng.pop k E = some (E', true)) : Well E' := by
  obtain ⟨ss, a, p1, p2⟩ := pop_inv hp
  have b := h.toBase.popped p1
  exact ⟨settle_keeps base_looks p2 b, fun hb => settle_still p2 b.fine b.wts hb⟩
theorem well_add {k : Nat} {E E' : Eng} {c : List Int} (h : Well E) (hc : ∀ x ∈ c, InN E.n x) (hcl : c.length ≤ 64) (ha : Eng.add k E c = some (E', 0)) : Well E' := by
  obtain ⟨a1, a2⟩ := add_inv (fun x hx => (hc x hx).wf h.fine.n0.2) (by omega) ha
  have b := h.toBase.laid (cleanL_InN hc)
  obtain ⟨l1, l2, l3, l4, l5, l6, l7⟩ := E.laid_same (cleanL c)
  have hn : E.cls.length < (E.laid (cleanL c)).cls.length := by rw [l3, List.length_append, List.length_singleton]; omega
  by_cases hb : E.br < 0
  · have a1 := a1 hb
    have b1 := b.look hn
    obtain ⟨g1, g2⟩ := b.fine.look hn
    refine ⟨follow_keeps base_looks _ _ _ _ a1 b1, fun hb2 => follow_still _ _ _ _ a1 b1.fine b1.wts (fun hb1 => ?_) hb2⟩
    have hp := Pend.look b.fine (m := E.tr.length) (by rw [l2]; exact zqx _) (R := fun j => j = E.cls.length) hn (fun j d hj hq => by
      rw [l3, List.getElem?_append] at hj
      by_cases hlt : j < E.cls.length
      · rw [if_pos hlt] at hj
        refine absurd ?_ hq
        have h1 := h.still hb d (List.mem_of_getElem? hj)
        unfold Quiet at h1 ⊢
        exact (quiet_congr (fun x _ => by unfold Eng.val; rw [l6]) 0).trans h1
      · have := (List.getElem?_eq_some_iff.1 (by rw [if_neg hlt] at hj; exact hj)).1
        simp at this
        exact .inr (by omega)) hb1
    intro j d hj hq
    rcases hp j d hj hq with h | ⟨h, hne⟩
    · exact .inl h
    · exact absurd h hne
  · rw [a2 (by omega)]
    exact ⟨b, fun hb2 => by rw [l1] at hb2; exact absurd hb2 hb⟩
theorem InN.var {n x : Int} (h : InN n x) (hn : n ≤ 1024) : 0 < vbl x ∧ vbl x ≤ n ∧ (vbl x = x ∨ vbl x = -x) := by
  unfold P.vbl mx
  rw [h.w hn]
  unfold InN at h
  split <;> omega
theorem InN.var_neg {n x : Int} (h : InN n x) (hn : n ≤ 1024) : vbl (-x) = vbl x := by
  have h1 := h.var hn
  have h2 := h.neg.var hn
  omega
theorem InN.var_eq {n x y : Int} (h : InN n x) (k : InN n y) (hn : n ≤ 1024) : vbl x = vbl y ↔ x = y ∨ x = -y := by
  have h1 := h.var hn
  have h2 := k.var hn
  omega
section
variable {E : Eng}
theorem Fine.mark_on (h : Fine E) {x : Int} (hx : x ∈ E.tr) : E.markV (vbl x) = E.ms x := by
  have hi := h.tr x hx
  obtain ⟨h1, h2, h3⟩ := hi.var h.n0.2
  unfold Eng.markV
  rw [if_neg (by omega)]
  have hs := (h.mks x).2 hx
  rcases h3 with e | e
  · rw [e, if_pos hs]
  · rw [e, if_neg (fun e2 => h.con x hx ((h.mks _).1 e2)), hi.neg.w h.n0.2, Int.neg_neg]
theorem Fine.mark_off (h : Fine E) {x : Int} (hi : InN E.n x) (h1 : x ∉ E.tr) (h2 : -x ∉ E.tr) : E.markV (vbl x) = none := by
  obtain ⟨k1, k2, k3⟩ := hi.var h.n0.2
  have m1 : E.ms x = none := by
    cases hm : E.ms x with
    | none => rfl
    | some q => exact absurd ((h.mks x).1 (by rw [hm]; rfl)) h1
  have m2 : E.ms (-x) = none := by
    cases hm : E.ms (-x) with
    | none => rfl
    | some q => exact absurd ((h.mks (-x)).1 (by rw [hm]; rfl)) h2
  unfold Eng.markV
  rw [if_neg (by omega)]
  rcases k3 with e | e
  · rw [e, m1, hi.w h.n0.2, m2]; rfl
  · rw [e, m2, hi.neg.w h.n0.2, Int.neg_neg, m1]; rfl
theorem Fine.level_off (h : Fine E) {x : Int} (hi : InN E.n x) (h1 : x ∉ E.tr) (h2 : -x ∉ E.tr) : E.level (vbl x) = -1 := by
  unfold Eng.level
  rw [h.mark_off hi h1 h2]
theorem Base.on (h : Base E) {i : Nat} {x : Int} (hx : E.tr[i]? = some x) : E.level (vbl x) = cnt E.st i ∧ ((i : Int) ∈ E.st → E.why (vbl x) = -1) ∧ ((i : Int) ∉ E.st → Forced E.cls (E.tr.take i) x (E.why (vbl x))) := by
  obtain ⟨why, h1, h2, h3⟩ := h.just i x hx
  have hm := h.fine.mark_on (List.mem_of_getElem? hx)
  rw [h1] at hm
  unfold Eng.level Eng.why
  rw [hm]
  exact ⟨rfl, h2, h3⟩
theorem cnt_nonneg (st : List Int) (i : Nat) : 0 ≤ cnt st i := by unfold cnt; omega
theorem Base.level_ge (h : Base E) {x : Int} (hi : InN E.n x) : 0 ≤ E.level (vbl x) ↔ (x ∈ E.tr ∨ -x ∈ E.tr) := by
  constructor
  · intro hl
    by_cases h1 : x ∈ E.tr
    · exact .inl h1
    · by_cases h2 : -x ∈ E.tr
      · exact .inr h2
      · rw [h.fine.level_off hi h1 h2] at hl; omega
  · rintro (h1 | h1)
    · obtain ⟨i, hi1⟩ := List.mem_iff_getElem?.1 h1
      rw [(h.on hi1).1]; exact cnt_nonneg _ _
    · obtain ⟨i, hi1⟩ := List.mem_iff_getElem?.1 h1
      rw [← hi.var_neg h.fine.n0.2, (h.on hi1).1]; exact cnt_nonneg _ _
end
structure LI (E : Eng) (s : List Int × List Int) : Prop where
  nd : s.1.Nodup
  ran : ∀ v ∈ s.1, 0 < v ∧ v ≤ E.n
  len : s.2.length ≤ s.1.length
  on : ∀ v ∈ s.1, 0 ≤ E.level v
  out : ∀ y ∈ s.2, ∃ v ∈ s.1, E.why v < 0 ∧ (y = v ∨ y = -v)
  dec : ∀ v ∈ s.1, E.why v < 0 → v ∈ s.2 ∨ -v ∈ s.2
structure Cl (E : Eng) (all : List (List Int)) (s s' : List Int × List Int) : Prop where
  up : ∀ v ∈ s.1, v ∈ s'.1
  up2 : ∀ v ∈ s.2, v ∈ s'.2
  shut : ∀ v ∈ s'.1, v ∈ s.1 ∨ E.why v < 0 ∨ 0 ≤ E.why v ∧ ∀ x ∈ all.getD (E.why v).toNat [], vbl x ∈ s'.1
theorem Cl.refl (E : Eng) (all : List (List Int)) (s : List Int × List Int) : Cl E all s s := ⟨fun _ h => h, fun _ h => h, fun _ h => .inl h⟩
theorem Cl.trans {E : Eng} {all : List (List Int)} {s s' s2 : List Int × List Int} (h : Cl E all s s') (k : Cl E all s' s2) : Cl E all s s2 := ⟨fun v hv => k.up v (h.up v hv), fun v hv => k.up2 v (h.up2 v hv), fun v hv => by
  rcases k.shut v hv with e | e
  · rcases h.shut v e with e | e | ⟨e1, e2⟩
    · exact .inl e
    · exact .inr (.inl e)
    · exact .inr (.inr ⟨e1, fun x hx => k.up _ (e2 x hx)⟩)
  · exact .inr e⟩
def Here (E : Eng) (j : Nat) (s : List Int × List Int) (x : Int) : Prop := E.level (vbl x) < 0 ∨ vbl x ∈ s.1 ∨ ∃ (j' : Nat) (y : Int), j' < j ∧ E.tr[j']? = some y ∧ vbl y = vbl x
theorem Here.up {E : Eng} {all : List (List Int)} {j : Nat} {s s' : List Int × List Int} {x : Int} (h : Here E j s x) (c : Cl E all s s') : Here E j s' x := by
  rcases h with h | h | h
  · exact .inl h
  · exact .inr (.inl (c.up _ h))
  · exact .inr (.inr h)
theorem LI.short {E : Eng} (hf : Fine E) {s : List Int × List Int} (h : LI E s) : s.1.length ≤ 1024 := by
  have := nodup_le (L := (List.range 1024).map fun i : Nat => (i : Int) + 1) h.nd (fun v hv => by
    have h1 := h.ran v hv
    have h2 := hf.n0
    exact List.mem_map.2 ⟨(v - 1).toNat, List.mem_range.2 (by omega), by omega⟩)
  simpa using this
theorem fold_tells {E : Eng} {all : List (List Int)} {m j : Nat} (H : ∀ (s : List Int × List Int) (l : Int), InN E.n l → LI E s → Here E j s l → ∃ s', lookP E all m s l = some s' ∧ LI E s' ∧ Cl E all s s' ∧ (0 ≤ E.level (vbl l) → vbl l ∈ s'.1)) :
    ∀ (c : List Int) (s : List Int × List Int), LI E s → (∀ x ∈ c, InN E.n x ∧ Here E j s x) → ∃ s', foldO (fun s x => lookP E all m s x) c s = some s' ∧ LI E s' ∧ Cl E all s s' ∧ ∀ x ∈ c, 0 ≤ E.level (vbl x) → vbl x ∈ s'.1
  | [], s, h, _ => ⟨s, rfl, h, Cl.refl _ _ _, fun x hx => by simp at hx⟩
  | x :: c, s, h, hc => by
    obtain ⟨s1, e1, i1, c1, g1⟩ := H s x (hc x (by simp)).1 h (hc x (by simp)).2
    obtain ⟨s2, e2, i2, c2, g2⟩ := fold_tells H c s1 i1 (fun y hy => ⟨(hc y (by simp [hy])).1, (hc y (by simp [hy])).2.up c1⟩)
    refine ⟨s2, ?_, i2, c1.trans c2, fun y hy hl => ?_⟩
    · show (lookP E all m s x).bind (foldO _ c) = some s2
      rw [e1]; exact e2
    · rcases List.mem_cons.1 hy with e | hy
      · rw [e] at hl ⊢; exact c2.up _ (g1 hl)
      · exact g2 y hy hl
theorem look_tells {E : Eng} {all : List (List Int)} (h : Base E) (hall : E.cls = all.map cleanL) (hlit : ∀ c ∈ all, ∀ x ∈ c, InN E.n x) :
    ∀ (m j : Nat), j < m → ∀ (s : List Int × List Int) (l : Int), InN E.n l → LI E s → Here E j s l → ∃ s', lookP E all m s l = some s' ∧ LI E s' ∧ Cl E all s s' ∧ (0 ≤ E.level (vbl l) → vbl l ∈ s'.1)
  | 0, j, hj, _, _, _, _, _ => absurd hj (Nat.not_lt_zero _)
  | m + 1, j, hj, s, l, hl, hI, hh => by
    unfold lookP
    by_cases h1 : vbl l ∈ s.1 ∨ E.level (vbl l) < 0
    · rw [if_pos h1]
      exact ⟨s, rfl, hI, Cl.refl _ _ _, fun hlev => h1.resolve_right (by omega)⟩
    · rw [if_neg h1]
      have h1a : vbl l ∉ s.1 := fun e => h1 (.inl e)
      have h1b : ¬ E.level (vbl l) < 0 := fun e => h1 (.inr e)
      obtain ⟨i, x, hij, hx, hv⟩ := (hh.resolve_left h1b).resolve_left h1a
      have hsh := hI.short h.fine
      have hlen := hI.len
      rw [if_pos ⟨by omega, by omega⟩]
      obtain ⟨o1, o2, o3⟩ := h.on hx
      rw [hv] at o1 o2 o3
      have hw := hl.w h.fine.n0.2
      obtain ⟨v1, v2, v3⟩ := hl.var h.fine.n0.2
      have hLI : E.why (vbl l) ≥ 0 → LI E (vbl l :: s.1, s.2) := fun hw0 => ⟨List.nodup_cons.2 ⟨h1a, hI.nd⟩, fun v hv => by
          rcases List.mem_cons.1 hv with e | hv
          · rw [e]; exact ⟨v1, v2⟩
          · exact hI.ran v hv, by show s.2.length ≤ (vbl l :: s.1).length; rw [List.length_cons]; omega, fun v hv => by
          rcases List.mem_cons.1 hv with e | hv
          · rw [e]; omega
          · exact hI.on v hv, fun y hy => by
          obtain ⟨v, hv, k⟩ := hI.out y hy
          exact ⟨v, List.mem_cons_of_mem _ hv, k⟩, fun v hv hw => by
          rcases List.mem_cons.1 hv with e | hv
          · rw [e] at hw; omega
          · exact hI.dec v hv hw⟩
      by_cases hst : (i : Int) ∈ E.st
      · have hwhy := o2 hst
        rw [if_pos (by omega)]
        refine ⟨_, rfl, ⟨List.nodup_cons.2 ⟨h1a, hI.nd⟩, fun v hv => ?_, ?_, fun v hv => ?_, fun y hy => ?_, fun v hv hw2 => ?_⟩, ⟨fun v hv => List.mem_cons_of_mem _ hv, fun v hv => List.mem_append_left _ hv, fun v hv => ?_⟩, fun _ => List.mem_cons_self ..⟩
        · rcases List.mem_cons.1 hv with e | hv
          · rw [e]; exact ⟨v1, v2⟩
          · exact hI.ran v hv
        · show (s.2 ++ [_]).length ≤ (vbl l :: s.1).length
          rw [List.length_append, List.length_singleton]; show _ ≤ s.1.length + 1; omega
        · rcases List.mem_cons.1 hv with e | hv
          · rw [e]; omega
          · exact hI.on v hv
        · rcases List.mem_append.1 hy with hy | hy
          · obtain ⟨v, hv, k⟩ := hI.out y hy
            exact ⟨v, List.mem_cons_of_mem _ hv, k⟩
          · rw [List.mem_singleton.1 hy, hw]
            exact ⟨vbl l, List.mem_cons_self .., by omega, by omega⟩
        · rcases List.mem_cons.1 hv with e | hv
          · rw [e, hw]
            rcases v3 with e3 | e3
            · exact .inr (by rw [e3]; simp)
            · exact .inl (by rw [e3]; simp)
          · exact (hI.dec v hv hw2).imp (fun e => List.mem_append_left _ e) (fun e => List.mem_append_left _ e)
        · rcases List.mem_cons.1 hv with e | hv
          · exact .inr (.inl (by rw [e]; omega))
          · exact .inl hv
      · obtain ⟨f1, f2, f3, f4⟩ := o3 hst
        rw [if_neg (by omega)]
        have hlen2 : E.cls.length = all.length := by rw [hall, List.length_map]
        rw [if_pos (by omega)]
        have hmem : all.getD (E.why (vbl l)).toNat [] ∈ all := getD_mem (by omega)
        have hcl : E.cls.getD (E.why (vbl l)).toNat [] = cleanL (all.getD (E.why (vbl l)).toNat []) := by
          rw [hall, List.getD_eq_getElem?_getD, List.getElem?_map, List.getD_eq_getElem?_getD, List.getElem?_eq_getElem (by omega)]
          rfl
        obtain ⟨s', e1, e2, e3, e4⟩ := fold_tells (m := m) (j := i) (all := all) (fun s l a b c => look_tells h hall hlit m i (by omega) s l a b c) (all.getD (E.why (vbl l)).toNat []) (vbl l :: s.1, s.2) (hLI f1) (fun y hy => by
          have hyn := hlit _ hmem y hy
          refine ⟨hyn, ?_⟩
          have hyc : y ∈ E.cls.getD (E.why (vbl l)).toNat [] := by rw [hcl]; exact cleanL_mem.2 ⟨hy, hyn.isL h.fine.n0.2⟩
          by_cases hyx : y = x
          · exact .inr (.inl (by rw [hyx, hv]; exact List.mem_cons_self ..))
          · have hb := f4 y hyc hyx
            obtain ⟨j', hj'⟩ := List.mem_iff_getElem?.1 hb
            have hlt : j' < i := by
              have := (List.getElem?_eq_some_iff.1 hj').1
              rw [zqr] at this
              omega
            rw [List.getElem?_take_of_lt hlt] at hj'
            exact .inr (.inr ⟨j', -y, hlt, hj', hyn.var_neg h.fine.n0.2⟩))
        refine ⟨s', e1, e2, ⟨fun v hv => e3.up v (List.mem_cons_of_mem _ hv), fun v hv => e3.up2 v hv, fun v hv => ?_⟩, fun _ => e3.up _ (List.mem_cons_self ..)⟩
        rcases e3.shut v hv with k | k
        · rcases List.mem_cons.1 k with k | k
          · refine .inr (.inr ⟨by rw [k]; exact f1, fun y hy => ?_⟩)
            rw [k] at hy
            have hyn := hlit _ hmem y hy
            refine e4 y hy ((h.level_ge hyn).2 ?_)
            have hyc : y ∈ E.cls.getD (E.why (vbl l)).toNat [] := by rw [hcl]; exact cleanL_mem.2 ⟨hy, hyn.isL h.fine.n0.2⟩
            by_cases hyx : y = x
            · exact .inl (by rw [hyx]; exact List.mem_of_getElem? hx)
            · exact .inr (List.mem_of_mem_take (f4 y hyc hyx))
          · exact .inl k
        · exact .inr k
theorem foldO_mono {σ : Type} {f g : σ → Int → Option σ} (h : ∀ s x r, f s x = some r → g s x = some r) : ∀ (l : List Int) (s r : σ), foldO f l s = some r → foldO g l s = some r
  | [], _, _, e => e
  | x :: l, s, r, e => by
    obtain ⟨s1, e1, e2⟩ := Option.bind_eq_some_iff.1 (show (f s x).bind (foldO f l) = some r from e)
    show (g s x).bind (foldO g l) = some r
    rw [h s x s1 e1]
    exact foldO_mono h l s1 r e2
theorem lookP_mono (E : Eng) (all : List (List Int)) : ∀ (m : Nat) (s : List Int × List Int) (l : Int) (r : List Int × List Int), lookP E all m s l = some r → lookP E all (m + 1) s l = some r
  | 0, s, l, r, h => by simp [lookP] at h
  | m + 1, s, l, r, h => by
    unfold lookP at h ⊢
    split at h
    · rename_i h1; rw [if_pos h1]; exact h
    · rename_i h1; rw [if_neg h1]
      split at h
      · rename_i h2; rw [if_pos h2]
        split at h
        · rename_i h3; rw [if_pos h3]; exact h
        · rename_i h3; rw [if_neg h3]
          split at h
          · rename_i h4; rw [if_pos h4]
            exact foldO_mono (fun s x r hr => lookP_mono E all m s x r hr) _ _ _ h
          · cases h
      · cases h
theorem lookP_up (E : Eng) (all : List (List Int)) {m m' : Nat} (hm : m ≤ m') {s : List Int × List Int} {l : Int} {r : List Int × List Int} (h : lookP E all m s l = some r) : lookP E all m' s l = some r := by
  obtain ⟨d, rfl⟩ := Nat.le.dest hm
  clear hm
  induction d with
  | zero => exact h
  | succ d ih => exact lookP_mono E all _ s l r ih
theorem pushedP_up (E : Eng) (all : List (List Int)) {m m' : Nat} (hm : m ≤ m') {l r : List Int} (h : pushedP E all m l = some r) : pushedP E all m' l = some r := by
  unfold pushedP at h ⊢
  cases hf : foldO (fun s x => lookP E all m s x) l ([], []) with
  | none => rw [hf] at h; cases h
  | some s =>
    rw [hf] at h
    rw [foldO_mono (fun s x r hr => lookP_up E all hm hr) l _ _ hf]
    exact h
theorem pushed_tells {E : Eng} {all : List (List Int)} (h : Base E) (hall : E.cls = all.map cleanL) (hlit : ∀ c ∈ all, ∀ x ∈ c, InN E.n x) (l : List Int) (hl : ∀ x ∈ l, InN E.n x) :
    ∃ s, (∀ m, 2050 ≤ m → pushedP E all m l = some s.2) ∧ LI E s ∧ Cl E all ([], []) s ∧ ∀ x ∈ l, 0 ≤ E.level (vbl x) → vbl x ∈ s.1 := by
  have h0 : LI E ([], []) := ⟨by simp, fun v hv => by simp at hv, by simp, fun v hv => by simp at hv, fun y hy => by simp at hy, fun v hv => by simp at hv⟩
  have hs := h.fine.short
  obtain ⟨s, e1, e2, e3, e4⟩ := fold_tells (m := 2050) (j := 2049) (all := all) (fun s l a b c => look_tells h hall hlit 2050 2049 (by omega) s l a b c) l ([], []) h0 (fun x hx => ⟨hl x hx, by
    by_cases hx0 : E.level (vbl x) < 0
    · exact .inl hx0
    · refine .inr (.inr ?_)
      rcases (h.level_ge (hl x hx)).1 (by omega) with k | k
      · obtain ⟨i, hi⟩ := List.mem_iff_getElem?.1 k
        exact ⟨i, x, by have := (List.getElem?_eq_some_iff.1 hi).1; omega, hi, rfl⟩
      · obtain ⟨i, hi⟩ := List.mem_iff_getElem?.1 k
        exact ⟨i, -x, by have := (List.getElem?_eq_some_iff.1 hi).1; omega, hi, (hl x hx).var_neg h.fine.n0.2⟩⟩)
  refine ⟨s, fun m hm => pushedP_up E all hm ?_, e2, e3, e4⟩
  unfold pushedP
  rw [e1]; rfl
theorem wfI {x : Int} (h : -1000000 ≤ x ∧ x ≤ 1000000) : (Lit.int .i64 x).wf = true := by
  have a : IntKind.i64.min = -9223372036854775808 := by decide
  have b : IntKind.i64.max = 9223372036854775807 := by decide
  unfold Lit.wf
  rw [Bool.and_eq_true, decide_eq_true_eq, decide_eq_true_eq]
  omega
structure ZWell (Z : Sol) : Prop where
  e : Well Z.E
  en : Z.E.n = Z.n
  cls : Z.E.cls = Z.all.map cleanL
  lit : ∀ c ∈ Z.all, ∀ x ∈ c, InN Z.n x
  few : Z.all.length ≤ 4096
  ws : Z.E.ws ≤ 64 * Z.all.length
  asm : ∀ x ∈ Z.asm, InN Z.n x
  asml : Z.asm.length ≤ 64
  fuel : 0 ≤ Z.fuel ∧ Z.fuel ≤ 1048576
  steps : 0 ≤ Z.steps ∧ Z.steps ≤ Z.fuel
section
variable {Z : Sol}
theorem ZWell.base (h : ZWell Z) : Base Z.E := h.e.toBase
theorem ZWell.n0 (h : ZWell Z) : 0 ≤ Z.n ∧ Z.n ≤ 1024 := by rw [← h.en]; exact h.base.fine.n0
theorem ZWell.stepped (h : ZWell Z) : Z.stepped.steps = Z.steps + 1 := by
  have h1 := h.steps
  have h2 := h.fuel
  show wrap64 (Z.steps + 1) = _
  exact w64 (by omega) (by omega)
theorem ZWell.litE (h : ZWell Z) : ∀ c ∈ Z.all, ∀ x ∈ c, InN Z.E.n x := by rw [h.en]; exact h.lit
theorem ZWell.wf (h : ZWell Z) {x : Int} (hx : InN Z.n x) : (Lit.int .i64 x).wf = true := hx.wf h.n0.2
theorem nextA_mem {E : Eng} : ∀ {l : List Int} {r : Int × Bool}, nextA E l = some r → r.1 ∈ l ∧ (r.2 = true → E.val r.1 = 0) ∧ (r.2 = false → E.val r.1 = -1)
  | [], r, h => by cases h
  | x :: l, r, h => by
    unfold nextA at h
    split at h
    · rename_i hv; injection h with h; subst h; exact ⟨by simp, fun _ => hv, fun e => (by cases e)⟩
    · split at h
      · rename_i hv; injection h with h; subst h; exact ⟨by simp, fun e => (by cases e), fun _ => hv⟩
      · obtain ⟨h1, h2, h3⟩ := nextA_mem h
        exact ⟨List.mem_cons_of_mem _ h1, h2, h3⟩
theorem nextA_none {E : Eng} : ∀ {l : List Int}, nextA E l = none → ∀ x ∈ l, E.val x = 1
  | [], _, x, hx => by simp at hx
  | y :: l, h, x, hx => by
    unfold nextA at h
    split at h
    · cases h
    · split at h
      · cases h
      · rename_i h0 h1
        rcases List.mem_cons.1 hx with e | hx
        · rw [e]; rcases E.val_or y with k | k | k
          · exact k
          · exact absurd k h0
          · exact absurd k h1
        · exact nextA_none h x hx
theorem nextV_spec {E : Eng} : ∀ (m : Nat) (v : Int), 1 ≤ v → nextV E m v = 0 ∧ (∀ u, v ≤ u → u < v + m → E.val u ≠ 0) ∨ v ≤ nextV E m v ∧ nextV E m v < v + m ∧ E.val (nextV E m v) = 0 ∧ ∀ u, v ≤ u → u < nextV E m v → E.val u ≠ 0
  | 0, v, _ => .inl ⟨rfl, fun u h1 h2 => by omega⟩
  | m + 1, v, hv => by
    unfold nextV
    by_cases h0 : E.val v = 0
    · rw [if_pos h0]
      exact .inr ⟨Int.le_refl _, by omega, h0, fun u h1 h2 => by omega⟩
    · rw [if_neg h0]
      rcases nextV_spec m (v + 1) (by omega) with ⟨k1, k2⟩ | ⟨k1, k2, k3, k4⟩
      · refine .inl ⟨k1, fun u h1 h2 => ?_⟩
        by_cases e : u = v
        · rw [e]; exact h0
        · exact k2 u (by omega) (by omega)
      · refine .inr ⟨by omega, by omega, k3, fun u h1 h2 => ?_⟩
        by_cases e : u = v
        · rw [e]; exact h0
        · exact k4 u (by omega) h2
theorem ZWell.next (h : ZWell Z) : (Z.next.1 = 0 ∧ Z.next.2 = true) ∨ InN Z.n Z.next.1 := by
  unfold Sol.next
  cases ha : nextA Z.E Z.asm with
  | some r => exact .inr (h.asm _ (nextA_mem ha).1)
  | none =>
    have hn := h.n0
    rcases nextV_spec (E := Z.E) Z.n.toNat 1 (by omega) with ⟨k1, _⟩ | ⟨k1, k2, _, _⟩
    · exact .inl ⟨k1, rfl⟩
    · refine .inr ?_
      show InN Z.n (nextV Z.E Z.n.toNat 1)
      unfold InN
      omega
end
theorem Index_loop22 (c : List Int) (x : Int) (hs : c.length < 4611686018427387904) : ∀ (m i : Nat), m + i = c.length →
    ∃ r, Tells (fun k => slices_Index_int_int.l0 k c x (c.length : Int) (i : Int)) r ∧ decide (r ≥ 0) = (c.drop i).any fun y => y == x
  | 0, i, h => by
    refine ⟨-1, Tells.succ (fun k => by rw [slices_Index_int_int.l0]) (Tells.neg (by omega) (Tells.const _)), ?_⟩
    rw [List.drop_of_length_le (by omega)]; rfl
  | m + 1, i, h => by
    have hi : i < c.length := by omega
    rw [List.drop_eq_getElem_cons hi, List.any_cons]
    by_cases he : x = c[i]
    · refine ⟨(i : Int), Tells.succ (fun k => by rw [slices_Index_int_int.l0]) (Tells.pos (by omega) (Tells.pos (by omega) (Tells.pos (by omega) ?_))), ?_⟩
      · rw [rd_at _ _ hi]; exact Tells.pos he (Tells.const _)
      · rw [← he]; simp
    · obtain ⟨r, hr, hd⟩ := Index_loop22 c x hs m (i + 1) (by omega)
      refine ⟨r, Tells.succ (fun k => by rw [slices_Index_int_int.l0]) (Tells.pos (by omega) (Tells.pos (by omega) (Tells.pos (by omega) ?_))), ?_⟩
      · rw [rd_at _ _ hi, w64s hi hs]; exact Tells.neg he hr
      · rw [hd, show (c[i] == x) = false from beq_eq_false_iff_ne.2 (fun e => he e.symm), Bool.false_or]
theorem contains_tells (l : List Int) (x : Int) (hl : l.length < 4611686018427387904) : Tells (fun k => slices_Contains_int_int.f k l x) (decide (x ∈ l)) := by
  obtain ⟨r, hr, hd⟩ := Index_loop22 l x hl l.length 0 rfl
  unfold slices_Contains_int_int.f
  refine Tells.bind (v := r) hr ?_
  rw [hd]
  have he : (l.drop 0).any (fun y => y == x) = decide (x ∈ l) := by
    rw [List.drop_zero, Bool.eq_iff_iff, List.any_eq_true, decide_eq_true_eq]
    exact ⟨fun ⟨y, hy, e⟩ => by rw [← beq_iff_eq.1 e]; exact hy, fun h => ⟨x, h, beq_self_eq_true x⟩⟩
  rw [he]
  exact Tells.const _
theorem opposites_loop (l : List Int) (hl : l.length < 17592186044416) : ∀ (d i : Nat) (acc : List Int), d + i = l.length → acc.length = i → Tells (fun k => solve_opposites.l0 k acc l (l.length : Int) (i : Int)) (acc ++ (l.drop i).map fun x => wrap64 (-x))
  | 0, i, acc, h, ha => by
    refine Tells.succ (fun k => by rw [solve_opposites.l0]) (Tells.neg (by omega) ?_)
    rw [List.drop_of_length_le (by omega), List.map_nil, List.append_nil]; exact Tells.const _
  | d + 1, i, acc, h, ha => by
    have hi : i < l.length := by omega
    have ih := opposites_loop l hl d (i + 1) (acc ++ [wrap64 (-(l[i]))]) (by omega) (by rw [List.length_append, ha]; rfl)
    refine Tells.succ (fun k => by rw [solve_opposites.l0]) (Tells.pos (by omega) (Tells.pos (by omega) (Tells.pos (by omega) (Tells.pos (by omega) ?_))))
    rw [rd_at _ _ hi, w64s hi (by omega)]
    rw [List.drop_eq_getElem_cons hi, List.map_cons]
    rw [List.append_assoc] at ih
    exact ih
theorem opposites_tells (l : List Int) (hl : l.length < 17592186044416) : Tells (fun k => solve_opposites.f k l) (l.map fun x => wrap64 (-x)) := by
  have := opposites_loop l hl l.length 0 [] rfl rfl
  simpa [solve_opposites.f] using this
theorem Tells.all {α β : Type} {g : Nat → α → Option β} {v : α → β} : ∀ (l : List α), (∀ x ∈ l, Tells (fun k => g k x) (v x)) → ∃ K, ∀ k, K ≤ k → ∀ x ∈ l, g k x = some (v x)
  | [], _ => ⟨0, fun k _ x hx => by simp at hx⟩
  | y :: l, h => by
    obtain ⟨K1, h1⟩ := h y (by simp)
    obtain ⟨K2, h2⟩ := Tells.all l (fun x hx => h x (List.mem_cons_of_mem _ hx))
    refine ⟨K1 + K2, fun k hk x hx => ?_⟩
    rcases List.mem_cons.1 hx with e | hx
    · rw [e]; exact h1 k (by omega)
    · exact h2 k (by omega) x hx
theorem top_ge (E : Eng) : ∀ (cl : List Int) (n : Int), n ≤ E.top cl n ∧ ∀ x ∈ cl, E.level (vbl x) ≤ E.top cl n
  | [], n => ⟨Int.le_refl _, fun x hx => by simp at hx⟩
  | y :: cl, n => by
    obtain ⟨h1, h2⟩ := top_ge E cl (mx n (E.level (vbl y)))
    have hm : n ≤ mx n (E.level (vbl y)) ∧ E.level (vbl y) ≤ mx n (E.level (vbl y)) := by unfold mx; split <;> omega
    show n ≤ E.top cl (mx n (E.level (vbl y))) ∧ ∀ x ∈ y :: cl, _ ≤ E.top cl (mx n (E.level (vbl y)))
    refine ⟨by omega, fun x hx => ?_⟩
    rcases List.mem_cons.1 hx with e | hx
    · rw [e]; omega
    · exact h2 x hx
def Blame (E : Eng) (bl : List Int) : Prop := ∀ x ∈ bl, x ∈ E.tr ∧ E.why (vbl x) < 0
theorem Base.pushed_level {E : Eng} (h : Base E) {x : Int} (hx : x ∈ E.tr) (hw : E.why (vbl x) < 0) : 1 ≤ E.level (vbl x) := by
  obtain ⟨i, hi⟩ := List.mem_iff_getElem?.1 hx
  obtain ⟨o1, o2, o3⟩ := h.on hi
  by_cases hs : (i : Int) ∈ E.st
  · rw [o1]
    unfold cnt
    have : 0 < (E.st.filter fun a => decide (a ≤ (i : Int))).length := List.length_pos_of_mem (List.mem_filter.2 ⟨hs, by simp⟩)
    omega
  · have := (o3 hs).1; omega
theorem ZWell.blamed_tells {Z : Sol} (h : ZWell Z) (l : Int) (c : List Int) (hf : Z.from l = some c) (hc : ∀ x ∈ c, InN Z.n x) :
    ∃ bl s, (∀ m, 2050 ≤ m → Z.blamed m l = some bl) ∧ Blame Z.E bl ∧ bl.length ≤ 1024 ∧ LI Z.E s ∧ Cl Z.E Z.all ([], []) s ∧ (∀ x ∈ c, 0 ≤ Z.E.level (vbl x) → vbl x ∈ s.1) ∧ bl = s.2.map Z.E.truth := by
  obtain ⟨s, e1, e2, e3, e4⟩ := pushed_tells h.base h.cls h.litE c (fun x hx => by rw [h.en]; exact hc x hx)
  have hsh := e2.short h.base.fine
  have hlen := e2.len
  have hn := h.n0
  have hy : ∀ y ∈ s.2, InN Z.E.n y ∧ 0 ≤ Z.E.level (vbl y) ∧ Z.E.why (vbl y) < 0 := fun y hy => by
    obtain ⟨v, hv, h1, h2⟩ := e2.out y hy
    have h3 := e2.ran v hv
    have h4 := e2.on v hv
    have hv1 : InN Z.E.n v := by unfold InN; omega
    have hvv : vbl v = v := by have := hv1.var h.base.fine.n0.2; omega
    rcases h2 with e | e
    · rw [e, hvv]; exact ⟨hv1, h4, h1⟩
    · rw [e, hv1.var_neg h.base.fine.n0.2, hvv]; exact ⟨hv1.neg, h4, h1⟩
  refine ⟨s.2.map Z.E.truth, s, fun m hm => ?_, fun x hx => ?_, by rw [List.length_map]; omega, e2, e3, e4, rfl⟩
  · unfold Sol.blamed
    rw [hf]
    show (pushedP Z.E Z.all m c).bind _ = _
    rw [e1 m hm]
    show (if s.2.length < 2199023255552 ∧ ∀ x ∈ s.2, (Lit.int .i64 x).wf = true then some (s.2.map Z.E.truth) else none) = _
    rw [if_pos ⟨by omega, fun x hx => (hy x hx).1.wf h.base.fine.n0.2⟩]
  · obtain ⟨y, hy1, rfl⟩ := List.mem_map.1 hx
    obtain ⟨k1, k2, k3⟩ := hy y hy1
    have hon := (h.base.level_ge k1).1 k2
    have hval := h.base.fine.val k1
    unfold Eng.truth
    by_cases hx1 : y ∈ Z.E.tr
    · rw [if_pos hx1] at hval
      rw [hval, if_neg (by decide)]
      exact ⟨hx1, k3⟩
    · rw [if_neg hx1, if_pos (hon.resolve_left hx1)] at hval
      rw [hval, if_pos (by decide), k1.w h.base.fine.n0.2]
      exact ⟨hon.resolve_left hx1, by rw [k1.var_neg h.base.fine.n0.2]; exact k3⟩
theorem Blame.inN {E : Eng} (h : Base E) {bl : List Int} (hb : Blame E bl) : ∀ x ∈ bl, InN E.n x := fun x hx => h.fine.tr x (hb x hx).1
theorem ZWell.from_br {Z : Sol} (h : ZWell Z) (hb : 0 ≤ Z.E.br) : ∃ c, Z.from 0 = some c ∧ c ∈ Z.all ∧ cleanL c = Z.E.cls.getD Z.E.br.toNat [] := by
  obtain ⟨k1, k2⟩ := h.base.brk.2 hb
  rw [h.cls, List.length_map] at k1
  refine ⟨Z.all[Z.E.br.toNat], ?_, List.getElem_mem _, ?_⟩
  · unfold Sol.from
    rw [if_neg (by decide), if_pos hb, List.getElem?_eq_getElem k1]
  · rw [h.cls, List.getD_eq_getElem?_getD, List.getElem?_map, List.getElem?_eq_getElem k1]; rfl
theorem opp_wf {n : Int} (hn : n ≤ 1024) {l : List Int} (h : ∀ x ∈ l, InN n x) : (l.map fun x => wrap64 (-x)) = l.map (fun x => -x) := List.map_congr_left fun x hx => (h x hx).w hn
theorem assumed_nil {Z : Sol} : Z.assumed [] = true := by
  unfold Sol.assumed ixOf
  rfl
def Goes22 (all : List (List Int)) (V : Int → Prop) : Prop := ∀ c ∈ all, ∀ x ∈ c, (∀ y ∈ c, y ≠ x → V (-y)) → V x
theorem Fine.truth_of {E : Eng} (h : Fine E) {x y : Int} (hx : x ∈ E.tr) (hy : y = vbl x ∨ y = -(vbl x)) : E.truth y = x := by
  have hi := h.tr x hx
  have hv := hi.var h.n0.2
  have hyx : y = x ∨ y = -x := by omega
  unfold Eng.truth
  rcases hyx with e | e
  · rw [e, h.val hi, if_pos hx, if_neg (by decide)]
  · have hw := hi.neg.w h.n0.2
    rw [Int.neg_neg] at hw
    rw [e, h.val hi.neg, if_neg (h.con x hx), Int.neg_neg, if_pos hx, if_pos (by decide), hw]
theorem seen_true {E : Eng} {all : List (List Int)} {s : List Int × List Int} (h : Base E) (hall : E.cls = all.map cleanL) (hlit : ∀ c ∈ all, ∀ x ∈ c, InN E.n x) (hI : LI E s) (hC : Cl E all ([], []) s)
    {V : Int → Prop} (hV : Goes22 all V) (hd : ∀ x ∈ s.2.map E.truth, V x) : ∀ (i : Nat) (x : Int), E.tr[i]? = some x → vbl x ∈ s.1 → V x := by
  intro i
  induction i using Nat.strongRecOn with
  | _ i ih =>
  intro x hx hs
  obtain ⟨o1, o2, o3⟩ := h.on hx
  have hxt := List.mem_of_getElem? hx
  by_cases hst : (i : Int) ∈ E.st
  · have hw := o2 hst
    rcases hI.dec (vbl x) hs (by omega) with k | k
    · have := hd _ (List.mem_map.2 ⟨_, k, rfl⟩)
      rwa [h.fine.truth_of hxt (.inl rfl)] at this
    · have := hd _ (List.mem_map.2 ⟨_, k, rfl⟩)
      rwa [h.fine.truth_of hxt (.inr rfl)] at this
  · obtain ⟨f1, f2, f3, f4⟩ := o3 hst
    have hlen2 : E.cls.length = all.length := by rw [hall, List.length_map]
    have hmem : all.getD (E.why (vbl x)).toNat [] ∈ all := getD_mem (by omega)
    have hcl : E.cls.getD (E.why (vbl x)).toNat [] = cleanL (all.getD (E.why (vbl x)).toNat []) := by
      rw [hall, List.getD_eq_getElem?_getD, List.getElem?_map, List.getD_eq_getElem?_getD, List.getElem?_eq_getElem (by omega)]
      rfl
    have hshut := (hC.shut (vbl x) hs).resolve_left (by simp) |>.resolve_left (by omega)
    rw [hcl] at f3 f4
    refine hV _ hmem x (cleanL_mem.1 f3).1 (fun y hy hyx => ?_)
    have hyn := hlit _ hmem y hy
    have hb := f4 y (cleanL_mem.2 ⟨hy, hyn.isL h.fine.n0.2⟩) hyx
    obtain ⟨j', hj'⟩ := List.mem_iff_getElem?.1 hb
    have hlt : j' < i := by
      have := (List.getElem?_eq_some_iff.1 hj').1
      rw [zqr] at this
      omega
    rw [List.getElem?_take_of_lt hlt] at hj'
    exact ih j' hlt (-y) hj' (by rw [hyn.var_neg h.fine.n0.2]; exact hshut.2 y hy)
theorem from_false {Z : Sol} (h : ZWell Z) {c bl : List Int} {s : List Int × List Int} (hc : ∀ x ∈ c, InN Z.n x) (hI : LI Z.E s) (hC : Cl Z.E Z.all ([], []) s) (hs : ∀ x ∈ c, 0 ≤ Z.E.level (vbl x) → vbl x ∈ s.1) (hbl : bl = s.2.map Z.E.truth)
    {V : Int → Prop} (hV : Goes22 Z.all V) (hd : ∀ x ∈ bl, V x) : ∀ y ∈ c, -y ∈ Z.E.tr → V (-y) := fun y hy ht => by
  have hyn : InN Z.E.n y := by rw [h.en]; exact hc y hy
  obtain ⟨i, hi⟩ := List.mem_iff_getElem?.1 ht
  rw [hbl] at hd
  refine seen_true h.base h.cls h.litE hI hC hV hd i (-y) hi ?_
  rw [hyn.var_neg h.base.fine.n0.2]
  exact hs y hy ((h.base.level_ge hyn).2 (.inr ht))
def Rup (all : List (List Int)) (n : Int) (c : List Int) : Prop := ∀ V : Int → Prop, (∀ x, InN n x → V x → ¬ V (-x)) → (∀ x ∈ c, V (-x)) → Goes22 all V → (∀ d ∈ all, ∃ y ∈ d, ¬ V (-y)) → False
theorem Rup.sat {all : List (List Int)} {n : Int} {c : List Int} (h : Rup all n c) (hc : ∀ x ∈ c, InN n x) (hl : ∀ d ∈ all, ∀ x ∈ d, InN n x) {tv : Int → Bool} (hn : Neg n tv) (ha : ∀ d ∈ all, Sat tv d) : Sat tv c := by
  refine Classical.byContradiction fun hs => h (fun x => tv x = true) (fun x hx h1 h2 => ?_) (fun x hx => ?_) (fun d hd x hx hy => ?_) (fun d hd => ?_)
  · have h2 : tv (-x) = true := h2
    have h1 : tv x = true := h1
    rw [hn x hx, h1] at h2; cases h2
  · show tv (-x) = true
    rw [hn x (hc x hx)]
    cases ht : tv x with
    | false => rfl
    | true => exact absurd ⟨x, hx, ht⟩ hs
  · obtain ⟨z, hz, ht⟩ := ha d hd
    by_cases e : z = x
    · rw [← e]; exact ht
    · have h3 : tv (-z) = true := hy z hz e
      rw [hn z (hl d hd z hz), ht] at h3; cases h3
  · obtain ⟨z, hz, ht⟩ := ha d hd
    refine ⟨z, hz, fun h3 => ?_⟩
    have h3 : tv (-z) = true := h3
    rw [hn z (hl d hd z hz), ht] at h3; cases h3
theorem broken_rup {Z : Sol} (h : ZWell Z) (hb : 0 ≤ Z.E.br) {c bl : List Int} {s : List Int × List Int} (hc : c ∈ Z.all) (hcc : cleanL c = Z.E.cls.getD Z.E.br.toNat []) (hI : LI Z.E s) (hC : Cl Z.E Z.all ([], []) s) (hs : ∀ x ∈ c, 0 ≤ Z.E.level (vbl x) → vbl x ∈ s.1) (hbl : bl = s.2.map Z.E.truth)
    {cl : List Int} (hcl : ∀ x ∈ bl, -x ∈ cl) : Rup Z.all Z.n cl := fun V _ hV1 hV2 hV3 => by
  obtain ⟨y, hy, hny⟩ := hV3 c hc
  refine hny (from_false h (h.lit c hc) hI hC hs hbl hV2 (fun x hx => ?_) y hy ?_)
  · have := hV1 _ (hcl x hx)
    rwa [Int.neg_neg] at this
  · have hyn := h.litE c hc y hy
    exact (h.base.brk.2 hb).2 y (by rw [← hcc]; exact cleanL_mem.2 ⟨hy, hyn.isL h.base.fine.n0.2⟩)
theorem closed_rup {Z : Sol} (h : ZWell Z) {l : Int} (hl : InN Z.n l) (hf : -l ∈ Z.E.tr) {bl : List Int} {s : List Int × List Int} (hI : LI Z.E s) (hC : Cl Z.E Z.all ([], []) s) (hs : ∀ x ∈ [l], 0 ≤ Z.E.level (vbl x) → vbl x ∈ s.1) (hbl : bl = s.2.map Z.E.truth)
    {cl : List Int} (hcl : ∀ x ∈ bl, -x ∈ cl) (hcl2 : -l ∈ cl) : Rup Z.all Z.n cl := fun V hV0 hV1 hV2 _ => by
  have h1 := from_false h (c := [l]) (fun x hx => by rw [List.mem_singleton.1 hx]; exact hl) hI hC hs hbl hV2 (fun x hx => by
    have := hV1 _ (hcl x hx)
    rwa [Int.neg_neg] at this) l (by simp) hf
  have h2 := hV1 _ hcl2
  rw [Int.neg_neg] at h2
  exact hV0 l hl h2 h1
def pol (asm : List Int) (v : Int) : Int := (asm.find? fun a => decide (vbl a = v)).getD v
structure Dec (E : Eng) (asm : List Int) : Prop where
  first : ∀ (i : Nat) (x : Int), (i : Int) ∈ E.st → E.tr[i]? = some x → x ∉ asm → ∀ a ∈ asm, a ∈ E.tr.take i
  pol : ∀ (i : Nat) (x : Int), (i : Int) ∈ E.st → E.tr[i]? = some x → x = Pu.pol asm (vbl x)
  free : ∀ (i : Nat) (x : Int), (i : Int) ∈ E.st → E.tr[i]? = some x → ∀ D ∈ E.cls, -x ∈ D → ∃ y ∈ D, y ≠ -x ∧ -y ∉ E.tr.take i
structure Pre (E E1 : Eng) : Prop where
  st : E1.st = E.st.take E1.st.length
  pre : ∀ i : Nat, (i : Int) ∈ E1.st → E1.tr.take (i + 1) = E.tr.take (i + 1)
theorem Pre.refl (E : Eng) : Pre E E := ⟨by simp, fun _ _ => rfl⟩
theorem Pre.mem {E E1 : Eng} (h : Pre E E1) {a : Int} (ha : a ∈ E1.st) : a ∈ E.st := by
  rw [h.st] at ha; exact List.mem_of_mem_take ha
theorem Pre.len {E E1 : Eng} (h : Pre E E1) : E1.st.length ≤ E.st.length := by
  have := congrArg List.length h.st
  rw [zqr] at this; omega
theorem Pre.trans {E E1 E2 : Eng} (h : Pre E E1) (k : Pre E1 E2) : Pre E E2 := ⟨by
  have h1 := k.len
  have := k.st
  rw [h.st, List.take_take, Nat.min_eq_left h1] at this
  exact this, fun i hi => (k.pre i hi).trans (h.pre i (k.mem hi))⟩
theorem Pre.get {E E1 : Eng} (h : Pre E E1) {i : Nat} (hi : (i : Int) ∈ E1.st) : E1.tr[i]? = E.tr[i]? ∧ E1.tr.take i = E.tr.take i := by
  have hp := h.pre i hi
  constructor
  · rw [← List.getElem?_take_of_lt (Nat.lt_succ_self i), hp, List.getElem?_take_of_lt (Nat.lt_succ_self i)]
  · have := congrArg (List.take i) hp
    rwa [List.take_take, List.take_take, Nat.min_eq_left (Nat.le_succ i)] at this
theorem Pre.dec {E E1 : Eng} {asm : List Int} (h : Pre E E1) (hc : E1.cls = E.cls) (d : Dec E asm) : Dec E1 asm := ⟨fun i x hi hx => by
  obtain ⟨g1, g2⟩ := h.get hi
  rw [g1] at hx; rw [g2]; exact d.first i x (h.mem hi) hx, fun i x hi hx => by
  obtain ⟨g1, _⟩ := h.get hi
  rw [g1] at hx; exact d.pol i x (h.mem hi) hx, fun i x hi hx => by
  obtain ⟨g1, g2⟩ := h.get hi
  rw [g1] at hx; rw [g2, hc]; exact d.free i x (h.mem hi) hx⟩
theorem Grew.pre {E E' : Eng} (g : Grew E E') (low : ∀ a ∈ E.st, 0 ≤ a ∧ a.toNat < E.tr.length) : Pre E E' := by
  obtain ⟨more, hm⟩ := g.tr
  refine ⟨by rw [g.st]; simp, fun i hi => ?_⟩
  rw [g.st] at hi
  have := low _ hi
  rw [hm, List.take_append_of_le_length (by omega)]
theorem Base.pre_popped {E : Eng} (h : Base E) {ss : List Int} {a : Int} (hs : E.st = ss ++ [a]) : Pre E (E.popped a.toNat) := by
  have hst : (E.popped a.toNat).st = ss := by show E.st.dropLast = ss; rw [hs, List.dropLast_concat]
  refine ⟨by rw [hst, hs]; simp, fun i hi => ?_⟩
  rw [hst] at hi
  have hinc := h.inc
  rw [hs, List.pairwise_append] at hinc
  have h1 := hinc.2.2 _ hi a (by simp)
  have h2 := h.low a (by rw [hs]; simp)
  show (E.tr.take a.toNat).take (i + 1) = _
  rw [List.take_take, Nat.min_eq_left (by omega)]
theorem cnt_take {st : List Int} (hinc : st.Pairwise (· < ·)) {k : Nat} {i : Nat} (hi : (i : Int) ∈ st.take k) : cnt st i ≤ (k : Int) := by
  unfold cnt
  have h1 : st.filter (fun a => decide (a ≤ (i : Int))) = (st.take k).filter (fun a => decide (a ≤ (i : Int))) ++ (st.drop k).filter (fun a => decide (a ≤ (i : Int))) := by
    rw [← List.filter_append, List.take_append_drop]
  have h2 : (st.drop k).filter (fun a => decide (a ≤ (i : Int))) = [] := by
    rw [List.filter_eq_nil_iff]
    intro b hb
    have := hinc
    rw [← List.take_append_drop k st, List.pairwise_append] at this
    have := this.2.2 _ hi b hb
    simp; omega
  rw [h1, h2, List.append_nil]
  have h3 := List.length_filter_le (fun a => decide (a ≤ (i : Int))) (st.take k)
  rw [zqr] at h3
  omega
theorem cnt_le {st : List Int} {i j : Nat} (h : i ≤ j) : cnt st i ≤ cnt st j := by
  unfold cnt
  have : (st.filter fun a => decide (a ≤ (i : Int))).length ≤ (st.filter fun a => decide (a ≤ (j : Int))).length := by
    rw [← List.countP_eq_length_filter, ← List.countP_eq_length_filter]
    exact List.countP_mono_left (fun a _ ha => by simp at ha ⊢; omega)
  omega
theorem Base.pushed_at {E : Eng} (h : Base E) {x : Int} (hx : x ∈ E.tr) (hw : E.why (vbl x) < 0) : ∃ i : Nat, E.tr[i]? = some x ∧ (i : Int) ∈ E.st ∧ E.level (vbl x) = cnt E.st i := by
  obtain ⟨i, hi⟩ := List.mem_iff_getElem?.1 hx
  obtain ⟨o1, o2, o3⟩ := h.on hi
  refine ⟨i, hi, ?_, o1⟩
  by_cases hs : (i : Int) ∈ E.st
  · exact hs
  · have := (o3 hs).1; omega
theorem Fine.at_eq {E : Eng} (h : Fine E) {i j : Nat} {x : Int} (hi : E.tr[i]? = some x) (hj : E.tr[j]? = some x) : i = j := by
  have hl := (List.getElem?_eq_some_iff.1 hi).1
  exact (List.getElem?_inj hl h.nd).1 (hi.trans hj.symm)
theorem Dec.pushed {E : Eng} {asm : List Int} (d : Dec E asm) (h : Well E) (hb : E.br < 0) {l : Int} (hl : InN E.n l) (hv : E.val l = 0) (hp : l = Pu.pol asm (vbl l)) (hf : l ∉ asm → ∀ a ∈ asm, a ∈ E.tr) (hnd : ∀ D ∈ E.cls, D.Nodup) : Dec (pushed0 E l) asm := by
  have hst : (pushed0 E l).st = E.st ++ [(E.tr.length : Int)] := rfl
  have htr : (pushed0 E l).tr = E.tr ++ [l] := rfl
  have hcl : (pushed0 E l).cls = E.cls := rfl
  have old : ∀ i : Nat, (i : Int) ∈ E.st → (E.tr ++ [l])[i]? = E.tr[i]? ∧ (E.tr ++ [l]).take i = E.tr.take i := fun i hi => by
    have := h.low _ hi
    exact ⟨List.getElem?_append_left (by omega), List.take_append_of_le_length (by omega)⟩
  have new : ∀ i : Nat, (i : Int) ∈ E.st ++ [(E.tr.length : Int)] → (i : Int) ∈ E.st ∨ i = E.tr.length := fun i hi => by
    rcases List.mem_append.1 hi with k | k
    · exact .inl k
    · rw [List.mem_singleton] at k; exact .inr (by omega)
  refine ⟨fun i x hi hx => ?_, fun i x hi hx => ?_, fun i x hi hx D hD hxD => ?_⟩
  · rw [hst] at hi
    rw [htr] at hx ⊢
    rcases new i hi with k | k
    · rw [(old i k).1] at hx; rw [(old i k).2]; exact d.first i x k hx
    · subst k
      rw [List.getElem?_append_right (zqx _)] at hx
      simp at hx
      rw [← hx, List.take_append_of_le_length (zqx _), List.take_length]
      exact hf
  · rw [hst] at hi
    rw [htr] at hx
    rcases new i hi with k | k
    · rw [(old i k).1] at hx; exact d.pol i x k hx
    · subst k
      rw [List.getElem?_append_right (zqx _)] at hx
      simp at hx
      rw [← hx]; exact hp
  · rw [hst] at hi
    rw [htr] at hx ⊢
    rw [hcl] at hD
    rcases new i hi with k | k
    · rw [(old i k).1] at hx; rw [(old i k).2]; exact d.free i x k hx D hD hxD
    · subst k
      rw [List.getElem?_append_right (zqx _)] at hx
      simp at hx
      subst hx
      rw [List.take_append_of_le_length (zqx _), List.take_length]
      refine Classical.byContradiction fun hno => ?_
      have hall : ∀ y ∈ D, y ≠ -l → -y ∈ E.tr := fun y hy hne => Classical.byContradiction fun hn => hno ⟨y, hy, hne, hn⟩
      have hDn := h.fine.cls D hD
      have hq := (quiet_iff (fun x hx => (hDn x hx).1)).1 (h.still hb D hD)
      have ho := h.fine.open_iff hl hv
      have hval : ∀ y ∈ D, y ≠ -l → E.val y = -1 := fun y hy hne => by
        have h1 := hall y hy hne
        rw [h.fine.val (hDn y hy), if_neg (fun e => h.fine.con y e h1), if_pos h1]
      rcases hq with ⟨y, hy, hv2⟩ | hq
      · by_cases e : y = -l
        · rw [e, h.fine.val hl.neg, if_neg ho.2, Int.neg_neg, if_neg ho.1] at hv2; omega
        · rw [hval y hy e] at hv2; omega
      · have : (D.filter fun x => decide (E.val x = 0)).length ≤ 1 := by
          have hsub : ∀ y ∈ D.filter (fun x => decide (E.val x = 0)), y = -l := fun y hy => by
            obtain ⟨h1, h2⟩ := List.mem_filter.1 hy
            refine Classical.byContradiction fun e => ?_
            rw [hval y h1 e] at h2
            exact absurd h2 (by decide)
          have hnd2 := (hnd D hD).filter (fun x => decide (E.val x = 0))
          have := nodup_le (K := D.filter fun x => decide (E.val x = 0)) (L := [-l]) hnd2 (fun y hy => by rw [hsub y hy]; simp)
          simpa using this
        omega
theorem Dec.laid {E : Eng} {asm D : List Int} (d : Dec E asm) (hD : ∀ (i : Nat) (x : Int), (i : Int) ∈ E.st → E.tr[i]? = some x → -x ∈ D → ∃ y ∈ D, y ≠ -x ∧ -y ∉ E.tr.take i) : Dec (E.laid D) asm := by
  obtain ⟨l1, l2, l3, l4, l5, l6, l7⟩ := E.laid_same D
  refine ⟨?_, ?_, fun i x hi hx D' hD' => ?_⟩
  · rw [l2, l4]; exact d.first
  · rw [l2, l4]; exact d.pol
  · rw [l4] at hi
    rw [l2] at hx ⊢
    rw [l3] at hD'
    rcases List.mem_append.1 hD' with k | k
    · exact d.free i x hi hx D' k
    · rw [List.mem_singleton.1 k]; exact hD i x hi hx
theorem top_at (E : Eng) : ∀ (cl : List Int) (n : Int), E.top cl n = n ∨ ∃ x ∈ cl, E.level (vbl x) = E.top cl n
  | [], n => .inl rfl
  | y :: cl, n => by
    have hm : mx n (E.level (vbl y)) = n ∨ mx n (E.level (vbl y)) = E.level (vbl y) := by unfold mx; split <;> simp
    show E.top cl (mx n (E.level (vbl y))) = n ∨ ∃ x ∈ y :: cl, _ = E.top cl (mx n (E.level (vbl y)))
    rcases top_at E cl (mx n (E.level (vbl y))) with k | ⟨x, hx, k⟩
    · rcases hm with e | e
      · exact .inl (k.trans e)
      · exact .inr ⟨y, by simp, by rw [k, e]⟩
    · exact .inr ⟨x, by simp [hx], k⟩
theorem learnt_free {E E1 : Eng} (h : Base E) (hp : Pre E E1) {bl : List Int} (hb : Blame E bl) (hne : 1 ≤ E.top (bl.map fun x => -x) 0) (hlt : (E1.st.length : Int) < E.top (bl.map fun x => -x) 0) :
    ∀ (i : Nat) (x : Int), (i : Int) ∈ E1.st → E1.tr[i]? = some x → -x ∈ cleanL (bl.map fun x => -x) → ∃ y ∈ cleanL (bl.map fun x => -x), y ≠ -x ∧ -y ∉ E1.tr.take i := fun i x hi hx _ => by
  obtain ⟨g1, g2⟩ := hp.get hi
  rw [g1] at hx
  rw [g2]
  have hn := h.fine.n0
  rcases top_at E (bl.map fun x => -x) 0 with k | ⟨z, hz, k⟩
  · omega
  · obtain ⟨x0, hx0, rfl⟩ := List.mem_map.1 hz
    have hin := h.fine.tr x0 (hb x0 hx0).1
    rw [hin.var_neg hn.2] at k
    obtain ⟨i0, j1, j2, j3⟩ := h.pushed_at (hb x0 hx0).1 (hb x0 hx0).2
    have hc := cnt_take h.inc (i := i) (k := E1.st.length) (by rw [← hp.st]; exact hi)
    have hii : i < i0 := Nat.lt_of_not_le fun hle => by
      have := cnt_le (st := E.st) hle
      omega
    refine ⟨-x0, cleanL_mem.2 ⟨hz, hin.neg.isL hn.2⟩, fun e => ?_, fun e => ?_⟩
    · have e : x0 = x := by omega
      rw [← e] at hx
      have := h.fine.at_eq hx j1; omega
    · rw [Int.neg_neg] at e
      obtain ⟨j, hj⟩ := List.mem_iff_getElem?.1 e
      have hjl := (List.getElem?_eq_some_iff.1 hj).1
      rw [zqr] at hjl
      rw [List.getElem?_take_of_lt (by omega)] at hj
      have := h.fine.at_eq hj j1; omega
theorem learnt_new {E : Eng} {asm : List Int} (h : Base E) (d : Dec E asm) {bl : List Int} (hb : Blame E bl) (hne : 1 ≤ E.top (bl.map fun x => -x) 0) {D : List Int} (hD : cleanL D ∈ E.cls) : ¬ ∀ x, x ∈ D ↔ x ∈ bl.map fun x => -x := fun hs => by
  have hn := h.fine.n0
  rcases top_at E (bl.map fun x => -x) 0 with k | ⟨z, hz, k⟩
  · omega
  · obtain ⟨x0, hx0, rfl⟩ := List.mem_map.1 hz
    have hin := h.fine.tr x0 (hb x0 hx0).1
    rw [hin.var_neg hn.2] at k
    obtain ⟨i0, j1, j2, j3⟩ := h.pushed_at (hb x0 hx0).1 (hb x0 hx0).2
    obtain ⟨y, hy, hyx, hyt⟩ := d.free i0 x0 j2 j1 _ hD (cleanL_mem.2 ⟨(hs _).2 hz, hin.neg.isL hn.2⟩)
    obtain ⟨w, hw, e⟩ := List.mem_map.1 ((hs y).1 (cleanL_mem.1 hy).1)
    subst e
    rw [Int.neg_neg] at hyt
    obtain ⟨i, k1, k2, k3⟩ := h.pushed_at (hb w hw).1 (hb w hw).2
    have hl := (top_ge E (bl.map fun x => -x) 0).2 (-w) (List.mem_map.2 ⟨w, hw, rfl⟩)
    rw [(h.fine.tr w (hb w hw).1).var_neg hn.2] at hl
    have hii : i < i0 := by
      rcases Nat.lt_trichotomy i i0 with c | c | c
      · exact c
      · rw [c, j1] at k1; injection k1 with k1; omega
      · exfalso
        have h1 : cnt E.st i0 + 1 ≤ cnt E.st i := by
          unfold cnt
          have hperm : ((E.st.filter fun a => decide (a ≤ (i0 : Int))).length + 1 : Nat) ≤ (E.st.filter fun a => decide (a ≤ (i : Int))).length := by
            rw [← List.countP_eq_length_filter, ← List.countP_eq_length_filter]
            have : ∀ (st : List Int), (i : Int) ∈ st → st.countP (fun a => decide (a ≤ (i0 : Int))) + 1 ≤ st.countP (fun a => decide (a ≤ (i : Int))) := by
              intro st
              induction st with
              | nil => intro hm; simp at hm
              | cons a st ih =>
                intro hm
                rw [List.countP_cons, List.countP_cons]
                have hle : st.countP (fun a => decide (a ≤ (i0 : Int))) ≤ st.countP (fun a => decide (a ≤ (i : Int))) := List.countP_mono_left (fun a _ ha => by simp at ha ⊢; omega)
                rcases List.mem_cons.1 hm with e | hm
                · subst e
                  simp only [decide_eq_true_eq]
                  rw [if_neg (by omega), if_pos (by omega)]
                  omega
                · have := ih hm
                  simp only [decide_eq_true_eq]
                  split <;> split <;> omega
            exact this E.st k2
          omega
        omega
    refine hyt ?_
    rw [List.mem_iff_getElem?]
    exact ⟨i, by rw [List.getElem?_take_of_lt hii]; exact k1⟩
end Go.Proofs.Ytaibnbhgjnddnaa.Pu
namespace Go.Proofs.Ytaibnbhgjnddnaa.Pu
open Go.RowKit Go.Proofs.Ytaibnbhgjnddnaa.P Go.Proofs.YtaibnbhgjnddnaaW.PrintWords
theorem ixAny {α : Type} (p : α → Bool) : ∀ (l : List α) (i : Nat), decide (0 ≤ ixOf p l (i : Int)) = l.any p
  | [], i => rfl
  | x :: l, i => by
    rw [ixOf, List.any_cons]
    by_cases h : p x = true
    · rw [if_pos h, h, Bool.true_or]; exact zqt (by omega)
    · rw [if_neg h, Bool.eq_false_iff.2 h, Bool.false_or]
      exact ixAny p l (i + 1)
end Go.Proofs.Ytaibnbhgjnddnaa.Pu
namespace Go.Proofs.Ytaibnbhgjnddnaa.Pu
open Go.RowKit Go.Proofs.Ytaibnbhgjnddnaa.P Go.Proofs.YtaibnbhgjnddnaaW.PrintWords Go.Proofs.YtaibnbhgjnddnaaW.PrintLast Go.Proofs.YtaibnbhgjnddnaaW.PrintMore
def codeOf (f : Nat → Bool) : Nat → Nat
  | 0 => 0
  | m + 1 => (if f m = true then 2 ^ m else 0) + codeOf f m
theorem codeOf_lt (f : Nat → Bool) : ∀ m, codeOf f m < 2 ^ m
  | 0 => by simp [codeOf]
  | m + 1 => by
    have := codeOf_lt f m
    unfold codeOf
    rw [Nat.pow_succ]
    split <;> omega
theorem codeOf_inj (f g : Nat → Bool) : ∀ m, codeOf f m = codeOf g m → ∀ i, i < m → f i = g i
  | 0, _, i, hi => absurd hi (Nat.not_lt_zero _)
  | m + 1, h, i, hi => by
    have h1 := codeOf_lt f m
    have h2 := codeOf_lt g m
    unfold codeOf at h
    have hm : f m = g m ∧ codeOf f m = codeOf g m := by
      cases hf : f m <;> cases hg : g m <;> rw [hf, hg] at h <;> simp at h <;> first | exact ⟨rfl, h⟩ | omega
    by_cases e : i = m
    · rw [e]; exact hm.1
    · exact codeOf_inj f g m hm.2 i (by omega)
theorem few_sets {n : Int} (hn : 0 ≤ n ∧ n ≤ 1024) {asm : List Int} {L : List (List Int)} (hpw : L.Pairwise (fun c d => ¬ ∀ x, x ∈ c ↔ x ∈ d)) (hs : ∀ c ∈ L, ∀ y ∈ c, InN n y ∧ -y = Pu.pol asm (vbl y)) : L.length ≤ 2 ^ n.toNat := by
  obtain ⟨bit, hbit⟩ : ∃ bit : List Int → Nat → Bool, bit = fun c i => c.any fun y => decide (vbl y = (i : Int) + 1) := ⟨_, rfl⟩
  have hb : ∀ c i, bit c i = true ↔ ∃ y ∈ c, vbl y = (i : Int) + 1 := fun c i => by rw [hbit]; simp [List.any_eq_true]
  have sub : ∀ c ∈ L, ∀ d ∈ L, (∀ i, i < n.toNat → bit c i = bit d i) → ∀ x, x ∈ c → x ∈ d := fun c hc d hd he x hx => by
    obtain ⟨h1, h2⟩ := hs c hc x hx
    have hv := h1.var hn.2
    have h3 := (hb c (vbl x - 1).toNat).2 ⟨x, hx, by omega⟩
    rw [he _ (by omega)] at h3
    obtain ⟨y, hy, e⟩ := (hb d _).1 h3
    obtain ⟨h4, h5⟩ := hs d hd y hy
    rw [show vbl y = vbl x by omega, ← h2] at h5
    rw [show x = y by omega]; exact hy
  have hnd : (L.map fun c => ((codeOf (bit c) n.toNat : Nat) : Int)).Nodup := by
    rw [List.Nodup, List.pairwise_map]
    refine hpw.imp_of_mem (fun {c d} hc hd hne e => hne fun x => ?_)
    have hi := codeOf_inj _ _ _ (Int.ofNat.inj e)
    exact ⟨sub c hc d hd hi x, sub d hd c hc (fun i h => (hi i h).symm) x⟩
  have := nodup_le (K := L.map fun c => ((codeOf (bit c) n.toNat : Nat) : Int)) (L := (List.range (2 ^ n.toNat)).map fun i : Nat => (i : Int)) hnd (fun v hv => by
    obtain ⟨c, _, rfl⟩ := List.mem_map.1 hv
    exact List.mem_map.2 ⟨_, List.mem_range.2 (codeOf_lt _ _), rfl⟩)
  simpa using this
theorem Fine.tr_le {E : Eng} (h : Fine E) : (E.tr.length : Int) ≤ E.n := by
  have hn := h.n0
  have hnd : (E.tr.map vbl).Nodup := by
    rw [List.Nodup, List.pairwise_map]
    refine (show E.tr.Pairwise (· ≠ ·) from h.nd).imp_of_mem (fun {x y} hx hy hne e => ?_)
    rcases ((h.tr x hx).var_eq (h.tr y hy) hn.2).1 e with e | e
    · exact hne e
    · exact h.con y hy (by rw [← e]; exact hx)
  have := nodup_le (K := E.tr.map vbl) (L := (List.range E.n.toNat).map fun i : Nat => (i : Int) + 1) hnd (fun v hv => by
    obtain ⟨x, hx, rfl⟩ := List.mem_map.1 hv
    have := (h.tr x hx).var hn.2
    exact List.mem_map.2 ⟨(vbl x - 1).toNat, List.mem_range.2 (by omega), by omega⟩)
  simp at this
  omega
theorem Base.st_le {E : Eng} (h : Base E) : E.st.length ≤ E.tr.length := by
  have := nodup_le (K := E.st) (L := (List.range E.tr.length).map fun i : Nat => (i : Int)) (h.inc.imp (fun h => by omega)) (fun v hv => by
    have h4 := h.low v hv
    exact List.mem_map.2 ⟨v.toNat, List.mem_range.2 (by omega), by omega⟩)
  simpa using this
theorem LI.short_n {E : Eng} (hf : Fine E) {s : List Int × List Int} (h : LI E s) : (s.2.length : Int) ≤ E.n := by
  have hn := hf.n0
  have := nodup_le (L := (List.range E.n.toNat).map fun i : Nat => (i : Int) + 1) h.nd (fun v hv => by
    have h1 := h.ran v hv
    exact List.mem_map.2 ⟨(v - 1).toNat, List.mem_range.2 (by omega), by omega⟩)
  have h2 := h.len
  simp at this
  omega
theorem popTo_tells (lev : Int) (h1 : 1 ≤ lev) : ∀ (d : Nat) (E : Eng), E.st.length = d → Well E → ∃ m E' K, (∀ k, K ≤ k → PopTo k lev m E E') ∧ Well E' ∧ E'.n = E.n ∧ E'.cls = E.cls ∧ E'.ws = E.ws ∧ (E'.st.length : Int) < lev ∧ Pre E E' := by
  intro d
  induction d with
  | zero =>
    intro E hd hw
    refine ⟨1, E, 0, fun k _ => ?_, hw, rfl, rfl, rfl, by omega, Pre.refl E⟩
    unfold PopTo
    rw [if_neg (by omega)]
  | succ d ih =>
    intro E hd hw
    by_cases hl : lev ≤ (E.st.length : Int)
    · obtain ⟨E1, b, t, f, g1, g2⟩ := pop_tells hw.fine (fun a ha => by have := hw.low a ha; omega)
      cases b with
      | false => rw [(g1 rfl).2] at hd; cases hd
      | true =>
        obtain ⟨ss, a, e1, e2⟩ := g2 rfl
        obtain ⟨s1, s2, s3, s4, s5, s6, s7, s8⟩ := E.dels_same (E.tr.drop a.toNat)
        obtain ⟨K1, t1⟩ := t
        have hw1 := well_pop hw (t1 K1 (zqx _))
        have est : E1.st = E.st.dropLast := e2.st
        have hp1 : Pre E E1 := (hw.toBase.pre_popped e1).trans (e2.pre (hw.toBase.popped e1).low)
        obtain ⟨m, E', K, p1, p2, p3, p4, p5, p6, p7⟩ := ih E1 (by rw [est, List.length_dropLast, hd]; rfl) hw1
        refine ⟨m + 1, E', K + K1, fun k hk => ?_, p2, ?_, ?_, ?_, p6, hp1.trans p7⟩
        · unfold PopTo
          rw [if_pos hl]
          exact ⟨hw.fine.lits, fun x hx => (hw.fine.tr x hx).wf hw.fine.n0.2, E1, true, t1 k (by omega), p1 k (by omega)⟩
        · exact p3.trans (e2.n.trans s4)
        · exact p4.trans (e2.cls.trans s1)
        · exact p5.trans (e2.ws.trans s6)
    · refine ⟨1, E, 0, fun k _ => ?_, hw, rfl, rfl, rfl, by omega, Pre.refl E⟩
      unfold PopTo
      rw [if_neg hl]
theorem ends_tells {Z : Sol} (h : ZWell Z) (bl : List Int) (l : Int) (hb : bl.length ≤ 1024) : ∃ K, ∀ k, K ≤ k → Z.ends k bl l ((Z.core (Sol.blame2 bl l)).map fun x => -x) := by
  have hn := h.n0
  obtain ⟨b2, hb2⟩ : ∃ b2, Sol.blame2 bl l = b2 := ⟨_, rfl⟩
  rw [hb2]
  have hl2 : b2.length ≤ 1025 := by
    rw [← hb2]; unfold Sol.blame2; split
    · rw [List.length_append, List.length_singleton]; omega
    · omega
  obtain ⟨K1, t1⟩ := Tells.all (g := fun k x => slices_Contains_int_int.f k b2 x) (v := fun x => decide (x ∈ b2)) Z.asm (fun x _ => contains_tells b2 x (by omega))
  have hcl : (Z.core b2).length ≤ 64 := Nat.le_trans (List.length_filter_le _ _) h.asml
  obtain ⟨K2, t2⟩ := opposites_tells (Z.core b2) (by omega)
  rw [opp_wf (l := Z.core b2) hn.2 (fun x hx => h.asm x (List.mem_filter.1 hx).1)] at t2
  refine ⟨K1 + K2, fun k hk => ⟨by omega, by have := h.asml; omega, ?_, _, ?_, by rw [List.length_map]; exact hcl, rfl⟩⟩
  · rw [hb2]; exact t1 k (by omega)
  · rw [hb2]; exact t2 k (by omega)
theorem clauseErr_zero {c : List Int} {n : Int} (h : ∀ x ∈ c, InN n x) (hl : c.length ≤ 64) : clauseErr c n = 0 := by
  unfold clauseErr
  rw [if_neg (by omega), if_neg]
  intro e
  obtain ⟨x, hx, hb⟩ := List.any_eq_true.1 e
  rw [badLit_InN.2 (h x hx)] at hb
  cases hb
theorem add_err {E E' : Eng} {c : List Int} {f : Int} (h : Fine E) (hc : ∀ x ∈ c, I64 x) (hcs : c.length < 4611686018427387904) (t : Tells (fun k => Eng.add k E c) (E', f)) (hf : f ≠ 0) : clauseErr c E.n ≠ 0 ∨ 4096 ≤ E.cls.length := by
  obtain ⟨K1, t1⟩ := t
  obtain ⟨K2, t2⟩ := lit_Right_tells c E.n hc (I64n h) hcs
  have h1 := t1 (K1 + K2) (by omega)
  have h2 := t2 (K1 + K2) (by omega)
  by_cases e1 : clauseErr c E.n = 0
  · by_cases e2 : 4096 ≤ E.cls.length
    · exact .inr e2
    · exfalso
      have h1 : Eng.add (K1 + K2) E c = some (E', f) := h1
      unfold Eng.add at h1
      rw [show lit_Right.f (K1 + K2) c E.n = some (clauseErr c E.n) from h2] at h1
      have h1 : (if clauseErr c E.n ≠ 0 then some (E, clauseErr c E.n) else if E.cls.length ≥ 4096 then some (E, 2) else (lit_Clean.f c).bind fun r => if E.ws + r.1.length < 4398046511104 ∧ E.tr.length < 4398046511104 then (if E.br < 0 then (Eng.follow (K1 + K2) ((E.laid r.1).look E.cls.length) E.tr.length).bind fun E' => some (E', 0) else some (E.laid r.1, 0)) else none) = some (E', f) := h1
      rw [if_neg (by simpa using e1), if_neg (by omega)] at h1
      obtain ⟨r, _, h1⟩ := Option.bind_eq_some_iff.1 h1
      split at h1
      · split at h1
        · obtain ⟨E2, _, h1⟩ := Option.bind_eq_some_iff.1 h1
          injection h1 with h1
          injection h1 with _ h1
          exact hf h1.symm
        · injection h1 with h1
          injection h1 with _ h1
          exact hf h1.symm
      · cases h1
  · exact .inl e1
structure LogOk (n : Int) (L0 : List (List Int)) (log : List S64) : Prop where
  one : ∀ x ∈ log, x.f0 = false ∧ (∀ y ∈ x.f1, InN n y) ∧ x.f1.length ≤ 64
  rup : ∀ (i : Nat) (c : List Int), (log.map (·.f1))[i]? = some c → Rup ((L0 ++ log.map (·.f1)).take (L0.length + i)) n c
theorem LogOk.snoc {n : Int} {L0 : List (List Int)} {log : List S64} (h : LogOk n L0 log) {c : List Int} (hc : ∀ y ∈ c, InN n y) (hl : c.length ≤ 64) (hr : Rup (L0 ++ log.map (·.f1)) n c) : LogOk n L0 (log ++ [⟨false, c⟩]) := ⟨fun x hx => by
  rcases List.mem_append.1 hx with k | k
  · exact h.one x k
  · rw [List.mem_singleton.1 k]; exact ⟨rfl, hc, hl⟩, fun i d hd => by
  rw [List.map_append, List.map_singleton] at hd ⊢
  rw [List.getElem?_append] at hd
  by_cases hi : i < (log.map (·.f1)).length
  · rw [if_pos hi] at hd
    rw [← List.append_assoc, List.take_append_of_le_length (by rw [List.length_append]; omega)]
    exact h.rup i d hd
  · rw [if_neg hi] at hd
    have h0 : i - (log.map (·.f1)).length = 0 := by have := (List.getElem?_eq_some_iff.1 hd).1; simp at this; simp; omega
    rw [h0] at hd
    simp at hd
    subst hd
    rw [← List.append_assoc, List.take_append_of_le_length (by rw [List.length_append]; omega), List.take_of_length_le (by rw [List.length_append]; omega)]
    exact hr⟩
structure ZGood (n : Int) (L0 : List (List Int)) (asm : List Int) (fuel : Int) (Z : Sol) : Prop where
  w : ZWell Z
  hn : Z.n = n
  has : Z.asm = asm
  hfu : Z.fuel = fuel
  all : Z.all = L0 ++ Z.log.map (·.f1)
  log : LogOk n L0 Z.log
  logl : Z.log.length ≤ 4096
  dec : Dec Z.E asm
  new : (Z.log.map (·.f1)).Pairwise (fun c d => ¬ ∀ x, x ∈ c ↔ x ∈ d)
  sgn : ∀ x ∈ Z.log, ∀ y ∈ x.f1, -y = Pu.pol asm (vbl y)
def Enough (n : Int) (L0 : List (List Int)) (fuel : Int) : Prop := (n + 1) * ((2 ^ n.toNat : Nat) : Int) + n + 1 ≤ fuel ∧ L0.length + 2 ^ n.toNat + 1 < 4096 ∧ n ≤ 64
def FGood (n : Int) (L0 : List (List Int)) (asm : List Int) (fuel : Int) (r : P.Found) : Prop :=
  (¬ Enough n L0 fuel ∧ (r = Found.bad 9 fuel ∨ r = Found.bad 2 0)) ∨
  r.err = 0 ∧ 0 ≤ r.steps ∧ r.steps ≤ fuel ∧
    (r.sat = true ∧ (r.vals.length : Int) = n ∧ r.log = [] ∧ r.need = [] ∧ every L0 r.vals = true ∧ (∀ a ∈ asm, litT a r.vals = true) ∨
      r.sat = false ∧ r.vals = [] ∧ r.log.length ≤ 4096 ∧ LogOk n L0 r.log ∧ (∃ p : Int → Bool, r.need = asm.filter p) ∧ ∃ lg, r.log = lg ++ [⟨false, r.need.map fun x => -x⟩])
theorem ZGood.log_le {n : Int} {L0 : List (List Int)} {asm : List Int} {fuel : Int} {Z : Sol} (h : ZGood n L0 asm fuel Z) : Z.log.length ≤ 2 ^ n.toNat := by
  have hn := h.w.n0
  rw [h.hn] at hn
  have := few_sets hn (asm := asm) h.new (fun c hc y hy => by
    obtain ⟨x, hx, rfl⟩ := List.mem_map.1 hc
    exact ⟨(h.log.one x hx).2.1 y hy, h.sgn x hx y hy⟩)
  simpa using this
theorem ZGood.blame_pol {n : Int} {L0 : List (List Int)} {asm : List Int} {fuel : Int} {Z : Sol} (h : ZGood n L0 asm fuel Z) {bl : List Int} (hb : Blame Z.E bl) : ∀ x ∈ bl, x = Pu.pol asm (vbl x) := fun x hx => by
  obtain ⟨i, k1, k2, _⟩ := h.w.base.pushed_at (hb x hx).1 (hb x hx).2
  exact h.dec.pol i x k2 k1
theorem learns_good {n : Int} {L0 : List (List Int)} {asm : List Int} {fuel : Int} {Z : Sol} (h : ZGood n L0 asm fuel Z) (bl : List Int) (hb : Blame Z.E bl) (hne : bl ≠ []) (hbl : (bl.length : Int) ≤ n) (hr : Rup Z.all n (bl.map fun x => -x)) :
    ∃ f Z2 K, (∀ k, K ≤ k → Z.learns k (bl.map fun x => -x) f Z2) ∧ (f = 0 → ZGood n L0 asm fuel Z2 ∧ Z2.steps = Z.steps ∧ Z2.log.length = Z.log.length + 1) ∧ (f ≠ 0 → f = 2 ∧ ¬ (L0.length + 2 ^ n.toNat + 1 < 4096 ∧ n ≤ 64)) := by
  have hn := h.w.n0
  have hin := hb.inN h.w.base
  rw [h.w.en] at hin
  have hcl : ∀ x ∈ bl.map (fun x => -x), InN Z.n x := fun x hx => by
    obtain ⟨y, hy, rfl⟩ := List.mem_map.1 hx
    exact (hin y hy).neg
  obtain ⟨x0, hx0⟩ := List.exists_mem_of_ne_nil _ hne
  have hlev : 1 ≤ Z.E.top (bl.map fun x => -x) 0 := by
    have h1 := (top_ge Z.E (bl.map fun x => -x) 0).2 (-x0) (List.mem_map.2 ⟨x0, hx0, rfl⟩)
    rw [(hin x0 hx0).var_neg hn.2] at h1
    have := h.w.base.pushed_level (hb x0 hx0).1 (hb x0 hx0).2
    omega
  obtain ⟨m, E1, K1, p1, p2, p3, p4, p5, p6, p7⟩ := popTo_tells _ hlev _ Z.E rfl h.w.e
  have hcw : ∀ x ∈ bl.map (fun x => -x), I64 x := fun x hx => (hcl x hx).wf hn.2
  have hws := h.w.ws
  have hfew := h.w.few
  rw [h.hn] at hn
  have hlen : bl.length ≤ 1024 := by omega
  obtain ⟨E2, f2, ⟨K2, t2⟩, q1, q2, q3⟩ := add_tells p2.fine hcw (by rw [List.length_map]; omega) (by omega)
  have hclean : ∀ r, lit_Clean.f (bl.map fun x => -x) = some r → ∀ x ∈ r.1, (Lit.int .i64 x).wf = true := fun r hr x hx => by
    rw [lit_Clean_eq _ hcw (by rw [List.length_map]; omega)] at hr
    injection hr with hr
    rw [← hr] at hx
    exact hcw x (cleanL_mem.1 hx).1
  have hlogle := h.log_le
  have hall : Z.all.length = L0.length + Z.log.length := by rw [h.all, List.length_append, List.length_map]
  by_cases hf : f2 = 0
  · by_cases h4 : 4096 ≤ Z.log.length
    · refine ⟨2, Z, K1 + K2, fun k hk => ⟨m, E1, E2, f2, p1 k (by omega), p2.fine.lits, hcw, hclean, t2 k (by omega), by omega, ?_⟩, fun e => absurd e (by decide), fun _ => ⟨rfl, fun e => by omega⟩⟩
      rw [if_neg (by simpa using hf), if_pos h4]
    · obtain ⟨⟨c1, c2⟩, c3, c4⟩ := q3 hf
      obtain ⟨l1, l2, l3, l4, l5, l6, l7⟩ := E1.laid_same (cleanL (bl.map fun x => -x))
      have hcl2 := cleanL_length (bl.map fun x => -x)
      have ht := t2 K2 (zqx _)
      rw [hf] at ht
      have hd1 : Dec E1 asm := p7.dec p4 h.dec
      have hd2 : Dec (E1.laid (cleanL (bl.map fun x => -x))) asm := hd1.laid (learnt_free h.w.base p7 hb hlev p6)
      have hcn : ∀ x ∈ bl.map (fun x => -x), InN n x := by rw [← h.hn]; exact hcl
      refine ⟨0, { Z with E := E2, all := Z.all ++ [bl.map fun x => -x], log := Z.log ++ [⟨false, bl.map fun x => -x⟩] }, K1 + K2, fun k hk => ⟨m, E1, E2, f2, p1 k (by omega), p2.fine.lits, hcw, hclean, t2 k (by omega), by omega, ?_⟩, fun _ => ⟨⟨?_, h.hn, h.has, h.hfu, ?_, ?_, ?_, ?_, ?_, ?_⟩, rfl, ?_⟩, fun e => absurd rfl e⟩
      · rw [if_neg (by simpa using hf), if_neg h4]; exact ⟨rfl, rfl⟩
      · refine ⟨well_add p2 (by rw [p3, h.w.en]; exact hcl) c2 ht, ?_, ?_, fun c hc => ?_, ?_, ?_, h.w.asm, h.w.asml, h.w.fuel, h.w.steps⟩
        · show E2.n = Z.n
          rw [c4.n, l5, p3, h.w.en]
        · show E2.cls = (Z.all ++ [bl.map fun x => -x]).map cleanL
          rw [c4.cls, l3, p4, h.w.cls, List.map_append]; rfl
        · rcases List.mem_append.1 hc with hc | hc
          · exact h.w.lit c hc
          · rw [List.mem_singleton.1 hc]; exact hcl
        · show (Z.all ++ [_]).length ≤ 4096
          rw [p4, h.w.cls, List.length_map] at c3
          rw [List.length_append, List.length_singleton]; omega
        · show E2.ws ≤ 64 * (Z.all ++ [_]).length
          rw [c4.ws, l7, p5, List.length_append, List.length_singleton]; omega
      · show Z.all ++ [_] = L0 ++ (Z.log ++ [_]).map (fun x : S64 => x.f1)
        rw [h.all, List.map_append, List.append_assoc]; rfl
      · exact h.log.snoc hcn c2 (by rw [← h.all]; exact hr)
      · show (Z.log ++ [_]).length ≤ 4096
        rw [List.length_append, List.length_singleton]; omega
      · refine (c4.pre (?_ : ∀ a ∈ (E1.laid (cleanL (bl.map fun x => -x))).st, _)).dec c4.cls hd2
        rw [l4, l2]; exact p2.low
      · show ((Z.log ++ [_]).map (fun x : S64 => x.f1)).Pairwise _
        rw [List.map_append, List.map_singleton, List.pairwise_append]
        refine ⟨h.new, by simp, fun c hc d hd => ?_⟩
        rw [List.mem_singleton] at hd
        subst hd
        exact learnt_new h.w.base h.dec hb hlev (by rw [h.w.cls, h.all]; exact List.mem_map.2 ⟨c, List.mem_append_right _ hc, rfl⟩)
      · intro x hx y hy
        rcases List.mem_append.1 hx with k | k
        · exact h.sgn x k y hy
        · rw [List.mem_singleton.1 k] at hy
          obtain ⟨z, hz, rfl⟩ := List.mem_map.1 hy
          rw [Int.neg_neg, (hin z hz).var_neg (by rw [h.hn]; exact hn.2)]
          exact h.blame_pol hb z hz
      · show (Z.log ++ [_]).length = _
        rw [List.length_append]; rfl
  · refine ⟨2, Z, K1 + K2, fun k hk => ⟨m, E1, E2, f2, p1 k (by omega), p2.fine.lits, hcw, hclean, t2 k (by omega), by omega, ?_⟩, fun e => absurd e (by decide), fun _ => ⟨rfl, fun e => ?_⟩⟩
    · rw [if_pos hf]
    · rcases add_err p2.fine hcw (by rw [List.length_map]; omega) ⟨K2, t2⟩ hf with k | k
      · exact k (clauseErr_zero (by rw [p3, h.w.en]; exact hcl) (by rw [List.length_map]; omega))
      · rw [p4, h.w.cls, List.length_map, hall] at k
        omega
theorem popTo_det {k : Nat} {lev : Int} : ∀ {m m' : Nat} {E E1 E2 : Eng}, PopTo k lev m E E1 → PopTo k lev m' E E2 → E1 = E2
  | 0, _, _, _, _, h, _ => by unfold PopTo at h; exact h.elim
  | _ + 1, 0, _, _, _, _, h => by unfold PopTo at h; exact h.elim
  | m + 1, m' + 1, E, E1, E2, h, h' => by
    unfold PopTo at h h'
    by_cases hl : lev ≤ (E.st.length : Int)
    · rw [if_pos hl] at h h'
      obtain ⟨_, _, F, b, e, k1⟩ := h
      obtain ⟨_, _, F', b', e', k2⟩ := h'
      rw [e] at e'
      injection e' with e'
      injection e' with e1 e2
      subst e1
      exact popTo_det k1 k2
    · rw [if_neg hl] at h h'
      rw [h, h']
theorem ends_det {Z : Sol} {k : Nat} {bl : List Int} {l : Int} {c c' : List Int} (h : Z.ends k bl l c) (h' : Z.ends k bl l c') : c = c' := by
  obtain ⟨_, _, _, c0, e, _, h2⟩ := h
  obtain ⟨_, _, _, c0', e', _, h2'⟩ := h'
  rw [e] at e'
  injection e' with e'
  rw [h2, h2', e']
theorem learns_det {Z : Sol} {k : Nat} {cl : List Int} {f f' : Int} {Y Y' : Sol} (h : Z.learns k cl f Y) (h' : Z.learns k cl f' Y') : f = f' ∧ (f = 0 → Y = Y') := by
  obtain ⟨m, E1, E2, f2, p, _, _, _, a, _, q⟩ := h
  obtain ⟨m', E1', E2', f2', p', _, _, _, a', _, q'⟩ := h'
  have e := popTo_det p p'
  subst e
  rw [a] at a'
  injection a' with a'
  injection a' with a1 a2
  subst a1 a2
  by_cases hf : f2 ≠ 0
  · rw [if_pos hf] at q q'
    exact ⟨by rw [q, q'], fun e => by rw [q] at e; exact absurd e (by decide)⟩
  · rw [if_neg hf] at q q'
    by_cases hl : 4096 ≤ Z.log.length
    · rw [if_pos hl] at q q'
      exact ⟨by rw [q, q'], fun e => by rw [q] at e; exact absurd e (by decide)⟩
    · rw [if_neg hl] at q q'
      exact ⟨by rw [q.1, q'.1], fun _ => by rw [q.2, q'.2]⟩
theorem runs_det {k m : Nat} : ∀ {i : Nat} {Z : Sol} {r r' : P.Found}, Z.runs k m i r → Z.runs k m i r' → r = r'
  | 0, _, _, _, h, _ => by unfold Sol.runs at h; exact h.elim
  | i + 1, Z, r, r', h, h' => by
    obtain ⟨_, _, _, h⟩ := h
    obtain ⟨_, _, _, h'⟩ := h'
    by_cases hb : 0 ≤ Z.E.br
    · rw [if_pos hb] at h h'
      obtain ⟨bl, e, h⟩ := h
      obtain ⟨bl', e', h'⟩ := h'
      rw [e] at e'
      injection e' with e'
      subst e'
      by_cases hs : Z.stepped.steps ≤ Z.fuel
      · rw [if_pos hs] at h h'
        have h := h.2
        have h' := h'.2
        by_cases ha : Z.stepped.assumed bl = true
        · rw [if_pos ha] at h h'
          obtain ⟨c, e1, e2⟩ := h
          obtain ⟨c', e1', e2'⟩ := h'
          rw [ends_det e1 e1'] at e2
          exact e2.symm.trans e2'
        · rw [if_neg ha] at h h'
          obtain ⟨ol, f, Y, o, l, q⟩ := h
          obtain ⟨ol', f', Y', o', l', q'⟩ := h'
          rw [o] at o'
          injection o' with o'
          subst o'
          obtain ⟨d1, d2⟩ := learns_det l l'
          subst d1
          by_cases hf : f ≠ 0
          · rw [if_pos hf] at q q'
            rw [q, q']
          · rw [if_neg hf] at q q'
            have hY := d2 (by simpa using hf)
            subst hY
            exact runs_det q q'
      · rw [if_neg hs] at h h'
        rw [h, h']
    · rw [if_neg hb] at h h'
      by_cases ho : Z.next.2 = false
      · rw [if_pos ho] at h h'
        by_cases hs : Z.stepped.steps ≤ Z.fuel
        · rw [if_pos hs] at h h'
          obtain ⟨bl, e, c, e1, e2⟩ := h
          obtain ⟨bl', e', c', e1', e2'⟩ := h'
          rw [e] at e'
          injection e' with e'
          subst e'
          rw [ends_det e1 e1'] at e2
          exact e2.symm.trans e2'
        · rw [if_neg hs] at h h'
          rw [h, h']
      · rw [if_neg ho] at h h'
        by_cases hz : Z.next.1 = 0
        · rw [if_pos hz] at h h'
          rw [h, h']
        · rw [if_neg hz] at h h'
          by_cases hs : Z.stepped.steps ≤ Z.fuel
          · rw [if_pos hs] at h h'
            obtain ⟨E2, b, e, q⟩ := h
            obtain ⟨E2', b', e', q'⟩ := h'
            rw [e] at e'
            injection e' with e'
            injection e' with e1 e2
            subst e1
            exact runs_det q q'
          · rw [if_neg hs] at h h'
            rw [h, h']
theorem underP_det {k m i : Nat} {n fuel : Int} {l : List (List Int)} {asm : List Int} {r r' : P.Found} (h : underP k m i n l asm fuel r) (h' : underP k m i n l asm fuel r') : r = r' := by
  obtain ⟨a, e, h1, h⟩ := h
  obtain ⟨a', e', h1', h'⟩ := h'
  rw [h1] at h1'
  injection h1' with h1'
  injection h1' with _ he
  subst he
  by_cases hr : e ≠ 0
  · rw [if_pos hr] at h h'
    rw [h, h']
  · rw [if_neg hr] at h h'
    obtain ⟨e2, g, h⟩ := h
    obtain ⟨e2', g', h'⟩ := h'
    rw [g] at g'
    injection g' with g'
    subst g'
    by_cases hr2 : e2 ≠ 0
    · rw [if_pos hr2] at h h'
      rw [h, h']
    · rw [if_neg hr2] at h h'
      by_cases hf : fuel < 0 ∨ 1048576 < fuel
      · rw [if_pos hf] at h h'
        rw [h, h']
      · rw [if_neg hf] at h h'
        obtain ⟨_, _, _, E, n1, _, q⟩ := h
        obtain ⟨_, _, _, E', n1', _, q'⟩ := h'
        rw [n1] at n1'
        injection n1' with n1'
        injection n1' with hE
        subst hE
        exact runs_det q q'
theorem told_det {n fuel : Int} {l : List (List Int)} {asm : List Int} {r r' : P.Found} (h : Sol.told n l asm fuel r) (h' : Sol.told n l asm fuel r') : r = r' := by
  obtain ⟨K, h⟩ := h
  obtain ⟨K', h'⟩ := h'
  exact underP_det (h (K + K') (K + K') (K + K') (by omega) (by omega) (by omega)) (h' (K + K') (K + K') (K + K') (by omega) (by omega) (by omega))
theorem under_f {n fuel : Int} {l : List (List Int)} {asm : List Int} {r : P.Found} (h : Sol.told n l asm fuel r) : solve_Under.f n l asm fuel = some (r.sat, r.vals, r.log, r.steps, r.need, r.err) := by
  obtain ⟨r', h1, h2⟩ := solve_Under.tells ⟨r, h⟩
  rw [h2, told_det h1 h]
section
variable {n : Int} {L0 : List (List Int)} {asm : List Int} {fuel : Int} {Z : Sol}
theorem Fine.val_pos {E : Eng} (h : Fine E) {x : Int} (hx : InN E.n x) : (E.val x = 1 ↔ x ∈ E.tr) ∧ (E.val x = -1 ↔ -x ∈ E.tr) ∧ (E.val x = 0 ↔ x ∉ E.tr ∧ -x ∉ E.tr) := by
  rw [h.val hx]
  by_cases h1 : x ∈ E.tr
  · have h2 := h.con x h1
    rw [if_pos h1]
    exact ⟨⟨fun _ => h1, fun _ => rfl⟩, ⟨fun e => absurd e (by decide), fun e => absurd e h2⟩, ⟨fun e => absurd e (by decide), fun e => absurd h1 e.1⟩⟩
  · rw [if_neg h1]
    by_cases h2 : -x ∈ E.tr
    · rw [if_pos h2]
      exact ⟨⟨fun e => absurd e (by decide), fun e => absurd e h1⟩, ⟨fun _ => h2, fun _ => rfl⟩, ⟨fun e => absurd e (by decide), fun e => absurd h2 e.2⟩⟩
    · rw [if_neg h2]
      exact ⟨⟨fun e => absurd e (by decide), fun e => absurd e h1⟩, ⟨fun e => absurd e (by decide), fun e => absurd e h2⟩, ⟨fun _ => ⟨h1, h2⟩, fun _ => rfl⟩⟩
theorem nextA_split {E : Eng} : ∀ {l : List Int} {r : Int × Bool}, nextA E l = some r → ∃ a b, l = a ++ r.1 :: b ∧ ∀ x ∈ a, E.val x = 1
  | [], r, h => by cases h
  | x :: l, r, h => by
    unfold nextA at h
    split at h
    · injection h with h; subst h; exact ⟨[], l, rfl, fun y hy => by simp at hy⟩
    · rename_i h0
      split at h
      · injection h with h; subst h; exact ⟨[], l, rfl, fun y hy => by simp at hy⟩
      · rename_i h1
        obtain ⟨a, b, e, ha⟩ := nextA_split h
        refine ⟨x :: a, b, by rw [e]; rfl, fun y hy => ?_⟩
        rcases List.mem_cons.1 hy with e | hy
        · rw [e]; rcases E.val_or x with k | k | k
          · exact k
          · exact absurd k h0
          · exact absurd k h1
        · exact ha y hy
theorem ZGood.next (h : ZGood n L0 asm fuel Z) : (Z.next.2 = false ∧ Z.next.1 ∈ asm ∧ -Z.next.1 ∈ Z.E.tr) ∨ (Z.next.2 = true ∧ Z.next.1 = 0 ∧ (∀ a ∈ asm, a ∈ Z.E.tr) ∧ ∀ v, 1 ≤ v → v ≤ n → v ∈ Z.E.tr ∨ -v ∈ Z.E.tr) ∨
    (Z.next.2 = true ∧ InN n Z.next.1 ∧ Z.E.val Z.next.1 = 0 ∧ Z.next.1 = Pu.pol asm (vbl Z.next.1) ∧ (Z.next.1 ∉ asm → ∀ a ∈ asm, a ∈ Z.E.tr)) := by
  have hn := h.w.n0
  have hin : ∀ x, InN n x → InN Z.E.n x := fun x hx => by rw [h.w.en, h.hn]; exact hx
  have hasm : ∀ a ∈ asm, InN n a := fun a ha => by rw [← h.hn]; exact h.w.asm a (by rw [h.has]; exact ha)
  rw [h.hn] at hn
  unfold Sol.next
  rw [h.has, h.hn]
  cases ha : nextA Z.E asm with
  | some r =>
    obtain ⟨r1, r2⟩ := r
    obtain ⟨k1, k2, k3⟩ := nextA_mem ha
    obtain ⟨a, b, e, hpre⟩ := nextA_split ha
    have hr := hasm _ k1
    cases r2 with
    | false => exact .inl ⟨rfl, k1, (h.w.base.fine.val_pos (hin _ hr)).2.1.1 (k3 rfl)⟩
    | true =>
      refine .inr (.inr ⟨rfl, hr, k2 rfl, ?_, fun hno => absurd k1 hno⟩)
      show r1 = Pu.pol asm (vbl r1)
      unfold Pu.pol
      have h0 := (h.w.base.fine.val_pos (hin _ hr)).2.2.1 (k2 rfl)
      have hnone : a.find? (fun a => decide (vbl a = vbl r1)) = none := by
        rw [List.find?_eq_none]
        intro y hy
        have hya := hasm y (by rw [e]; exact List.mem_append_left _ hy)
        have h1 := (h.w.base.fine.val_pos (hin _ hya)).1.1 (hpre y hy)
        simp only [decide_eq_true_eq]
        intro ev
        rcases (hya.var_eq hr hn.2).1 ev with q | q
        · exact h0.1 (by rw [← q]; exact h1)
        · exact h0.2 (by rw [← q]; exact h1)
      rw [e, List.find?_append, hnone]
      simp
  | none =>
    have hall := nextA_none ha
    have hall2 : ∀ a ∈ asm, a ∈ Z.E.tr := fun a k => (h.w.base.fine.val_pos (hin _ (hasm a k))).1.1 (hall a k)
    rcases nextV_spec (E := Z.E) n.toNat 1 (by omega) with ⟨k1, k2⟩ | ⟨k1, k2, k3, _⟩
    · refine .inr (.inl ⟨rfl, k1, hall2, fun v h1 h2 => ?_⟩)
      have hv : InN n v := by unfold InN; omega
      refine Classical.byContradiction fun hno => k2 v h1 (by omega) ((h.w.base.fine.val_pos (hin v hv)).2.2.2 ⟨fun e => hno (.inl e), fun e => hno (.inr e)⟩)
    · refine .inr (.inr ⟨rfl, ?_, k3, ?_, fun _ => hall2⟩)
      · show InN n (nextV Z.E n.toNat 1)
        unfold InN; omega
      · show nextV Z.E n.toNat 1 = Pu.pol asm (vbl (nextV Z.E n.toNat 1))
        obtain ⟨v, hv⟩ : ∃ v, nextV Z.E n.toNat 1 = v := ⟨_, rfl⟩
        rw [hv] at k1 k2 k3 ⊢
        have hvn : InN n v := by unfold InN; omega
        have hvv : vbl v = v := by have := hvn.var hn.2; omega
        have h0 := (h.w.base.fine.val_pos (hin _ hvn)).2.2.1 k3
        unfold Pu.pol
        have hnone : asm.find? (fun a => decide (vbl a = vbl v)) = none := by
          rw [List.find?_eq_none]
          intro y hy
          have hya := hasm y hy
          simp only [decide_eq_true_eq]
          intro ev
          rcases (hya.var_eq hvn hn.2).1 ev with q | q
          · exact h0.1 (by rw [← q]; exact hall2 y hy)
          · exact h0.2 (by rw [← q]; exact hall2 y hy)
        rw [hnone, hvv]; rfl
theorem ZGood.litT (h : ZGood n L0 asm fuel Z) {x : Int} (hx : x ∈ Z.E.tr) : Pu.litT x Z.values = true := by
  have hn := h.w.n0
  have hi := h.w.base.fine.tr x hx
  have hin : InN n x := by rw [← h.hn, ← h.w.en]; exact hi
  have hne := hin.1
  have hb := hin.2
  rw [h.hn] at hn
  have hlen : Z.values.length = n.toNat := by unfold Sol.values; simp [h.hn]
  have hget : ∀ i : Nat, i < n.toNat → Z.values.getD i false = decide (0 < Z.E.val ((i : Int) + 1)) := fun i hi => by
    unfold Sol.values Sol.value
    rw [List.getD_eq_getElem?_getD, List.getElem?_map, List.getElem?_range (by rw [h.hn]; exact hi)]
    rfl
  unfold Pu.litT
  rw [hlen, hget _ (by omega)]
  rw [Bool.and_eq_true, Bool.and_eq_true, decide_eq_true_eq, decide_eq_true_eq]
  refine ⟨⟨hne, by omega⟩, ?_⟩
  by_cases hp : 0 < x
  · rw [show ((x.natAbs - 1 : Nat) : Int) + 1 = x by omega, ((h.w.base.fine.val_pos hi).1).2 hx]
    rw [zqt hp]; rfl
  · have hv : Z.E.val (-x) = -1 := ((h.w.base.fine.val_pos hi.neg).2.1).2 (by rw [Int.neg_neg]; exact hx)
    rw [show ((x.natAbs - 1 : Nat) : Int) + 1 = -x by omega, hv]
    rw [zqu (show ¬ x > 0 from hp)]; rfl
theorem ZGood.noFuel (h : ZGood n L0 asm fuel Z) (hc : Z.steps ≤ (n + 1) * (Z.log.length : Int) + Z.E.st.length) (hf : ¬ Z.stepped.steps ≤ Z.fuel) : ¬ Enough n L0 fuel := fun e => by
  have hn := h.w.n0
  rw [h.hn] at hn
  have h1 := h.log_le
  have h2 := h.w.base.fine.tr_le
  have h3 := h.w.base.st_le
  rw [h.w.en, h.hn] at h2
  have h4 : (n + 1) * (Z.log.length : Int) ≤ (n + 1) * ((2 ^ n.toNat : Nat) : Int) := Int.mul_le_mul_of_nonneg_left (by omega) (by omega)
  rw [h.w.stepped, h.hfu] at hf
  have := e.1
  omega
theorem assumed_all {bl : List Int} (h : Z.assumed bl = true) : ∀ x ∈ bl, x ∈ Z.asm := fun x hx => by
  unfold Sol.assumed at h
  have h2 := ixAny (notIn Z.asm) bl 0
  have h : (!decide (0 ≤ ixOf (notIn Z.asm) bl ((0 : Nat) : Int))) = true := h
  rw [h2] at h
  have h : bl.any (notIn Z.asm) = false := by simpa using h
  rw [List.any_eq_false] at h
  have := h x hx
  unfold notIn at this
  simpa using this
theorem ZGood.stepped (h : ZGood n L0 asm fuel Z) (hfu : Z.stepped.steps ≤ Z.fuel) : ZGood n L0 asm fuel Z.stepped :=
  ⟨⟨h.w.e, h.w.en, h.w.cls, h.w.lit, h.w.few, h.w.ws, h.w.asm, h.w.asml, h.w.fuel, ⟨by rw [h.w.stepped]; have := h.w.steps; omega, hfu⟩⟩, h.hn, h.has, h.hfu, h.all, h.log, h.logl, h.dec, h.new, h.sgn⟩
theorem end_good (h : ZGood n L0 asm fuel Z) {bl : List Int} {l : Int} (hr : Rup Z.all n ((Z.core (Sol.blame2 bl l)).map fun x => -x)) : FGood n L0 asm fuel (endFound Z ((Z.core (Sol.blame2 bl l)).map fun x => -x) bl l) := by
  have hsl := h.w.steps
  have hle := h.log_le
  have hl := h.logl
  rw [h.hfu] at hsl
  have hcore : ∀ x ∈ Z.core (Sol.blame2 bl l), InN n x := fun x hx => by rw [← h.hn]; exact h.w.asm x (List.mem_filter.1 hx).1
  unfold endFound
  by_cases h4 : 4096 ≤ Z.log.length
  · rw [if_pos h4]
    exact .inl ⟨fun e => by have := e.2.1; omega, .inr rfl⟩
  · rw [if_neg h4]
    refine .inr ⟨rfl, hsl.1, hsl.2, .inr ⟨rfl, rfl, ?_, ?_, ⟨fun x => decide (x ∈ Sol.blame2 bl l), ?_⟩, Z.log, rfl⟩⟩
    · show (Z.log ++ [_]).length ≤ 4096
      rw [List.length_append, List.length_singleton]; omega
    · refine h.log.snoc (fun y hy => ?_) ?_ (by rw [← h.all]; exact hr)
      · obtain ⟨x, hx, rfl⟩ := List.mem_map.1 hy
        exact (hcore x hx).neg
      · rw [List.length_map]
        exact Nat.le_trans (List.length_filter_le _ _) h.w.asml
    · show Z.core (Sol.blame2 bl l) = _
      unfold Sol.core
      rw [h.has]
theorem runs_good : ∀ (d : Nat) (Z : Sol), ZGood n L0 asm fuel Z → Z.steps ≤ (n + 1) * (Z.log.length : Int) + Z.E.st.length → (fuel - Z.steps).toNat = d → ∃ r K, (∀ k, K ≤ k → ∀ m, 2050 ≤ m → ∀ i, d < i → Z.runs k m i r) ∧ FGood n L0 asm fuel r := by
  intro d
  induction d using Nat.strongRecOn with
  | _ d ih =>
  intro Z hg hcn hd
  have h := hg.w
  have hn := h.n0
  have hwf : ∀ c ∈ Z.all, ∀ x ∈ c, (Lit.int .i64 x).wf = true := fun c hc x hx => h.wf (h.lit c hc x hx)
  have hnw : (Lit.int .i64 Z.next.1).wf = true := by
    rcases h.next with e | e
    · rw [e.1]; exact wfI (by omega)
    · exact h.wf e
  have hst := h.stepped
  have hsteps := h.steps
  have hfuel := h.fuel
  have hff := hg.hfu
  have hi : ∀ i, d < i → ∃ j, i = j + 1 := fun i hi => ⟨i - 1, by omega⟩
  by_cases hb : 0 ≤ Z.E.br
  · obtain ⟨c, hc1, hc2, hc3⟩ := h.from_br hb
    obtain ⟨bl, s, b1, b2, b3, b4, b5, b6, b7⟩ := h.blamed_tells 0 c hc1 (h.lit c hc2)
    by_cases hfu : Z.stepped.steps ≤ Z.fuel
    · have hg' := hg.stepped hfu
      obtain ⟨Kc, tc⟩ := Tells.all (g := fun k x => slices_Contains_int_int.f k Z.asm x) (v := fun x => decide (x ∈ Z.asm)) bl (fun x _ => contains_tells Z.asm x (by have := h.asml; omega))
      by_cases has : Z.stepped.assumed bl = true
      · obtain ⟨K, te⟩ := ends_tells hg'.w bl 0 b3
        have hin := assumed_all has
        refine ⟨_, K + Kc, fun k hk m hm i hid => ?_, end_good hg' (bl := bl) (l := 0) ?_⟩
        · obtain ⟨j, rfl⟩ := hi i hid
          refine ⟨hwf, h.base.fine.lits, hnw, ?_⟩
          rw [if_pos hb]
          refine ⟨bl, b1 m hm, ?_⟩
          rw [if_pos hfu]
          refine ⟨tc k (by omega), ?_⟩
          rw [if_pos has]
          exact ⟨_, te k (by omega), rfl⟩
        · rw [← hg.hn]
          refine broken_rup h hb hc2 hc3 b4 b5 b6 b7 (fun x hx => List.mem_map.2 ⟨x, List.mem_filter.2 ⟨hin x hx, ?_⟩, rfl⟩)
          unfold Sol.blame2
          rw [if_neg (by decide)]
          simpa using hx
      · have hne : bl ≠ [] := fun e => has (by rw [e]; exact assumed_nil)
        have hbn : (bl.length : Int) ≤ n := by
          have := b4.short_n h.base.fine
          rw [h.en, hg.hn] at this
          rw [b7, List.length_map]; exact this
        obtain ⟨f, Z2, K, tl, tz, tn⟩ := learns_good hg' bl b2 hne hbn (by
          rw [← hg.hn]
          exact broken_rup h hb hc2 hc3 b4 b5 b6 b7 (fun x hx => List.mem_map.2 ⟨x, hx, rfl⟩))
        obtain ⟨Ko, tO⟩ := opposites_tells bl (by omega)
        have hop : (bl.map fun x => wrap64 (-x)) = bl.map (fun x => -x) := opp_wf h.base.fine.n0.2 (b2.inN h.base)
        rw [hop] at tO
        by_cases hf : f = 0
        · obtain ⟨z1, z2, z3⟩ := tz hf
          have z2' : Z2.steps = Z.steps + 1 := z2.trans hst
          have z3' : Z2.log.length = Z.log.length + 1 := z3
          have hcn2 : Z2.steps ≤ (n + 1) * (Z2.log.length : Int) + Z2.E.st.length := by
            have h2 := h.base.fine.tr_le
            have h3 := h.base.st_le
            rw [h.en, hg.hn] at h2
            rw [z2', z3', Int.natCast_add, Int.mul_add]
            have : (n + 1) * ((1 : Nat) : Int) = n + 1 := by simp
            omega
          obtain ⟨r, K2, tr, gr⟩ := ih (fuel - Z2.steps).toNat (by rw [z2']; omega) Z2 z1 hcn2 rfl
          refine ⟨r, K + Kc + Ko + K2, fun k hk m hm i hid => ?_, gr⟩
          obtain ⟨j, rfl⟩ := hi i hid
          refine ⟨hwf, h.base.fine.lits, hnw, ?_⟩
          rw [if_pos hb]
          refine ⟨bl, b1 m hm, ?_⟩
          rw [if_pos hfu]
          refine ⟨tc k (by omega), ?_⟩
          rw [if_neg has]
          refine ⟨_, f, Z2, tO k (by omega), tl k (by omega), ?_⟩
          rw [if_neg (by simpa using hf)]
          exact tr k (by omega) m hm j (by rw [z2']; omega)
        · refine ⟨Found.bad f 0, K + Kc + Ko, fun k hk m hm i hid => ?_, .inl ⟨fun e => (tn hf).2 e.2, .inr (by rw [(tn hf).1])⟩⟩
          obtain ⟨j, rfl⟩ := hi i hid
          refine ⟨hwf, h.base.fine.lits, hnw, ?_⟩
          rw [if_pos hb]
          refine ⟨bl, b1 m hm, ?_⟩
          rw [if_pos hfu]
          refine ⟨tc k (by omega), ?_⟩
          rw [if_neg has]
          refine ⟨_, f, Z2, tO k (by omega), tl k (by omega), ?_⟩
          rw [if_pos hf]
    · refine ⟨Found.bad 9 Z.fuel, 0, fun k _ m hm i hid => ?_, .inl ⟨hg.noFuel hcn hfu, .inl (by rw [hff])⟩⟩
      obtain ⟨j, rfl⟩ := hi i hid
      refine ⟨hwf, h.base.fine.lits, hnw, ?_⟩
      rw [if_pos hb]
      refine ⟨bl, b1 m hm, ?_⟩
      rw [if_neg hfu]
  · rcases hg.next with ⟨hop, hna, hnt⟩ | ⟨hop, hz, hall, hvars⟩ | ⟨hop, hnx, hval, hpol, hfirst⟩
    · by_cases hfu : Z.stepped.steps ≤ Z.fuel
      · have hg' := hg.stepped hfu
        have hnx : InN Z.n Z.next.1 := h.asm _ (by rw [hg.has]; exact hna)
        obtain ⟨bl, s, b1, b2, b3, b4, b5, b6, b7⟩ := hg'.w.blamed_tells Z.next.1 [Z.next.1] (by unfold Sol.from; rw [if_pos hnx.1]) (fun x hx => by rw [List.mem_singleton.1 hx]; exact hnx)
        obtain ⟨K, te⟩ := ends_tells hg'.w bl Z.next.1 b3
        have hcore : ∀ x, x ∈ Z.asm → x ∈ bl ++ [Z.next.1] → -x ∈ (Z.stepped.core (Sol.blame2 bl Z.next.1)).map fun x => -x := fun x hx1 hx2 => List.mem_map.2 ⟨x, List.mem_filter.2 ⟨hx1, by
          unfold Sol.blame2
          rw [if_pos hnx.1]
          simpa using hx2⟩, rfl⟩
        refine ⟨_, K, fun k hk m hm i hid => ?_, end_good hg' (bl := bl) (l := Z.next.1) ?_⟩
        · obtain ⟨j, rfl⟩ := hi i hid
          refine ⟨hwf, h.base.fine.lits, hnw, ?_⟩
          rw [if_neg hb, if_pos hop, if_pos hfu]
          exact ⟨bl, b1 m hm, _, te k hk, rfl⟩
        · rw [← hg.hn]
          refine closed_rup hg'.w hnx hnt b4 b5 b6 b7 (fun x hx => hcore x ?_ (List.mem_append_left _ hx)) (hcore _ (by rw [hg.has]; exact hna) (by simp))
          refine Classical.byContradiction fun hno => ?_
          obtain ⟨i0, j1, j2, _⟩ := h.base.pushed_at (b2 x hx).1 (b2 x hx).2
          have := hg.dec.first i0 x j2 j1 (by rw [← hg.has]; exact hno) _ hna
          exact h.base.fine.con _ (List.mem_of_mem_take this) hnt
      · refine ⟨Found.bad 9 Z.fuel, 0, fun k _ m hm i hid => ?_, .inl ⟨hg.noFuel hcn hfu, .inl (by rw [hff])⟩⟩
        obtain ⟨j, rfl⟩ := hi i hid
        refine ⟨hwf, h.base.fine.lits, hnw, ?_⟩
        rw [if_neg hb, if_pos hop, if_neg hfu]
    · refine ⟨⟨0, true, Z.values, [], Z.steps, []⟩, 0, fun k _ m hm i hid => ?_, .inr ⟨rfl, hsteps.1, by rw [← hff]; exact hsteps.2, .inl ⟨rfl, ?_, rfl, rfl, ?_, fun a ha => hg.litT (hall a ha)⟩⟩⟩
      · obtain ⟨j, rfl⟩ := hi i hid
        refine ⟨hwf, h.base.fine.lits, hnw, ?_⟩
        rw [if_neg hb, if_neg (by rw [hop]; decide), if_pos hz]
      · show (Z.values.length : Int) = n
        rw [hg.hn] at hn
        unfold Sol.values
        simp [hg.hn]
        omega
      · show every L0 Z.values = true
        unfold every
        rw [List.all_eq_true]
        intro c hc
        have hca : c ∈ Z.all := by rw [hg.all]; exact List.mem_append_left _ hc
        have hcn2 := h.litE c hca
        have hcl : cleanL c ∈ Z.E.cls := by rw [h.cls]; exact List.mem_map.2 ⟨c, hca, rfl⟩
        have hq := (quiet_iff (fun x hx => (hcn2 x (cleanL_mem.1 hx).1).1)).1 (h.e.still (by omega) _ hcl)
        have hon : ∀ y ∈ c, Z.E.val y ≠ 0 := fun y hy => by
          have hyn := hcn2 y hy
          have hv := hyn.var h.base.fine.n0.2
          have := hvars (vbl y) (by omega) (by rw [← hg.hn, ← h.en]; omega)
          intro e
          have e2 := (h.base.fine.val_pos hyn).2.2.1 e
          rcases hv.2.2 with q | q
          · rw [q] at this; exact this.elim e2.1 e2.2
          · rw [q, Int.neg_neg] at this; exact this.elim e2.2 e2.1
        unfold holds
        rw [List.any_eq_true]
        rcases hq with ⟨y, hy, hv⟩ | hq
        · have hyc := (cleanL_mem.1 hy).1
          refine ⟨y, hyc, hg.litT ((h.base.fine.val_pos (hcn2 y hyc)).1.1 ?_)⟩
          rcases Z.E.val_or y with k | k | k <;> omega
        · obtain ⟨y, hy⟩ := List.exists_mem_of_length_pos (by omega : 0 < ((cleanL c).filter fun x => decide (Z.E.val x = 0)).length)
          obtain ⟨h1, h2⟩ := List.mem_filter.1 hy
          exact absurd (zqe h2) (hon y (cleanL_mem.1 h1).1)
    · by_cases hfu : Z.stepped.steps ≤ Z.fuel
      · have hst2 : Z.E.st.length < 2199023255552 := by
          have h1 := h.base.st_le
          have h3 := h.base.fine.short
          omega
        have hnE : InN Z.E.n Z.next.1 := by rw [h.en, hg.hn]; exact hnx
        obtain ⟨E2, b, ⟨K1, t1⟩, q1, q2, q3⟩ := push_tells h.base.fine (l := Z.next.1) hnw hst2
        cases b with
        | false =>
          exfalso
          rcases (q2 rfl).2 with k | k | k
          · omega
          · exact k hnE
          · exact k hval
        | true =>
          obtain ⟨c1, c2, c3, c4, c5⟩ := q3 rfl
          have hwe := well_push h.e c1 (t1 K1 (zqx _))
          have h2 : ZWell { Z.stepped with E := E2 } := ⟨hwe, c5.n.trans h.en, c5.cls.trans h.cls, h.lit, h.few, by rw [show ({ Z.stepped with E := E2 } : Sol).E.ws = Z.E.ws from c5.ws]; exact h.ws, h.asm, h.asml, h.fuel, ⟨by show 0 ≤ Z.stepped.steps; omega, hfu⟩⟩
          have hdec : Dec E2 asm := by
            have hd0 := hg.dec.pushed h.e c2 hnE hval hpol hfirst (fun D hD => by
              rw [h.cls] at hD
              obtain ⟨c, _, rfl⟩ := List.mem_map.1 hD
              exact cleanL_nodup c)
            exact (c5.pre (h.base.pushed hnE hval).low).dec c5.cls hd0
          have hg2 : ZGood n L0 asm fuel { Z.stepped with E := E2 } := ⟨h2, hg.hn, hg.has, hg.hfu, hg.all, hg.log, hg.logl, hdec, hg.new, hg.sgn⟩
          have hst3 : E2.st.length = Z.E.st.length + 1 := by
            rw [c5.st]
            show (Z.E.st ++ [_]).length = _
            rw [List.length_append]; rfl
          obtain ⟨r, K2, tr, gr⟩ := ih (fuel - Z.stepped.steps).toNat (by omega) { Z.stepped with E := E2 } hg2 (by
            show Z.stepped.steps ≤ (n + 1) * (Z.log.length : Int) + (E2.st.length : Int)
            rw [hst3]; omega) rfl
          refine ⟨r, K1 + K2, fun k hk m hm i hid => ?_, gr⟩
          obtain ⟨j, rfl⟩ := hi i hid
          refine ⟨hwf, h.base.fine.lits, hnw, ?_⟩
          rw [if_neg hb, if_neg (by rw [hop]; decide), if_neg hnx.1, if_pos hfu]
          exact ⟨E2, true, t1 k (by omega), tr k (by omega) m hm j (by omega)⟩
      · refine ⟨Found.bad 9 Z.fuel, 0, fun k _ m hm i hid => ?_, .inl ⟨hg.noFuel hcn hfu, .inl (by rw [hff])⟩⟩
        obtain ⟨j, rfl⟩ := hi i hid
        refine ⟨hwf, h.base.fine.lits, hnw, ?_⟩
        rw [if_neg hb, if_neg (by rw [hop]; decide), if_neg hnx.1, if_neg hfu]
end
theorem Ints_loop (a b : List Int) (hl : a.length = b.length) (hs : a.length < 4611686018427387904) : ∀ (n i : Nat), n + i = a.length → Tells (fun k => sequiturbase_Ints.l0 k a b (i : Int)) (a.drop i == b.drop i)
  | 0, i, h => by
    refine Tells.succ (fun k => by rw [sequiturbase_Ints.l0]) (Tells.neg (by omega) ?_)
    rw [List.drop_of_length_le (by omega), List.drop_of_length_le (by omega)]; exact Tells.const _
  | n + 1, i, h => by
    refine Tells.succ (fun k => by rw [sequiturbase_Ints.l0]) (Tells.pos (by omega) (Tells.pos (by omega) (Tells.pos (by omega) ?_)))
    rw [rd_at _ _ (by omega : i < a.length), rd_at _ _ (by omega : i < b.length), w64s (by omega : i < a.length) hs,
      List.drop_eq_getElem_cons (by omega : i < a.length), List.drop_eq_getElem_cons (by omega : i < b.length), List.cons_beq_cons]
    by_cases e : a[i] = b[i]
    · refine Tells.pos e ?_
      rw [beq_iff_eq.2 e, Bool.true_and]
      exact Ints_loop a b hl hs n (i + 1) (by omega)
    · refine Tells.neg e ?_
      rw [beq_eq_false_iff_ne.mpr e, Bool.false_and]; exact Tells.const _
theorem Ints_tells (a b : List Int) (hs : a.length < 4611686018427387904) : Tells (fun k => sequiturbase_Ints.f k a b) (a == b) := by
  unfold sequiturbase_Ints.f
  by_cases h : a.length = b.length
  · exact Tells.pos (by omega) (Ints_loop a b h hs a.length 0 rfl)
  · refine Tells.neg (by omega) ?_
    rw [show (a == b) = false from beq_eq_false_iff_ne.mpr fun e => h (by rw [e])]
    exact Tells.const _
theorem under_tells {n fuel : Int} {l : List (List Int)} {asm : List Int} (hn : I64 n) (hl : Rows64 l) (ha : ∀ x ∈ asm, I64 x) (hal : asm.length < 4611686018427387904) :
    ∃ r, Sol.told n l asm fuel r ∧ (setErr n l ≠ 0 → r = Found.bad (setErr n l) 0) ∧ (setErr n l = 0 → clauseErr asm n ≠ 0 → r = Found.bad (clauseErr asm n) 0) ∧ (setErr n l = 0 → clauseErr asm n = 0 → (fuel < 0 ∨ 1048576 < fuel) → r = Found.bad 1 0) ∧
      (setErr n l = 0 → clauseErr asm n = 0 → ¬ (fuel < 0 ∨ 1048576 < fuel) → FGood n l asm fuel r) := by
  obtain ⟨x, ⟨K1, t1⟩⟩ := cnf_Right_tells n l hl hn
  by_cases h1 : setErr n l = 0
  · obtain ⟨K2, t2⟩ := lit_Right_tells asm n ha hn hal
    by_cases h2 : clauseErr asm n = 0
    · by_cases h3 : fuel < 0 ∨ 1048576 < fuel
      · refine ⟨Found.bad 1 0, ⟨K1 + K2, fun k m i hk _ _ => ⟨x, _, t1 k (by omega), ?_⟩⟩, fun e => absurd h1 e, fun _ e => absurd h2 e, fun _ _ _ => rfl, fun _ _ e => absurd h3 e⟩
        rw [if_neg (by simpa using h1)]
        refine ⟨_, t2 k (by omega), ?_⟩
        rw [if_neg (by simpa using h2), if_pos h3]
      · obtain ⟨s1, s2, s3⟩ := setErr_InN h1
        obtain ⟨a1, a2⟩ := clauseErr_InN h2
        obtain ⟨E0, E, ⟨K3, t3⟩, f0, e1, e2, e3, e4, e5, e6, g⟩ := new_tells hn hl h1
        have hwell : Well E := well_new (k := K1 + K3) h1 (fun r hr => by
          rw [show cnf_Right.f (K1 + K3) n l = _ from t1 (K1 + K3) (by omega)] at hr
          injection hr with hr
          rw [← hr]; exact h1) (t3 (K1 + K3) (by omega))
        have hst : E.st = [] := g.st.trans e2
        have hcls : E.cls = l.map cleanL := g.cls.trans e5
        have hz : ZGood n l asm fuel ⟨E, n, l, asm, [], 0, fuel⟩ :=
          ⟨⟨hwell, g.n.trans e1, hcls, fun c hc => (s3 c hc).1, s2, by show E.ws ≤ _; rw [g.ws]; exact e6, a1, a2, by show 0 ≤ fuel ∧ fuel ≤ 1048576; omega, by show (0 : Int) ≤ 0 ∧ 0 ≤ fuel; omega⟩, rfl, rfl, rfl, by simp, ⟨fun x hx => by simp at hx, fun i c hc => by simp at hc⟩, Nat.zero_le _,
            ⟨fun i x hi => by simp [hst] at hi, fun i x hi => by simp [hst] at hi, fun i x hi => by simp [hst] at hi⟩, by simp, fun x hx => by simp at hx⟩
        obtain ⟨r, K4, tr, gr⟩ := runs_good _ _ hz (by show (0 : Int) ≤ (n + 1) * ((0 : Nat) : Int) + (E.st.length : Int); simp) rfl
        refine ⟨r, ⟨K1 + K2 + K3 + K4 + 2050 + (fuel - 0).toNat + 1, fun k m i hk hm hi => ⟨x, _, t1 k (by omega), ?_⟩⟩, fun e => absurd h1 e, fun _ e => absurd h2 e, fun _ _ e => absurd e h3, fun _ _ _ => gr⟩
        rw [if_neg (by simpa using h1)]
        refine ⟨_, t2 k (by omega), ?_⟩
        rw [if_neg (by simpa using h2), if_neg h3]
        refine ⟨by omega, s1, fun x hx => (a1 x hx).wf s1.2, E, t3 k (by omega), fun c hc r hr x hx => ?_, tr k (by omega) m (by omega) i (by show (fuel - 0).toNat < i; omega)⟩
        have hcI : ∀ y ∈ c, I64 y := fun y hy => ((s3 c hc).1 y hy).wf s1.2
        rw [lit_Clean_eq c hcI (by have := (s3 c hc).2; omega)] at hr
        injection hr with hr
        rw [← hr] at hx
        exact hcI x (cleanL_mem.1 hx).1
    · refine ⟨Found.bad (clauseErr asm n) 0, ⟨K1 + K2, fun k m i hk _ _ => ⟨x, _, t1 k (by omega), ?_⟩⟩, fun e => absurd h1 e, fun _ _ => rfl, fun _ e => absurd e h2, fun _ e => absurd e h2⟩
      rw [if_neg (by simpa using h1)]
      refine ⟨_, t2 k (by omega), ?_⟩
      rw [if_pos h2]
  · refine ⟨Found.bad (setErr n l) 0, ⟨K1, fun k m i hk _ _ => ⟨x, _, t1 k (by omega), ?_⟩⟩, fun _ => rfl, fun e => absurd e h1, fun e => absurd e h1, fun e => absurd e h1⟩
    rw [if_pos h1]
theorem log_sat {n : Int} {L0 : List (List Int)} {log : List S64} (h : LogOk n L0 log) (hl : ∀ c ∈ L0, ∀ x ∈ c, InN n x) {tv : Int → Bool} (hn : Neg n tv) (ha : ∀ d ∈ L0, Sat tv d) : ∀ (i : Nat) (c : List Int), (log.map (·.f1))[i]? = some c → Sat tv c := by
  intro i
  induction i using Nat.strongRecOn with
  | _ i ih =>
  intro c hc
  have hin : ∀ d ∈ L0 ++ log.map (·.f1), ∀ x ∈ d, InN n x := fun d hd => by
    rcases List.mem_append.1 hd with k | k
    · exact hl d k
    · obtain ⟨x, hx, rfl⟩ := List.mem_map.1 k
      exact (h.one x hx).2.1
  have hcm : c ∈ log.map (·.f1) := List.mem_of_getElem? hc
  refine (h.rup i c hc).sat (hin c (List.mem_append_right _ hcm)) (fun d hd => hin d (List.mem_of_mem_take hd)) hn (fun d hd => ?_)
  obtain ⟨j, hj⟩ := List.mem_iff_getElem?.1 hd
  have hjl := (List.getElem?_eq_some_iff.1 hj).1
  rw [zqr] at hjl
  rw [List.getElem?_take_of_lt (by omega), List.getElem?_append] at hj
  split at hj
  · exact ha d (List.mem_of_getElem? hj)
  · exact ih (j - L0.length) (by omega) d hj
theorem need_sat {n : Int} {L0 : List (List Int)} {log : List S64} (h : LogOk n L0 log) (hl : ∀ c ∈ L0, ∀ x ∈ c, InN n x) {need : List Int} (he : ∃ lg, log = lg ++ [⟨false, need.map fun x => -x⟩]) (hne : ∀ x ∈ need, InN n x) {tv : Int → Bool} (hn : Neg n tv) (ha : ∀ d ∈ L0, Sat tv d) : ¬ ∀ x ∈ need, tv x = true := fun hx => by
  obtain ⟨lg, e⟩ := he
  obtain ⟨y, hy, ht⟩ := log_sat h hl hn ha lg.length (need.map fun x => -x) (by rw [e, List.map_append, List.getElem?_append_right (by simp)]; simp)
  obtain ⟨x, hx1, rfl⟩ := List.mem_map.1 hy
  rw [hn x (hne x hx1), hx x hx1] at ht
  cases ht
def tvL (v : List Bool) (x : Int) : Bool := if 0 < x then v.getD (x.natAbs - 1) false else !(v.getD (x.natAbs - 1) false)
theorem tvL_neg (n : Int) (v : List Bool) : Neg n (tvL v) := fun x hx => by
  have := hx.1
  unfold tvL
  by_cases h : 0 < x
  · rw [if_neg (by omega), if_pos h, Int.natAbs_neg]
  · rw [if_pos (by omega), if_neg h, Int.natAbs_neg, Bool.not_not]
theorem litT_tvL {n : Int} {v : List Bool} (hv : (v.length : Int) = n) {x : Int} (hx : InN n x) : litT x v = tvL v x := by
  have h1 := hx.1
  have h2 := hx.2
  unfold litT tvL
  rw [zqt h1, zqt (by omega : x.natAbs ≤ v.length), Bool.true_and, Bool.true_and]
  by_cases h : 0 < x
  · rw [if_pos h, zqt (show x > 0 from h)]; cases v.getD (x.natAbs - 1) false <;> rfl
  · rw [if_neg h, zqu (show ¬ x > 0 from h)]; cases v.getD (x.natAbs - 1) false <;> rfl
theorem every_sat {n : Int} {v : List Bool} (hv : (v.length : Int) = n) {l : List (List Int)} (hl : ∀ c ∈ l, ∀ x ∈ c, InN n x) : every l v = true ↔ ∀ c ∈ l, Sat (tvL v) c := by
  unfold every
  rw [List.all_eq_true]
  refine ⟨fun h c hc => ?_, fun h c hc => ?_⟩
  · obtain ⟨x, hx, ht⟩ := List.any_eq_true.1 (show c.any (fun l => litT l v) = true from h c hc)
    exact ⟨x, hx, by rw [← litT_tvL hv (hl c hc x hx)]; exact ht⟩
  · obtain ⟨x, hx, ht⟩ := h c hc
    exact List.any_eq_true.2 ⟨x, hx, by rw [litT_tvL hv (hl c hc x hx)]; exact ht⟩
theorem goes22 : ∃ k, sequiturlaw22_goes.f k = some true := by
  have w : ∀ x : Int, -100 ≤ x → x ≤ 100 → I64 x := fun x h1 h2 => wfI (by omega)
  obtain ⟨r1, a1, _, _, _, a5⟩ := under_tells (n := 1) (fuel := 100) (l := [[1], [-1]]) (asm := []) (w 1 (by omega) (by omega)) ⟨by decide, fun c hc => ⟨by
    rcases List.mem_cons.1 hc with e | hc
    · rw [e]; decide
    · rw [List.mem_singleton.1 hc]; decide, fun x hx => by
    rcases List.mem_cons.1 hc with e | hc
    · rw [e, List.mem_singleton] at hx; rw [hx]; exact w 1 (by omega) (by omega)
    · rw [List.mem_singleton.1 hc, List.mem_singleton] at hx; rw [hx]; exact w (-1) (by omega) (by omega)⟩⟩ (fun x hx => by simp at hx) (by decide)
  obtain ⟨r2, b1, _, _, _, b5⟩ := under_tells (n := 2) (fuel := 100) (l := [[-1, -2]]) (asm := [1, 2]) (w 2 (by omega) (by omega)) ⟨by decide, fun c hc => ⟨by rw [List.mem_singleton.1 hc]; decide, fun x hx => by
    rw [List.mem_singleton.1 hc] at hx
    rcases List.mem_cons.1 hx with e | hx
    · rw [e]; exact w (-1) (by omega) (by omega)
    · rw [List.mem_singleton.1 hx]; exact w (-2) (by omega) (by omega)⟩⟩ (fun x hx => by
    rcases List.mem_cons.1 hx with e | hx
    · rw [e]; exact w 1 (by omega) (by omega)
    · rw [List.mem_singleton.1 hx]; exact w 2 (by omega) (by omega)) (by decide)
  have g1 := a5 (by decide) (by decide) (by decide)
  have g2 := b5 (by decide) (by decide) (by decide)
  have i1 : ∀ c ∈ [[(1 : Int)], [-1]], ∀ x ∈ c, InN 1 x := by
    intro c hc x hx
    rcases List.mem_cons.1 hc with e | hc
    · rw [e, List.mem_singleton] at hx; rw [hx]; unfold InN; omega
    · rw [List.mem_singleton.1 hc, List.mem_singleton] at hx; rw [hx]; unfold InN; omega
  have i2 : ∀ c ∈ [[(-1 : Int), -2]], ∀ x ∈ c, InN 2 x := by
    intro c hc x hx
    rw [List.mem_singleton.1 hc] at hx
    rcases List.mem_cons.1 hx with e | hx
    · rw [e]; unfold InN; omega
    · rw [List.mem_singleton.1 hx]; unfold InN; omega
  have e1 : Enough 1 [[1], [-1]] 100 := ⟨by decide, by decide, by decide⟩
  have e2 : Enough 2 [[-1, -2]] 100 := ⟨by decide, by decide, by decide⟩
  rcases g1 with ⟨g, _⟩ | ⟨c1, _, _, g1⟩
  · exact absurd e1 g
  rcases g2 with ⟨g, _⟩ | ⟨d1, _, _, g2⟩
  · exact absurd e2 g
  have h1 : r1.sat = false ∧ 0 < r1.log.length := by
    rcases g1 with ⟨_, k2, _, _, k5, _⟩ | ⟨k1, _, _, _, _, lg, k6⟩
    · exfalso
      have hs := (every_sat k2 i1).1 k5
      obtain ⟨x, hx, t⟩ := hs [1] (by simp)
      obtain ⟨y, hy, u⟩ := hs [-1] (by simp)
      rw [List.mem_singleton.1 hx] at t
      rw [List.mem_singleton.1 hy, tvL_neg 1 r1.vals 1 (by unfold InN; omega), t] at u
      cases u
    · exact ⟨k1, by rw [k6, List.length_append]; simp⟩
  have h2 : r2.sat = false ∧ 0 < r2.log.length ∧ r2.need = [1, 2] := by
    rcases g2 with ⟨_, k2, _, _, k5, k6⟩ | ⟨k1, _, _, k4, ⟨p, k5⟩, k6⟩
    · exfalso
      obtain ⟨x, hx, t⟩ := (every_sat k2 i2).1 k5 [-1, -2] (by simp)
      have q1 := k6 1 (by simp)
      have q2 := k6 2 (by simp)
      rw [litT_tvL k2 (by unfold InN; omega)] at q1 q2
      rcases List.mem_cons.1 hx with e | hx
      · rw [e, tvL_neg 2 r2.vals 1 (by unfold InN; omega), q1] at t; cases t
      · rw [List.mem_singleton.1 hx, tvL_neg 2 r2.vals 2 (by unfold InN; omega), q2] at t; cases t
    · have hp : p 1 = true ∧ p 2 = true := by
        refine Classical.byContradiction fun hno => ?_
        refine need_sat k4 i2 k6 (fun x hx => by
          rw [k5] at hx
          rcases List.mem_cons.1 (List.mem_filter.1 hx).1 with e | hx
          · rw [e]; unfold InN; omega
          · rw [List.mem_singleton.1 hx]; unfold InN; omega) (tvL_neg 2 [p 1, p 2]) (fun d hd => ?_) (fun x hx => ?_)
        · rw [List.mem_singleton.1 hd]
          by_cases q : p 1 = true
          · exact ⟨-2, by simp, by
              have q2 : p 2 = false := by
                cases h : p 2 with
                | false => rfl
                | true => exact absurd ⟨q, h⟩ hno
              show (if (0 : Int) < -2 then _ else !([p 1, p 2].getD ((-2 : Int).natAbs - 1) false)) = true
              rw [if_neg (by decide)]
              show (!(p 2)) = true
              rw [q2]; rfl⟩
          · exact ⟨-1, by simp, by
              have q1 : p 1 = false := by simpa using q
              show (if (0 : Int) < -1 then _ else !([p 1, p 2].getD ((-1 : Int).natAbs - 1) false)) = true
              rw [if_neg (by decide)]
              show (!(p 1)) = true
              rw [q1]; rfl⟩
        · rw [k5] at hx
          obtain ⟨m1, m2⟩ := List.mem_filter.1 hx
          rcases List.mem_cons.1 m1 with e | m1
          · rw [e] at m2 ⊢; exact m2
          · rw [List.mem_singleton.1 m1] at m2 ⊢; exact m2
      refine ⟨k1, ?_, ?_⟩
      · obtain ⟨lg, e⟩ := k6
        rw [e, List.length_append]; simp
      · rw [k5, List.filter_cons_of_pos hp.1, List.filter_cons_of_pos hp.2, List.filter_nil]
  refine Tells.ex ?_
  unfold sequiturlaw22_goes.f
  refine Tells.bind (v := true) ?_ (Tells.pos rfl (Tells.const _))
  unfold sequiturlaw22_goes.f0 solve_Run.f
  rw [under_f a1, under_f b1]
  refine Tells.bind (Tells.const _) (Tells.bind (Tells.const _) ?_)
  show Tells (fun k => if r1.err = 0 then (if r1.sat = true then some false else (if (r1.log.length : Int) > 0 then (if r2.err = 0 then (if r2.sat = true then some false else ((sequiturbase_Ints.f k r2.need [1, 2]).bind fun t => if t = true then some (decide ((r2.log.length : Int) > 0)) else some false)) else some false) else some false)) else some false) true
  refine Tells.pos c1 (Tells.neg (by rw [h1.1]; decide) (Tells.pos (by omega) (Tells.pos d1 (Tells.neg (by rw [h2.1]; decide) ?_))))
  rw [h2.2.2]
  refine Tells.bind (Ints_tells [1, 2] [1, 2] (by decide)) (Tells.pos (by decide) ?_)
  rw [zqt (by omega)]
  exact Tells.const _
theorem goes22_tells : Tells (fun k => sequiturlaw22_goes.f k) true := by
  obtain ⟨k, h⟩ := goes22
  exact Tells.mono (fun k => sequiturlaw22_goes.mono k) h
theorem ref19_Clause_loop (c : List Int) (n : Int) (hn : I64 n) (hn0 : 0 ≤ n) (hs : c.length < 4611686018427387904) : ∀ (m i : Nat), m + i = c.length →
    Tells (fun k => sequiturref19_Clause.l0 k c n (i : Int)) (if (c.drop i).any (badLit n) then 1 else 0)
  | 0, i, h => by
    refine Tells.succ (fun k => by rw [sequiturref19_Clause.l0]) (Tells.neg (by omega) ?_)
    rw [List.drop_of_length_le (by omega)]; exact Tells.const _
  | m + 1, i, h => by
    have hi : i < c.length := by omega
    have := hn.hi
    have hw : wrap64 (-n) = -n := w64 (by omega) (by omega)
    refine Tells.succ (fun k => by rw [sequiturref19_Clause.l0]) (Tells.pos (by omega) (Tells.pos (by omega) ?_))
    rw [rd_at _ _ hi, w64s hi hs, List.drop_eq_getElem_cons hi, List.any_cons, hw]
    have bad : badLit n c[i] = true → Tells (fun _ => some (1 : Int)) (if (badLit n c[i] || (c.drop (i + 1)).any (badLit n)) = true then 1 else 0) := fun e => by
      rw [e, Bool.true_or, if_pos rfl]; exact Tells.const _
    by_cases h1 : c[i] = 0
    · exact Tells.pos h1 (bad (zqt (by omega)))
    refine Tells.neg h1 ?_
    by_cases h2 : c[i] > n
    · exact Tells.pos h2 (bad (zqt (by omega)))
    refine Tells.neg h2 ?_
    by_cases h3 : c[i] < -n
    · exact Tells.pos h3 (bad (zqt (by omega)))
    refine Tells.neg h3 ?_
    rw [show badLit n c[i] = false from zqu (by omega), Bool.false_or]
    exact ref19_Clause_loop c n hn hn0 hs m (i + 1) (by omega)
theorem ref19_Clause_tells (c : List Int) (n : Int) (hn : I64 n) (hn0 : 0 ≤ n) (hs : c.length < 4611686018427387904) : Tells (fun k => sequiturref19_Clause.f k c n) (clauseErr c n) := by
  unfold sequiturref19_Clause.f clauseErr
  by_cases h : c.length > 64
  · rw [if_pos h]; exact Tells.pos (by omega) (Tells.const _)
  · rw [if_neg h]; exact Tells.neg (by omega) (ref19_Clause_loop c n hn hn0 hs c.length 0 rfl)
theorem ref19_Right_loop (l : List (List Int)) (n : Int) (hl : Rows64 l) (hn : I64 n) (hn0 : 0 ≤ n) : ∀ (m i : Nat), m + i = l.length →
    Tells (fun k => sequiturref19_Right.l0 k (i : Int) n l) (clausesErr n (l.drop i))
  | 0, i, h => by
    refine Tells.succ (fun k => by rw [sequiturref19_Right.l0]) (Tells.neg (by omega) ?_)
    rw [List.drop_of_length_le (by omega)]; exact Tells.const _
  | m + 1, i, h => by
    have hi : i < l.length := by omega
    have hc := hl.2 _ (List.getElem_mem hi)
    have hR := ref19_Clause_tells l[i] n hn hn0 hc.1
    rw [List.drop_eq_getElem_cons hi, clausesErr]
    refine Tells.succ (fun k => by rw [sequiturref19_Right.l0]) (Tells.pos (by omega) (Tells.pos (by omega) ?_))
    rw [rdL_at _ _ hi, w64s hi hl.1]
    refine Tells.bind hR ?_
    by_cases hz : clauseErr l[i] n = 0
    · refine Tells.pos hz ?_
      rw [if_pos hz]; exact ref19_Right_loop l n hl hn hn0 m (i + 1) (by omega)
    · refine Tells.neg hz ?_
      rw [if_neg hz]; exact Tells.const _
theorem ref19_Right_tells (n : Int) (l : List (List Int)) (hl : Rows64 l) (hn : I64 n) : Tells (fun k => sequiturref19_Right.f k n l) (setErr n l) := by
  unfold sequiturref19_Right.f setErr
  have stop : Tells (fun k => sequiturref19_Right.j0 k true n l) 1 := Tells.succ (fun k => by rw [sequiturref19_Right.j0]) (Tells.pos rfl (Tells.const _))
  by_cases h0 : n < 0
  · rw [if_pos (by omega)]
    exact Tells.pos h0 stop
  refine Tells.neg h0 ?_
  by_cases h1 : n > 1024
  · rw [if_pos (by omega), zqt h1]; exact stop
  rw [if_neg (by omega), zqu h1]
  refine Tells.succ (fun k => by rw [sequiturref19_Right.j0]) (Tells.neg (by decide) ?_)
  by_cases h2 : l.length > 4096
  · rw [if_pos h2]
    exact Tells.pos (by omega) (Tells.const _)
  · rw [if_neg h2]
    exact Tells.neg (by omega) (ref19_Right_loop l n hl hn (by omega) l.length 0 rfl)
def Plain (c : List Int) : Prop := ∀ x ∈ c, I64 x ∧ x ≠ -9223372036854775808
theorem ref19_True_eq (a : Int) (v : List Bool) (h : I64 a) (hm : a ≠ -9223372036854775808) (hv : v.length < 4611686018427387904) : sequiturref19_True.f a v = some (litT a v) := by
  have h1 := h.lo; have h2 := h.hi
  unfold sequiturref19_True.f litT
  by_cases h0 : a < 0
  · have e : wrap64 (-a) = ((a.natAbs : Nat) : Int) := by unfold wrap64; omega
    rw [if_pos h0, e, zqt (by omega : a ≠ 0), Bool.true_and]
    by_cases hx : ((a.natAbs : Nat) : Int) ≤ (v.length : Int)
    · have hw : wrap64 (((a.natAbs : Nat) : Int) - 1) = ((a.natAbs - 1 : Nat) : Int) := by unfold wrap64; omega
      have hlt : a.natAbs - 1 < v.length := by omega
      rw [if_pos hx, hw, if_pos (by omega), if_pos (by omega), rdOf_at _ _ _ hlt, zqt (by omega : a.natAbs ≤ v.length), Bool.true_and, List.getD_eq_getElem?_getD, List.getElem?_eq_getElem hlt, zqu (by omega : ¬ a > 0)]
      simp
    · rw [if_neg hx, zqu (by omega : ¬ a.natAbs ≤ v.length)]; rfl
  · rw [if_neg h0]
    by_cases h3 : a > 0
    · have e : a = ((a.natAbs : Nat) : Int) := by omega
      rw [if_pos h3, zqt (by omega : a ≠ 0), Bool.true_and]
      by_cases hx : a ≤ (v.length : Int)
      · have hw : wrap64 (a - 1) = ((a.natAbs - 1 : Nat) : Int) := by unfold wrap64; omega
        have hlt : a.natAbs - 1 < v.length := by omega
        rw [if_pos hx, hw, if_pos (by omega), if_pos (by omega), rdOf_at _ _ _ hlt, zqt (by omega : a.natAbs ≤ v.length), Bool.true_and, List.getD_eq_getElem?_getD, List.getElem?_eq_getElem hlt, zqt h3]
        simp
      · rw [if_neg hx, zqu (by omega : ¬ a.natAbs ≤ v.length)]; rfl
    · rw [if_neg h3, zqu (by omega : ¬ a ≠ 0)]; rfl
theorem ref19_Holds_loop (c : List Int) (v : List Bool) (hc : Plain c) (hs : c.length < 4611686018427387904) (hv : v.length < 4611686018427387904) : ∀ (m i : Nat), m + i = c.length →
    Tells (fun k => sequiturref19_Holds.l0 k c v (i : Int)) (holds (c.drop i) v)
  | 0, i, h => by
    refine Tells.succ (fun k => by rw [sequiturref19_Holds.l0]) (Tells.neg (by omega) ?_)
    rw [List.drop_of_length_le (by omega)]; exact Tells.const _
  | m + 1, i, h => by
    have hi : i < c.length := by omega
    have hl := hc _ (List.getElem_mem hi)
    refine Tells.succ (fun k => by rw [sequiturref19_Holds.l0]) (Tells.pos (by omega) (Tells.pos (by omega) ?_))
    rw [rd_at _ _ hi, w64s hi hs, List.drop_eq_getElem_cons hi, holds, List.any_cons, ref19_True_eq _ _ hl.1 hl.2 hv]
    refine Tells.bind (Tells.const _) ?_
    by_cases hq : litT c[i] v = true
    · refine Tells.pos hq ?_
      rw [hq, Bool.true_or]; exact Tells.const _
    · refine Tells.neg hq ?_
      rw [Bool.eq_false_iff.2 hq, Bool.false_or]
      exact ref19_Holds_loop c v hc hs hv m (i + 1) (by omega)
theorem ref19_Holds_tells (c : List Int) (v : List Bool) (hc : Plain c) (hs : c.length < 4611686018427387904) (hv : v.length < 4611686018427387904) : Tells (fun k => sequiturref19_Holds.f k c v) (holds c v) :=
  ref19_Holds_loop c v hc hs hv c.length 0 rfl
theorem ref19_Every_loop (l : List (List Int)) (v : List Bool) (hl : Rows64 l) (hp : ∀ c ∈ l, Plain c) (hv : v.length < 4611686018427387904) : ∀ (m i : Nat), m + i = l.length →
    Tells (fun k => sequiturref19_Every.l0 k l v (i : Int)) (every (l.drop i) v)
  | 0, i, h => by
    refine Tells.succ (fun k => by rw [sequiturref19_Every.l0]) (Tells.neg (by omega) ?_)
    rw [List.drop_of_length_le (by omega)]; exact Tells.const _
  | m + 1, i, h => by
    have hi : i < l.length := by omega
    have hc := hl.2 _ (List.getElem_mem hi)
    have hR := ref19_Holds_tells l[i] v (hp _ (List.getElem_mem hi)) hc.1 hv
    refine Tells.succ (fun k => by rw [sequiturref19_Every.l0]) (Tells.pos (by omega) (Tells.pos (by omega) ?_))
    rw [rdL_at _ _ hi, w64s hi hl.1, List.drop_eq_getElem_cons hi, every, List.all_cons]
    refine Tells.bind hR ?_
    by_cases hz : holds l[i] v = true
    · refine Tells.pos hz ?_
      rw [hz, Bool.true_and]; exact ref19_Every_loop l v hl hp hv m (i + 1) (by omega)
    · refine Tells.neg hz ?_
      rw [Bool.eq_false_iff.2 hz, Bool.false_and]; exact Tells.const _
theorem ref19_Every_tells (l : List (List Int)) (v : List Bool) (hl : Rows64 l) (hp : ∀ c ∈ l, Plain c) (hv : v.length < 4611686018427387904) : Tells (fun k => sequiturref19_Every.f k l v) (every l v) :=
  ref19_Every_loop l v hl hp hv l.length 0 rfl
theorem Small22_loop (n : Int) (l : List (List Int)) (hl : Rows64 l) : ∀ (m i : Nat), m + i = l.length → ∀ s : Int, 0 ≤ s → s < 4611686018427387904 + 1000 → ∃ b, Tells (fun k => sequiturlaw22_Small.l0 k s (i : Int) n l) b ∧ (b = true → s ≤ 600)
  | 0, i, h => by
    intro s h0 h1
    exact ⟨decide (s ≤ 600), Tells.succ (fun k => by rw [sequiturlaw22_Small.l0]) (Tells.neg (by omega) (Tells.const _)), fun h => zqe h⟩
  | m + 1, i, h => by
    intro s h0 h1
    have hi : i < l.length := by omega
    have hc := (hl.2 _ (List.getElem_mem hi)).1
    by_cases hs : s ≤ 600
    · have hw : wrap64 (s + ((l[i].length : Nat) : Int)) = s + ((l[i].length : Nat) : Int) := w64 (by omega) (by omega)
      obtain ⟨b, hb, hq⟩ := Small22_loop n l hl m (i + 1) (by omega) (s + ((l[i].length : Nat) : Int)) (by omega) (by omega)
      refine ⟨b, Tells.succ (fun k => by rw [sequiturlaw22_Small.l0]) (Tells.pos (by omega) (Tells.pos hs (Tells.pos (by omega) ?_))), fun _ => hs⟩
      rw [rdL_at _ _ hi, w64s hi hl.1, hw]; exact hb
    · exact ⟨decide (s ≤ 600), Tells.succ (fun k => by rw [sequiturlaw22_Small.l0]) (Tells.pos (by omega) (Tells.neg hs (Tells.const _))), fun h => zqe h⟩
theorem Small22_tells (n : Int) (l : List (List Int)) (hl : Rows64 l) : ∃ b, Tells (fun k => sequiturlaw22_Small.f k n l) b ∧ (b = true → l.length ≤ 600) := by
  obtain ⟨b, h1, h2⟩ := Small22_loop n l hl l.length 0 rfl (l.length : Int) (by omega) (by have := hl.1; omega)
  exact ⟨b, h1, fun h => by have := h2 h; omega⟩
def vl (V : List Int) (x : Int) : Int := if x < 0 then -(V.getD (-x).toNat 0) else V.getD x.toNat 0
structure Vok (n : Int) (V : List Int) : Prop where
  len : (V.length : Int) = n + 1
  one : ∀ x ∈ V, x = -1 ∨ x = 0 ∨ x = 1
section
variable {n : Int} {V : List Int}
theorem Vok.get (h : Vok n V) (i : Nat) : V.getD i 0 = -1 ∨ V.getD i 0 = 0 ∨ V.getD i 0 = 1 := by
  rw [List.getD_eq_getElem?_getD]
  cases hi : V[i]? with
  | none => exact .inr (.inl rfl)
  | some v => exact h.one v (List.mem_of_getElem? hi)
theorem Vok.vl (h : Vok n V) (x : Int) : Pu.vl V x = -1 ∨ Pu.vl V x = 0 ∨ Pu.vl V x = 1 := by
  unfold Pu.vl
  split
  · rcases h.get (-x).toNat with e | e | e <;> rw [e] <;> simp
  · exact h.get _
theorem vl_neg (V : List Int) {x : Int} (hx : x ≠ 0) : Pu.vl V (-x) = -(Pu.vl V x) := by
  unfold Pu.vl
  by_cases h : x < 0
  · rw [if_neg (by omega), if_pos h, Int.neg_neg]
  · rw [if_pos (by omega), if_neg h, Int.neg_neg]
theorem Vok.value (h : Vok n V) (hn : n ≤ 1024) {x : Int} (hx : InN n x) : sequiturref22_value.f V x = some (Pu.vl V x) := by
  have h2 := h.len
  have h3 := hx.2
  unfold sequiturref22_value.f Pu.vl
  by_cases hs : x < 0
  · rw [if_pos hs, if_pos hs, hx.w hn, if_pos (by omega), if_pos (by omega)]
    have : wrap64 (-(rd V (-x))) = -(V.getD (-x).toNat 0) := by
      show wrap64 (-(V.getD (-x).toNat 0)) = _
      rcases h.get (-x).toNat with e | e | e <;> rw [e] <;> exact w64 (by decide) (by decide)
    rw [this]
  · rw [if_neg hs, if_neg hs, if_pos (by omega), if_pos (by omega)]
    rfl
def setV (V : List Int) (x : Int) : List Int := if x < 0 then V.set (-x).toNat (-1) else V.set x.toNat 1
theorem Vok.set (h : Vok n V) (x : Int) : Vok n (setV V x) := by
  unfold setV
  split
  · exact ⟨by rw [List.length_set]; exact h.len, fun y hy => by
      rcases List.mem_or_eq_of_mem_set hy with k | k
      · exact h.one y k
      · exact .inl k⟩
  · exact ⟨by rw [List.length_set]; exact h.len, fun y hy => by
      rcases List.mem_or_eq_of_mem_set hy with k | k
      · exact h.one y k
      · exact .inr (.inr k)⟩
theorem getD_set (V : List Int) (i j : Nat) (v : Int) (hi : i < V.length) : (V.set i v).getD j 0 = if i = j then v else V.getD j 0 := by
  rw [List.getD_eq_getElem?_getD, List.getElem?_set, List.getD_eq_getElem?_getD]
  by_cases e : i = j
  · rw [if_pos e, if_pos hi, if_pos e]; rfl
  · rw [if_neg e, if_neg e]
theorem Vok.vl_set (h : Vok n V) {x y : Int} (hx : InN n x) (hy : InN n y) : Pu.vl (setV V x) y = if y = x then 1 else if y = -x then -1 else Pu.vl V y := by
  have h2 := h.len
  have h3 := hx.2
  have h4 := hy.2
  have h5 := hx.1
  have h6 := hy.1
  unfold Pu.vl setV
  by_cases hs : x < 0
  · rw [if_pos hs]
    by_cases ht : y < 0
    · rw [if_pos ht, if_pos ht, getD_set _ _ _ _ (by omega)]
      by_cases e : y = x
      · rw [if_pos (by omega), if_pos e]; rfl
      · rw [if_neg (by omega), if_neg e, if_neg (by omega)]
    · rw [if_neg ht, if_neg ht, getD_set _ _ _ _ (by omega), if_neg (by omega : ¬ y = x)]
      by_cases e : y = -x
      · rw [if_pos (by omega), if_pos e]
      · rw [if_neg (by omega), if_neg e]
  · rw [if_neg hs]
    by_cases ht : y < 0
    · rw [if_pos ht, if_pos ht, getD_set _ _ _ _ (by omega), if_neg (by omega : ¬ y = x)]
      by_cases e : y = -x
      · rw [if_pos (by omega), if_pos e]
      · rw [if_neg (by omega), if_neg e]
    · rw [if_neg ht, if_neg ht, getD_set _ _ _ _ (by omega)]
      by_cases e : y = x
      · rw [if_pos (by omega), if_pos e]
      · rw [if_neg (by omega), if_neg e, if_neg (by omega)]
def open0 (V : List Int) : Nat := V.countP fun x => decide (x = 0)
theorem open0_set : ∀ (V : List Int) (i : Nat) (v : Int), V[i]? = some 0 → v ≠ 0 → open0 (V.set i v) < open0 V
  | [], i, v, h, _ => by simp at h
  | x :: V, 0, v, h, hv => by
    simp at h
    subst h
    show open0 (v :: V) < open0 (0 :: V)
    unfold open0
    rw [List.countP_cons, List.countP_cons]
    simp [hv]
  | x :: V, i + 1, v, h, hv => by
    have := open0_set V i v (by simpa using h) hv
    show open0 (x :: V.set i v) < open0 (x :: V)
    unfold open0 at this ⊢
    rw [List.countP_cons, List.countP_cons]
    omega
theorem Vok.open_set (h : Vok n V) {x : Int} (hx : InN n x) (h0 : Pu.vl V x = 0) : open0 (setV V x) < open0 V := by
  have h2 := h.len
  have h3 := hx.2
  unfold Pu.vl at h0
  unfold setV
  have key : ∀ i : Nat, i < V.length → V.getD i 0 = 0 → V[i]? = some 0 := fun i hi e => by
    rw [List.getD_eq_getElem?_getD, List.getElem?_eq_getElem hi] at e
    rw [List.getElem?_eq_getElem hi]
    exact congrArg some e
  by_cases hs : x < 0
  · rw [if_pos hs] at h0 ⊢
    exact open0_set _ _ _ (key _ (by omega) (by omega)) (by decide)
  · rw [if_neg hs] at h0 ⊢
    exact open0_set _ _ _ (key _ (by omega) h0) (by decide)
def QuietV (V : List Int) (d : List Int) : Prop := (∃ y ∈ d, Pu.vl V y = 1) ∨ ∃ y ∈ d, ∃ z ∈ d, y ≠ z ∧ Pu.vl V y = 0 ∧ Pu.vl V z = 0
def OneV (V d : List Int) (r : Int × Bool) : Prop := (r.2 = true) ∨ (r.2 = false ∧ r.1 ≠ 0 ∧ r.1 ∈ d ∧ Pu.vl V r.1 = 0) ∨ (r.2 = false ∧ r.1 = 0 ∧ QuietV V d)
theorem one_loop (h : Vok n V) (hn : n ≤ 1024) (d : List Int) (hd : ∀ x ∈ d, InN n x) (hs : d.length < 4611686018427387904) :
    ∀ (m i : Nat) (o c : Int), m + i = d.length → 0 ≤ c → c ≤ i → (c = 0 → o = 0) → (c ≠ 0 → o ∈ d ∧ Pu.vl V o = 0) → (2 ≤ c → ∃ y ∈ d, ∃ z ∈ d, y ≠ z ∧ Pu.vl V y = 0 ∧ Pu.vl V z = 0) →
      ∃ r, Tells (fun k => sequiturref22_one.l0 k d V o c (i : Int)) r ∧ OneV V d r
  | 0, i, o, c, hm, h0, hci, ho, ho2, hq => by
    by_cases e : c = 1
    · refine ⟨(o, false), Tells.succ (fun k => by rw [sequiturref22_one.l0]) (Tells.neg (by omega) (Tells.pos e (Tells.const _))), .inr (.inl ⟨rfl, ?_, (ho2 (by omega)).1, (ho2 (by omega)).2⟩)⟩
      exact (hd _ (ho2 (by omega)).1).1
    · refine ⟨(0, c == 0), Tells.succ (fun k => by rw [sequiturref22_one.l0]) (Tells.neg (by omega) (Tells.neg e (Tells.const _))), ?_⟩
      by_cases e0 : c = 0
      · exact .inl (by simp [e0])
      · exact .inr (.inr ⟨by simp [e0], rfl, .inr (hq (by omega))⟩)
  | m + 1, i, o, c, hm, h0, hci, ho, ho2, hq => by
    have hi : i < d.length := by omega
    have hx := hd _ (List.getElem_mem hi)
    have hv := h.value hn hx
    have step : ∀ g r, Tells g r → (∀ k, (sequiturref22_value.f V (rd d (i : Int))).bind (fun t221 => if t221 > 0 then some ((0 : Int), false) else if t221 = 0 then (if rd d (i : Int) = o then sequiturref22_one.l0 k d V o c (wrap64 ((i : Int) + 1)) else sequiturref22_one.l0 k d V (rd d (i : Int)) (wrap64 (c + 1)) (wrap64 ((i : Int) + 1))) else sequiturref22_one.l0 k d V o c (wrap64 ((i : Int) + 1))) = g k) → Tells (fun k => sequiturref22_one.l0 k d V o c (i : Int)) r := fun g r t e =>
      Tells.succ (fun k => by rw [sequiturref22_one.l0]) (Tells.pos (by omega) (Tells.pos (by omega) (Tells.congr e t)))
    rw [rd_at _ _ hi, hv, w64s hi hs] at step
    have hc1 : wrap64 (c + 1) = c + 1 := w64 (by omega) (by omega)
    rw [hc1] at step
    rcases h.vl d[i] with e | e | e
    · rw [e] at step
      obtain ⟨r, t, q⟩ := one_loop h hn d hd hs m (i + 1) o c (by omega) h0 (by omega) ho ho2 hq
      exact ⟨r, step _ r t (fun k => rfl), q⟩
    · rw [e] at step
      by_cases eo : d[i] = o
      · obtain ⟨r, t, q⟩ := one_loop h hn d hd hs m (i + 1) o c (by omega) h0 (by omega) ho ho2 hq
        refine ⟨r, step _ r t (fun k => ?_), q⟩
        show (if d[i] = o then _ else _) = _
        rw [if_pos eo]
      · obtain ⟨r, t, q⟩ := one_loop h hn d hd hs m (i + 1) d[i] (c + 1) (by omega) (by omega) (by omega) (fun e => by omega) (fun _ => ⟨List.getElem_mem hi, e⟩) (fun hc2 => by
          obtain ⟨p1, p2⟩ := ho2 (by omega)
          exact ⟨d[i], List.getElem_mem hi, o, p1, eo, e, p2⟩)
        refine ⟨r, step _ r t (fun k => ?_), q⟩
        show (if d[i] = o then _ else _) = _
        rw [if_neg eo]
    · rw [e] at step
      exact ⟨(0, false), step _ _ (Tells.const _) (fun k => rfl), .inr (.inr ⟨rfl, rfl, .inl ⟨_, List.getElem_mem hi, e⟩⟩)⟩
theorem one_tells (h : Vok n V) (hn : n ≤ 1024) (d : List Int) (hd : ∀ x ∈ d, InN n x) (hs : d.length < 4611686018427387904) : ∃ r, Tells (fun k => sequiturref22_one.f k d V) r ∧ OneV V d r :=
  one_loop h hn d hd hs d.length 0 0 0 rfl (by omega) (by omega) (fun _ => rfl) (fun e => absurd rfl e) (fun e => by omega)
end
def Stops (l : List (List Int)) (n : Int) (c : List Int) : Prop := ∃ V, Vok n V ∧ (∀ x ∈ c, vl V x = -1) ∧ ∀ d ∈ l, QuietV V d
theorem follow_l2 {l : List (List Int)} {n : Int} {c : List Int} (hn : n ≤ 1024) (hl : ∀ d ∈ l, (∀ x ∈ d, InN n x) ∧ d.length < 4611686018427387904) (hc : ∀ x ∈ c, InN n x) (hs : l.length < 4611686018427387904) {z : Nat}
    (ih : ∀ V, Vok n V → (∀ x ∈ c, vl V x = -1) → open0 V < z → ∃ b, Tells (fun k => sequiturref22_Follows.l1 k l V true) b ∧ (b = false → Stops l n c)) :
    ∀ (m i : Nat) (V : List Int) (more : Bool), m + i = l.length → Vok n V → (∀ x ∈ c, vl V x = -1) → open0 V ≤ z → (more = true → open0 V < z) → (more = false → ∀ d ∈ l.take i, QuietV V d) →
      ∃ b, Tells (fun k => sequiturref22_Follows.l2 k l V more (i : Int)) b ∧ (b = false → Stops l n c)
  | 0, i, V, more, hm, hV, hVc, hz, hmore, hq => by
    cases more with
    | true =>
      obtain ⟨b, t, q⟩ := ih V hV hVc (hmore rfl)
      exact ⟨b, Tells.succ (fun k => by rw [sequiturref22_Follows.l2]) (Tells.neg (by omega) t), q⟩
    | false =>
      refine ⟨false, Tells.succ (fun k => by rw [sequiturref22_Follows.l2]) (Tells.neg (by omega) (Tells.succ (fun k => by rw [sequiturref22_Follows.l1]) (Tells.neg (by decide) (Tells.const _)))), fun _ => ⟨V, hV, hVc, ?_⟩⟩
      have := hq rfl
      rwa [List.take_of_length_le (by omega)] at this
  | m + 1, i, V, more, hm, hV, hVc, hz, hmore, hq => by
    have hi : i < l.length := by omega
    obtain ⟨hd, hds⟩ := hl _ (List.getElem_mem hi)
    obtain ⟨r, tr, qr⟩ := one_tells hV hn l[i] hd hds
    have step : ∀ g b, Tells g b → (∀ k, (if r.2 = true then some true else if r.1 = 0 then sequiturref22_Follows.l2 k l V more ((i + 1 : Nat) : Int) else if r.1 < 0 then (if 0 ≤ wrap64 (-r.1) then (if wrap64 (-r.1) < (V.length : Int) then sequiturref22_Follows.l2 k l (V.set (wrap64 (-r.1)).toNat (-1)) true ((i + 1 : Nat) : Int) else none) else none) else (if 0 ≤ r.1 then (if r.1 < (V.length : Int) then sequiturref22_Follows.l2 k l (V.set r.1.toNat 1) true ((i + 1 : Nat) : Int) else none) else none)) = g k) → Tells (fun k => sequiturref22_Follows.l2 k l V more (i : Int)) b := fun g b t e => by
      refine Tells.succ (fun k => by rw [sequiturref22_Follows.l2]) (Tells.pos (by omega) (Tells.pos (by omega) ?_))
      rw [rdL_at _ _ hi, w64s hi hs]
      exact Tells.bind tr (Tells.congr e t)
    rcases qr with h1 | ⟨h1, h2, h3, h4⟩ | ⟨h1, h2, h3⟩
    · refine ⟨true, step _ _ (Tells.const _) (fun k => ?_), fun e => by cases e⟩
      rw [if_pos h1]
    · have hin := hd _ h3
      have h2' := hin.2
      have hlen := hV.len
      have hVs := hV.set r.1
      have hlt := hV.open_set hin h4
      obtain ⟨b, t, q⟩ := follow_l2 hn hl hc hs ih m (i + 1) (setV V r.1) true (by omega) hVs (fun x hx => by
        rw [hV.vl_set hin (hc x hx)]
        have := hVc x hx
        rw [if_neg (fun e => by rw [e, h4] at this; omega)]
        by_cases e : x = -r.1
        · rw [if_pos e]
        · rw [if_neg e]; exact this) (by omega) (fun _ => by omega) (fun e => by cases e)
      refine ⟨b, step _ b t (fun k => ?_), q⟩
      rw [if_neg (by rw [h1]; decide), if_neg h2]
      unfold setV
      by_cases hneg : r.1 < 0
      · rw [if_pos hneg, if_pos hneg, hin.w hn, if_pos (by omega), if_pos (by omega)]
      · rw [if_neg hneg, if_neg hneg, if_pos (by omega), if_pos (by omega)]
    · obtain ⟨b, t, q⟩ := follow_l2 hn hl hc hs ih m (i + 1) V more (by omega) hV hVc hz hmore (fun e d hd2 => by
        rw [List.take_add_one, List.getElem?_eq_getElem hi] at hd2
        rcases List.mem_append.1 hd2 with k | k
        · exact hq e d k
        · have : d = l[i] := by simpa using k
          rw [this]; exact h3)
      refine ⟨b, step _ b t (fun k => ?_), q⟩
      rw [if_neg (by rw [h1]; decide), if_pos h2]
theorem follow_l1 {l : List (List Int)} {n : Int} {c : List Int} (hn : n ≤ 1024) (hl : ∀ d ∈ l, (∀ x ∈ d, InN n x) ∧ d.length < 4611686018427387904) (hc : ∀ x ∈ c, InN n x) (hs : l.length < 4611686018427387904) :
    ∀ (z : Nat) (V : List Int), open0 V = z → Vok n V → (∀ x ∈ c, vl V x = -1) → ∃ b, Tells (fun k => sequiturref22_Follows.l1 k l V true) b ∧ (b = false → Stops l n c) := by
  intro z
  induction z using Nat.strongRecOn with
  | _ z ih =>
  intro V hz hV hVc
  obtain ⟨b, t, q⟩ := follow_l2 hn hl hc hs (z := z) (fun V' h1 h2 h3 => ih _ h3 V' rfl h1 h2) l.length 0 V false rfl hV hVc (by omega) (fun e => by cases e) (fun _ d hd => by simp at hd)
  exact ⟨b, Tells.succ (h := fun k => sequiturref22_Follows.l2 k l V false ((0 : Nat) : Int)) (fun k => by rw [sequiturref22_Follows.l1, if_pos rfl]; rfl) t, q⟩
theorem follow_l0 {l : List (List Int)} {n : Int} {c : List Int} (hn : n ≤ 1024) (hl : ∀ d ∈ l, (∀ x ∈ d, InN n x) ∧ d.length < 4611686018427387904) (hc : ∀ x ∈ c, InN n x) (hs : l.length < 4611686018427387904) (hcs : c.length < 4611686018427387904) :
    ∀ (m i : Nat) (V : List Int), m + i = c.length → Vok n V → (∀ x ∈ c.take i, vl V x = -1) → ∃ b, Tells (fun k => sequiturref22_Follows.l0 k l c V (i : Int)) b ∧ (b = false → Stops l n c)
  | 0, i, V, hm, hV, hVc => by
    rw [List.take_of_length_le (by omega)] at hVc
    obtain ⟨b, t, q⟩ := follow_l1 hn hl hc hs _ V rfl hV hVc
    exact ⟨b, Tells.succ (fun k => by rw [sequiturref22_Follows.l0]) (Tells.neg (by omega) t), q⟩
  | m + 1, i, V, hm, hV, hVc => by
    have hi : i < c.length := by omega
    have hx := hc _ (List.getElem_mem hi)
    have hx2 := hx.2
    have hlen := hV.len
    have hv := hV.value hn hx
    by_cases hp : vl V c[i] > 0
    · refine ⟨true, Tells.succ (fun k => by rw [sequiturref22_Follows.l0]) (Tells.pos (by omega) (Tells.pos (by omega) ?_)), fun e => by cases e⟩
      rw [rd_at _ _ hi, hv]
      exact Tells.bind (Tells.const _) (Tells.pos hp (Tells.const _))
    · have hVs := hV.set (-c[i])
      obtain ⟨b, t, q⟩ := follow_l0 hn hl hc hs hcs m (i + 1) (setV V (-c[i])) (by omega) hVs (fun x hx3 => by
        rw [List.take_add_one, List.getElem?_eq_getElem hi] at hx3
        have hxn : InN n x := by
          rcases List.mem_append.1 hx3 with k | k
          · exact hc x (List.mem_of_mem_take k)
          · have : x = c[i] := by simpa using k
            rw [this]; exact hx
        rw [hV.vl_set hx.neg hxn, Int.neg_neg]
        by_cases e1 : x = -c[i]
        · exfalso
          rcases List.mem_append.1 hx3 with k | k
          · have := hVc x k
            rw [e1, vl_neg V hx.1] at this
            omega
          · have : x = c[i] := by simpa using k
            have := hx.1
            omega
        · rw [if_neg e1]
          by_cases e2 : x = c[i]
          · rw [if_pos e2]
          · rw [if_neg e2]
            rcases List.mem_append.1 hx3 with k | k
            · exact hVc x k
            · exact absurd (by simpa using k) e2)
      refine ⟨b, Tells.succ (fun k => by rw [sequiturref22_Follows.l0]) (Tells.pos (by omega) (Tells.pos (by omega) ?_)), q⟩
      rw [rd_at _ _ hi, hv, w64s hi hcs]
      refine Tells.bind (Tells.const _) (Tells.neg hp ?_)
      unfold setV at t
      by_cases hneg : c[i] < 0
      · rw [if_neg (by omega)] at t
        refine Tells.pos hneg ?_
        rw [hx.w hn]
        exact Tells.pos (by omega) (Tells.pos (by omega) t)
      · have := hx.1
        rw [if_pos (by omega), Int.neg_neg] at t
        exact Tells.neg hneg (Tells.pos (by omega) (Tells.pos (by omega) t))
theorem Follows_tells {l : List (List Int)} {n : Int} {c : List Int} (hn : 0 ≤ n ∧ n ≤ 1024) (hl : ∀ d ∈ l, (∀ x ∈ d, InN n x) ∧ d.length < 4611686018427387904) (hc : ∀ x ∈ c, InN n x) (hs : l.length < 4611686018427387904) (hcs : c.length < 4611686018427387904) (hr : Rup l n c) : Tells (fun k => sequiturref22_Follows.f k l n c) true := by
  have hw : wrap64 (n + 1) = n + 1 := w64 (by omega) (by omega)
  have hV0 : Vok n (List.replicate (n + 1).toNat 0) := ⟨by rw [List.length_replicate]; omega, fun x hx => .inr (.inl (List.eq_of_mem_replicate hx))⟩
  obtain ⟨b, t, q⟩ := follow_l0 hn.2 hl hc hs hcs c.length 0 _ rfl hV0 (fun x hx => by simp at hx)
  cases b with
  | true =>
    unfold sequiturref22_Follows.f
    rw [hw]
    exact Tells.pos (by omega) (Tells.pos (by omega) t)
  | false =>
    exfalso
    obtain ⟨V, h1, h2, h3⟩ := q rfl
    refine hr (fun x => InN n x ∧ vl V x = 1) (fun x hx a b => ?_) (fun x hx => ⟨(hc x hx).neg, by rw [vl_neg V (hc x hx).1, h2 x hx]; rfl⟩) (fun d hd x hx hy => ?_) (fun d hd => ?_)
    · have := b.2
      rw [vl_neg V hx.1, a.2] at this
      omega
    · refine ⟨(hl d hd).1 x hx, ?_⟩
      have hf : ∀ y ∈ d, y ≠ x → vl V y = -1 := fun y hyd hne => by
        have := (hy y hyd hne).2
        rw [vl_neg V ((hl d hd).1 y hyd).1] at this
        omega
      rcases h3 d hd with ⟨y, hy1, hy2⟩ | ⟨y, hy1, z, hz1, hyz, e1, e2⟩
      · by_cases e : y = x
        · rw [← e]; exact hy2
        · have := hf y hy1 e; omega
      · by_cases e : y = x
        · have := hf z hz1 (fun e3 => hyz (e.trans e3.symm)); omega
        · have := hf y hy1 e; omega
    · rcases h3 d hd with ⟨y, hy1, hy2⟩ | ⟨y, hy1, _, _, _, e1, _⟩
      · exact ⟨y, hy1, fun a => by have := a.2; rw [vl_neg V ((hl d hd).1 y hy1).1] at this; omega⟩
      · exact ⟨y, hy1, fun a => by have := a.2; rw [vl_neg V ((hl d hd).1 y hy1).1] at this; omega⟩
theorem has22_loop (c : List Int) (x : Int) (hs : c.length < 4611686018427387904) : ∀ (m i : Nat), m + i = c.length → Tells (fun k => sequiturref22_has.l0 k c x (i : Int)) ((c.drop i).any fun y => y == x)
  | 0, i, h => by
    refine Tells.succ (fun k => by rw [sequiturref22_has.l0]) (Tells.neg (by omega) ?_)
    rw [List.drop_of_length_le (by omega)]; exact Tells.const _
  | m + 1, i, h => by
    have hi : i < c.length := by omega
    refine Tells.succ (fun k => by rw [sequiturref22_has.l0]) (Tells.pos (by omega) (Tells.pos (by omega) ?_))
    rw [rd_at _ _ hi, w64s hi hs, List.drop_eq_getElem_cons hi, List.any_cons]
    by_cases e : c[i] = x
    · refine Tells.pos e ?_
      rw [beq_iff_eq.2 e, Bool.true_or]; exact Tells.const _
    · refine Tells.neg e ?_
      rw [beq_eq_false_iff_ne.2 e, Bool.false_or]; exact has22_loop c x hs m (i + 1) (by omega)
theorem has22_tells (c : List Int) (x : Int) (hs : c.length < 4611686018427387904) : Tells (fun k => sequiturref22_has.f k c x) (c.any fun y => y == x) := has22_loop c x hs c.length 0 rfl
theorem Same22_l1 (a b : List Int) (ha : a.length < 4611686018427387904) (hb : b.length < 4611686018427387904) : ∀ (m i : Nat), m + i = b.length → Tells (fun k => sequiturref22_Same.l1 k a b (i : Int)) ((b.drop i).all fun x => a.any fun y => y == x)
  | 0, i, h => by
    refine Tells.succ (fun k => by rw [sequiturref22_Same.l1]) (Tells.neg (by omega) ?_)
    rw [List.drop_of_length_le (by omega)]; exact Tells.const _
  | m + 1, i, h => by
    have hi : i < b.length := by omega
    refine Tells.succ (fun k => by rw [sequiturref22_Same.l1]) (Tells.pos (by omega) (Tells.pos (by omega) ?_))
    rw [rd_at _ _ hi, w64s hi hb, List.drop_eq_getElem_cons hi, List.all_cons]
    refine Tells.bind (has22_tells a b[i] ha) ?_
    cases hh : a.any fun y => y == b[i] with
    | true => exact Tells.pos rfl (by rw [Bool.true_and]; exact Same22_l1 a b ha hb m (i + 1) (by omega))
    | false => exact Tells.neg (by decide) (by rw [Bool.false_and]; exact Tells.const _)
theorem Same22_l0 (a b : List Int) (ha : a.length < 4611686018427387904) (hb : b.length < 4611686018427387904) : ∀ (m i : Nat), m + i = a.length → Tells (fun k => sequiturref22_Same.l0 k a b (i : Int)) (((a.drop i).all fun x => b.any fun y => y == x) && (b.all fun x => a.any fun y => y == x))
  | 0, i, h => by
    refine Tells.succ (fun k => by rw [sequiturref22_Same.l0]) (Tells.neg (by omega) ?_)
    rw [List.drop_of_length_le (by omega)]
    have := Same22_l1 a b ha hb b.length 0 rfl
    simpa using this
  | m + 1, i, h => by
    have hi : i < a.length := by omega
    refine Tells.succ (fun k => by rw [sequiturref22_Same.l0]) (Tells.pos (by omega) (Tells.pos (by omega) ?_))
    rw [rd_at _ _ hi, w64s hi ha, List.drop_eq_getElem_cons hi, List.all_cons]
    refine Tells.bind (has22_tells b a[i] hb) ?_
    cases hh : b.any fun y => y == a[i] with
    | true => exact Tells.pos rfl (by rw [Bool.true_and]; exact Same22_l0 a b ha hb m (i + 1) (by omega))
    | false => exact Tells.neg (by decide) (by rw [Bool.false_and, Bool.false_and]; exact Tells.const _)
theorem Same22_tells (a b : List Int) (ha : a.length < 4611686018427387904) (hb : b.length < 4611686018427387904) : ∃ r, Tells (fun k => sequiturref22_Same.f k a b) r ∧ (a = b → r = true) := by
  refine ⟨_, Same22_l0 a b ha hb a.length 0 rfl, fun e => ?_⟩
  subst e
  have : (a.all fun x => a.any fun y => y == x) = true := by
    rw [List.all_eq_true]
    exact fun x hx => List.any_eq_true.2 ⟨x, hx, by simp⟩
  rw [List.drop_zero, this]; rfl
theorem Log22_loop {n : Int} {L0 : List (List Int)} {log : List S64} {last : List Int} (hn : 0 ≤ n ∧ n ≤ 1024) (h : LogOk n L0 log) (hl : ∀ d ∈ L0, (∀ x ∈ d, InN n x) ∧ d.length < 4611686018427387904) (hs : L0.length ≤ 4096) (hs2 : log.length ≤ 4096) (hlast : last.length < 4611686018427387904) (he : ∃ lg, log = lg ++ [⟨false, last⟩]) :
    ∀ (m i : Nat) (e : Bool), m + i = log.length → (i = log.length → e = true) → Tells (fun k => sequiturref22_Log.l0 k log last (L0 ++ (log.take i).map (·.f1)) e (i : Int) n L0) true
  | 0, i, e, hm, hend => by
    refine Tells.succ (fun k => by rw [sequiturref22_Log.l0]) (Tells.neg (by omega) ?_)
    rw [hend (by omega)]; exact Tells.const _
  | m + 1, i, e, hm, hend => by
    have hi : i < log.length := by omega
    obtain ⟨o1, o2, o3⟩ := h.one _ (List.getElem_mem hi)
    have hrd : rd_T64 log (i : Int) = log[i] := by simp [rd_T64, hi]
    have hnI : I64 n := wfI (by omega)
    have hlen : (L0 ++ (log.take i).map (·.f1)).length = L0.length + i := by rw [List.length_append, List.length_map, zqr]; omega
    have hin : ∀ d ∈ L0 ++ (log.take i).map (·.f1), (∀ x ∈ d, InN n x) ∧ d.length < 4611686018427387904 := fun d hd => by
      rcases List.mem_append.1 hd with k | k
      · exact hl d k
      · obtain ⟨x, hx, rfl⟩ := List.mem_map.1 k
        obtain ⟨_, q2, q3⟩ := h.one x (List.mem_of_mem_take hx)
        exact ⟨q2, by omega⟩
    have hrup : Rup (L0 ++ (log.take i).map (·.f1)) n log[i].f1 := by
      have := h.rup i log[i].f1 (by rw [List.getElem?_map, List.getElem?_eq_getElem hi]; rfl)
      rw [List.take_append, List.take_of_length_le (by omega), Nat.add_sub_cancel_left, ← List.map_take] at this
      exact this
    obtain ⟨sm, ts, qs⟩ := Same22_tells log[i].f1 last (by omega) hlast
    have ih := Log22_loop hn h hl hs hs2 hlast he m (i + 1) sm (by omega) (fun e2 => qs (by
      obtain ⟨lg, q⟩ := he
      have hlg : i = lg.length := by rw [q, List.length_append, List.length_singleton] at e2; omega
      have : log[i]? = some ⟨false, last⟩ := by rw [q, hlg, List.getElem?_append_right (zqx _)]; simp
      rw [List.getElem?_eq_getElem hi] at this
      injection this with this
      rw [this]))
    have htk : (log.take (i + 1)).map (·.f1) = (log.take i).map (·.f1) ++ [log[i].f1] := by
      rw [List.take_add_one, List.getElem?_eq_getElem hi, List.map_append]; rfl
    rw [htk, ← List.append_assoc] at ih
    refine Tells.succ (fun k => by rw [sequiturref22_Log.l0]) (Tells.pos (by omega) (Tells.pos (by omega) ?_))
    rw [hrd, w64s hi (by omega)]
    refine Tells.neg (by rw [o1]; decide) (Tells.bind (ref19_Clause_tells log[i].f1 n hnI hn.1 (by omega)) ?_)
    rw [clauseErr_zero o2 o3]
    exact Tells.pos rfl (Tells.bind (Follows_tells hn hin o2 (by omega) (by omega) hrup) (Tells.pos rfl (Tells.pos (by omega) (Tells.bind ts ih))))
theorem Log22_tells {n : Int} {L0 : List (List Int)} {log : List S64} {last : List Int} (hn : 0 ≤ n ∧ n ≤ 1024) (h : LogOk n L0 log) (hl : ∀ d ∈ L0, (∀ x ∈ d, InN n x) ∧ d.length < 4611686018427387904) (hs : L0.length ≤ 4096) (hs2 : log.length ≤ 4096) (hlast : last.length < 4611686018427387904) (he : ∃ lg, log = lg ++ [⟨false, last⟩]) :
    Tells (fun k => sequiturref22_Log.f k n L0 log last) true := by
  have := Log22_loop hn h hl hs hs2 hlast he log.length 0 false rfl (fun e => by
    obtain ⟨lg, q⟩ := he
    rw [q, List.length_append, List.length_singleton] at e; omega)
  unfold sequiturref22_Log.f
  refine Tells.bind (v := []) (Tells.const _) (Tells.pos (by show 0 + L0.length < _; omega) ?_)
  simpa using this
theorem Within22_loop (a b : List Int) (ha : a.length < 4611686018427387904) (hb : b.length < 4611686018427387904) : ∀ (m i j : Nat), m + i = b.length → j ≤ a.length → (a.drop j).Sublist (b.drop i) → Tells (fun k => sequiturref22_Within.l0 k a b (j : Int) (i : Int)) true
  | 0, i, j, h, hj, hs => by
    rw [List.drop_of_length_le (l := b) (by omega)] at hs
    have he := congrArg List.length (List.sublist_nil.1 hs)
    simp at he
    refine Tells.succ (fun k => by rw [sequiturref22_Within.l0]) (Tells.neg (by omega) (Tells.succ (fun k => by rw [sequiturref22_Within.j1]) (Tells.neg (by decide) ?_)))
    rw [show ((j : Int) == (a.length : Int)) = true from beq_iff_eq.2 (by omega)]
    exact Tells.const _
  | m + 1, i, j, h, hj, hs => by
    have hi : i < b.length := by omega
    refine Tells.succ (fun k => by rw [sequiturref22_Within.l0]) (Tells.pos (by omega) (Tells.succ (fun k => by rw [sequiturref22_Within.j1]) ?_))
    by_cases hja : j < a.length
    · rw [zqt (by omega : (j : Int) < (a.length : Int))]
      refine Tells.pos rfl (Tells.pos (by omega) (Tells.pos (by omega) (Tells.pos (by omega) (Tells.pos (by omega) ?_))))
      rw [rd_at _ _ hi, rd_at _ _ hja, w64s hi hb, w64s hja ha]
      rw [List.drop_eq_getElem_cons hi, List.drop_eq_getElem_cons hja] at hs
      by_cases e : a[j] = b[i]
      · refine Tells.pos e (Within22_loop a b ha hb m (i + 1) (j + 1) (by omega) (by omega) ?_)
        rw [e] at hs
        exact List.cons_sublist_cons.1 hs
      · refine Tells.neg e (Within22_loop a b ha hb m (i + 1) j (by omega) hj ?_)
        rw [List.drop_eq_getElem_cons hja]
        rcases List.sublist_cons_iff.1 hs with h2 | ⟨r, h2, _⟩
        · exact h2
        · injection h2 with h2
          exact absurd h2 e
    · rw [zqu (by omega : ¬ (j : Int) < (a.length : Int))]
      refine Tells.neg (by decide) ?_
      rw [show ((j : Int) == (a.length : Int)) = true from beq_iff_eq.2 (by omega)]
      exact Tells.const _
theorem Within22_tells {a b : List Int} (ha : a.length < 4611686018427387904) (hb : b.length < 4611686018427387904) (h : a.Sublist b) : Tells (fun k => sequiturref22_Within.f k a b) true :=
  Within22_loop a b ha hb b.length 0 0 rfl (by omega) (by simpa using h)
theorem Units_loop (n : Int) (asm : List Int) (hs : asm.length < 4611686018427387904) : ∀ (m i : Nat) (l : List (List Int)), m + i = asm.length → l.length + m < 5864062014805 → Tells (fun k => sequiturref22_Units.l0 k asm (i : Int) n l) (n, l ++ (asm.drop i).map fun a => [a])
  | 0, i, l, h, hl => by
    refine Tells.succ (fun k => by rw [sequiturref22_Units.l0]) (Tells.neg (by omega) ?_)
    rw [List.drop_of_length_le (by omega), List.map_nil, List.append_nil]; exact Tells.const _
  | m + 1, i, l, h, hl => by
    have hi : i < asm.length := by omega
    have ih := Units_loop n asm hs m (i + 1) (l ++ [[asm[i]]]) (by omega) (by rw [List.length_append, List.length_singleton]; omega)
    rw [List.append_assoc] at ih
    refine Tells.succ (fun k => by rw [sequiturref22_Units.l0]) (Tells.pos (by omega) (Tells.pos (by omega) (Tells.pos (by omega) ?_)))
    rw [rd_at _ _ hi, w64s hi hs, List.drop_eq_getElem_cons hi, List.map_cons]
    exact ih
def units (l : List (List Int)) (asm : List Int) : List (List Int) := l ++ asm.map fun a => [a]
theorem Units_tells (n : Int) (l : List (List Int)) (asm : List Int) (hs : asm.length ≤ 1000000) (hl : l.length ≤ 1000000) : Tells (fun k => sequiturref22_Units.f k n l asm) (n, units l asm) := by
  have := Units_loop n asm (by omega) asm.length 0 l rfl (by omega)
  unfold sequiturref22_Units.f
  refine Tells.bind (v := []) (Tells.const _) (Tells.pos (by show 0 + l.length < _; omega) ?_)
  simpa [units] using this
theorem units_in {n : Int} {l : List (List Int)} {asm : List Int} (hl : ∀ c ∈ l, (∀ x ∈ c, InN n x) ∧ c.length ≤ 64) (ha : ∀ x ∈ asm, InN n x) : ∀ c ∈ units l asm, (∀ x ∈ c, InN n x) ∧ c.length ≤ 64 := fun c hc => by
  rcases List.mem_append.1 hc with k | k
  · exact hl c k
  · obtain ⟨a, h, rfl⟩ := List.mem_map.1 k
    exact ⟨fun x hx => by rw [List.mem_singleton.1 hx]; exact ha a h, by show 1 ≤ 64; decide⟩
theorem in_rows {n : Int} (hn : n ≤ 1024) {l : List (List Int)} (hs : l.length < 4611686018427387904) (hl : ∀ c ∈ l, (∀ x ∈ c, InN n x) ∧ c.length ≤ 64) : Rows64 l ∧ ∀ c ∈ l, Plain c :=
  ⟨⟨hs, fun c hc => ⟨by have := (hl c hc).2; omega, fun x hx => ((hl c hc).1 x hx).wf hn⟩⟩, fun c hc x hx => ⟨((hl c hc).1 x hx).wf hn, fun e => by have := ((hl c hc).1 x hx).2; omega⟩⟩
theorem told_loop {n : Int} {L0 : List (List Int)} {asm need : List Int} {log : List S64} {steps : Int} (hn : 0 ≤ n ∧ n ≤ 1024) (hl : ∀ d ∈ L0, (∀ x ∈ d, InN n x) ∧ d.length ≤ 64) (hs : L0.length ≤ 4096) (hne : ∀ x ∈ need, InN n x) (hnl : need.length ≤ 64) (hasl : asm.length ≤ 64) (hsub : need.Sublist asm) (hlog : LogOk n L0 log) (hlogl : log.length ≤ 4096) (he : ∃ lg, log = lg ++ [⟨false, need.map fun x => -x⟩]) :
    ∀ (m i : Nat), m + i = need.length → Tells (fun k => sequiturlaw22_told.l0 k need asm ((need.take i).map fun x => -x) (i : Int) n L0 false [] log steps) true
  | 0, i, h => by
    rw [List.take_of_length_le (by omega)]
    have hL := Log22_tells hn hlog (fun d hd => ⟨(hl d hd).1, by have := (hl d hd).2; omega⟩) hs hlogl (by rw [List.length_map]; omega) he
    have hW := Within22_tells (a := need) (b := asm) (by omega) (by omega) hsub
    refine Tells.succ (h := fun k => (sequiturref22_Within.f k need asm).bind fun t291 => if t291 = true then (sequiturref22_Log.f k n L0 log (need.map fun x => -x)).bind (fun t292 => some t292) else some false) (fun k => ?_) (Tells.bind hW (Tells.pos rfl (Tells.bind hL (Tells.const _))))
    rw [sequiturlaw22_told.l0, if_neg (by omega), if_pos (by rfl), if_pos (by omega)]
  | m + 1, i, h => by
    have hi : i < need.length := by omega
    have ih := told_loop (steps := steps) hn hl hs hne hnl hasl hsub hlog hlogl he m (i + 1) (by omega)
    rw [List.take_add_one, List.getElem?_eq_getElem hi, List.map_append] at ih
    refine Tells.succ (fun k => by rw [sequiturlaw22_told.l0]) (Tells.pos (by omega) (Tells.pos (by omega) (Tells.pos (by rw [List.length_map, zqr]; omega) ?_)))
    rw [rd_at _ _ hi, w64s hi (by omega), (hne _ (List.getElem_mem hi)).w hn.2]
    exact ih
theorem told_tells {n fuel : Int} {L0 : List (List Int)} {asm : List Int} {r : P.Found} (h1 : setErr n L0 = 0) (h2 : clauseErr asm n = 0) (h3 : r.err = 0) (h : FGood n L0 asm fuel r) : Tells (fun k => sequiturlaw22_told.f k n L0 r.sat r.vals r.log r.steps r.need asm fuel) true := by
  obtain ⟨s1, s2, s3⟩ := setErr_InN h1
  obtain ⟨a1, a2⟩ := clauseErr_InN h2
  rcases h with ⟨_, h | h⟩ | ⟨_, c2, c3, h⟩
  · rw [h] at h3; exact absurd h3 (by show ¬ (9 : Int) = 0; decide)
  · rw [h] at h3; exact absurd h3 (by show ¬ (2 : Int) = 0; decide)
  unfold sequiturlaw22_told.f
  refine Tells.bind (v := true) ?_ (Tells.pos rfl (Tells.const _))
  unfold sequiturlaw22_told.f0
  refine Tells.neg (by omega) ?_
  rw [zqu (by omega)]
  refine Tells.succ (fun k => by rw [sequiturlaw22_told.j0]) (Tells.neg (by decide) ?_)
  rcases h with ⟨k1, k2, k3, k4, k5, k6⟩ | ⟨k1, k2, k3, k4, ⟨p, k5⟩, k6⟩
  · refine Tells.pos k1 (Tells.pos k2 ?_)
    rw [k3, k4]
    have hu := units_in s3 a1
    obtain ⟨u1, u2⟩ := in_rows s1.2 (l := units L0 asm) (by unfold units; rw [List.length_append, List.length_map]; omega) hu
    refine Tells.pos rfl (Tells.pos rfl (Tells.bind (Units_tells n L0 asm (by omega) (by omega)) ?_))
    have he : every (units L0 asm) r.vals = true := by
      unfold every units
      rw [List.all_append, Bool.and_eq_true]
      refine ⟨k5, ?_⟩
      rw [List.all_map, List.all_eq_true]
      intro a ha
      show ([a].any fun l => litT l r.vals) = true
      rw [List.any_cons, k6 a ha]; rfl
    have ht := ref19_Every_tells (units L0 asm) r.vals u1 u2 (by omega)
    rw [he] at ht
    exact Tells.bind ht (Tells.const _)
  · rw [k1, k2]
    have hsub : r.need.Sublist asm := by rw [k5]; exact List.filter_sublist
    exact Tells.neg (by decide) (told_loop s1 s3 s2 (fun x hx => a1 x (hsub.subset hx)) (by have := hsub.length_le; omega) a2 hsub k4 k3 k6 r.need.length 0 rfl)
theorem wrong_tells (n : Int) (l : List (List Int)) (asm : List Int) (fuel : Int) (hl : Rows64 l) (hn : I64 n) (hal : asm.length < 4611686018427387904) :
    (setErr n l ≠ 0 → Tells (fun k => sequiturlaw22_wrong.f k n l asm fuel) (setErr n l)) ∧ (setErr n l = 0 → clauseErr asm n ≠ 0 → Tells (fun k => sequiturlaw22_wrong.f k n l asm fuel) (clauseErr asm n)) ∧
      (setErr n l = 0 → clauseErr asm n = 0 → (fuel < 0 ∨ 1048576 < fuel) → Tells (fun k => sequiturlaw22_wrong.f k n l asm fuel) 1) ∧ (setErr n l = 0 → clauseErr asm n = 0 → ¬ (fuel < 0 ∨ 1048576 < fuel) → Tells (fun k => sequiturlaw22_wrong.f k n l asm fuel) 0) := by
  unfold sequiturlaw22_wrong.f
  have hr := ref19_Right_tells n l hl hn
  refine ⟨fun h1 => Tells.bind hr (Tells.neg h1 (Tells.const _)), fun h1 h2 => ?_, fun h1 h2 h3 => ?_, fun h1 h2 h3 => ?_⟩
  all_goals have h0 := (setErr_InN h1).1.1
  · exact Tells.bind hr (Tells.pos h1 (Tells.bind (ref19_Clause_tells asm n hn h0 hal) (Tells.neg h2 (Tells.const _))))
  · refine Tells.bind hr (Tells.pos h1 (Tells.bind (ref19_Clause_tells asm n hn h0 hal) (Tells.pos h2 ?_)))
    by_cases h4 : fuel < 0
    · exact Tells.pos h4 (Tells.const _)
    · exact Tells.neg h4 (Tells.pos (by omega) (Tells.const _))
  · exact Tells.bind hr (Tells.pos h1 (Tells.bind (ref19_Clause_tells asm n hn h0 hal) (Tells.pos h2 (Tells.neg (by omega) (Tells.neg (by omega) (Tells.const _))))))
theorem bare_bad (f s : Int) : sequiturlaw22_bare.f (Found.bad f s).sat (Found.bad f s).vals (Found.bad f s).log (Found.bad f s).steps s = some true := by
  show (if false = true then some false else if ((0 : Nat) : Int) = 0 then (if ((0 : Nat) : Int) = 0 then some (s == s) else some false) else some false) = some true
  simp
end Go.Proofs.Ytaibnbhgjnddnaa.Pu
namespace Go.Proofs.Ytaibnbhgjnddnaa.Open
open Go.RowKit Go.Proofs.YtaibnbhgjnddnaaW.PrintWords Go.Proofs.YtaibnbhgjnddnaaW.PrintLast Go.Proofs.YtaibnbhgjnddnaaW.PrintMore Go.ChangeShapes Go.WideShapes Go.Deep
def Opens (P : Program) (t : TypeId) {α : Type} (d : Kd α) (good : α → Prop) : Prop :=
  ∀ {H : Type} (enc : TypeId × Value → H) (w : World) (fuel : Nat) (cs : List Value) (x : DataW H × List MemPlace),
    DataW.trod enc P w 0 (fun _ => true) true fuel t cs = some x → (∀ n ∈ DataW.weights P t x.1, n ≤ 140737488351232) → ∃ a, Kd.FK d w (fun _ => True) a cs ∧ good a
def Row (B : Nat) {α : Type} (good : α → Prop) (xs : List α) : Prop := xs.length * B ≤ 140737488351232 ∧ ∀ x ∈ xs, good x
def I64 (n : Int) : Prop := (Lit.int .i64 n).wf = true
variable {P : Program}
theorem cell_same {w W' : World} (hW : ∀ k, (fun _ => True) k → k < w.heap.size → W'.heap[k]? = w.heap[k]?) {p : Addr} {u : Value} (h : w.cell? p = some u) : W'.cell? p = some u := by
  have hlt : p.block < w.heap.size := by
    rcases Nat.lt_or_ge p.block w.heap.size with h1 | h1
    · exact h1
    · simp [World.cell?, Array.getElem?_eq_none h1] at h
  have hb : W'.heap[p.block]? = w.heap[p.block]? := hW _ trivial hlt
  unfold World.cell? at h ⊢
  rw [hb]; exact h
theorem int_ {t : TypeId} {k : IntKind} (ht : P.underlying t = some (.int k)) : Opens P t (Kd.int k) (fun n => (Lit.int k n).wf = true) := by
  intro H enc w fuel cs x h _
  obtain ⟨n, rfl, hx, hw⟩ := DataW.trod_int ht h
  exact ⟨n, fun _ _ => rfl, hw⟩
theorem mem_weightsAll {H : Type} {e : TypeId} {n : Nat} : ∀ {l : List (DataW H)} {d : DataW H}, d ∈ l → n ∈ DataW.weights P e d → n ∈ DataW.weightsAll P e l
  | [], _, h, _ => by cases h
  | y :: l, d, h, hn => by
    rw [DataW.weightsAll]
    rcases List.mem_cons.1 h with rfl | h
    · exact List.mem_append_left _ hn
    · exact List.mem_append_right _ (mem_weightsAll h hn)
theorem slice_ {t e : TypeId} {α : Type} {d : Kd α} {good : α → Prop} {B : Nat} (ht : P.underlying t = some (.slice e)) (hd : P.cellsOf e = d.sz) (hB : P.bytesOf e = B) (hB0 : 0 < B) (he : Opens P e d good) :
    Opens P t (Kd.slice e d) (Row B good) := by
  intro H enc w fuel cs x h hx
  rcases open_slice ht h with ⟨rfl, rfl⟩ | ⟨a, len, cap, m, n, D, Pl, rfl, _, hl, hm, hmm, rfl, hel⟩
  · exact ⟨[], fun _ _ => ⟨none, 0, rfl, zqx _, rfl, Nat.zero_le _, fun h => absurd h (Nat.lt_irrefl 0)⟩, by simp, fun x hx => by cases hx⟩
  · simp only [if_true] at hmm
    obtain rfl : m = cap := hmm
    rw [hd] at hel
    have hw : ∀ i, i < len → ∀ q ∈ DataW.weights P e (D i), q ≤ 140737488351232 := fun i hi q hq => by
      refine hx q ?_
      show q ∈ DataW.weights P t (DataW.slice _ _)
      rw [DataW.weights, ht]
      exact List.mem_cons_of_mem _ (List.mem_append_left _ (mem_weightsAll (List.mem_map.2 ⟨i, List.mem_range.2 hi, rfl⟩) hq))
    have hlen : len * B ≤ 140737488351232 := by
      have := hx ((len + (m - len)) * B) (by
        show _ ∈ DataW.weights P t (DataW.slice _ _)
        rw [DataW.weights, ht]
        simp [hB])
      exact Nat.le_trans (Nat.mul_le_mul_right _ (by omega)) this
    have hlt : len ≤ 140737488351232 := Nat.le_trans (Nat.le_mul_of_pos_right _ hB0) hlen
    have each : ∀ i, i < len → ∃ y, (∃ cs', w.cells? 0 (a.add (i * d.sz)) d.sz = some cs' ∧ Kd.FK d w (fun _ => True) y cs') ∧ good y := fun i hi => by
      obtain ⟨cs', h1, h2⟩ := hel i (by omega)
      obtain ⟨y, hy, hg⟩ := he enc w n cs' (D i, Pl i) h2 (hw i hi)
      exact ⟨y, ⟨cs', h1, hy⟩, hg⟩
    have : ∃ xs : List α, xs.length = len ∧ ∀ i y, xs[i]? = some y → (∃ cs', w.cells? 0 (a.add (i * d.sz)) d.sz = some cs' ∧ Kd.FK d w (fun _ => True) y cs') ∧ good y := by
      clear hw hlen hlt hel hx h
      clear hl
      induction len with
      | zero => exact ⟨[], rfl, fun i y h => by simp at h⟩
      | succ j ih =>
        obtain ⟨xs, hxs, hk⟩ := ih (fun i hi => each i (by omega))
        obtain ⟨y, hy⟩ := each j (by omega)
        refine ⟨xs ++ [y], by simp [hxs], fun i z hz => ?_⟩
        rcases Nat.lt_or_ge i xs.length with hi | hi
        · rw [List.getElem?_append_left hi] at hz; exact hk i z hz
        · rw [List.getElem?_append_right hi] at hz
          have : i - xs.length = 0 := by
            rcases Nat.eq_zero_or_pos (i - xs.length) with h0 | h0
            · exact h0
            · rw [List.getElem?_eq_none (by simp; omega)] at hz; cases hz
          rw [this] at hz
          simp at hz
          subst hz
          obtain rfl : i = j := by omega
          exact hy
    obtain ⟨xs, hxs, hk⟩ := this
    refine ⟨xs, fun W' hW => ⟨some a, m, by rw [hxs], by omega, ⟨rfl, by omega, fun _ => ⟨a, rfl, fun j p hj => ?_⟩⟩⟩, by rw [hxs]; exact hlen, fun y hy => ?_⟩
    · obtain ⟨⟨cs', h1, h2⟩, _⟩ := hk j p hj
      obtain ⟨_, h3, h4⟩ := World.cells?_some h1
      refine ⟨cs', h3, h2 W' hW, fun i u hu => ?_⟩
      have hi : i < d.sz := by rw [← h3]; exact (List.getElem?_eq_some_iff.1 hu).1
      have hc := h4 i hi
      rw [hu] at hc
      rw [Addr.add_add] at hc
      exact cell_same hW hc
    · obtain ⟨i, hi, rfl⟩ := List.getElem_of_mem hy
      exact (hk i _ (List.getElem?_eq_getElem hi)).2
theorem slice_arg {H : Type} {enc : TypeId × Value → H} {w : World} {t e : TypeId} {α : Type} {d : Kd α} {good : List α → Prop} (ho : Opens P t (Kd.slice e d) good) {A : Option Addr} {len cap : Nat} {x : DataW H} {p : List MemPlace}
    (h : DataW.Trod enc P w 0 (fun _ => true) true t (.slice A len cap) x p) (hx : ∀ n ∈ DataW.weights P t x, n ≤ 140737488351232) :
    ∃ l : List α, len = l.length ∧ Kd.F d w (fun _ => True) A l.length l ∧ l.length ≤ cap ∧ good l := by
  obtain ⟨fuel, hf⟩ := h
  obtain ⟨l, hF, hg⟩ := ho enc w fuel _ _ hf hx
  obtain ⟨A', c, hcs, hl, hc⟩ := Kd.FK_slice_open hF
  simp [Value.cells] at hcs
  obtain ⟨rfl, rfl, rfl⟩ := hcs
  exact ⟨l, rfl, hc, hl, hg⟩
theorem slice_field {H : Type} {enc : TypeId × Value → H} {w : World} {t e : TypeId} {α : Type} {d : Kd α} {good : List α → Prop} (ho : Opens P t (Kd.slice e d) good) {v : Value} {n : Nat} {x : DataW H × List MemPlace}
    (h : DataW.trod enc P w 0 (fun _ => true) true n t [v] = some x) (hx : ∀ n ∈ DataW.weights P t x.1, n ≤ 140737488351232) :
    ∃ (A : Option Addr) (c : Nat) (l : List α), v = .slice A l.length c ∧ Kd.F d w (fun _ => True) A l.length l ∧ l.length ≤ c ∧ good l := by
  obtain ⟨l, hF, hg⟩ := ho enc w n _ _ h hx
  obtain ⟨A', c, hcs, hl, hc⟩ := Kd.FK_slice_open hF
  simp at hcs
  exact ⟨A', c, l, hcs, hc, hl, hg⟩
theorem int_field {H : Type} {enc : TypeId × Value → H} {w : World} {t : TypeId} {k : IntKind} (ht : P.underlying t = some (.int k)) {v : Value} {n : Nat} {x : DataW H × List MemPlace}
    (h : DataW.trod enc P w 0 (fun _ => true) true n t [v] = some x) : ∃ a : Int, v = .int k a ∧ (Lit.int k a).wf = true := by
  obtain ⟨a, hcs, _, hw⟩ := DataW.trod_int ht h
  simp at hcs
  exact ⟨a, hcs, hw⟩
theorem at_ {H : Type} {ts : List TypeId} {ds : List (DataW H)} (h : (DataW.weightsEach P ts ds).all (· ≤ reachBytes) = true) {j : Nat} {t : TypeId} {d : DataW H} (ht : ts[j]? = some t) (hd : ds[j]? = some d) :
    ∀ n ∈ DataW.weights P t d, n ≤ 140737488351232 := fun n hn => by
  have := List.all_eq_true.1 h _ (DataW.weights_mem_each ht hd n hn)
  exact zqe this
theorem fields {H : Type} {t : TypeId} {fs : Array Field} {ds : List (DataW H)} (ht : P.underlying t = some (.struct fs)) (hx : ∀ n ∈ DataW.weights P t (.agg ds), n ≤ 140737488351232) {j : Nat} {f : Field} {d : DataW H} (hf : fs.toList[j]? = some f) (hd : ds[j]? = some d) :
    ∀ n ∈ DataW.weights P f.type d, n ≤ 140737488351232 := fun n hn => by
  refine hx n ?_
  rw [DataW.weights, ht]
  exact DataW.weights_mem_each (ts := fs.toList.map (·.type)) (by simp [hf]) hd n hn
end Go.Proofs.Ytaibnbhgjnddnaa.Open
namespace Go.Proofs.Ytaibnbhgjnddnaa.Pu
open Go.RowKit Go.Proofs.Ytaibnbhgjnddnaa.P Go.Proofs.YtaibnbhgjnddnaaW.PrintWords Go.Proofs.YtaibnbhgjnddnaaW.PrintLast Go.Proofs.YtaibnbhgjnddnaaW.PrintMore
theorem rows64 {l : List (List Int)} (h : Open.Row 24 (Open.Row 8 fun n => (Lit.int .i64 n).wf = true) l) : Rows64 l :=
  ⟨by have := h.1; omega, fun c hc => ⟨by have := (h.2 c hc).1; omega, (h.2 c hc).2⟩⟩
theorem unders_f (n : Int) (l : List (List Int)) (asm : List Int) (fuel : Int) (hl : Rows64 l) (hn : I64 n) (ha : ∀ x ∈ asm, I64 x) (hal : asm.length < 4611686018427387904) : Tells (fun k => sequiturlaw22_SolveUnders.f k n l asm fuel) true := by
  obtain ⟨b2, t2, _⟩ := Small22_tells n l hl
  obtain ⟨r, a1, a2, a3, a4, a5⟩ := under_tells (n := n) (fuel := fuel) (l := l) (asm := asm) hn hl ha hal
  obtain ⟨w1, w2, w3, w4⟩ := wrong_tells n l asm fuel hl hn hal
  have main : ∀ b, Tells (fun k => sequiturlaw22_SolveUnders.j0 k asm fuel b n l) true := by
    intro b
    refine Tells.succ (fun k => by rw [sequiturlaw22_SolveUnders.j0]) ?_
    by_cases hb : b = true
    · exact Tells.pos hb (Tells.bind goes22_tells (Tells.const _))
    refine Tells.neg hb ?_
    rw [under_f a1]
    refine Tells.bind (Tells.const _) ?_
    by_cases h1 : setErr n l = 0
    · by_cases h2 : clauseErr asm n = 0
      · by_cases h3 : fuel < 0 ∨ 1048576 < fuel
        · have hr := a4 h1 h2 h3
          rw [hr]
          refine Tells.bind (w3 h1 h2 h3) (Tells.neg (by decide) (Tells.pos rfl ?_))
          rw [bare_bad 1 0]
          exact Tells.bind (Tells.const _) (Tells.pos rfl (Tells.pos rfl (Tells.bind goes22_tells (Tells.const _))))
        · have g := a5 h1 h2 h3
          refine Tells.bind (w4 h1 h2 h3) (Tells.pos rfl ?_)
          have hg := g
          rcases hg with ⟨_, hr | hr⟩ | ⟨he, _⟩
          · rw [hr]
            refine Tells.pos rfl ?_
            rw [bare_bad 9 fuel]
            exact Tells.bind (Tells.const _) (Tells.pos rfl (Tells.pos rfl (Tells.bind goes22_tells (Tells.const _))))
          · rw [hr]
            refine Tells.neg (by show ¬ (2 : Int) = 9; decide) (Tells.pos rfl ?_)
            rw [bare_bad 2 0]
            exact Tells.bind (Tells.const _) (Tells.pos rfl (Tells.pos rfl (Tells.bind goes22_tells (Tells.const _))))
          · have ht := told_tells h1 h2 he g
            exact Tells.neg (fun e => by have e : r.err = 9 := e; omega) (Tells.neg (fun e => by have e : r.err = 2 := e; omega) (Tells.pos he (Tells.bind ht (Tells.pos rfl (Tells.bind goes22_tells (Tells.const _))))))
      · have hr := a3 h1 h2
        rw [hr]
        refine Tells.bind (w2 h1 h2) (Tells.neg h2 (Tells.pos rfl ?_))
        rw [bare_bad (clauseErr asm n) 0]
        exact Tells.bind (Tells.const _) (Tells.pos rfl (Tells.pos rfl (Tells.bind goes22_tells (Tells.const _))))
    · have hr := a2 h1
      rw [hr]
      refine Tells.bind (w1 h1) (Tells.neg h1 (Tells.pos rfl ?_))
      rw [bare_bad (setErr n l) 0]
      exact Tells.bind (Tells.const _) (Tells.pos rfl (Tells.pos rfl (Tells.bind goes22_tells (Tells.const _))))
  unfold sequiturlaw22_SolveUnders.f
  refine Tells.bind t2 ?_
  by_cases h : b2 = true
  · refine Tells.pos h ?_
    by_cases h5 : (asm.length : Int) > 100
    · exact Tells.pos h5 (main _)
    refine Tells.neg h5 ?_
    by_cases h6 : n > 60
    · refine Tells.pos h6 ?_
      by_cases h7 : n ≤ 1024
      · exact Tells.pos h7 (main _)
      · refine Tells.neg h7 ?_
        by_cases h8 : fuel > 20000
        · exact Tells.pos h8 (main _)
        · exact Tells.neg h8 (main _)
    · refine Tells.neg h6 ?_
      by_cases h8 : fuel > 20000
      · exact Tells.pos h8 (main _)
      · exact Tells.neg h8 (main _)
  · exact Tells.neg h (main _)
end Go.Proofs.Ytaibnbhgjnddnaa.Pu
namespace Go.Proofs.Ytaibnbhgjnddnaa.Pure
open Go.Proofs.Ytaibnbhgjnddnaa.Pu Go.Proofs.Ytaibnbhgjnddnaa.P
theorem SolveUnders (n : Int) (l : List (List Int)) (asm : List Int) (fuel : Int) (hn : (Lit.int .i64 n).wf = true) (hl : Open.Row 24 (Open.Row 8 fun n => (Lit.int .i64 n).wf = true) l) (ha : Open.Row 8 (fun n => (Lit.int .i64 n).wf = true) asm) (_hf : (Lit.int .i64 fuel).wf = true) : ∃ k, sequiturlaw22_SolveUnders.f k n l asm fuel = some true :=
  (unders_f n l asm fuel (rows64 hl) hn ha.2 (by have := ha.1; omega)).ex
end Go.Proofs.Ytaibnbhgjnddnaa.Pure
