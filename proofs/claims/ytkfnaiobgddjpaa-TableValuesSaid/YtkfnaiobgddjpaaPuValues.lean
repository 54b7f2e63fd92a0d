import Derived.Test.YtkfnaiobgddjpaaPuA
import Derived.Test.YtkfnaiobgddjpaaPxF16
import Derived.Test.YtkfnaiobgddjpaaPxF17
import Derived.Laws.BitsLemmas
namespace Go.Proofs.Ytkfnaiobgddjpaa.Pu
open Go.RowKit Go.Proofs.Ytkfnaiobgddjpaa.P Go.Proofs.YtkfnaiobgddjpaaW.PrintWords Go.Proofs.YtkfnaiobgddjpaaW.PrintLast Go.Proofs.YtkfnaiobgddjpaaW.PrintMore

/-- The values that a number stands for. -/
def vals (n at_ : Nat) : List Bool := (List.range n).map fun i => decide (at_ / 2 ^ i % 2 = 1)
theorem vals_length (n at_ : Nat) : (vals n at_).length = n := by simp [vals]
/-- 19.1: which values a number stands for. -/
def valsI (n at_ : Int) : List Bool := if n < 0 ∨ n > 16 ∨ at_ < 0 ∨ at_ ≥ 2 ^ n.toNat then [] else vals n.toNat at_.toNat

theorem pow_le16 {n : Nat} (h : n ≤ 16) : 2 ^ n ≤ 65536 := Nat.pow_le_pow_right (by omega) h
theorem shl1 {n : Nat} (h : n ≤ 16) : shl .i64 1 (n : Int) = ((2 ^ n : Nat) : Int) := by
  have := pow_le16 h
  unfold shl
  rw [show min ((n : Int).toNat) IntKind.i64.bits = n by simp [IntKind.bits]; omega, IntKind.wrap_i64]
  simp only [Int.one_mul]
  have e : ((2 : Int) ^ n) = ((2 ^ n : Nat) : Int) := by simp
  rw [e]; generalize 2 ^ n = p at *; omega
theorem bit1 {a i : Nat} (ha : a < 65536) (hi : i ≤ 16) : (Go.bits .and .i64 (shr .i64 (a : Int) (i : Int)) 1 == 1) = decide (a / 2 ^ i % 2 = 1) := by
  have e : shr .i64 (a : Int) (i : Int) = ((a / 2 ^ i : Nat) : Int) := by
    unfold shr; rw [show min ((i : Int).toNat) IntKind.i64.bits = i by simp [IntKind.bits]; omega]; simp
  have hb : a / 2 ^ i < 65536 := Nat.lt_of_le_of_lt (Nat.div_le_self _ _) ha
  have := bits_mask .i64 17 (by decide) (fun n h0 h1 => by rw [IntKind.wrap_i64]; omega) 1 (by decide) ((a / 2 ^ i : Nat) : Int) (Int.natCast_nonneg _) (by generalize a / 2 ^ i = q at *; omega)
  rw [e, show (1 : Int) = 2 ^ 1 - 1 by decide, this]
  by_cases h : a / 2 ^ i % 2 = 1
  · simp only [h, decide_true]; rw [beq_iff_eq]; omega
  · simp only [h, decide_false]; rw [beq_eq_false_iff_ne]; omega

theorem tv_loop (a n : Nat) (hn : n ≤ 16) (ha : a < 65536) : ∀ (m i : Nat), m + i = n → ∀ l : List Bool, l = vals i a ++ List.replicate m false → Tells (fun k => table_Values.l0 k (a : Int) l (n : Int) (i : Int)) (vals n a)
  | 0, i, h => by
    rintro l rfl
    refine Tells.succ (fun k => by rw [table_Values.l0]) (Tells.neg (by omega) ?_)
    obtain rfl : i = n := by omega
    simpa using Tells.const _
  | m + 1, i, h => by
    intro l hl
    have hll : l.length = n := by rw [hl]; simp [vals_length]; omega
    refine Tells.succ (fun k => by rw [table_Values.l0]) (Tells.pos (by omega) (Tells.pos (by omega) (Tells.pos (by omega) ?_)))
    rw [w64s (by omega : i < n) (by omega), bit1 ha (by omega)]
    refine tv_loop a n hn ha m (i + 1) (by omega) _ ?_
    rw [hl]
    have hi : ((i : Int).toNat) = (vals i a).length := by simp [vals_length]
    rw [hi, List.set_append_right _ _ (Nat.le_refl _)]
    simp [vals, List.range_succ, List.replicate_succ]
theorem table_Values_ev (n at_ : Int) : Tells (fun k => table_Values.f k n at_) (valsI n at_) := by
  unfold table_Values.f
  have stop : ∀ x y : Int, valsI x y = [] → Tells (fun k => table_Values.j0 k x y true) (valsI x y) := fun x y h => by
    refine Tells.succ (fun k => by rw [table_Values.j0]) (Tells.pos rfl ?_); rw [h]; exact Tells.const _
  by_cases h0 : n < 0
  · exact Tells.pos h0 (stop _ _ (if_pos (by omega)))
  refine Tells.neg h0 ?_
  by_cases h1 : n > 16
  · exact Tells.pos h1 (stop _ _ (if_pos (by omega)))
  refine Tells.neg h1 ?_
  by_cases h2 : at_ < 0
  · exact Tells.pos h2 (stop _ _ (if_pos (by omega)))
  refine Tells.neg h2 (Tells.pos (by omega) ?_)
  obtain ⟨m, rfl⟩ := Int.eq_ofNat_of_zero_le (by omega : 0 ≤ n)
  obtain ⟨a, rfl⟩ := Int.eq_ofNat_of_zero_le (by omega : 0 ≤ at_)
  have hm : m ≤ 16 := by omega
  rw [shl1 hm]
  have e : ((2 : Int) ^ m) = ((2 ^ m : Nat) : Int) := by simp
  have := pow_le16 hm
  by_cases h3 : (a : Int) ≥ ((2 ^ m : Nat) : Int)
  · rw [decide_eq_true h3]
    exact stop _ _ (if_pos (by rw [Int.toNat_natCast, e]; omega))
  · rw [decide_eq_false h3]
    refine Tells.succ (fun k => by rw [table_Values.j0]) (Tells.neg (by decide) (Tells.pos (by omega) (Tells.pos (by omega) ?_)))
    have hv : valsI (m : Int) (a : Int) = vals m a := if_neg (by rw [Int.toNat_natCast, e]; omega)
    rw [hv]
    exact tv_loop a m hm (by omega) m 0 rfl _ (by simp [vals])

theorem rv_loop (a n : Nat) (hn : n ≤ 16) (ha : a < 65536) : ∀ (m i : Nat), m + i = n → ∀ l : List Bool, l = vals i a → Tells (fun k => sequiturref19_Values.l0 k (n : Int) ((a / 2 ^ i : Nat) : Int) l (i : Int)) (vals n a)
  | 0, i, h => by
    rintro l rfl
    refine Tells.succ (fun k => by rw [sequiturref19_Values.l0]) (Tells.neg (by omega) ?_)
    obtain rfl : i = n := by omega
    exact Tells.const _
  | m + 1, i, h => by
    intro l hl
    have hll : l.length = i := by rw [hl]; simp [vals_length]
    have hb : a / 2 ^ i < 65536 := Nat.lt_of_le_of_lt (Nat.div_le_self _ _) ha
    refine Tells.succ (fun k => by rw [sequiturref19_Values.l0]) (Tells.pos (by omega) (Tells.pos (by omega) ?_))
    have e2 : wrap64 (Int.tdiv ((a / 2 ^ i : Nat) : Int) 2) = ((a / 2 ^ (i + 1) : Nat) : Int) := by
      rw [Int.tdiv_eq_ediv_of_nonneg (Int.natCast_nonneg _), Nat.pow_succ, ← Nat.div_div_eq_div_mul]
      generalize a / 2 ^ i = q at *
      rw [w64 (by omega) (by omega)]; omega
    have e3 : (Int.tmod ((a / 2 ^ i : Nat) : Int) 2 == 1) = decide (a / 2 ^ i % 2 = 1) := by
      rw [Int.tmod_eq_emod_of_nonneg (Int.natCast_nonneg _)]
      by_cases h : a / 2 ^ i % 2 = 1
      · simp only [h, decide_true]; rw [beq_iff_eq]; omega
      · simp only [h, decide_false]; rw [beq_eq_false_iff_ne]; omega
    rw [w64s (by omega : i < n) (by omega), e2, e3]
    refine rv_loop a n hn ha m (i + 1) (by omega) _ ?_
    rw [hl]; simp [vals, List.range_succ]
theorem ref19_Values_ev (n at_ : Int) : Tells (fun k => sequiturref19_Values.f k n at_) (valsI n at_) := by
  unfold sequiturref19_Values.f
  have stop : ∀ x y : Int, valsI x y = [] → Tells (fun k => sequiturref19_Values.j0 k x y true) (valsI x y) := fun x y h => by
    refine Tells.succ (fun k => by rw [sequiturref19_Values.j0]) (Tells.pos rfl ?_); rw [h]; exact Tells.const _
  by_cases h0 : n < 0
  · exact Tells.pos h0 (stop _ _ (if_pos (by omega)))
  refine Tells.neg h0 ?_
  by_cases h1 : n > 16
  · exact Tells.pos h1 (stop _ _ (if_pos (by omega)))
  refine Tells.neg h1 ?_
  by_cases h2 : at_ < 0
  · exact Tells.pos h2 (stop _ _ (if_pos (by omega)))
  refine Tells.neg h2 (Tells.pos (by omega) ?_)
  obtain ⟨m, rfl⟩ := Int.eq_ofNat_of_zero_le (by omega : 0 ≤ n)
  obtain ⟨a, rfl⟩ := Int.eq_ofNat_of_zero_le (by omega : 0 ≤ at_)
  have hm : m ≤ 16 := by omega
  rw [shl1 hm]
  have e : ((2 : Int) ^ m) = ((2 ^ m : Nat) : Int) := by simp
  have := pow_le16 hm
  by_cases h3 : (a : Int) ≥ ((2 ^ m : Nat) : Int)
  · rw [decide_eq_true h3]
    exact stop _ _ (if_pos (by rw [Int.toNat_natCast, e]; omega))
  · rw [decide_eq_false h3]
    refine Tells.succ (fun k => by rw [sequiturref19_Values.j0]) (Tells.neg (by decide) ?_)
    have hv : valsI (m : Int) (a : Int) = vals m a := if_neg (by rw [Int.toNat_natCast, e]; omega)
    rw [hv]
    have := rv_loop a m hm (by omega) m 0 rfl _ (by rfl : vals 0 a = vals 0 a)
    simpa [vals] using this
theorem valsI_short (n at_ : Int) : (valsI n at_).length ≤ 16 := by
  unfold valsI; split
  · simp
  · rw [vals_length]; omega
end Go.Proofs.Ytkfnaiobgddjpaa.Pu
