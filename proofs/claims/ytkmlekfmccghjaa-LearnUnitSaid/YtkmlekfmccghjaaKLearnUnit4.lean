import Derived.Test.YtkmlekfmccghjaaKLearnUnit1
import Derived.Test.YtkmlekfmccghjaaKLearnUnit2
import Derived.Test.YtkmlekfmccghjaaKLearnUnit3
namespace Go.Proofs.Ytkmlekfmccghjaa.P
open Go.RowKit Go.Proofs.YtkmlekfmccghjaaW.PrintWords Go.Proofs.YtkmlekfmccghjaaW.PrintLast Go.Proofs.YtkmlekfmccghjaaW.PrintMore
attribute [local go_sem] max2_int min2_int max_two min_two max_three min_three max_four min_four
set_option linter.unusedVariables false
set_option linter.unusedSimpArgs false
def sequiturref21_begin.l0 : Nat → List Int → Bool → Int → List Int → List Int → List Int → Int → Int → Option (List Int × Bool)
  | 0, _, _, _, _, _, _, _, _ => none
  | k + 1, x6, x7, x8, x334000, x334001, x334002, x334003, x334004 => if x8 < (x6.length : Int) then (if x7 = true then (if 0 ≤ x8 then ((sequiturref21_place.f k x334000 x334001 x334002 x334003 x334004 (wrap64 (-(rd x6 x8)))).bind fun t340 => (sequiturref21_begin.l0 k x6 (decide (t340 ≥ 0)) (wrap64 (x8 + 1)) x334000 x334001 x334002 x334003 x334004)) else (none)) else (sequiturref21_begin.l0 k x6 false (wrap64 (x8 + 1)) x334000 x334001 x334002 x334003 x334004)) else (some (x6, x7))
def sequiturref21_begin.f (k : Nat) (l0_0 : List Int) (l0_1 : List Int) (l0_2 : List Int) (a0_3 : Int) (a0_4 : Int) (a1_0 : Int) (l1_1 : List (List Int)) : Option (List Int × Bool) := (sequiturref21_clause.f k a1_0 l1_1 a0_3).bind fun bt335 => (sequiturref21_begin.l0 k bt335.1 bt335.2 0 l0_0 l0_1 l0_2 a0_3 a0_4)
theorem sequiturref21_begin.mono_l : ∀ k, (∀ y0 y1 y2 y3 y4 y5 y6 y7, LeO (sequiturref21_begin.l0 k y0 y1 y2 y3 y4 y5 y6 y7) (sequiturref21_begin.l0 (k + 1) y0 y1 y2 y3 y4 y5 y6 y7))
  | 0 => fun _ _ _ _ _ _ _ _ r h => by simp [sequiturref21_begin.l0] at h
  | k + 1 => by
    have ih0 := sequiturref21_begin.mono_l k
    intro y0 y1 y2 y3 y4 y5 y6 y7
    unfold sequiturref21_begin.l0
    repeat' first
    | (with_reducible exact ih0 _ _ _ _ _ _ _ _)
    | (with_reducible exact sequiturref21_clause.mono _ _ _ _)
    | (with_reducible exact sequiturref21_place.mono _ _ _ _ _ _ _)
    | (with_reducible exact LeO.refl _)
    | (with_reducible exact LeO.none _)
    | (with_reducible refine LeO.ite ?_ ?_)
    | (with_reducible refine LeO.bind ?_ (fun _ => ?_))
    | exact ih0 _ _ _ _ _ _ _ _
    | exact sequiturref21_clause.mono _ _ _ _
    | exact sequiturref21_place.mono _ _ _ _ _ _ _
    | exact LeO.none _
    | refine LeO.ite ?_ ?_
    | refine LeO.bind ?_ (fun _ => ?_)
theorem sequiturref21_begin.mono : ∀ a0 a1 a2 a3 a4 a5 a6 k, LeO (sequiturref21_begin.f k a0 a1 a2 a3 a4 a5 a6) (sequiturref21_begin.f (k + 1) a0 a1 a2 a3 a4 a5 a6) := by
  intro a0 a1 a2 a3 a4 a5 a6 k
  have ih0 := sequiturref21_begin.mono_l k
  unfold sequiturref21_begin.f
  repeat' first
      | (with_reducible exact ih0 _ _ _ _ _ _ _ _)
      | (with_reducible exact sequiturref21_clause.mono _ _ _ _)
      | (with_reducible exact sequiturref21_place.mono _ _ _ _ _ _ _)
      | (with_reducible exact LeO.refl _)
      | (with_reducible exact LeO.none _)
      | (with_reducible refine LeO.ite ?_ ?_)
      | (with_reducible refine LeO.bind ?_ (fun _ => ?_))
      | exact ih0 _ _ _ _ _ _ _ _
      | exact sequiturref21_clause.mono _ _ _ _
      | exact sequiturref21_place.mono _ _ _ _ _ _ _
      | exact LeO.none _
      | refine LeO.ite ?_ ?_
      | refine LeO.bind ?_ (fun _ => ?_)
def sequiturref21_level.f (k : Nat) (l0_0 : List Int) (l0_1 : List Int) (l0_2 : List Int) (a0_3 : Int) (a0_4 : Int) (a1 : Int) : Option (Int) := (sequiturref21_place.f k l0_0 l0_1 l0_2 a0_3 a0_4 (wrap64 (-a1))).bind fun t342 => (if t342 < 0 then (some (-1)) else (if 0 ≤ t342 then (if t342 < (l0_2.length : Int) then (some (rd l0_2 t342)) else (none)) else (none)))
theorem sequiturref21_level.mono : ∀ a0 a1 a2 a3 a4 a5 k, LeO (sequiturref21_level.f k a0 a1 a2 a3 a4 a5) (sequiturref21_level.f (k + 1) a0 a1 a2 a3 a4 a5) := by
  intro a0 a1 a2 a3 a4 a5 k
  unfold sequiturref21_level.f
  repeat' first
      | (with_reducible exact sequiturref21_place.mono _ _ _ _ _ _ _)
      | (with_reducible exact LeO.refl _)
      | (with_reducible exact LeO.none _)
      | (with_reducible refine LeO.ite ?_ ?_)
      | (with_reducible refine LeO.bind ?_ (fun _ => ?_))
      | exact sequiturref21_place.mono _ _ _ _ _ _ _
      | exact LeO.none _
      | refine LeO.ite ?_ ?_
      | refine LeO.bind ?_ (fun _ => ?_)
def sequiturref21_done.l0 : Nat → List Int → Int → Int → List Int → List Int → List Int → Int → Int → Option (Bool)
  | 0, _, _, _, _, _, _, _, _ => none
  | k + 1, x1, x5, x6, x345000, x345001, x345002, x345003, x345004 => if x6 < (x1.length : Int) then (if 0 ≤ x6 then ((sequiturref21_level.f k x345000 x345001 x345002 x345003 x345004 (rd x1 x6)).bind fun t346 => (if t346 = x345004 then (sequiturref21_done.l0 k x1 (wrap64 (x5 + 1)) (wrap64 (x6 + 1)) x345000 x345001 x345002 x345003 x345004) else (sequiturref21_done.l0 k x1 x5 (wrap64 (x6 + 1)) x345000 x345001 x345002 x345003 x345004))) else (none)) else (if x345004 = 0 then (some ((x1.length : Int) == 0)) else (some (decide (x5 ≤ 1))))
def sequiturref21_done.f (k : Nat) (l0_0 : List Int) (l0_1 : List Int) (l0_2 : List Int) (a0_3 : Int) (a0_4 : Int) (l1 : List Int) : Option (Bool) := sequiturref21_done.l0 k l1 0 0 l0_0 l0_1 l0_2 a0_3 a0_4
theorem sequiturref21_done.mono_l : ∀ k, (∀ y0 y1 y2 y3 y4 y5 y6 y7, LeO (sequiturref21_done.l0 k y0 y1 y2 y3 y4 y5 y6 y7) (sequiturref21_done.l0 (k + 1) y0 y1 y2 y3 y4 y5 y6 y7))
  | 0 => fun _ _ _ _ _ _ _ _ r h => by simp [sequiturref21_done.l0] at h
  | k + 1 => by
    have ih0 := sequiturref21_done.mono_l k
    intro y0 y1 y2 y3 y4 y5 y6 y7
    unfold sequiturref21_done.l0
    repeat' first
    | (with_reducible exact ih0 _ _ _ _ _ _ _ _)
    | (with_reducible exact sequiturref21_level.mono _ _ _ _ _ _ _)
    | (with_reducible exact LeO.refl _)
    | (with_reducible exact LeO.none _)
    | (with_reducible refine LeO.ite ?_ ?_)
    | (with_reducible refine LeO.bind ?_ (fun _ => ?_))
    | exact ih0 _ _ _ _ _ _ _ _
    | exact sequiturref21_level.mono _ _ _ _ _ _ _
    | exact LeO.none _
    | refine LeO.ite ?_ ?_
    | refine LeO.bind ?_ (fun _ => ?_)
theorem sequiturref21_done.mono : ∀ a0 a1 a2 a3 a4 a5 k, LeO (sequiturref21_done.f k a0 a1 a2 a3 a4 a5) (sequiturref21_done.f (k + 1) a0 a1 a2 a3 a4 a5) := by
  intro a0 a1 a2 a3 a4 a5 k
  have ih0 := sequiturref21_done.mono_l k
  unfold sequiturref21_done.f
  repeat' first
      | (with_reducible exact ih0 _ _ _ _ _ _ _ _)
      | (with_reducible exact sequiturref21_level.mono _ _ _ _ _ _ _)
      | (with_reducible exact LeO.refl _)
      | (with_reducible exact LeO.none _)
      | (with_reducible refine LeO.ite ?_ ?_)
      | (with_reducible refine LeO.bind ?_ (fun _ => ?_))
      | exact ih0 _ _ _ _ _ _ _ _
      | exact sequiturref21_level.mono _ _ _ _ _ _ _
      | exact LeO.none _
      | refine LeO.ite ?_ ?_
      | refine LeO.bind ?_ (fun _ => ?_)
mutual
def sequiturref17_Resolve.j0 : Nat → List Int → List Int → Int → Bool → Option (List Int × Int)
  | 0, _, _, _, _ => none
  | k + 1, x0, x1, x2, x28 => if x28 = true then (some (([] : List Int), 1)) else (sequiturref17_Resolve.l0 k x0 x1 x2 ([] : List Int) 0)
def sequiturref17_Resolve.l0 : Nat → List Int → List Int → Int → List Int → Int → Option (List Int × Int)
  | 0, _, _, _, _, _ => none
  | k + 1, x0, x1, x2, x8, x9 => if x9 < (x0.length : Int) then (if 0 ≤ x9 then (if (rd x0 x9) = x2 then (sequiturref17_Resolve.l0 k x0 x1 x2 x8 (wrap64 (x9 + 1))) else (if x8.length < 17592186044416 then (sequiturref17_Resolve.l0 k x0 x1 x2 (x8 ++ [rd x0 x9]) (wrap64 (x9 + 1))) else (none))) else (none)) else (sequiturref17_Resolve.l1 k x1 x2 x8 0)
def sequiturref17_Resolve.l1 : Nat → List Int → Int → List Int → Int → Option (List Int × Int)
  | 0, _, _, _, _ => none
  | k + 1, x1, x2, x8, x10 => if x10 < (x1.length : Int) then (if 0 ≤ x10 then (if (rd x1 x10) = (wrap64 (-x2)) then (sequiturref17_Resolve.l1 k x1 x2 x8 (wrap64 (x10 + 1))) else (if x8.length < 17592186044416 then (sequiturref17_Resolve.l1 k x1 x2 (x8 ++ [rd x1 x10]) (wrap64 (x10 + 1))) else (none))) else (none)) else ((sequiturref17_Clean.f k x8).bind fun bt360 => (if bt360.2 = true then (some (bt360.1, 0)) else (some (([] : List Int), 4))))
end
def sequiturref17_Resolve.f (k : Nat) (l0 : List Int) (l1 : List Int) (a2 : Int) : Option (List Int × Int) := (sequiturref17_is.f a2).bind fun t347 => (if t347 = true then ((sequiturref17_Has.f k l0 a2).bind fun t348 => (if t348 = true then ((sequiturref17_Has.f k l1 (wrap64 (-a2))).bind fun t349 => (sequiturref17_Resolve.j0 k l0 l1 a2 (!t349))) else (sequiturref17_Resolve.j0 k l0 l1 a2 true))) else (sequiturref17_Resolve.j0 k l0 l1 a2 true))
theorem sequiturref17_Resolve.mono_l : ∀ k, (∀ y0 y1 y2 y3, LeO (sequiturref17_Resolve.j0 k y0 y1 y2 y3) (sequiturref17_Resolve.j0 (k + 1) y0 y1 y2 y3)) ∧ (∀ y0 y1 y2 y3 y4, LeO (sequiturref17_Resolve.l0 k y0 y1 y2 y3 y4) (sequiturref17_Resolve.l0 (k + 1) y0 y1 y2 y3 y4)) ∧ (∀ y0 y1 y2 y3, LeO (sequiturref17_Resolve.l1 k y0 y1 y2 y3) (sequiturref17_Resolve.l1 (k + 1) y0 y1 y2 y3))
  | 0 => ⟨fun _ _ _ _ r h => by simp [sequiturref17_Resolve.j0] at h, fun _ _ _ _ _ r h => by simp [sequiturref17_Resolve.l0] at h, fun _ _ _ _ r h => by simp [sequiturref17_Resolve.l1] at h⟩
  | k + 1 => by
    obtain ⟨ih0, ih1, ih2⟩ := sequiturref17_Resolve.mono_l k
    refine ⟨?_, ?_, ?_⟩
    · intro y0 y1 y2 y3
      unfold sequiturref17_Resolve.j0
      repeat' first
      | (with_reducible exact ih0 _ _ _ _)
      | (with_reducible exact ih1 _ _ _ _ _)
      | (with_reducible exact ih2 _ _ _ _)
      | (with_reducible exact sequiturref17_Clean.mono _ _)
      | (with_reducible exact sequiturref17_Has.mono _ _ _)
      | (with_reducible exact LeO.refl _)
      | (with_reducible exact LeO.none _)
      | (with_reducible refine LeO.ite ?_ ?_)
      | (with_reducible refine LeO.bind ?_ (fun _ => ?_))
      | exact ih0 _ _ _ _
      | exact ih1 _ _ _ _ _
      | exact ih2 _ _ _ _
      | exact sequiturref17_Clean.mono _ _
      | exact sequiturref17_Has.mono _ _ _
      | exact LeO.none _
      | refine LeO.ite ?_ ?_
      | refine LeO.bind ?_ (fun _ => ?_)
    · intro y0 y1 y2 y3 y4
      unfold sequiturref17_Resolve.l0
      repeat' first
      | (with_reducible exact ih0 _ _ _ _)
      | (with_reducible exact ih1 _ _ _ _ _)
      | (with_reducible exact ih2 _ _ _ _)
      | (with_reducible exact sequiturref17_Clean.mono _ _)
      | (with_reducible exact sequiturref17_Has.mono _ _ _)
      | (with_reducible exact LeO.refl _)
      | (with_reducible exact LeO.none _)
      | (with_reducible refine LeO.ite ?_ ?_)
      | (with_reducible refine LeO.bind ?_ (fun _ => ?_))
      | exact ih0 _ _ _ _
      | exact ih1 _ _ _ _ _
      | exact ih2 _ _ _ _
      | exact sequiturref17_Clean.mono _ _
      | exact sequiturref17_Has.mono _ _ _
      | exact LeO.none _
      | refine LeO.ite ?_ ?_
      | refine LeO.bind ?_ (fun _ => ?_)
    intro y0 y1 y2 y3
    unfold sequiturref17_Resolve.l1
    repeat' first
    | (with_reducible exact ih0 _ _ _ _)
    | (with_reducible exact ih1 _ _ _ _ _)
    | (with_reducible exact ih2 _ _ _ _)
    | (with_reducible exact sequiturref17_Clean.mono _ _)
    | (with_reducible exact sequiturref17_Has.mono _ _ _)
    | (with_reducible exact LeO.refl _)
    | (with_reducible exact LeO.none _)
    | (with_reducible refine LeO.ite ?_ ?_)
    | (with_reducible refine LeO.bind ?_ (fun _ => ?_))
    | exact ih0 _ _ _ _
    | exact ih1 _ _ _ _ _
    | exact ih2 _ _ _ _
    | exact sequiturref17_Clean.mono _ _
    | exact sequiturref17_Has.mono _ _ _
    | exact LeO.none _
    | refine LeO.ite ?_ ?_
    | refine LeO.bind ?_ (fun _ => ?_)
theorem sequiturref17_Resolve.mono : ∀ a0 a1 a2 k, LeO (sequiturref17_Resolve.f k a0 a1 a2) (sequiturref17_Resolve.f (k + 1) a0 a1 a2) := by
  intro a0 a1 a2 k
  obtain ⟨ih0, ih1, ih2⟩ := sequiturref17_Resolve.mono_l k
  unfold sequiturref17_Resolve.f
  repeat' first
      | (with_reducible exact ih0 _ _ _ _)
      | (with_reducible exact ih1 _ _ _ _ _)
      | (with_reducible exact ih2 _ _ _ _)
      | (with_reducible exact sequiturref17_Clean.mono _ _)
      | (with_reducible exact sequiturref17_Has.mono _ _ _)
      | (with_reducible exact LeO.refl _)
      | (with_reducible exact LeO.none _)
      | (with_reducible refine LeO.ite ?_ ?_)
      | (with_reducible refine LeO.bind ?_ (fun _ => ?_))
      | exact ih0 _ _ _ _
      | exact ih1 _ _ _ _ _
      | exact ih2 _ _ _ _
      | exact sequiturref17_Clean.mono _ _
      | exact sequiturref17_Has.mono _ _ _
      | exact LeO.none _
      | refine LeO.ite ?_ ?_
      | refine LeO.bind ?_ (fun _ => ?_)
end Go.Proofs.Ytkmlekfmccghjaa.P
