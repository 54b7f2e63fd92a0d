import Derived.Test.YtkmlekfmccghjaaKLearnUnit1
import Derived.Test.YtkmlekfmccghjaaKLearnUnit2
import Derived.Test.YtkmlekfmccghjaaKLearnUnit3
import Derived.Test.YtkmlekfmccghjaaKLearnUnit4
namespace Go.Proofs.Ytkmlekfmccghjaa.P
open Go.RowKit Go.Proofs.YtkmlekfmccghjaaW.PrintWords Go.Proofs.YtkmlekfmccghjaaW.PrintLast Go.Proofs.YtkmlekfmccghjaaW.PrintMore
attribute [local go_sem] max2_int min2_int max_two min_two max_three min_three max_four min_four
set_option linter.unusedVariables false
set_option linter.unusedSimpArgs false
mutual
def sequiturref21_step.j0 : Nat → List Int → Int → Int → Int → List Int → Bool → List Int → List Int → List Int → Int → Int → Option (List Int × Int × Bool)
  | 0, _, _, _, _, _, _, _, _, _, _, _ => none
  | k + 1, x2, x3, x11, x12, x13, x44, x365000, x365001, x365002, x365003, x365004 => if x44 = true then (some (([] : List Int), 0, false)) else (sequiturref21_step.l0 k x2 x3 x11 x12 x13 0 x365000 x365001 x365002 x365003 x365004)
def sequiturref21_step.l0 : Nat → List Int → Int → Int → Int → List Int → Int → List Int → List Int → List Int → Int → Int → Option (List Int × Int × Bool)
  | 0, _, _, _, _, _, _, _, _, _, _, _ => none
  | k + 1, x2, x3, x11, x12, x13, x15, x365000, x365001, x365002, x365003, x365004 => if x15 < (x13.length : Int) then (if 0 ≤ x15 then ((sequiturref21_place.f k x365000 x365001 x365002 x365003 x365004 (wrap64 (-(rd x13 x15)))).bind fun t374 => (if (rd x13 x15) = (wrap64 (-x3)) then (sequiturref21_step.l0 k x2 x3 x11 x12 x13 (wrap64 (x15 + 1)) x365000 x365001 x365002 x365003 x365004) else (if t374 < 0 then (some (([] : List Int), 0, false)) else (if t374 ≥ x11 then (some (([] : List Int), 0, false)) else (sequiturref21_step.l0 k x2 x3 x11 x12 x13 (wrap64 (x15 + 1)) x365000 x365001 x365002 x365003 x365004))))) else (none)) else ((sequiturref17_Resolve.f k x2 x13 x3).bind fun bt376 => (some (bt376.1, x12, (bt376.2 == 0))))
end
def sequiturref21_step.f (k : Nat) (l0_0 : List Int) (l0_1 : List Int) (l0_2 : List Int) (a0_3 : Int) (a0_4 : Int) (a1_0 : Int) (l1_1 : List (List Int)) (l2 : List Int) (a3 : Int) : Option (List Int × Int × Bool) := (sequiturref21_place.f k l0_0 l0_1 l0_2 a0_3 a0_4 (wrap64 (-a3))).bind fun t366 => (if t366 < 0 then (some (([] : List Int), 0, false)) else (if 0 ≤ t366 then (if t366 < (l0_1.length : Int) then ((sequiturref21_clause.f k a1_0 l1_1 (rd l0_1 t366)).bind fun bt368 => (if bt368.2 = true then ((sequiturref17_Has.f k bt368.1 (wrap64 (-a3))).bind fun t372 => (sequiturref21_step.j0 k l2 a3 t366 (rd l0_1 t366) bt368.1 (!t372) l0_0 l0_1 l0_2 a0_3 a0_4)) else (sequiturref21_step.j0 k l2 a3 t366 (rd l0_1 t366) bt368.1 true l0_0 l0_1 l0_2 a0_3 a0_4))) else (none)) else (none)))
theorem sequiturref21_step.mono_l : ∀ k, (∀ y0 y1 y2 y3 y4 y5 y6 y7 y8 y9 y10, LeO (sequiturref21_step.j0 k y0 y1 y2 y3 y4 y5 y6 y7 y8 y9 y10) (sequiturref21_step.j0 (k + 1) y0 y1 y2 y3 y4 y5 y6 y7 y8 y9 y10)) ∧ (∀ y0 y1 y2 y3 y4 y5 y6 y7 y8 y9 y10, LeO (sequiturref21_step.l0 k y0 y1 y2 y3 y4 y5 y6 y7 y8 y9 y10) (sequiturref21_step.l0 (k + 1) y0 y1 y2 y3 y4 y5 y6 y7 y8 y9 y10))
  | 0 => ⟨fun _ _ _ _ _ _ _ _ _ _ _ r h => by simp [sequiturref21_step.j0] at h, fun _ _ _ _ _ _ _ _ _ _ _ r h => by simp [sequiturref21_step.l0] at h⟩
  | k + 1 => by
    obtain ⟨ih0, ih1⟩ := sequiturref21_step.mono_l k
    refine ⟨?_, ?_⟩
    · intro y0 y1 y2 y3 y4 y5 y6 y7 y8 y9 y10
      unfold sequiturref21_step.j0
      repeat' first
      | (with_reducible exact ih0 _ _ _ _ _ _ _ _ _ _ _)
      | (with_reducible exact ih1 _ _ _ _ _ _ _ _ _ _ _)
      | (with_reducible exact sequiturref17_Has.mono _ _ _)
      | (with_reducible exact sequiturref17_Resolve.mono _ _ _ _)
      | (with_reducible exact sequiturref21_clause.mono _ _ _ _)
      | (with_reducible exact sequiturref21_place.mono _ _ _ _ _ _ _)
      | (with_reducible exact LeO.refl _)
      | (with_reducible exact LeO.none _)
      | (with_reducible refine LeO.ite ?_ ?_)
      | (with_reducible refine LeO.bind ?_ (fun _ => ?_))
      | exact ih0 _ _ _ _ _ _ _ _ _ _ _
      | exact ih1 _ _ _ _ _ _ _ _ _ _ _
      | exact sequiturref17_Has.mono _ _ _
      | exact sequiturref17_Resolve.mono _ _ _ _
      | exact sequiturref21_clause.mono _ _ _ _
      | exact sequiturref21_place.mono _ _ _ _ _ _ _
      | exact LeO.none _
      | refine LeO.ite ?_ ?_
      | refine LeO.bind ?_ (fun _ => ?_)
    intro y0 y1 y2 y3 y4 y5 y6 y7 y8 y9 y10
    unfold sequiturref21_step.l0
    repeat' first
    | (with_reducible exact ih0 _ _ _ _ _ _ _ _ _ _ _)
    | (with_reducible exact ih1 _ _ _ _ _ _ _ _ _ _ _)
    | (with_reducible exact sequiturref17_Has.mono _ _ _)
    | (with_reducible exact sequiturref17_Resolve.mono _ _ _ _)
    | (with_reducible exact sequiturref21_clause.mono _ _ _ _)
    | (with_reducible exact sequiturref21_place.mono _ _ _ _ _ _ _)
    | (with_reducible exact LeO.refl _)
    | (with_reducible exact LeO.none _)
    | (with_reducible refine LeO.ite ?_ ?_)
    | (with_reducible refine LeO.bind ?_ (fun _ => ?_))
    | exact ih0 _ _ _ _ _ _ _ _ _ _ _
    | exact ih1 _ _ _ _ _ _ _ _ _ _ _
    | exact sequiturref17_Has.mono _ _ _
    | exact sequiturref17_Resolve.mono _ _ _ _
    | exact sequiturref21_clause.mono _ _ _ _
    | exact sequiturref21_place.mono _ _ _ _ _ _ _
    | exact LeO.none _
    | refine LeO.ite ?_ ?_
    | refine LeO.bind ?_ (fun _ => ?_)
theorem sequiturref21_step.mono : ∀ a0 a1 a2 a3 a4 a5 a6 a7 a8 k, LeO (sequiturref21_step.f k a0 a1 a2 a3 a4 a5 a6 a7 a8) (sequiturref21_step.f (k + 1) a0 a1 a2 a3 a4 a5 a6 a7 a8) := by
  intro a0 a1 a2 a3 a4 a5 a6 a7 a8 k
  obtain ⟨ih0, ih1⟩ := sequiturref21_step.mono_l k
  unfold sequiturref21_step.f
  repeat' first
      | (with_reducible exact ih0 _ _ _ _ _ _ _ _ _ _ _)
      | (with_reducible exact ih1 _ _ _ _ _ _ _ _ _ _ _)
      | (with_reducible exact sequiturref17_Has.mono _ _ _)
      | (with_reducible exact sequiturref17_Resolve.mono _ _ _ _)
      | (with_reducible exact sequiturref21_clause.mono _ _ _ _)
      | (with_reducible exact sequiturref21_place.mono _ _ _ _ _ _ _)
      | (with_reducible exact LeO.refl _)
      | (with_reducible exact LeO.none _)
      | (with_reducible refine LeO.ite ?_ ?_)
      | (with_reducible refine LeO.bind ?_ (fun _ => ?_))
      | exact ih0 _ _ _ _ _ _ _ _ _ _ _
      | exact ih1 _ _ _ _ _ _ _ _ _ _ _
      | exact sequiturref17_Has.mono _ _ _
      | exact sequiturref17_Resolve.mono _ _ _ _
      | exact sequiturref21_clause.mono _ _ _ _
      | exact sequiturref21_place.mono _ _ _ _ _ _ _
      | exact LeO.none _
      | refine LeO.ite ?_ ?_
      | refine LeO.bind ?_ (fun _ => ?_)
def sequiturref21_last.l0 : Nat → List Int → List Int → Int → Int → Int → List Int → List Int → List Int → Int → Int → Option (Int)
  | 0, _, _, _, _, _, _, _, _, _, _ => none
  | k + 1, x1, x2, x7, x8, x9, x381000, x381001, x381002, x381003, x381004 => if x9 < (x1.length : Int) then (if 0 ≤ x9 then ((sequiturref21_place.f k x381000 x381001 x381002 x381003 x381004 (wrap64 (-(rd x1 x9)))).bind fun t382 => (if t382 > x8 then ((sequiturref17_Has.f k x2 (rd x1 x9)).bind fun t384 => (if t384 = true then (sequiturref21_last.l0 k x1 x2 x7 x8 (wrap64 (x9 + 1)) x381000 x381001 x381002 x381003 x381004) else (sequiturref21_last.l0 k x1 x2 (rd x1 x9) t382 (wrap64 (x9 + 1)) x381000 x381001 x381002 x381003 x381004))) else (sequiturref21_last.l0 k x1 x2 x7 x8 (wrap64 (x9 + 1)) x381000 x381001 x381002 x381003 x381004))) else (none)) else (some x7)
def sequiturref21_last.f (k : Nat) (l0_0 : List Int) (l0_1 : List Int) (l0_2 : List Int) (a0_3 : Int) (a0_4 : Int) (l1 : List Int) (l2 : List Int) : Option (Int) := sequiturref21_last.l0 k l1 l2 0 (-1) 0 l0_0 l0_1 l0_2 a0_3 a0_4
theorem sequiturref21_last.mono_l : ∀ k, (∀ y0 y1 y2 y3 y4 y5 y6 y7 y8 y9, LeO (sequiturref21_last.l0 k y0 y1 y2 y3 y4 y5 y6 y7 y8 y9) (sequiturref21_last.l0 (k + 1) y0 y1 y2 y3 y4 y5 y6 y7 y8 y9))
  | 0 => fun _ _ _ _ _ _ _ _ _ _ r h => by simp [sequiturref21_last.l0] at h
  | k + 1 => by
    have ih0 := sequiturref21_last.mono_l k
    intro y0 y1 y2 y3 y4 y5 y6 y7 y8 y9
    unfold sequiturref21_last.l0
    repeat' first
    | (with_reducible exact ih0 _ _ _ _ _ _ _ _ _ _)
    | (with_reducible exact sequiturref17_Has.mono _ _ _)
    | (with_reducible exact sequiturref21_place.mono _ _ _ _ _ _ _)
    | (with_reducible exact LeO.refl _)
    | (with_reducible exact LeO.none _)
    | (with_reducible refine LeO.ite ?_ ?_)
    | (with_reducible refine LeO.bind ?_ (fun _ => ?_))
    | exact ih0 _ _ _ _ _ _ _ _ _ _
    | exact sequiturref17_Has.mono _ _ _
    | exact sequiturref21_place.mono _ _ _ _ _ _ _
    | exact LeO.none _
    | refine LeO.ite ?_ ?_
    | refine LeO.bind ?_ (fun _ => ?_)
theorem sequiturref21_last.mono : ∀ a0 a1 a2 a3 a4 a5 a6 k, LeO (sequiturref21_last.f k a0 a1 a2 a3 a4 a5 a6) (sequiturref21_last.f (k + 1) a0 a1 a2 a3 a4 a5 a6) := by
  intro a0 a1 a2 a3 a4 a5 a6 k
  have ih0 := sequiturref21_last.mono_l k
  unfold sequiturref21_last.f
  repeat' first
      | (with_reducible exact ih0 _ _ _ _ _ _ _ _ _ _)
      | (with_reducible exact sequiturref17_Has.mono _ _ _)
      | (with_reducible exact sequiturref21_place.mono _ _ _ _ _ _ _)
      | (with_reducible exact LeO.refl _)
      | (with_reducible exact LeO.none _)
      | (with_reducible refine LeO.ite ?_ ?_)
      | (with_reducible refine LeO.bind ?_ (fun _ => ?_))
      | exact ih0 _ _ _ _ _ _ _ _ _ _
      | exact sequiturref17_Has.mono _ _ _
      | exact sequiturref21_place.mono _ _ _ _ _ _ _
      | exact LeO.none _
      | refine LeO.ite ?_ ?_
      | refine LeO.bind ?_ (fun _ => ?_)
end Go.Proofs.Ytkmlekfmccghjaa.P
