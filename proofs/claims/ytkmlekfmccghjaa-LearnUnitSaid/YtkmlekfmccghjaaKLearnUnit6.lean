import Derived.Test.YtkmlekfmccghjaaKLearnUnit1
import Derived.Test.YtkmlekfmccghjaaKLearnUnit4
import Derived.Test.YtkmlekfmccghjaaKLearnUnit5
namespace Go.Proofs.Ytkmlekfmccghjaa.P
open Go.RowKit Go.Proofs.YtkmlekfmccghjaaW.PrintWords Go.Proofs.YtkmlekfmccghjaaW.PrintLast Go.Proofs.YtkmlekfmccghjaaW.PrintMore
attribute [local go_sem] max2_int min2_int max_two min_two max_three min_three max_four min_four
set_option linter.unusedVariables false
set_option linter.unusedSimpArgs false
mutual
def sequiturref21_First.l0 : Nat → List Int → List Int → List Int → List Int → List Int → Int → Int → Int → List (List Int) → Option (List Int × Int × List Int × Int)
  | 0, _, _, _, _, _, _, _, _, _ => none
  | k + 1, x8, x10, x387000, x387001, x387002, x387003, x387004, x388000, x388001 => (sequiturref21_done.f k x387000 x387001 x387002 x387003 x387004 x8).bind fun t395 => (if t395 = true then (sequiturref21_First.l1 k x8 x10 0 0 x387000 x387001 x387002 x387003 x387004) else ((sequiturref21_last.f k x387000 x387001 x387002 x387003 x387004 x8 ([] : List Int)).bind fun t396 => ((sequiturref21_step.f k x387000 x387001 x387002 x387003 x387004 x388000 x388001 x8 t396).bind fun bt397 => (if bt397.2.2 = true then (if x10.length < 17592186044416 then (sequiturref21_First.l0 k bt397.1 (x10 ++ [bt397.2.1]) x387000 x387001 x387002 x387003 x387004 x388000 x388001) else (none)) else (some (([] : List Int), 0, ([] : List Int), 1))))))
def sequiturref21_First.l1 : Nat → List Int → List Int → Int → Int → List Int → List Int → List Int → Int → Int → Option (List Int × Int × List Int × Int)
  | 0, _, _, _, _, _, _, _, _, _ => none
  | k + 1, x8, x10, x14, x15, x387000, x387001, x387002, x387003, x387004 => if x15 < (x8.length : Int) then (if 0 ≤ x15 then ((sequiturref21_level.f k x387000 x387001 x387002 x387003 x387004 (rd x8 x15)).bind fun t406 => (if t406 < x387004 then (if t406 > x14 then (sequiturref21_First.l1 k x8 x10 t406 (wrap64 (x15 + 1)) x387000 x387001 x387002 x387003 x387004) else (sequiturref21_First.l1 k x8 x10 x14 (wrap64 (x15 + 1)) x387000 x387001 x387002 x387003 x387004)) else (sequiturref21_First.l1 k x8 x10 x14 (wrap64 (x15 + 1)) x387000 x387001 x387002 x387003 x387004))) else (none)) else (some (x8, x14, x10, 0))
end
def sequiturref21_First.f (k : Nat) (l0_0 : List Int) (l0_1 : List Int) (l0_2 : List Int) (a0_3 : Int) (a0_4 : Int) (a1_0 : Int) (l1_1 : List (List Int)) : Option (List Int × Int × List Int × Int) := if a0_3 < 0 then (some (([] : List Int), 0, ([] : List Int), 3)) else ((sequiturref21_begin.f k l0_0 l0_1 l0_2 a0_3 a0_4 a1_0 l1_1).bind fun bt388 => (if bt388.2 = true then (sequiturref21_First.l0 k bt388.1 (([a0_3] : List Int)) l0_0 l0_1 l0_2 a0_3 a0_4 a1_0 l1_1) else (some (([] : List Int), 0, ([] : List Int), 1))))
theorem sequiturref21_First.mono_l : ∀ k, (∀ y0 y1 y2 y3 y4 y5 y6 y7 y8, LeO (sequiturref21_First.l0 k y0 y1 y2 y3 y4 y5 y6 y7 y8) (sequiturref21_First.l0 (k + 1) y0 y1 y2 y3 y4 y5 y6 y7 y8)) ∧ (∀ y0 y1 y2 y3 y4 y5 y6 y7 y8, LeO (sequiturref21_First.l1 k y0 y1 y2 y3 y4 y5 y6 y7 y8) (sequiturref21_First.l1 (k + 1) y0 y1 y2 y3 y4 y5 y6 y7 y8))
  | 0 => ⟨fun _ _ _ _ _ _ _ _ _ r h => by simp [sequiturref21_First.l0] at h, fun _ _ _ _ _ _ _ _ _ r h => by simp [sequiturref21_First.l1] at h⟩
  | k + 1 => by
    obtain ⟨ih0, ih1⟩ := sequiturref21_First.mono_l k
    refine ⟨?_, ?_⟩
    · intro y0 y1 y2 y3 y4 y5 y6 y7 y8
      unfold sequiturref21_First.l0
      repeat' first
      | (with_reducible exact ih0 _ _ _ _ _ _ _ _ _)
      | (with_reducible exact ih1 _ _ _ _ _ _ _ _ _)
      | (with_reducible exact sequiturref21_begin.mono _ _ _ _ _ _ _ _)
      | (with_reducible exact sequiturref21_done.mono _ _ _ _ _ _ _)
      | (with_reducible exact sequiturref21_last.mono _ _ _ _ _ _ _ _)
      | (with_reducible exact sequiturref21_level.mono _ _ _ _ _ _ _)
      | (with_reducible exact sequiturref21_step.mono _ _ _ _ _ _ _ _ _ _)
      | (with_reducible exact LeO.refl _)
      | (with_reducible exact LeO.none _)
      | (with_reducible refine LeO.ite ?_ ?_)
      | (with_reducible refine LeO.bind ?_ (fun _ => ?_))
      | exact ih0 _ _ _ _ _ _ _ _ _
      | exact ih1 _ _ _ _ _ _ _ _ _
      | exact sequiturref21_begin.mono _ _ _ _ _ _ _ _
      | exact sequiturref21_done.mono _ _ _ _ _ _ _
      | exact sequiturref21_last.mono _ _ _ _ _ _ _ _
      | exact sequiturref21_level.mono _ _ _ _ _ _ _
      | exact sequiturref21_step.mono _ _ _ _ _ _ _ _ _ _
      | exact LeO.none _
      | refine LeO.ite ?_ ?_
      | refine LeO.bind ?_ (fun _ => ?_)
    intro y0 y1 y2 y3 y4 y5 y6 y7 y8
    unfold sequiturref21_First.l1
    repeat' first
    | (with_reducible exact ih0 _ _ _ _ _ _ _ _ _)
    | (with_reducible exact ih1 _ _ _ _ _ _ _ _ _)
    | (with_reducible exact sequiturref21_begin.mono _ _ _ _ _ _ _ _)
    | (with_reducible exact sequiturref21_done.mono _ _ _ _ _ _ _)
    | (with_reducible exact sequiturref21_last.mono _ _ _ _ _ _ _ _)
    | (with_reducible exact sequiturref21_level.mono _ _ _ _ _ _ _)
    | (with_reducible exact sequiturref21_step.mono _ _ _ _ _ _ _ _ _ _)
    | (with_reducible exact LeO.refl _)
    | (with_reducible exact LeO.none _)
    | (with_reducible refine LeO.ite ?_ ?_)
    | (with_reducible refine LeO.bind ?_ (fun _ => ?_))
    | exact ih0 _ _ _ _ _ _ _ _ _
    | exact ih1 _ _ _ _ _ _ _ _ _
    | exact sequiturref21_begin.mono _ _ _ _ _ _ _ _
    | exact sequiturref21_done.mono _ _ _ _ _ _ _
    | exact sequiturref21_last.mono _ _ _ _ _ _ _ _
    | exact sequiturref21_level.mono _ _ _ _ _ _ _
    | exact sequiturref21_step.mono _ _ _ _ _ _ _ _ _ _
    | exact LeO.none _
    | refine LeO.ite ?_ ?_
    | refine LeO.bind ?_ (fun _ => ?_)
theorem sequiturref21_First.mono : ∀ a0 a1 a2 a3 a4 a5 a6 k, LeO (sequiturref21_First.f k a0 a1 a2 a3 a4 a5 a6) (sequiturref21_First.f (k + 1) a0 a1 a2 a3 a4 a5 a6) := by
  intro a0 a1 a2 a3 a4 a5 a6 k
  obtain ⟨ih0, ih1⟩ := sequiturref21_First.mono_l k
  unfold sequiturref21_First.f
  repeat' first
      | (with_reducible exact ih0 _ _ _ _ _ _ _ _ _)
      | (with_reducible exact ih1 _ _ _ _ _ _ _ _ _)
      | (with_reducible exact sequiturref21_begin.mono _ _ _ _ _ _ _ _)
      | (with_reducible exact sequiturref21_done.mono _ _ _ _ _ _ _)
      | (with_reducible exact sequiturref21_last.mono _ _ _ _ _ _ _ _)
      | (with_reducible exact sequiturref21_level.mono _ _ _ _ _ _ _)
      | (with_reducible exact sequiturref21_step.mono _ _ _ _ _ _ _ _ _ _)
      | (with_reducible exact LeO.refl _)
      | (with_reducible exact LeO.none _)
      | (with_reducible refine LeO.ite ?_ ?_)
      | (with_reducible refine LeO.bind ?_ (fun _ => ?_))
      | exact ih0 _ _ _ _ _ _ _ _ _
      | exact ih1 _ _ _ _ _ _ _ _ _
      | exact sequiturref21_begin.mono _ _ _ _ _ _ _ _
      | exact sequiturref21_done.mono _ _ _ _ _ _ _
      | exact sequiturref21_last.mono _ _ _ _ _ _ _ _
      | exact sequiturref21_level.mono _ _ _ _ _ _ _
      | exact sequiturref21_step.mono _ _ _ _ _ _ _ _ _ _
      | exact LeO.none _
      | refine LeO.ite ?_ ?_
      | refine LeO.bind ?_ (fun _ => ?_)
end Go.Proofs.Ytkmlekfmccghjaa.P
