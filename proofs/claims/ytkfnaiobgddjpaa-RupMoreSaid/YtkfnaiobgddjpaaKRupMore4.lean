import Derived.Test.YtkfnaiobgddjpaaKRupMore1
import Derived.Test.YtkfnaiobgddjpaaKRupMore3
-- Printed by wip/tools/pp.py of this claim's session (over the kit's print.py); Lean checks it.
namespace Go.Proofs.Ytkfnaiobgddjpaa.P
open Go.RowKit Go.Proofs.YtkfnaiobgddjpaaW.PrintWords Go.Proofs.YtkfnaiobgddjpaaW.PrintLast Go.Proofs.YtkfnaiobgddjpaaW.PrintMore
attribute [local go_sem] max2_int min2_int max_two min_two max_three min_three max_four min_four   -- for this text's walks alone
set_option linter.unusedVariables false
set_option linter.unusedSimpArgs false

/-! ### sequiturlaw23_RupMore: function 11 -/
mutual
def sequiturlaw23_RupMore.j0 : Nat → List Int → List Int → Int → Bool → Int → List (List Int) → Option (Bool)
  | 0, _, _, _, _, _, _ => none
  | k + 1, x1, x2, x3, x43, x527000, x527001 => if x43 = true then ((sequiturlaw23_alive.f k).bind fun t533 => (some t533)) else ((rup_Step.f k x527000 x527001 x1).bind fun bt534 => (if bt534.2 = 0 then (sequiturlaw23_RupMore.j1 k x1 x2 x3 bt534.1 (!bt534.1) x527000 x527001) else (sequiturlaw23_RupMore.j1 k x1 x2 x3 bt534.1 true x527000 x527001)))
def sequiturlaw23_RupMore.j1 : Nat → List Int → List Int → Int → Bool → Bool → Int → List (List Int) → Option (Bool)
  | 0, _, _, _, _, _, _, _ => none
  | k + 1, x1, x2, x3, x9, x56, x527000, x527001 => if x56 = true then (if x9 = true then (some false) else ((sequiturlaw23_alive.f k).bind fun t536 => (some t536))) else ((some (([] : List (List Int)) : List (List Int))).bind fun y537 => (if y537.length + x527001.length < 5864062014805 then ((some (y537 ++ x527001 : List (List Int))).bind fun y540 => ((some (([x2] : List (List Int)) : List (List Int))).bind fun y543 => (if y540.length + y543.length < 5864062014805 then ((rup_Step.f k x527000 (y540 ++ y543) x1).bind fun bt550 => ((some (([] : List Int) : List Int)).bind fun y552 => (if y552.length + x1.length < 17592186044416 then ((some (y552 ++ x1 : List Int)).bind fun y555 => ((some (([x3] : List Int) : List Int)).bind fun y558 => (if y555.length + y558.length < 17592186044416 then ((rup_Step.f k x527000 x527001 (y555 ++ y558)).bind fun bt564 => (if bt550.1 = true then (if bt564.1 = true then (if bt550.2 = 0 then (if bt564.2 = 0 then ((sequiturlaw23_alive.f k).bind fun t566 => (some t566)) else (some false)) else (some false)) else (some false)) else (some false))) else (none)))) else (none)))) else (none)))) else (none)))
end
def sequiturlaw23_RupMore.f (k : Nat) (a0_0 : Int) (l0_1 : List (List Int)) (l1 : List Int) (l2 : List Int) (a3 : Int) : Option (Bool) := (sequiturlaw23_few.f k a0_0 l0_1 ([] : List (S64))).bind fun t527 => (if t527 = true then (if (l1.length : Int) > 60 then (sequiturlaw23_RupMore.j0 k l1 l2 a3 true a0_0 l0_1) else (if (l2.length : Int) > 64 then (sequiturlaw23_RupMore.j0 k l1 l2 a3 true a0_0 l0_1) else ((sequiturref17_Right.f k l2 a0_0).bind fun t528 => (if t528 = 0 then ((sequiturref17_Right.f k (([a3] : List Int)) a0_0).bind fun t532 => (sequiturlaw23_RupMore.j0 k l1 l2 a3 (t532 != 0) a0_0 l0_1)) else (sequiturlaw23_RupMore.j0 k l1 l2 a3 true a0_0 l0_1))))) else (sequiturlaw23_RupMore.j0 k l1 l2 a3 true a0_0 l0_1))
theorem sequiturlaw23_RupMore.mono_l : ∀ k, (∀ y0 y1 y2 y3 y4 y5, LeO (sequiturlaw23_RupMore.j0 k y0 y1 y2 y3 y4 y5) (sequiturlaw23_RupMore.j0 (k + 1) y0 y1 y2 y3 y4 y5)) ∧ (∀ y0 y1 y2 y3 y4 y5 y6, LeO (sequiturlaw23_RupMore.j1 k y0 y1 y2 y3 y4 y5 y6) (sequiturlaw23_RupMore.j1 (k + 1) y0 y1 y2 y3 y4 y5 y6))
  | 0 => ⟨fun _ _ _ _ _ _ r h => by simp [sequiturlaw23_RupMore.j0] at h, fun _ _ _ _ _ _ _ r h => by simp [sequiturlaw23_RupMore.j1] at h⟩
  | k + 1 => by
    obtain ⟨ih0, ih1⟩ := sequiturlaw23_RupMore.mono_l k
    refine ⟨?_, ?_⟩
    · intro y0 y1 y2 y3 y4 y5
      unfold sequiturlaw23_RupMore.j0
      repeat' first
      | (with_reducible exact ih0 _ _ _ _ _ _)
      | (with_reducible exact ih1 _ _ _ _ _ _ _)
      | (with_reducible exact rup_Step.mono _ _ _ _)
      | (with_reducible exact sequiturlaw23_alive.mono _)
      | (with_reducible exact sequiturlaw23_few.mono _ _ _ _)
      | (with_reducible exact sequiturref17_Right.mono _ _ _)
      | (with_reducible exact LeO.refl _)
      | (with_reducible exact LeO.none _)
      | (with_reducible refine LeO.ite ?_ ?_)
      | (with_reducible refine LeO.bind ?_ (fun _ => ?_))
      | exact ih0 _ _ _ _ _ _
      | exact ih1 _ _ _ _ _ _ _
      | exact rup_Step.mono _ _ _ _
      | exact sequiturlaw23_alive.mono _
      | exact sequiturlaw23_few.mono _ _ _ _
      | exact sequiturref17_Right.mono _ _ _
      | exact LeO.none _
      | refine LeO.ite ?_ ?_
      | refine LeO.bind ?_ (fun _ => ?_)
    intro y0 y1 y2 y3 y4 y5 y6
    unfold sequiturlaw23_RupMore.j1
    repeat' first
    | (with_reducible exact ih0 _ _ _ _ _ _)
    | (with_reducible exact ih1 _ _ _ _ _ _ _)
    | (with_reducible exact rup_Step.mono _ _ _ _)
    | (with_reducible exact sequiturlaw23_alive.mono _)
    | (with_reducible exact sequiturlaw23_few.mono _ _ _ _)
    | (with_reducible exact sequiturref17_Right.mono _ _ _)
    | (with_reducible exact LeO.refl _)
    | (with_reducible exact LeO.none _)
    | (with_reducible refine LeO.ite ?_ ?_)
    | (with_reducible refine LeO.bind ?_ (fun _ => ?_))
    | exact ih0 _ _ _ _ _ _
    | exact ih1 _ _ _ _ _ _ _
    | exact rup_Step.mono _ _ _ _
    | exact sequiturlaw23_alive.mono _
    | exact sequiturlaw23_few.mono _ _ _ _
    | exact sequiturref17_Right.mono _ _ _
    | exact LeO.none _
    | refine LeO.ite ?_ ?_
    | refine LeO.bind ?_ (fun _ => ?_)
theorem sequiturlaw23_RupMore.mono : ∀ a0 a1 a2 a3 a4 k, LeO (sequiturlaw23_RupMore.f k a0 a1 a2 a3 a4) (sequiturlaw23_RupMore.f (k + 1) a0 a1 a2 a3 a4) := by
  intro a0 a1 a2 a3 a4 k
  obtain ⟨ih0, ih1⟩ := sequiturlaw23_RupMore.mono_l k
  unfold sequiturlaw23_RupMore.f
  repeat' first
      | (with_reducible exact ih0 _ _ _ _ _ _)
      | (with_reducible exact ih1 _ _ _ _ _ _ _)
      | (with_reducible exact rup_Step.mono _ _ _ _)
      | (with_reducible exact sequiturlaw23_alive.mono _)
      | (with_reducible exact sequiturlaw23_few.mono _ _ _ _)
      | (with_reducible exact sequiturref17_Right.mono _ _ _)
      | (with_reducible exact LeO.refl _)
      | (with_reducible exact LeO.none _)
      | (with_reducible refine LeO.ite ?_ ?_)
      | (with_reducible refine LeO.bind ?_ (fun _ => ?_))
      | exact ih0 _ _ _ _ _ _
      | exact ih1 _ _ _ _ _ _ _
      | exact rup_Step.mono _ _ _ _
      | exact sequiturlaw23_alive.mono _
      | exact sequiturlaw23_few.mono _ _ _ _
      | exact sequiturref17_Right.mono _ _ _
      | exact LeO.none _
      | refine LeO.ite ?_ ?_
      | refine LeO.bind ?_ (fun _ => ?_)
def sequiturlaw23_RupMore.T6 : Bool × List (List Nat × List Nat) := (true, [([], []), ([0], [0]), ([], []), ([], []), ([3], [3]), ([2, 4], [2, 4]), ([], []), ([6], [6]), ([5, 7, 5], [5, 7]), ([1, 8], [1, 8]), ([], []), ([10, 9, 8, 0, 1, 2, 3, 4, 5, 6, 7, 8, 9, 10], [9, 10])])
def sequiturlaw23_RupMore.B6 : List Nat := [0, 1, 0, 0, 8, 28, 0, 64, 252, 511, 0, 2047]
theorem sequiturlaw23_RupMore.tab6 : rtab .any (opsOf Try.f11 6) = sequiturlaw23_RupMore.T6 := by kernel_rfl
theorem sequiturlaw23_RupMore.bits6 : waitsOk sequiturlaw23_RupMore.T6.2 sequiturlaw23_RupMore.B6 = true := by kernel_rfl
def sequiturlaw23_RupMore.T8 : Bool × List (List Nat × List Nat) := (true, [([], []), ([], []), ([], []), ([1, 2], [1, 2]), ([], []), ([4], [4]), ([3, 5, 3], [3, 5]), ([0, 6, 6], [0, 6]), ([7], [7]), ([8], [8]), ([8], [8]), ([9, 7, 0, 1, 2, 3, 4, 5, 6, 7, 8, 9], [9]), ([10, 11, 0, 1, 2, 3, 4, 5, 6, 7, 8, 9, 10, 11], [10])])
def sequiturlaw23_RupMore.B8 : List Nat := [0, 0, 0, 6, 0, 16, 62, 127, 255, 511, 511, 1023, 4095]
theorem sequiturlaw23_RupMore.tab8 : rtab .any (opsOf Try.f11 8) = sequiturlaw23_RupMore.T8 := by kernel_rfl
theorem sequiturlaw23_RupMore.bits8 : waitsOk sequiturlaw23_RupMore.T8.2 sequiturlaw23_RupMore.B8 = true := by kernel_rfl
end Go.Proofs.Ytkfnaiobgddjpaa.P
