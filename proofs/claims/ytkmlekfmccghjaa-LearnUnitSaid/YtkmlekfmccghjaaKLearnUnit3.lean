import Derived.Test.YtkmlekfmccghjaaKLearnUnit1
import Derived.Test.YtkmlekfmccghjaaKLearnUnit2
namespace Go.Proofs.Ytkmlekfmccghjaa.P
open Go.RowKit Go.Proofs.YtkmlekfmccghjaaW.PrintWords Go.Proofs.YtkmlekfmccghjaaW.PrintLast Go.Proofs.YtkmlekfmccghjaaW.PrintMore
attribute [local go_sem] max2_int min2_int max_two min_two max_three min_three max_four min_four
set_option linter.unusedVariables false
set_option linter.unusedSimpArgs false
mutual
def sequiturref17_Clean.l0 : Nat → List Int → List Int → Int → Option (List Int × Bool)
  | 0, _, _, _ => none
  | k + 1, x0, x4, x5 => if x5 < (x0.length : Int) then (if 0 ≤ x5 then ((sequiturref17_is.f (rd x0 x5)).bind fun t143 => (if t143 = true then ((sequiturref17_Has.f k x4 (rd x0 x5)).bind fun t145 => (sequiturref17_Clean.j1 k x0 x4 x5 t145)) else (sequiturref17_Clean.j1 k x0 x4 x5 true))) else (none)) else (sequiturref17_Clean.l2 k x4 0)
def sequiturref17_Clean.j1 : Nat → List Int → List Int → Int → Bool → Option (List Int × Bool)
  | 0, _, _, _, _ => none
  | k + 1, x0, x4, x5, x28 => if x28 = true then (sequiturref17_Clean.l0 k x0 x4 (wrap64 (x5 + 1))) else (sequiturref17_Clean.l1 k x0 x4 x5 0)
def sequiturref17_Clean.l1 : Nat → List Int → List Int → Int → Int → Option (List Int × Bool)
  | 0, _, _, _, _ => none
  | k + 1, x0, x4, x5, x6 => if x6 < (x4.length : Int) then (if 0 ≤ x6 then (if 0 ≤ x5 then (if x5 < (x0.length : Int) then ((sequiturref17_ahead.f (rd x4 x6) (rd x0 x5)).bind fun t148 => (if t148 = true then (sequiturref17_Clean.l1 k x0 x4 x5 (wrap64 (x6 + 1))) else (if x6 ≤ (x4.length : Int) then ((some (x4.take (x6 : Int).toNat : List Int)).bind fun y149 => (if ([] : List Int).length + y149.length < 17592186044416 then ((some (([] : List Int) ++ y149 : List Int)).bind fun y153 => (if y153.length < 17592186044416 then ((some (y153 ++ [rd x0 x5] : List Int)).bind fun y157 => ((some (x4.drop (x6 : Int).toNat : List Int)).bind fun y160 => (if y157.length + y160.length < 17592186044416 then (sequiturref17_Clean.l0 k x0 (y157 ++ y160) (wrap64 (x5 + 1))) else (none)))) else (none))) else (none))) else (none)))) else (none)) else (none)) else (none)) else (if 0 ≤ x6 then (if x6 ≤ (x4.length : Int) then ((some (x4.take (x6 : Int).toNat : List Int)).bind fun y167 => (if ([] : List Int).length + y167.length < 17592186044416 then ((some (([] : List Int) ++ y167 : List Int)).bind fun y171 => (if 0 ≤ x5 then (if x5 < (x0.length : Int) then (if y171.length < 17592186044416 then ((some (y171 ++ [rd x0 x5] : List Int)).bind fun y175 => ((some (x4.drop (x6 : Int).toNat : List Int)).bind fun y178 => (if y175.length + y178.length < 17592186044416 then (sequiturref17_Clean.l0 k x0 (y175 ++ y178) (wrap64 (x5 + 1))) else (none)))) else (none)) else (none)) else (none))) else (none))) else (none)) else (none))
def sequiturref17_Clean.l2 : Nat → List Int → Int → Option (List Int × Bool)
  | 0, _, _ => none
  | k + 1, x4, x8 => if x8 < (x4.length : Int) then (if 0 ≤ x8 then ((sequiturref17_Has.f k x4 (wrap64 (-(rd x4 x8)))).bind fun t186 => (if t186 = true then (some (x4, false)) else (sequiturref17_Clean.l2 k x4 (wrap64 (x8 + 1))))) else (none)) else (some (x4, true))
end
def sequiturref17_Clean.f (k : Nat) (l0 : List Int) : Option (List Int × Bool) := sequiturref17_Clean.l0 k l0 ([] : List Int) 0
theorem sequiturref17_Clean.mono_l : ∀ k, (∀ y0 y1 y2, LeO (sequiturref17_Clean.l0 k y0 y1 y2) (sequiturref17_Clean.l0 (k + 1) y0 y1 y2)) ∧ (∀ y0 y1 y2 y3, LeO (sequiturref17_Clean.j1 k y0 y1 y2 y3) (sequiturref17_Clean.j1 (k + 1) y0 y1 y2 y3)) ∧ (∀ y0 y1 y2 y3, LeO (sequiturref17_Clean.l1 k y0 y1 y2 y3) (sequiturref17_Clean.l1 (k + 1) y0 y1 y2 y3)) ∧ (∀ y0 y1, LeO (sequiturref17_Clean.l2 k y0 y1) (sequiturref17_Clean.l2 (k + 1) y0 y1))
  | 0 => ⟨fun _ _ _ r h => by simp [sequiturref17_Clean.l0] at h, fun _ _ _ _ r h => by simp [sequiturref17_Clean.j1] at h, fun _ _ _ _ r h => by simp [sequiturref17_Clean.l1] at h, fun _ _ r h => by simp [sequiturref17_Clean.l2] at h⟩
  | k + 1 => by
    obtain ⟨ih0, ih1, ih2, ih3⟩ := sequiturref17_Clean.mono_l k
    refine ⟨?_, ?_, ?_, ?_⟩
    · intro y0 y1 y2
      unfold sequiturref17_Clean.l0
      repeat' first
      | (with_reducible exact ih0 _ _ _)
      | (with_reducible exact ih1 _ _ _ _)
      | (with_reducible exact ih2 _ _ _ _)
      | (with_reducible exact ih3 _ _)
      | (with_reducible exact sequiturref17_Has.mono _ _ _)
      | (with_reducible exact LeO.refl _)
      | (with_reducible exact LeO.none _)
      | (with_reducible refine LeO.ite ?_ ?_)
      | (with_reducible refine LeO.bind ?_ (fun _ => ?_))
      | exact ih0 _ _ _
      | exact ih1 _ _ _ _
      | exact ih2 _ _ _ _
      | exact ih3 _ _
      | exact sequiturref17_Has.mono _ _ _
      | exact LeO.none _
      | refine LeO.ite ?_ ?_
      | refine LeO.bind ?_ (fun _ => ?_)
    · intro y0 y1 y2 y3
      unfold sequiturref17_Clean.j1
      repeat' first
      | (with_reducible exact ih0 _ _ _)
      | (with_reducible exact ih1 _ _ _ _)
      | (with_reducible exact ih2 _ _ _ _)
      | (with_reducible exact ih3 _ _)
      | (with_reducible exact sequiturref17_Has.mono _ _ _)
      | (with_reducible exact LeO.refl _)
      | (with_reducible exact LeO.none _)
      | (with_reducible refine LeO.ite ?_ ?_)
      | (with_reducible refine LeO.bind ?_ (fun _ => ?_))
      | exact ih0 _ _ _
      | exact ih1 _ _ _ _
      | exact ih2 _ _ _ _
      | exact ih3 _ _
      | exact sequiturref17_Has.mono _ _ _
      | exact LeO.none _
      | refine LeO.ite ?_ ?_
      | refine LeO.bind ?_ (fun _ => ?_)
    · intro y0 y1 y2 y3
      unfold sequiturref17_Clean.l1
      repeat' first
      | (with_reducible exact ih0 _ _ _)
      | (with_reducible exact ih1 _ _ _ _)
      | (with_reducible exact ih2 _ _ _ _)
      | (with_reducible exact ih3 _ _)
      | (with_reducible exact sequiturref17_Has.mono _ _ _)
      | (with_reducible exact LeO.refl _)
      | (with_reducible exact LeO.none _)
      | (with_reducible refine LeO.ite ?_ ?_)
      | (with_reducible refine LeO.bind ?_ (fun _ => ?_))
      | exact ih0 _ _ _
      | exact ih1 _ _ _ _
      | exact ih2 _ _ _ _
      | exact ih3 _ _
      | exact sequiturref17_Has.mono _ _ _
      | exact LeO.none _
      | refine LeO.ite ?_ ?_
      | refine LeO.bind ?_ (fun _ => ?_)
    intro y0 y1
    unfold sequiturref17_Clean.l2
    repeat' first
    | (with_reducible exact ih0 _ _ _)
    | (with_reducible exact ih1 _ _ _ _)
    | (with_reducible exact ih2 _ _ _ _)
    | (with_reducible exact ih3 _ _)
    | (with_reducible exact sequiturref17_Has.mono _ _ _)
    | (with_reducible exact LeO.refl _)
    | (with_reducible exact LeO.none _)
    | (with_reducible refine LeO.ite ?_ ?_)
    | (with_reducible refine LeO.bind ?_ (fun _ => ?_))
    | exact ih0 _ _ _
    | exact ih1 _ _ _ _
    | exact ih2 _ _ _ _
    | exact ih3 _ _
    | exact sequiturref17_Has.mono _ _ _
    | exact LeO.none _
    | refine LeO.ite ?_ ?_
    | refine LeO.bind ?_ (fun _ => ?_)
theorem sequiturref17_Clean.mono : ∀ a0 k, LeO (sequiturref17_Clean.f k a0) (sequiturref17_Clean.f (k + 1) a0) := by
  intro a0 k
  obtain ⟨ih0, ih1, ih2, ih3⟩ := sequiturref17_Clean.mono_l k
  unfold sequiturref17_Clean.f
  repeat' first
      | (with_reducible exact ih0 _ _ _)
      | (with_reducible exact ih1 _ _ _ _)
      | (with_reducible exact ih2 _ _ _ _)
      | (with_reducible exact ih3 _ _)
      | (with_reducible exact sequiturref17_Has.mono _ _ _)
      | (with_reducible exact LeO.refl _)
      | (with_reducible exact LeO.none _)
      | (with_reducible refine LeO.ite ?_ ?_)
      | (with_reducible refine LeO.bind ?_ (fun _ => ?_))
      | exact ih0 _ _ _
      | exact ih1 _ _ _ _
      | exact ih2 _ _ _ _
      | exact ih3 _ _
      | exact sequiturref17_Has.mono _ _ _
      | exact LeO.none _
      | refine LeO.ite ?_ ?_
      | refine LeO.bind ?_ (fun _ => ?_)
def sequiturref21_clause.f (k : Nat) (a0_0 : Int) (l0_1 : List (List Int)) (a1 : Int) : Option (List Int × Bool) := if a1 < 0 then (some (([] : List Int), false)) else (if a1 ≥ (l0_1.length : Int) then (some (([] : List Int), false)) else (if 0 ≤ a1 then (if a1 < (l0_1.length : Int) then ((sequiturref17_Clean.f k (rd_L3 l0_1 a1)).bind fun bt329 => (some (bt329.1, true))) else (none)) else (none)))
theorem sequiturref21_clause.mono : ∀ a0 a1 a2 k, LeO (sequiturref21_clause.f k a0 a1 a2) (sequiturref21_clause.f (k + 1) a0 a1 a2) := by
  intro a0 a1 a2 k
  unfold sequiturref21_clause.f
  repeat' first
      | (with_reducible exact sequiturref17_Clean.mono _ _)
      | (with_reducible exact LeO.refl _)
      | (with_reducible exact LeO.none _)
      | (with_reducible refine LeO.ite ?_ ?_)
      | (with_reducible refine LeO.bind ?_ (fun _ => ?_))
      | exact sequiturref17_Clean.mono _ _
      | exact LeO.none _
      | refine LeO.ite ?_ ?_
      | refine LeO.bind ?_ (fun _ => ?_)
end Go.Proofs.Ytkmlekfmccghjaa.P
