import Derived.Test.YtkfnaiobgddjpaaKTableImplies1
import Derived.Test.YtkfnaiobgddjpaaKTableImplies2
import Derived.Test.YtkfnaiobgddjpaaKTableImplies3
import Derived.Test.YtkfnaiobgddjpaaKTableImplies4
-- Printed by wip/tools/pp.py of this claim's session (over the kit's print.py); Lean checks it.
namespace Go.Proofs.Ytkfnaiobgddjpaa.P
open Go.RowKit Go.Proofs.YtkfnaiobgddjpaaW.PrintWords Go.Proofs.YtkfnaiobgddjpaaW.PrintLast Go.Proofs.YtkfnaiobgddjpaaW.PrintMore
attribute [local go_sem] max2_int min2_int max_two min_two max_three min_three max_four min_four   -- for this text's walks alone
set_option linter.unusedVariables false
set_option linter.unusedSimpArgs false

/-! ### sequiturlaw19_TableImplies: function 6 -/
mutual
def sequiturlaw19_TableImplies.j0 : Nat → List Int → Bool → Int → List (List Int) → Int → List (List Int) → Option (Bool)
  | 0, _, _, _, _, _, _ => none
  | k + 1, x2, x31, x193000, x193001, x194000, x194001 => if x31 = true then ((sequiturlaw19_goes.f k).bind fun t196 => (some t196)) else ((table_Implies.f k x193000 x193001 x2).bind fun bt197 => ((table_Equal.f k x193000 x193001 x194000 x194001).bind fun bt199 => ((sequiturref19_Right.f k x193000 x193001).bind fun t201 => (if t201 = 0 then ((sequiturref19_Clause.f k x2 x193000).bind fun t202 => (sequiturlaw19_TableImplies.j1 k x2 bt197.1 bt197.2 bt199.1 bt199.2 t202 x193000 x193001 x194000 x194001)) else (sequiturlaw19_TableImplies.j1 k x2 bt197.1 bt197.2 bt199.1 bt199.2 t201 x193000 x193001 x194000 x194001)))))
def sequiturlaw19_TableImplies.j1 : Nat → List Int → Bool → Int → Bool → Int → Int → Int → List (List Int) → Int → List (List Int) → Option (Bool)
  | 0, _, _, _, _, _, _, _, _, _, _ => none
  | k + 1, x2, x7, x8, x9, x10, x11, x193000, x193001, x194000, x194001 => if x11 = 0 then (sequiturlaw19_TableImplies.j2 k x2 x7 x8 x9 x10 x11 (decide (x193000 > 16)) x193000 x193001 x194000 x194001) else (sequiturlaw19_TableImplies.j2 k x2 x7 x8 x9 x10 x11 false x193000 x193001 x194000 x194001)
def sequiturlaw19_TableImplies.j2 : Nat → List Int → Bool → Int → Bool → Int → Int → Bool → Int → List (List Int) → Int → List (List Int) → Option (Bool)
  | 0, _, _, _, _, _, _, _, _, _, _, _ => none
  | k + 1, x2, x7, x8, x9, x10, x11, x59, x193000, x193001, x194000, x194001 => if x59 = true then (sequiturlaw19_TableImplies.j3 k x2 x7 x8 x9 x10 2 x193000 x193001 x194000 x194001) else (sequiturlaw19_TableImplies.j3 k x2 x7 x8 x9 x10 x11 x193000 x193001 x194000 x194001)
def sequiturlaw19_TableImplies.j3 : Nat → List Int → Bool → Int → Bool → Int → Int → Int → List (List Int) → Int → List (List Int) → Option (Bool)
  | 0, _, _, _, _, _, _, _, _, _, _ => none
  | k + 1, x2, x7, x8, x9, x10, x11, x193000, x193001, x194000, x194001 => (sequiturref19_Right.f k x193000 x193001).bind fun t203 => (if t203 = 0 then ((sequiturref19_Right.f k x194000 x194001).bind fun t204 => (sequiturlaw19_TableImplies.j4 k x2 x7 x8 x9 x10 x11 t204 x193000 x193001 x194000 x194001)) else (sequiturlaw19_TableImplies.j4 k x2 x7 x8 x9 x10 x11 t203 x193000 x193001 x194000 x194001))
def sequiturlaw19_TableImplies.j4 : Nat → List Int → Bool → Int → Bool → Int → Int → Int → Int → List (List Int) → Int → List (List Int) → Option (Bool)
  | 0, _, _, _, _, _, _, _, _, _, _, _ => none
  | k + 1, x2, x7, x8, x9, x10, x11, x12, x193000, x193001, x194000, x194001 => if x12 = 0 then (sequiturlaw19_TableImplies.j5 k x2 x7 x8 x9 x10 x11 x12 (x193000 != x194000) x193000 x193001 x194000 x194001) else (sequiturlaw19_TableImplies.j5 k x2 x7 x8 x9 x10 x11 x12 false x193000 x193001 x194000 x194001)
def sequiturlaw19_TableImplies.j5 : Nat → List Int → Bool → Int → Bool → Int → Int → Int → Bool → Int → List (List Int) → Int → List (List Int) → Option (Bool)
  | 0, _, _, _, _, _, _, _, _, _, _, _, _ => none
  | k + 1, x2, x7, x8, x9, x10, x11, x12, x74, x193000, x193001, x194000, x194001 => if x74 = true then (sequiturlaw19_TableImplies.j6 k x2 x7 x8 x9 x10 x11 1 x193000 x193001 x194000 x194001) else (sequiturlaw19_TableImplies.j6 k x2 x7 x8 x9 x10 x11 x12 x193000 x193001 x194000 x194001)
def sequiturlaw19_TableImplies.j6 : Nat → List Int → Bool → Int → Bool → Int → Int → Int → Int → List (List Int) → Int → List (List Int) → Option (Bool)
  | 0, _, _, _, _, _, _, _, _, _, _, _ => none
  | k + 1, x2, x7, x8, x9, x10, x11, x12, x193000, x193001, x194000, x194001 => if x12 = 0 then (sequiturlaw19_TableImplies.j7 k x2 x7 x8 x9 x10 x11 x12 (decide (x193000 > 16)) x193000 x193001 x194000 x194001) else (sequiturlaw19_TableImplies.j7 k x2 x7 x8 x9 x10 x11 x12 false x193000 x193001 x194000 x194001)
def sequiturlaw19_TableImplies.j7 : Nat → List Int → Bool → Int → Bool → Int → Int → Int → Bool → Int → List (List Int) → Int → List (List Int) → Option (Bool)
  | 0, _, _, _, _, _, _, _, _, _, _, _, _ => none
  | k + 1, x2, x7, x8, x9, x10, x11, x12, x81, x193000, x193001, x194000, x194001 => if x81 = true then (sequiturlaw19_TableImplies.j8 k x2 x7 x8 x9 x10 x11 2 x193000 x193001 x194000 x194001) else (sequiturlaw19_TableImplies.j8 k x2 x7 x8 x9 x10 x11 x12 x193000 x193001 x194000 x194001)
def sequiturlaw19_TableImplies.j8 : Nat → List Int → Bool → Int → Bool → Int → Int → Int → Int → List (List Int) → Int → List (List Int) → Option (Bool)
  | 0, _, _, _, _, _, _, _, _, _, _, _ => none
  | k + 1, x2, x7, x8, x9, x10, x11, x12, x193000, x193001, x194000, x194001 => if x8 = x11 then (if x10 = x12 then (if x11 = 0 then (if x12 = 0 then (sequiturlaw19_TableImplies.j9 k x2 x7 x9 x11 x12 false x193000 x193001 x194000 x194001) else (sequiturlaw19_TableImplies.j9 k x2 x7 x9 x11 x12 x9 x193000 x193001 x194000 x194001)) else (if x7 = true then (sequiturlaw19_TableImplies.j9 k x2 x7 x9 x11 x12 true x193000 x193001 x194000 x194001) else (if x12 = 0 then (sequiturlaw19_TableImplies.j9 k x2 x7 x9 x11 x12 false x193000 x193001 x194000 x194001) else (sequiturlaw19_TableImplies.j9 k x2 x7 x9 x11 x12 x9 x193000 x193001 x194000 x194001)))) else (sequiturlaw19_TableImplies.j9 k x2 x7 x9 x11 x12 true x193000 x193001 x194000 x194001)) else (sequiturlaw19_TableImplies.j9 k x2 x7 x9 x11 x12 true x193000 x193001 x194000 x194001)
def sequiturlaw19_TableImplies.j9 : Nat → List Int → Bool → Bool → Int → Int → Bool → Int → List (List Int) → Int → List (List Int) → Option (Bool)
  | 0, _, _, _, _, _, _, _, _, _, _ => none
  | k + 1, x2, x7, x9, x11, x12, x103, x193000, x193001, x194000, x194001 => if x103 = true then (some false) else (if x11 = 0 then ((sequiturref19_All.f k x193000 x193001).bind fun t205 => (sequiturlaw19_TableImplies.l0 k x2 x7 x9 x12 true t205 0 x193000 x193001 x194000 x194001)) else (sequiturlaw19_TableImplies.j11 k x9 x12 x193000 x193001 x194000 x194001))
def sequiturlaw19_TableImplies.j11 : Nat → Bool → Int → Int → List (List Int) → Int → List (List Int) → Option (Bool)
  | 0, _, _, _, _, _, _ => none
  | k + 1, x9, x12, x193000, x193001, x194000, x194001 => if x12 = 0 then (sequiturlaw19_TableImplies.l1 k x9 true 0 x193000 x193001 x194000 x194001) else ((sequiturlaw19_goes.f k).bind fun t216 => (some t216))
def sequiturlaw19_TableImplies.l1 : Nat → Bool → Bool → Int → Int → List (List Int) → Int → List (List Int) → Option (Bool)
  | 0, _, _, _, _, _, _, _ => none
  | k + 1, x9, x16, x17, x193000, x193001, x194000, x194001 => if 0 ≤ x193000 then (if x17 < (shl .i64 1 x193000) then ((sequiturref19_Values.f k x193000 x17).bind fun t210 => (if x16 = true then ((sequiturref19_Every.f k x193001 t210).bind fun t213 => ((sequiturref19_Every.f k x194001 t210).bind fun t214 => (sequiturlaw19_TableImplies.l1 k x9 (t213 == t214) (wrap64 (x17 + 1)) x193000 x193001 x194000 x194001))) else (sequiturlaw19_TableImplies.l1 k x9 false (wrap64 (x17 + 1)) x193000 x193001 x194000 x194001))) else (if (x16 != x9) = true then (some false) else ((sequiturlaw19_goes.f k).bind fun t215 => (some t215)))) else (none)
def sequiturlaw19_TableImplies.l0 : Nat → List Int → Bool → Bool → Int → Bool → List (List Bool) → Int → Int → List (List Int) → Int → List (List Int) → Option (Bool)
  | 0, _, _, _, _, _, _, _, _, _, _, _ => none
  | k + 1, x2, x7, x9, x12, x13, x14, x15, x193000, x193001, x194000, x194001 => if x15 < (x14.length : Int) then (if x13 = true then (if 0 ≤ x15 then ((sequiturref19_Holds.f k x2 (rd_L4 x14 x15)).bind fun t209 => (sequiturlaw19_TableImplies.l0 k x2 x7 x9 x12 t209 x14 (wrap64 (x15 + 1)) x193000 x193001 x194000 x194001)) else (none)) else (sequiturlaw19_TableImplies.l0 k x2 x7 x9 x12 false x14 (wrap64 (x15 + 1)) x193000 x193001 x194000 x194001)) else (if (x13 != x7) = true then (some false) else (sequiturlaw19_TableImplies.j11 k x9 x12 x193000 x193001 x194000 x194001))
end
def sequiturlaw19_TableImplies.f (k : Nat) (a0_0 : Int) (l0_1 : List (List Int)) (a1_0 : Int) (l1_1 : List (List Int)) (l2 : List Int) : Option (Bool) := (sequiturlaw19_Small.f k a0_0 l0_1).bind fun t194 => (if t194 = true then ((sequiturlaw19_Small.f k a1_0 l1_1).bind fun t195 => (if t195 = true then (sequiturlaw19_TableImplies.j0 k l2 (decide ((l2.length : Int) > 100)) a0_0 l0_1 a1_0 l1_1) else (sequiturlaw19_TableImplies.j0 k l2 true a0_0 l0_1 a1_0 l1_1))) else (sequiturlaw19_TableImplies.j0 k l2 true a0_0 l0_1 a1_0 l1_1))
theorem sequiturlaw19_TableImplies.mono_l : ∀ k, (∀ y0 y1 y2 y3 y4 y5, LeO (sequiturlaw19_TableImplies.j0 k y0 y1 y2 y3 y4 y5) (sequiturlaw19_TableImplies.j0 (k + 1) y0 y1 y2 y3 y4 y5)) ∧ (∀ y0 y1 y2 y3 y4 y5 y6 y7 y8 y9, LeO (sequiturlaw19_TableImplies.j1 k y0 y1 y2 y3 y4 y5 y6 y7 y8 y9) (sequiturlaw19_TableImplies.j1 (k + 1) y0 y1 y2 y3 y4 y5 y6 y7 y8 y9)) ∧ (∀ y0 y1 y2 y3 y4 y5 y6 y7 y8 y9 y10, LeO (sequiturlaw19_TableImplies.j2 k y0 y1 y2 y3 y4 y5 y6 y7 y8 y9 y10) (sequiturlaw19_TableImplies.j2 (k + 1) y0 y1 y2 y3 y4 y5 y6 y7 y8 y9 y10)) ∧ (∀ y0 y1 y2 y3 y4 y5 y6 y7 y8 y9, LeO (sequiturlaw19_TableImplies.j3 k y0 y1 y2 y3 y4 y5 y6 y7 y8 y9) (sequiturlaw19_TableImplies.j3 (k + 1) y0 y1 y2 y3 y4 y5 y6 y7 y8 y9)) ∧ (∀ y0 y1 y2 y3 y4 y5 y6 y7 y8 y9 y10, LeO (sequiturlaw19_TableImplies.j4 k y0 y1 y2 y3 y4 y5 y6 y7 y8 y9 y10) (sequiturlaw19_TableImplies.j4 (k + 1) y0 y1 y2 y3 y4 y5 y6 y7 y8 y9 y10)) ∧ (∀ y0 y1 y2 y3 y4 y5 y6 y7 y8 y9 y10 y11, LeO (sequiturlaw19_TableImplies.j5 k y0 y1 y2 y3 y4 y5 y6 y7 y8 y9 y10 y11) (sequiturlaw19_TableImplies.j5 (k + 1) y0 y1 y2 y3 y4 y5 y6 y7 y8 y9 y10 y11)) ∧ (∀ y0 y1 y2 y3 y4 y5 y6 y7 y8 y9 y10, LeO (sequiturlaw19_TableImplies.j6 k y0 y1 y2 y3 y4 y5 y6 y7 y8 y9 y10) (sequiturlaw19_TableImplies.j6 (k + 1) y0 y1 y2 y3 y4 y5 y6 y7 y8 y9 y10)) ∧ (∀ y0 y1 y2 y3 y4 y5 y6 y7 y8 y9 y10 y11, LeO (sequiturlaw19_TableImplies.j7 k y0 y1 y2 y3 y4 y5 y6 y7 y8 y9 y10 y11) (sequiturlaw19_TableImplies.j7 (k + 1) y0 y1 y2 y3 y4 y5 y6 y7 y8 y9 y10 y11)) ∧ (∀ y0 y1 y2 y3 y4 y5 y6 y7 y8 y9 y10, LeO (sequiturlaw19_TableImplies.j8 k y0 y1 y2 y3 y4 y5 y6 y7 y8 y9 y10) (sequiturlaw19_TableImplies.j8 (k + 1) y0 y1 y2 y3 y4 y5 y6 y7 y8 y9 y10)) ∧ (∀ y0 y1 y2 y3 y4 y5 y6 y7 y8 y9, LeO (sequiturlaw19_TableImplies.j9 k y0 y1 y2 y3 y4 y5 y6 y7 y8 y9) (sequiturlaw19_TableImplies.j9 (k + 1) y0 y1 y2 y3 y4 y5 y6 y7 y8 y9)) ∧ (∀ y0 y1 y2 y3 y4 y5, LeO (sequiturlaw19_TableImplies.j11 k y0 y1 y2 y3 y4 y5) (sequiturlaw19_TableImplies.j11 (k + 1) y0 y1 y2 y3 y4 y5)) ∧ (∀ y0 y1 y2 y3 y4 y5 y6, LeO (sequiturlaw19_TableImplies.l1 k y0 y1 y2 y3 y4 y5 y6) (sequiturlaw19_TableImplies.l1 (k + 1) y0 y1 y2 y3 y4 y5 y6)) ∧ (∀ y0 y1 y2 y3 y4 y5 y6 y7 y8 y9 y10, LeO (sequiturlaw19_TableImplies.l0 k y0 y1 y2 y3 y4 y5 y6 y7 y8 y9 y10) (sequiturlaw19_TableImplies.l0 (k + 1) y0 y1 y2 y3 y4 y5 y6 y7 y8 y9 y10))
  | 0 => ⟨fun _ _ _ _ _ _ r h => by simp [sequiturlaw19_TableImplies.j0] at h, fun _ _ _ _ _ _ _ _ _ _ r h => by simp [sequiturlaw19_TableImplies.j1] at h, fun _ _ _ _ _ _ _ _ _ _ _ r h => by simp [sequiturlaw19_TableImplies.j2] at h, fun _ _ _ _ _ _ _ _ _ _ r h => by simp [sequiturlaw19_TableImplies.j3] at h, fun _ _ _ _ _ _ _ _ _ _ _ r h => by simp [sequiturlaw19_TableImplies.j4] at h, fun _ _ _ _ _ _ _ _ _ _ _ _ r h => by simp [sequiturlaw19_TableImplies.j5] at h, fun _ _ _ _ _ _ _ _ _ _ _ r h => by simp [sequiturlaw19_TableImplies.j6] at h, fun _ _ _ _ _ _ _ _ _ _ _ _ r h => by simp [sequiturlaw19_TableImplies.j7] at h, fun _ _ _ _ _ _ _ _ _ _ _ r h => by simp [sequiturlaw19_TableImplies.j8] at h, fun _ _ _ _ _ _ _ _ _ _ r h => by simp [sequiturlaw19_TableImplies.j9] at h, fun _ _ _ _ _ _ r h => by simp [sequiturlaw19_TableImplies.j11] at h, fun _ _ _ _ _ _ _ r h => by simp [sequiturlaw19_TableImplies.l1] at h, fun _ _ _ _ _ _ _ _ _ _ _ r h => by simp [sequiturlaw19_TableImplies.l0] at h⟩
  | k + 1 => by
    obtain ⟨ih0, ih1, ih2, ih3, ih4, ih5, ih6, ih7, ih8, ih9, ih10, ih11, ih12⟩ := sequiturlaw19_TableImplies.mono_l k
    refine ⟨?_, ?_, ?_, ?_, ?_, ?_, ?_, ?_, ?_, ?_, ?_, ?_, ?_⟩
    · intro y0 y1 y2 y3 y4 y5
      unfold sequiturlaw19_TableImplies.j0
      repeat' first
      | (with_reducible exact ih0 _ _ _ _ _ _)
      | (with_reducible exact ih1 _ _ _ _ _ _ _ _ _ _)
      | (with_reducible exact ih2 _ _ _ _ _ _ _ _ _ _ _)
      | (with_reducible exact ih3 _ _ _ _ _ _ _ _ _ _)
      | (with_reducible exact ih4 _ _ _ _ _ _ _ _ _ _ _)
      | (with_reducible exact ih5 _ _ _ _ _ _ _ _ _ _ _ _)
      | (with_reducible exact ih6 _ _ _ _ _ _ _ _ _ _ _)
      | (with_reducible exact ih7 _ _ _ _ _ _ _ _ _ _ _ _)
      | (with_reducible exact ih8 _ _ _ _ _ _ _ _ _ _ _)
      | (with_reducible exact ih9 _ _ _ _ _ _ _ _ _ _)
      | (with_reducible exact ih10 _ _ _ _ _ _)
      | (with_reducible exact ih11 _ _ _ _ _ _ _)
      | (with_reducible exact ih12 _ _ _ _ _ _ _ _ _ _ _)
      | (with_reducible exact sequiturlaw19_Small.mono _ _ _)
      | (with_reducible exact sequiturlaw19_goes.mono _)
      | (with_reducible exact sequiturref19_All.mono _ _ _)
      | (with_reducible exact sequiturref19_Clause.mono _ _ _)
      | (with_reducible exact sequiturref19_Every.mono _ _ _)
      | (with_reducible exact sequiturref19_Holds.mono _ _ _)
      | (with_reducible exact sequiturref19_Right.mono _ _ _)
      | (with_reducible exact sequiturref19_Values.mono _ _ _)
      | (with_reducible exact table_Equal.mono _ _ _ _ _)
      | (with_reducible exact table_Implies.mono _ _ _ _)
      | (with_reducible exact LeO.refl _)
      | (with_reducible exact LeO.none _)
      | (with_reducible refine LeO.ite ?_ ?_)
      | (with_reducible refine LeO.bind ?_ (fun _ => ?_))
      | exact ih0 _ _ _ _ _ _
      | exact ih1 _ _ _ _ _ _ _ _ _ _
      | exact ih2 _ _ _ _ _ _ _ _ _ _ _
      | exact ih3 _ _ _ _ _ _ _ _ _ _
      | exact ih4 _ _ _ _ _ _ _ _ _ _ _
      | exact ih5 _ _ _ _ _ _ _ _ _ _ _ _
      | exact ih6 _ _ _ _ _ _ _ _ _ _ _
      | exact ih7 _ _ _ _ _ _ _ _ _ _ _ _
      | exact ih8 _ _ _ _ _ _ _ _ _ _ _
      | exact ih9 _ _ _ _ _ _ _ _ _ _
      | exact ih10 _ _ _ _ _ _
      | exact ih11 _ _ _ _ _ _ _
      | exact ih12 _ _ _ _ _ _ _ _ _ _ _
      | exact sequiturlaw19_Small.mono _ _ _
      | exact sequiturlaw19_goes.mono _
      | exact sequiturref19_All.mono _ _ _
      | exact sequiturref19_Clause.mono _ _ _
      | exact sequiturref19_Every.mono _ _ _
      | exact sequiturref19_Holds.mono _ _ _
      | exact sequiturref19_Right.mono _ _ _
      | exact sequiturref19_Values.mono _ _ _
      | exact table_Equal.mono _ _ _ _ _
      | exact table_Implies.mono _ _ _ _
      | exact LeO.none _
      | refine LeO.ite ?_ ?_
      | refine LeO.bind ?_ (fun _ => ?_)
    · intro y0 y1 y2 y3 y4 y5 y6 y7 y8 y9
      unfold sequiturlaw19_TableImplies.j1
      repeat' first
      | (with_reducible exact ih0 _ _ _ _ _ _)
      | (with_reducible exact ih1 _ _ _ _ _ _ _ _ _ _)
      | (with_reducible exact ih2 _ _ _ _ _ _ _ _ _ _ _)
      | (with_reducible exact ih3 _ _ _ _ _ _ _ _ _ _)
      | (with_reducible exact ih4 _ _ _ _ _ _ _ _ _ _ _)
      | (with_reducible exact ih5 _ _ _ _ _ _ _ _ _ _ _ _)
      | (with_reducible exact ih6 _ _ _ _ _ _ _ _ _ _ _)
      | (with_reducible exact ih7 _ _ _ _ _ _ _ _ _ _ _ _)
      | (with_reducible exact ih8 _ _ _ _ _ _ _ _ _ _ _)
      | (with_reducible exact ih9 _ _ _ _ _ _ _ _ _ _)
      | (with_reducible exact ih10 _ _ _ _ _ _)
      | (with_reducible exact ih11 _ _ _ _ _ _ _)
      | (with_reducible exact ih12 _ _ _ _ _ _ _ _ _ _ _)
      | (with_reducible exact sequiturlaw19_Small.mono _ _ _)
      | (with_reducible exact sequiturlaw19_goes.mono _)
      | (with_reducible exact sequiturref19_All.mono _ _ _)
      | (with_reducible exact sequiturref19_Clause.mono _ _ _)
      | (with_reducible exact sequiturref19_Every.mono _ _ _)
      | (with_reducible exact sequiturref19_Holds.mono _ _ _)
      | (with_reducible exact sequiturref19_Right.mono _ _ _)
      | (with_reducible exact sequiturref19_Values.mono _ _ _)
      | (with_reducible exact table_Equal.mono _ _ _ _ _)
      | (with_reducible exact table_Implies.mono _ _ _ _)
      | (with_reducible exact LeO.refl _)
      | (with_reducible exact LeO.none _)
      | (with_reducible refine LeO.ite ?_ ?_)
      | (with_reducible refine LeO.bind ?_ (fun _ => ?_))
      | exact ih0 _ _ _ _ _ _
      | exact ih1 _ _ _ _ _ _ _ _ _ _
      | exact ih2 _ _ _ _ _ _ _ _ _ _ _
      | exact ih3 _ _ _ _ _ _ _ _ _ _
      | exact ih4 _ _ _ _ _ _ _ _ _ _ _
      | exact ih5 _ _ _ _ _ _ _ _ _ _ _ _
      | exact ih6 _ _ _ _ _ _ _ _ _ _ _
      | exact ih7 _ _ _ _ _ _ _ _ _ _ _ _
      | exact ih8 _ _ _ _ _ _ _ _ _ _ _
      | exact ih9 _ _ _ _ _ _ _ _ _ _
      | exact ih10 _ _ _ _ _ _
      | exact ih11 _ _ _ _ _ _ _
      | exact ih12 _ _ _ _ _ _ _ _ _ _ _
      | exact sequiturlaw19_Small.mono _ _ _
      | exact sequiturlaw19_goes.mono _
      | exact sequiturref19_All.mono _ _ _
      | exact sequiturref19_Clause.mono _ _ _
      | exact sequiturref19_Every.mono _ _ _
      | exact sequiturref19_Holds.mono _ _ _
      | exact sequiturref19_Right.mono _ _ _
      | exact sequiturref19_Values.mono _ _ _
      | exact table_Equal.mono _ _ _ _ _
      | exact table_Implies.mono _ _ _ _
      | exact LeO.none _
      | refine LeO.ite ?_ ?_
      | refine LeO.bind ?_ (fun _ => ?_)
    · intro y0 y1 y2 y3 y4 y5 y6 y7 y8 y9 y10
      unfold sequiturlaw19_TableImplies.j2
      repeat' first
      | (with_reducible exact ih0 _ _ _ _ _ _)
      | (with_reducible exact ih1 _ _ _ _ _ _ _ _ _ _)
      | (with_reducible exact ih2 _ _ _ _ _ _ _ _ _ _ _)
      | (with_reducible exact ih3 _ _ _ _ _ _ _ _ _ _)
      | (with_reducible exact ih4 _ _ _ _ _ _ _ _ _ _ _)
      | (with_reducible exact ih5 _ _ _ _ _ _ _ _ _ _ _ _)
      | (with_reducible exact ih6 _ _ _ _ _ _ _ _ _ _ _)
      | (with_reducible exact ih7 _ _ _ _ _ _ _ _ _ _ _ _)
      | (with_reducible exact ih8 _ _ _ _ _ _ _ _ _ _ _)
      | (with_reducible exact ih9 _ _ _ _ _ _ _ _ _ _)
      | (with_reducible exact ih10 _ _ _ _ _ _)
      | (with_reducible exact ih11 _ _ _ _ _ _ _)
      | (with_reducible exact ih12 _ _ _ _ _ _ _ _ _ _ _)
      | (with_reducible exact sequiturlaw19_Small.mono _ _ _)
      | (with_reducible exact sequiturlaw19_goes.mono _)
      | (with_reducible exact sequiturref19_All.mono _ _ _)
      | (with_reducible exact sequiturref19_Clause.mono _ _ _)
      | (with_reducible exact sequiturref19_Every.mono _ _ _)
      | (with_reducible exact sequiturref19_Holds.mono _ _ _)
      | (with_reducible exact sequiturref19_Right.mono _ _ _)
      | (with_reducible exact sequiturref19_Values.mono _ _ _)
      | (with_reducible exact table_Equal.mono _ _ _ _ _)
      | (with_reducible exact table_Implies.mono _ _ _ _)
      | (with_reducible exact LeO.refl _)
      | (with_reducible exact LeO.none _)
      | (with_reducible refine LeO.ite ?_ ?_)
      | (with_reducible refine LeO.bind ?_ (fun _ => ?_))
      | exact ih0 _ _ _ _ _ _
      | exact ih1 _ _ _ _ _ _ _ _ _ _
      | exact ih2 _ _ _ _ _ _ _ _ _ _ _
      | exact ih3 _ _ _ _ _ _ _ _ _ _
      | exact ih4 _ _ _ _ _ _ _ _ _ _ _
      | exact ih5 _ _ _ _ _ _ _ _ _ _ _ _
      | exact ih6 _ _ _ _ _ _ _ _ _ _ _
      | exact ih7 _ _ _ _ _ _ _ _ _ _ _ _
      | exact ih8 _ _ _ _ _ _ _ _ _ _ _
      | exact ih9 _ _ _ _ _ _ _ _ _ _
      | exact ih10 _ _ _ _ _ _
      | exact ih11 _ _ _ _ _ _ _
      | exact ih12 _ _ _ _ _ _ _ _ _ _ _
      | exact sequiturlaw19_Small.mono _ _ _
      | exact sequiturlaw19_goes.mono _
      | exact sequiturref19_All.mono _ _ _
      | exact sequiturref19_Clause.mono _ _ _
      | exact sequiturref19_Every.mono _ _ _
      | exact sequiturref19_Holds.mono _ _ _
      | exact sequiturref19_Right.mono _ _ _
      | exact sequiturref19_Values.mono _ _ _
      | exact table_Equal.mono _ _ _ _ _
      | exact table_Implies.mono _ _ _ _
      | exact LeO.none _
      | refine LeO.ite ?_ ?_
      | refine LeO.bind ?_ (fun _ => ?_)
    · intro y0 y1 y2 y3 y4 y5 y6 y7 y8 y9
      unfold sequiturlaw19_TableImplies.j3
      repeat' first
      | (with_reducible exact ih0 _ _ _ _ _ _)
      | (with_reducible exact ih1 _ _ _ _ _ _ _ _ _ _)
      | (with_reducible exact ih2 _ _ _ _ _ _ _ _ _ _ _)
      | (with_reducible exact ih3 _ _ _ _ _ _ _ _ _ _)
      | (with_reducible exact ih4 _ _ _ _ _ _ _ _ _ _ _)
      | (with_reducible exact ih5 _ _ _ _ _ _ _ _ _ _ _ _)
      | (with_reducible exact ih6 _ _ _ _ _ _ _ _ _ _ _)
      | (with_reducible exact ih7 _ _ _ _ _ _ _ _ _ _ _ _)
      | (with_reducible exact ih8 _ _ _ _ _ _ _ _ _ _ _)
      | (with_reducible exact ih9 _ _ _ _ _ _ _ _ _ _)
      | (with_reducible exact ih10 _ _ _ _ _ _)
      | (with_reducible exact ih11 _ _ _ _ _ _ _)
      | (with_reducible exact ih12 _ _ _ _ _ _ _ _ _ _ _)
      | (with_reducible exact sequiturlaw19_Small.mono _ _ _)
      | (with_reducible exact sequiturlaw19_goes.mono _)
      | (with_reducible exact sequiturref19_All.mono _ _ _)
      | (with_reducible exact sequiturref19_Clause.mono _ _ _)
      | (with_reducible exact sequiturref19_Every.mono _ _ _)
      | (with_reducible exact sequiturref19_Holds.mono _ _ _)
      | (with_reducible exact sequiturref19_Right.mono _ _ _)
      | (with_reducible exact sequiturref19_Values.mono _ _ _)
      | (with_reducible exact table_Equal.mono _ _ _ _ _)
      | (with_reducible exact table_Implies.mono _ _ _ _)
      | (with_reducible exact LeO.refl _)
      | (with_reducible exact LeO.none _)
      | (with_reducible refine LeO.ite ?_ ?_)
      | (with_reducible refine LeO.bind ?_ (fun _ => ?_))
      | exact ih0 _ _ _ _ _ _
      | exact ih1 _ _ _ _ _ _ _ _ _ _
      | exact ih2 _ _ _ _ _ _ _ _ _ _ _
      | exact ih3 _ _ _ _ _ _ _ _ _ _
      | exact ih4 _ _ _ _ _ _ _ _ _ _ _
      | exact ih5 _ _ _ _ _ _ _ _ _ _ _ _
      | exact ih6 _ _ _ _ _ _ _ _ _ _ _
      | exact ih7 _ _ _ _ _ _ _ _ _ _ _ _
      | exact ih8 _ _ _ _ _ _ _ _ _ _ _
      | exact ih9 _ _ _ _ _ _ _ _ _ _
      | exact ih10 _ _ _ _ _ _
      | exact ih11 _ _ _ _ _ _ _
      | exact ih12 _ _ _ _ _ _ _ _ _ _ _
      | exact sequiturlaw19_Small.mono _ _ _
      | exact sequiturlaw19_goes.mono _
      | exact sequiturref19_All.mono _ _ _
      | exact sequiturref19_Clause.mono _ _ _
      | exact sequiturref19_Every.mono _ _ _
      | exact sequiturref19_Holds.mono _ _ _
      | exact sequiturref19_Right.mono _ _ _
      | exact sequiturref19_Values.mono _ _ _
      | exact table_Equal.mono _ _ _ _ _
      | exact table_Implies.mono _ _ _ _
      | exact LeO.none _
      | refine LeO.ite ?_ ?_
      | refine LeO.bind ?_ (fun _ => ?_)
    · intro y0 y1 y2 y3 y4 y5 y6 y7 y8 y9 y10
      unfold sequiturlaw19_TableImplies.j4
      repeat' first
      | (with_reducible exact ih0 _ _ _ _ _ _)
      | (with_reducible exact ih1 _ _ _ _ _ _ _ _ _ _)
      | (with_reducible exact ih2 _ _ _ _ _ _ _ _ _ _ _)
      | (with_reducible exact ih3 _ _ _ _ _ _ _ _ _ _)
      | (with_reducible exact ih4 _ _ _ _ _ _ _ _ _ _ _)
      | (with_reducible exact ih5 _ _ _ _ _ _ _ _ _ _ _ _)
      | (with_reducible exact ih6 _ _ _ _ _ _ _ _ _ _ _)
      | (with_reducible exact ih7 _ _ _ _ _ _ _ _ _ _ _ _)
      | (with_reducible exact ih8 _ _ _ _ _ _ _ _ _ _ _)
      | (with_reducible exact ih9 _ _ _ _ _ _ _ _ _ _)
      | (with_reducible exact ih10 _ _ _ _ _ _)
      | (with_reducible exact ih11 _ _ _ _ _ _ _)
      | (with_reducible exact ih12 _ _ _ _ _ _ _ _ _ _ _)
      | (with_reducible exact sequiturlaw19_Small.mono _ _ _)
      | (with_reducible exact sequiturlaw19_goes.mono _)
      | (with_reducible exact sequiturref19_All.mono _ _ _)
      | (with_reducible exact sequiturref19_Clause.mono _ _ _)
      | (with_reducible exact sequiturref19_Every.mono _ _ _)
      | (with_reducible exact sequiturref19_Holds.mono _ _ _)
      | (with_reducible exact sequiturref19_Right.mono _ _ _)
      | (with_reducible exact sequiturref19_Values.mono _ _ _)
      | (with_reducible exact table_Equal.mono _ _ _ _ _)
      | (with_reducible exact table_Implies.mono _ _ _ _)
      | (with_reducible exact LeO.refl _)
      | (with_reducible exact LeO.none _)
      | (with_reducible refine LeO.ite ?_ ?_)
      | (with_reducible refine LeO.bind ?_ (fun _ => ?_))
      | exact ih0 _ _ _ _ _ _
      | exact ih1 _ _ _ _ _ _ _ _ _ _
      | exact ih2 _ _ _ _ _ _ _ _ _ _ _
      | exact ih3 _ _ _ _ _ _ _ _ _ _
      | exact ih4 _ _ _ _ _ _ _ _ _ _ _
      | exact ih5 _ _ _ _ _ _ _ _ _ _ _ _
      | exact ih6 _ _ _ _ _ _ _ _ _ _ _
      | exact ih7 _ _ _ _ _ _ _ _ _ _ _ _
      | exact ih8 _ _ _ _ _ _ _ _ _ _ _
      | exact ih9 _ _ _ _ _ _ _ _ _ _
      | exact ih10 _ _ _ _ _ _
      | exact ih11 _ _ _ _ _ _ _
      | exact ih12 _ _ _ _ _ _ _ _ _ _ _
      | exact sequiturlaw19_Small.mono _ _ _
      | exact sequiturlaw19_goes.mono _
      | exact sequiturref19_All.mono _ _ _
      | exact sequiturref19_Clause.mono _ _ _
      | exact sequiturref19_Every.mono _ _ _
      | exact sequiturref19_Holds.mono _ _ _
      | exact sequiturref19_Right.mono _ _ _
      | exact sequiturref19_Values.mono _ _ _
      | exact table_Equal.mono _ _ _ _ _
      | exact table_Implies.mono _ _ _ _
      | exact LeO.none _
      | refine LeO.ite ?_ ?_
      | refine LeO.bind ?_ (fun _ => ?_)
    · intro y0 y1 y2 y3 y4 y5 y6 y7 y8 y9 y10 y11
      unfold sequiturlaw19_TableImplies.j5
      repeat' first
      | (with_reducible exact ih0 _ _ _ _ _ _)
      | (with_reducible exact ih1 _ _ _ _ _ _ _ _ _ _)
      | (with_reducible exact ih2 _ _ _ _ _ _ _ _ _ _ _)
      | (with_reducible exact ih3 _ _ _ _ _ _ _ _ _ _)
      | (with_reducible exact ih4 _ _ _ _ _ _ _ _ _ _ _)
      | (with_reducible exact ih5 _ _ _ _ _ _ _ _ _ _ _ _)
      | (with_reducible exact ih6 _ _ _ _ _ _ _ _ _ _ _)
      | (with_reducible exact ih7 _ _ _ _ _ _ _ _ _ _ _ _)
      | (with_reducible exact ih8 _ _ _ _ _ _ _ _ _ _ _)
      | (with_reducible exact ih9 _ _ _ _ _ _ _ _ _ _)
      | (with_reducible exact ih10 _ _ _ _ _ _)
      | (with_reducible exact ih11 _ _ _ _ _ _ _)
      | (with_reducible exact ih12 _ _ _ _ _ _ _ _ _ _ _)
      | (with_reducible exact sequiturlaw19_Small.mono _ _ _)
      | (with_reducible exact sequiturlaw19_goes.mono _)
      | (with_reducible exact sequiturref19_All.mono _ _ _)
      | (with_reducible exact sequiturref19_Clause.mono _ _ _)
      | (with_reducible exact sequiturref19_Every.mono _ _ _)
      | (with_reducible exact sequiturref19_Holds.mono _ _ _)
      | (with_reducible exact sequiturref19_Right.mono _ _ _)
      | (with_reducible exact sequiturref19_Values.mono _ _ _)
      | (with_reducible exact table_Equal.mono _ _ _ _ _)
      | (with_reducible exact table_Implies.mono _ _ _ _)
      | (with_reducible exact LeO.refl _)
      | (with_reducible exact LeO.none _)
      | (with_reducible refine LeO.ite ?_ ?_)
      | (with_reducible refine LeO.bind ?_ (fun _ => ?_))
      | exact ih0 _ _ _ _ _ _
      | exact ih1 _ _ _ _ _ _ _ _ _ _
      | exact ih2 _ _ _ _ _ _ _ _ _ _ _
      | exact ih3 _ _ _ _ _ _ _ _ _ _
      | exact ih4 _ _ _ _ _ _ _ _ _ _ _
      | exact ih5 _ _ _ _ _ _ _ _ _ _ _ _
      | exact ih6 _ _ _ _ _ _ _ _ _ _ _
      | exact ih7 _ _ _ _ _ _ _ _ _ _ _ _
      | exact ih8 _ _ _ _ _ _ _ _ _ _ _
      | exact ih9 _ _ _ _ _ _ _ _ _ _
      | exact ih10 _ _ _ _ _ _
      | exact ih11 _ _ _ _ _ _ _
      | exact ih12 _ _ _ _ _ _ _ _ _ _ _
      | exact sequiturlaw19_Small.mono _ _ _
      | exact sequiturlaw19_goes.mono _
      | exact sequiturref19_All.mono _ _ _
      | exact sequiturref19_Clause.mono _ _ _
      | exact sequiturref19_Every.mono _ _ _
      | exact sequiturref19_Holds.mono _ _ _
      | exact sequiturref19_Right.mono _ _ _
      | exact sequiturref19_Values.mono _ _ _
      | exact table_Equal.mono _ _ _ _ _
      | exact table_Implies.mono _ _ _ _
      | exact LeO.none _
      | refine LeO.ite ?_ ?_
      | refine LeO.bind ?_ (fun _ => ?_)
    · intro y0 y1 y2 y3 y4 y5 y6 y7 y8 y9 y10
      unfold sequiturlaw19_TableImplies.j6
      repeat' first
      | (with_reducible exact ih0 _ _ _ _ _ _)
      | (with_reducible exact ih1 _ _ _ _ _ _ _ _ _ _)
      | (with_reducible exact ih2 _ _ _ _ _ _ _ _ _ _ _)
      | (with_reducible exact ih3 _ _ _ _ _ _ _ _ _ _)
      | (with_reducible exact ih4 _ _ _ _ _ _ _ _ _ _ _)
      | (with_reducible exact ih5 _ _ _ _ _ _ _ _ _ _ _ _)
      | (with_reducible exact ih6 _ _ _ _ _ _ _ _ _ _ _)
      | (with_reducible exact ih7 _ _ _ _ _ _ _ _ _ _ _ _)
      | (with_reducible exact ih8 _ _ _ _ _ _ _ _ _ _ _)
      | (with_reducible exact ih9 _ _ _ _ _ _ _ _ _ _)
      | (with_reducible exact ih10 _ _ _ _ _ _)
      | (with_reducible exact ih11 _ _ _ _ _ _ _)
      | (with_reducible exact ih12 _ _ _ _ _ _ _ _ _ _ _)
      | (with_reducible exact sequiturlaw19_Small.mono _ _ _)
      | (with_reducible exact sequiturlaw19_goes.mono _)
      | (with_reducible exact sequiturref19_All.mono _ _ _)
      | (with_reducible exact sequiturref19_Clause.mono _ _ _)
      | (with_reducible exact sequiturref19_Every.mono _ _ _)
      | (with_reducible exact sequiturref19_Holds.mono _ _ _)
      | (with_reducible exact sequiturref19_Right.mono _ _ _)
      | (with_reducible exact sequiturref19_Values.mono _ _ _)
      | (with_reducible exact table_Equal.mono _ _ _ _ _)
      | (with_reducible exact table_Implies.mono _ _ _ _)
      | (with_reducible exact LeO.refl _)
      | (with_reducible exact LeO.none _)
      | (with_reducible refine LeO.ite ?_ ?_)
      | (with_reducible refine LeO.bind ?_ (fun _ => ?_))
      | exact ih0 _ _ _ _ _ _
      | exact ih1 _ _ _ _ _ _ _ _ _ _
      | exact ih2 _ _ _ _ _ _ _ _ _ _ _
      | exact ih3 _ _ _ _ _ _ _ _ _ _
      | exact ih4 _ _ _ _ _ _ _ _ _ _ _
      | exact ih5 _ _ _ _ _ _ _ _ _ _ _ _
      | exact ih6 _ _ _ _ _ _ _ _ _ _ _
      | exact ih7 _ _ _ _ _ _ _ _ _ _ _ _
      | exact ih8 _ _ _ _ _ _ _ _ _ _ _
      | exact ih9 _ _ _ _ _ _ _ _ _ _
      | exact ih10 _ _ _ _ _ _
      | exact ih11 _ _ _ _ _ _ _
      | exact ih12 _ _ _ _ _ _ _ _ _ _ _
      | exact sequiturlaw19_Small.mono _ _ _
      | exact sequiturlaw19_goes.mono _
      | exact sequiturref19_All.mono _ _ _
      | exact sequiturref19_Clause.mono _ _ _
      | exact sequiturref19_Every.mono _ _ _
      | exact sequiturref19_Holds.mono _ _ _
      | exact sequiturref19_Right.mono _ _ _
      | exact sequiturref19_Values.mono _ _ _
      | exact table_Equal.mono _ _ _ _ _
      | exact table_Implies.mono _ _ _ _
      | exact LeO.none _
      | refine LeO.ite ?_ ?_
      | refine LeO.bind ?_ (fun _ => ?_)
    · intro y0 y1 y2 y3 y4 y5 y6 y7 y8 y9 y10 y11
      unfold sequiturlaw19_TableImplies.j7
      repeat' first
      | (with_reducible exact ih0 _ _ _ _ _ _)
      | (with_reducible exact ih1 _ _ _ _ _ _ _ _ _ _)
      | (with_reducible exact ih2 _ _ _ _ _ _ _ _ _ _ _)
      | (with_reducible exact ih3 _ _ _ _ _ _ _ _ _ _)
      | (with_reducible exact ih4 _ _ _ _ _ _ _ _ _ _ _)
      | (with_reducible exact ih5 _ _ _ _ _ _ _ _ _ _ _ _)
      | (with_reducible exact ih6 _ _ _ _ _ _ _ _ _ _ _)
      | (with_reducible exact ih7 _ _ _ _ _ _ _ _ _ _ _ _)
      | (with_reducible exact ih8 _ _ _ _ _ _ _ _ _ _ _)
      | (with_reducible exact ih9 _ _ _ _ _ _ _ _ _ _)
      | (with_reducible exact ih10 _ _ _ _ _ _)
      | (with_reducible exact ih11 _ _ _ _ _ _ _)
      | (with_reducible exact ih12 _ _ _ _ _ _ _ _ _ _ _)
      | (with_reducible exact sequiturlaw19_Small.mono _ _ _)
      | (with_reducible exact sequiturlaw19_goes.mono _)
      | (with_reducible exact sequiturref19_All.mono _ _ _)
      | (with_reducible exact sequiturref19_Clause.mono _ _ _)
      | (with_reducible exact sequiturref19_Every.mono _ _ _)
      | (with_reducible exact sequiturref19_Holds.mono _ _ _)
      | (with_reducible exact sequiturref19_Right.mono _ _ _)
      | (with_reducible exact sequiturref19_Values.mono _ _ _)
      | (with_reducible exact table_Equal.mono _ _ _ _ _)
      | (with_reducible exact table_Implies.mono _ _ _ _)
      | (with_reducible exact LeO.refl _)
      | (with_reducible exact LeO.none _)
      | (with_reducible refine LeO.ite ?_ ?_)
      | (with_reducible refine LeO.bind ?_ (fun _ => ?_))
      | exact ih0 _ _ _ _ _ _
      | exact ih1 _ _ _ _ _ _ _ _ _ _
      | exact ih2 _ _ _ _ _ _ _ _ _ _ _
      | exact ih3 _ _ _ _ _ _ _ _ _ _
      | exact ih4 _ _ _ _ _ _ _ _ _ _ _
      | exact ih5 _ _ _ _ _ _ _ _ _ _ _ _
      | exact ih6 _ _ _ _ _ _ _ _ _ _ _
      | exact ih7 _ _ _ _ _ _ _ _ _ _ _ _
      | exact ih8 _ _ _ _ _ _ _ _ _ _ _
      | exact ih9 _ _ _ _ _ _ _ _ _ _
      | exact ih10 _ _ _ _ _ _
      | exact ih11 _ _ _ _ _ _ _
      | exact ih12 _ _ _ _ _ _ _ _ _ _ _
      | exact sequiturlaw19_Small.mono _ _ _
      | exact sequiturlaw19_goes.mono _
      | exact sequiturref19_All.mono _ _ _
      | exact sequiturref19_Clause.mono _ _ _
      | exact sequiturref19_Every.mono _ _ _
      | exact sequiturref19_Holds.mono _ _ _
      | exact sequiturref19_Right.mono _ _ _
      | exact sequiturref19_Values.mono _ _ _
      | exact table_Equal.mono _ _ _ _ _
      | exact table_Implies.mono _ _ _ _
      | exact LeO.none _
      | refine LeO.ite ?_ ?_
      | refine LeO.bind ?_ (fun _ => ?_)
    · intro y0 y1 y2 y3 y4 y5 y6 y7 y8 y9 y10
      unfold sequiturlaw19_TableImplies.j8
      repeat' first
      | (with_reducible exact ih0 _ _ _ _ _ _)
      | (with_reducible exact ih1 _ _ _ _ _ _ _ _ _ _)
      | (with_reducible exact ih2 _ _ _ _ _ _ _ _ _ _ _)
      | (with_reducible exact ih3 _ _ _ _ _ _ _ _ _ _)
      | (with_reducible exact ih4 _ _ _ _ _ _ _ _ _ _ _)
      | (with_reducible exact ih5 _ _ _ _ _ _ _ _ _ _ _ _)
      | (with_reducible exact ih6 _ _ _ _ _ _ _ _ _ _ _)
      | (with_reducible exact ih7 _ _ _ _ _ _ _ _ _ _ _ _)
      | (with_reducible exact ih8 _ _ _ _ _ _ _ _ _ _ _)
      | (with_reducible exact ih9 _ _ _ _ _ _ _ _ _ _)
      | (with_reducible exact ih10 _ _ _ _ _ _)
      | (with_reducible exact ih11 _ _ _ _ _ _ _)
      | (with_reducible exact ih12 _ _ _ _ _ _ _ _ _ _ _)
      | (with_reducible exact sequiturlaw19_Small.mono _ _ _)
      | (with_reducible exact sequiturlaw19_goes.mono _)
      | (with_reducible exact sequiturref19_All.mono _ _ _)
      | (with_reducible exact sequiturref19_Clause.mono _ _ _)
      | (with_reducible exact sequiturref19_Every.mono _ _ _)
      | (with_reducible exact sequiturref19_Holds.mono _ _ _)
      | (with_reducible exact sequiturref19_Right.mono _ _ _)
      | (with_reducible exact sequiturref19_Values.mono _ _ _)
      | (with_reducible exact table_Equal.mono _ _ _ _ _)
      | (with_reducible exact table_Implies.mono _ _ _ _)
      | (with_reducible exact LeO.refl _)
      | (with_reducible exact LeO.none _)
      | (with_reducible refine LeO.ite ?_ ?_)
      | (with_reducible refine LeO.bind ?_ (fun _ => ?_))
      | exact ih0 _ _ _ _ _ _
      | exact ih1 _ _ _ _ _ _ _ _ _ _
      | exact ih2 _ _ _ _ _ _ _ _ _ _ _
      | exact ih3 _ _ _ _ _ _ _ _ _ _
      | exact ih4 _ _ _ _ _ _ _ _ _ _ _
      | exact ih5 _ _ _ _ _ _ _ _ _ _ _ _
      | exact ih6 _ _ _ _ _ _ _ _ _ _ _
      | exact ih7 _ _ _ _ _ _ _ _ _ _ _ _
      | exact ih8 _ _ _ _ _ _ _ _ _ _ _
      | exact ih9 _ _ _ _ _ _ _ _ _ _
      | exact ih10 _ _ _ _ _ _
      | exact ih11 _ _ _ _ _ _ _
      | exact ih12 _ _ _ _ _ _ _ _ _ _ _
      | exact sequiturlaw19_Small.mono _ _ _
      | exact sequiturlaw19_goes.mono _
      | exact sequiturref19_All.mono _ _ _
      | exact sequiturref19_Clause.mono _ _ _
      | exact sequiturref19_Every.mono _ _ _
      | exact sequiturref19_Holds.mono _ _ _
      | exact sequiturref19_Right.mono _ _ _
      | exact sequiturref19_Values.mono _ _ _
      | exact table_Equal.mono _ _ _ _ _
      | exact table_Implies.mono _ _ _ _
      | exact LeO.none _
      | refine LeO.ite ?_ ?_
      | refine LeO.bind ?_ (fun _ => ?_)
    · intro y0 y1 y2 y3 y4 y5 y6 y7 y8 y9
      unfold sequiturlaw19_TableImplies.j9
      repeat' first
      | (with_reducible exact ih0 _ _ _ _ _ _)
      | (with_reducible exact ih1 _ _ _ _ _ _ _ _ _ _)
      | (with_reducible exact ih2 _ _ _ _ _ _ _ _ _ _ _)
      | (with_reducible exact ih3 _ _ _ _ _ _ _ _ _ _)
      | (with_reducible exact ih4 _ _ _ _ _ _ _ _ _ _ _)
      | (with_reducible exact ih5 _ _ _ _ _ _ _ _ _ _ _ _)
      | (with_reducible exact ih6 _ _ _ _ _ _ _ _ _ _ _)
      | (with_reducible exact ih7 _ _ _ _ _ _ _ _ _ _ _ _)
      | (with_reducible exact ih8 _ _ _ _ _ _ _ _ _ _ _)
      | (with_reducible exact ih9 _ _ _ _ _ _ _ _ _ _)
      | (with_reducible exact ih10 _ _ _ _ _ _)
      | (with_reducible exact ih11 _ _ _ _ _ _ _)
      | (with_reducible exact ih12 _ _ _ _ _ _ _ _ _ _ _)
      | (with_reducible exact sequiturlaw19_Small.mono _ _ _)
      | (with_reducible exact sequiturlaw19_goes.mono _)
      | (with_reducible exact sequiturref19_All.mono _ _ _)
      | (with_reducible exact sequiturref19_Clause.mono _ _ _)
      | (with_reducible exact sequiturref19_Every.mono _ _ _)
      | (with_reducible exact sequiturref19_Holds.mono _ _ _)
      | (with_reducible exact sequiturref19_Right.mono _ _ _)
      | (with_reducible exact sequiturref19_Values.mono _ _ _)
      | (with_reducible exact table_Equal.mono _ _ _ _ _)
      | (with_reducible exact table_Implies.mono _ _ _ _)
      | (with_reducible exact LeO.refl _)
      | (with_reducible exact LeO.none _)
      | (with_reducible refine LeO.ite ?_ ?_)
      | (with_reducible refine LeO.bind ?_ (fun _ => ?_))
      | exact ih0 _ _ _ _ _ _
      | exact ih1 _ _ _ _ _ _ _ _ _ _
      | exact ih2 _ _ _ _ _ _ _ _ _ _ _
      | exact ih3 _ _ _ _ _ _ _ _ _ _
      | exact ih4 _ _ _ _ _ _ _ _ _ _ _
      | exact ih5 _ _ _ _ _ _ _ _ _ _ _ _
      | exact ih6 _ _ _ _ _ _ _ _ _ _ _
      | exact ih7 _ _ _ _ _ _ _ _ _ _ _ _
      | exact ih8 _ _ _ _ _ _ _ _ _ _ _
      | exact ih9 _ _ _ _ _ _ _ _ _ _
      | exact ih10 _ _ _ _ _ _
      | exact ih11 _ _ _ _ _ _ _
      | exact ih12 _ _ _ _ _ _ _ _ _ _ _
      | exact sequiturlaw19_Small.mono _ _ _
      | exact sequiturlaw19_goes.mono _
      | exact sequiturref19_All.mono _ _ _
      | exact sequiturref19_Clause.mono _ _ _
      | exact sequiturref19_Every.mono _ _ _
      | exact sequiturref19_Holds.mono _ _ _
      | exact sequiturref19_Right.mono _ _ _
      | exact sequiturref19_Values.mono _ _ _
      | exact table_Equal.mono _ _ _ _ _
      | exact table_Implies.mono _ _ _ _
      | exact LeO.none _
      | refine LeO.ite ?_ ?_
      | refine LeO.bind ?_ (fun _ => ?_)
    · intro y0 y1 y2 y3 y4 y5
      unfold sequiturlaw19_TableImplies.j11
      repeat' first
      | (with_reducible exact ih0 _ _ _ _ _ _)
      | (with_reducible exact ih1 _ _ _ _ _ _ _ _ _ _)
      | (with_reducible exact ih2 _ _ _ _ _ _ _ _ _ _ _)
      | (with_reducible exact ih3 _ _ _ _ _ _ _ _ _ _)
      | (with_reducible exact ih4 _ _ _ _ _ _ _ _ _ _ _)
      | (with_reducible exact ih5 _ _ _ _ _ _ _ _ _ _ _ _)
      | (with_reducible exact ih6 _ _ _ _ _ _ _ _ _ _ _)
      | (with_reducible exact ih7 _ _ _ _ _ _ _ _ _ _ _ _)
      | (with_reducible exact ih8 _ _ _ _ _ _ _ _ _ _ _)
      | (with_reducible exact ih9 _ _ _ _ _ _ _ _ _ _)
      | (with_reducible exact ih10 _ _ _ _ _ _)
      | (with_reducible exact ih11 _ _ _ _ _ _ _)
      | (with_reducible exact ih12 _ _ _ _ _ _ _ _ _ _ _)
      | (with_reducible exact sequiturlaw19_Small.mono _ _ _)
      | (with_reducible exact sequiturlaw19_goes.mono _)
      | (with_reducible exact sequiturref19_All.mono _ _ _)
      | (with_reducible exact sequiturref19_Clause.mono _ _ _)
      | (with_reducible exact sequiturref19_Every.mono _ _ _)
      | (with_reducible exact sequiturref19_Holds.mono _ _ _)
      | (with_reducible exact sequiturref19_Right.mono _ _ _)
      | (with_reducible exact sequiturref19_Values.mono _ _ _)
      | (with_reducible exact table_Equal.mono _ _ _ _ _)
      | (with_reducible exact table_Implies.mono _ _ _ _)
      | (with_reducible exact LeO.refl _)
      | (with_reducible exact LeO.none _)
      | (with_reducible refine LeO.ite ?_ ?_)
      | (with_reducible refine LeO.bind ?_ (fun _ => ?_))
      | exact ih0 _ _ _ _ _ _
      | exact ih1 _ _ _ _ _ _ _ _ _ _
      | exact ih2 _ _ _ _ _ _ _ _ _ _ _
      | exact ih3 _ _ _ _ _ _ _ _ _ _
      | exact ih4 _ _ _ _ _ _ _ _ _ _ _
      | exact ih5 _ _ _ _ _ _ _ _ _ _ _ _
      | exact ih6 _ _ _ _ _ _ _ _ _ _ _
      | exact ih7 _ _ _ _ _ _ _ _ _ _ _ _
      | exact ih8 _ _ _ _ _ _ _ _ _ _ _
      | exact ih9 _ _ _ _ _ _ _ _ _ _
      | exact ih10 _ _ _ _ _ _
      | exact ih11 _ _ _ _ _ _ _
      | exact ih12 _ _ _ _ _ _ _ _ _ _ _
      | exact sequiturlaw19_Small.mono _ _ _
      | exact sequiturlaw19_goes.mono _
      | exact sequiturref19_All.mono _ _ _
      | exact sequiturref19_Clause.mono _ _ _
      | exact sequiturref19_Every.mono _ _ _
      | exact sequiturref19_Holds.mono _ _ _
      | exact sequiturref19_Right.mono _ _ _
      | exact sequiturref19_Values.mono _ _ _
      | exact table_Equal.mono _ _ _ _ _
      | exact table_Implies.mono _ _ _ _
      | exact LeO.none _
      | refine LeO.ite ?_ ?_
      | refine LeO.bind ?_ (fun _ => ?_)
    · intro y0 y1 y2 y3 y4 y5 y6
      unfold sequiturlaw19_TableImplies.l1
      repeat' first
      | (with_reducible exact ih0 _ _ _ _ _ _)
      | (with_reducible exact ih1 _ _ _ _ _ _ _ _ _ _)
      | (with_reducible exact ih2 _ _ _ _ _ _ _ _ _ _ _)
      | (with_reducible exact ih3 _ _ _ _ _ _ _ _ _ _)
      | (with_reducible exact ih4 _ _ _ _ _ _ _ _ _ _ _)
      | (with_reducible exact ih5 _ _ _ _ _ _ _ _ _ _ _ _)
      | (with_reducible exact ih6 _ _ _ _ _ _ _ _ _ _ _)
      | (with_reducible exact ih7 _ _ _ _ _ _ _ _ _ _ _ _)
      | (with_reducible exact ih8 _ _ _ _ _ _ _ _ _ _ _)
      | (with_reducible exact ih9 _ _ _ _ _ _ _ _ _ _)
      | (with_reducible exact ih10 _ _ _ _ _ _)
      | (with_reducible exact ih11 _ _ _ _ _ _ _)
      | (with_reducible exact ih12 _ _ _ _ _ _ _ _ _ _ _)
      | (with_reducible exact sequiturlaw19_Small.mono _ _ _)
      | (with_reducible exact sequiturlaw19_goes.mono _)
      | (with_reducible exact sequiturref19_All.mono _ _ _)
      | (with_reducible exact sequiturref19_Clause.mono _ _ _)
      | (with_reducible exact sequiturref19_Every.mono _ _ _)
      | (with_reducible exact sequiturref19_Holds.mono _ _ _)
      | (with_reducible exact sequiturref19_Right.mono _ _ _)
      | (with_reducible exact sequiturref19_Values.mono _ _ _)
      | (with_reducible exact table_Equal.mono _ _ _ _ _)
      | (with_reducible exact table_Implies.mono _ _ _ _)
      | (with_reducible exact LeO.refl _)
      | (with_reducible exact LeO.none _)
      | (with_reducible refine LeO.ite ?_ ?_)
      | (with_reducible refine LeO.bind ?_ (fun _ => ?_))
      | exact ih0 _ _ _ _ _ _
      | exact ih1 _ _ _ _ _ _ _ _ _ _
      | exact ih2 _ _ _ _ _ _ _ _ _ _ _
      | exact ih3 _ _ _ _ _ _ _ _ _ _
      | exact ih4 _ _ _ _ _ _ _ _ _ _ _
      | exact ih5 _ _ _ _ _ _ _ _ _ _ _ _
      | exact ih6 _ _ _ _ _ _ _ _ _ _ _
      | exact ih7 _ _ _ _ _ _ _ _ _ _ _ _
      | exact ih8 _ _ _ _ _ _ _ _ _ _ _
      | exact ih9 _ _ _ _ _ _ _ _ _ _
      | exact ih10 _ _ _ _ _ _
      | exact ih11 _ _ _ _ _ _ _
      | exact ih12 _ _ _ _ _ _ _ _ _ _ _
      | exact sequiturlaw19_Small.mono _ _ _
      | exact sequiturlaw19_goes.mono _
      | exact sequiturref19_All.mono _ _ _
      | exact sequiturref19_Clause.mono _ _ _
      | exact sequiturref19_Every.mono _ _ _
      | exact sequiturref19_Holds.mono _ _ _
      | exact sequiturref19_Right.mono _ _ _
      | exact sequiturref19_Values.mono _ _ _
      | exact table_Equal.mono _ _ _ _ _
      | exact table_Implies.mono _ _ _ _
      | exact LeO.none _
      | refine LeO.ite ?_ ?_
      | refine LeO.bind ?_ (fun _ => ?_)
    · intro y0 y1 y2 y3 y4 y5 y6 y7 y8 y9 y10
      unfold sequiturlaw19_TableImplies.l0
      repeat' first
      | (with_reducible exact ih0 _ _ _ _ _ _)
      | (with_reducible exact ih1 _ _ _ _ _ _ _ _ _ _)
      | (with_reducible exact ih2 _ _ _ _ _ _ _ _ _ _ _)
      | (with_reducible exact ih3 _ _ _ _ _ _ _ _ _ _)
      | (with_reducible exact ih4 _ _ _ _ _ _ _ _ _ _ _)
      | (with_reducible exact ih5 _ _ _ _ _ _ _ _ _ _ _ _)
      | (with_reducible exact ih6 _ _ _ _ _ _ _ _ _ _ _)
      | (with_reducible exact ih7 _ _ _ _ _ _ _ _ _ _ _ _)
      | (with_reducible exact ih8 _ _ _ _ _ _ _ _ _ _ _)
      | (with_reducible exact ih9 _ _ _ _ _ _ _ _ _ _)
      | (with_reducible exact ih10 _ _ _ _ _ _)
      | (with_reducible exact ih11 _ _ _ _ _ _ _)
      | (with_reducible exact ih12 _ _ _ _ _ _ _ _ _ _ _)
      | (with_reducible exact sequiturlaw19_Small.mono _ _ _)
      | (with_reducible exact sequiturlaw19_goes.mono _)
      | (with_reducible exact sequiturref19_All.mono _ _ _)
      | (with_reducible exact sequiturref19_Clause.mono _ _ _)
      | (with_reducible exact sequiturref19_Every.mono _ _ _)
      | (with_reducible exact sequiturref19_Holds.mono _ _ _)
      | (with_reducible exact sequiturref19_Right.mono _ _ _)
      | (with_reducible exact sequiturref19_Values.mono _ _ _)
      | (with_reducible exact table_Equal.mono _ _ _ _ _)
      | (with_reducible exact table_Implies.mono _ _ _ _)
      | (with_reducible exact LeO.refl _)
      | (with_reducible exact LeO.none _)
      | (with_reducible refine LeO.ite ?_ ?_)
      | (with_reducible refine LeO.bind ?_ (fun _ => ?_))
      | exact ih0 _ _ _ _ _ _
      | exact ih1 _ _ _ _ _ _ _ _ _ _
      | exact ih2 _ _ _ _ _ _ _ _ _ _ _
      | exact ih3 _ _ _ _ _ _ _ _ _ _
      | exact ih4 _ _ _ _ _ _ _ _ _ _ _
      | exact ih5 _ _ _ _ _ _ _ _ _ _ _ _
      | exact ih6 _ _ _ _ _ _ _ _ _ _ _
      | exact ih7 _ _ _ _ _ _ _ _ _ _ _ _
      | exact ih8 _ _ _ _ _ _ _ _ _ _ _
      | exact ih9 _ _ _ _ _ _ _ _ _ _
      | exact ih10 _ _ _ _ _ _
      | exact ih11 _ _ _ _ _ _ _
      | exact ih12 _ _ _ _ _ _ _ _ _ _ _
      | exact sequiturlaw19_Small.mono _ _ _
      | exact sequiturlaw19_goes.mono _
      | exact sequiturref19_All.mono _ _ _
      | exact sequiturref19_Clause.mono _ _ _
      | exact sequiturref19_Every.mono _ _ _
      | exact sequiturref19_Holds.mono _ _ _
      | exact sequiturref19_Right.mono _ _ _
      | exact sequiturref19_Values.mono _ _ _
      | exact table_Equal.mono _ _ _ _ _
      | exact table_Implies.mono _ _ _ _
      | exact LeO.none _
      | refine LeO.ite ?_ ?_
      | refine LeO.bind ?_ (fun _ => ?_)
theorem sequiturlaw19_TableImplies.mono : ∀ a0 a1 a2 a3 a4 k, LeO (sequiturlaw19_TableImplies.f k a0 a1 a2 a3 a4) (sequiturlaw19_TableImplies.f (k + 1) a0 a1 a2 a3 a4) := by
  intro a0 a1 a2 a3 a4 k
  obtain ⟨ih0, ih1, ih2, ih3, ih4, ih5, ih6, ih7, ih8, ih9, ih10, ih11, ih12⟩ := sequiturlaw19_TableImplies.mono_l k
  unfold sequiturlaw19_TableImplies.f
  repeat' first
      | (with_reducible exact ih0 _ _ _ _ _ _)
      | (with_reducible exact ih1 _ _ _ _ _ _ _ _ _ _)
      | (with_reducible exact ih2 _ _ _ _ _ _ _ _ _ _ _)
      | (with_reducible exact ih3 _ _ _ _ _ _ _ _ _ _)
      | (with_reducible exact ih4 _ _ _ _ _ _ _ _ _ _ _)
      | (with_reducible exact ih5 _ _ _ _ _ _ _ _ _ _ _ _)
      | (with_reducible exact ih6 _ _ _ _ _ _ _ _ _ _ _)
      | (with_reducible exact ih7 _ _ _ _ _ _ _ _ _ _ _ _)
      | (with_reducible exact ih8 _ _ _ _ _ _ _ _ _ _ _)
      | (with_reducible exact ih9 _ _ _ _ _ _ _ _ _ _)
      | (with_reducible exact ih10 _ _ _ _ _ _)
      | (with_reducible exact ih11 _ _ _ _ _ _ _)
      | (with_reducible exact ih12 _ _ _ _ _ _ _ _ _ _ _)
      | (with_reducible exact sequiturlaw19_Small.mono _ _ _)
      | (with_reducible exact sequiturlaw19_goes.mono _)
      | (with_reducible exact sequiturref19_All.mono _ _ _)
      | (with_reducible exact sequiturref19_Clause.mono _ _ _)
      | (with_reducible exact sequiturref19_Every.mono _ _ _)
      | (with_reducible exact sequiturref19_Holds.mono _ _ _)
      | (with_reducible exact sequiturref19_Right.mono _ _ _)
      | (with_reducible exact sequiturref19_Values.mono _ _ _)
      | (with_reducible exact table_Equal.mono _ _ _ _ _)
      | (with_reducible exact table_Implies.mono _ _ _ _)
      | (with_reducible exact LeO.refl _)
      | (with_reducible exact LeO.none _)
      | (with_reducible refine LeO.ite ?_ ?_)
      | (with_reducible refine LeO.bind ?_ (fun _ => ?_))
      | exact ih0 _ _ _ _ _ _
      | exact ih1 _ _ _ _ _ _ _ _ _ _
      | exact ih2 _ _ _ _ _ _ _ _ _ _ _
      | exact ih3 _ _ _ _ _ _ _ _ _ _
      | exact ih4 _ _ _ _ _ _ _ _ _ _ _
      | exact ih5 _ _ _ _ _ _ _ _ _ _ _ _
      | exact ih6 _ _ _ _ _ _ _ _ _ _ _
      | exact ih7 _ _ _ _ _ _ _ _ _ _ _ _
      | exact ih8 _ _ _ _ _ _ _ _ _ _ _
      | exact ih9 _ _ _ _ _ _ _ _ _ _
      | exact ih10 _ _ _ _ _ _
      | exact ih11 _ _ _ _ _ _ _
      | exact ih12 _ _ _ _ _ _ _ _ _ _ _
      | exact sequiturlaw19_Small.mono _ _ _
      | exact sequiturlaw19_goes.mono _
      | exact sequiturref19_All.mono _ _ _
      | exact sequiturref19_Clause.mono _ _ _
      | exact sequiturref19_Every.mono _ _ _
      | exact sequiturref19_Holds.mono _ _ _
      | exact sequiturref19_Right.mono _ _ _
      | exact sequiturref19_Values.mono _ _ _
      | exact table_Equal.mono _ _ _ _ _
      | exact table_Implies.mono _ _ _ _
      | exact LeO.none _
      | refine LeO.ite ?_ ?_
      | refine LeO.bind ?_ (fun _ => ?_)
end Go.Proofs.Ytkfnaiobgddjpaa.P
