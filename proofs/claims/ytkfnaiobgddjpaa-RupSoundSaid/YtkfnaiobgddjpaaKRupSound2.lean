import Derived.Deep.DeepCutAuto
import Derived.Test.YtkfnaiobgddjpaaKRupSound1
-- Printed by wip/tools/pp.py of this claim's session (over the kit's print.py); Lean checks it.
namespace Go.Proofs.Ytkfnaiobgddjpaa.P
open Go.RowKit Go.Proofs.YtkfnaiobgddjpaaW.PrintWords Go.Proofs.YtkfnaiobgddjpaaW.PrintLast Go.Proofs.YtkfnaiobgddjpaaW.PrintMore
attribute [local go_sem] max2_int min2_int max_two min_two max_three min_three max_four min_four   -- for this text's walks alone
set_option linter.unusedVariables false
set_option linter.unusedSimpArgs false

/-! ### lit_Within: function 86 -/
def lit_Within.l0 : Nat → List Int → List Int → Int → Int → Option (Bool)
  | 0, _, _, _, _ => none
  | k + 1, x1, x7, x8, x9 => if x9 < x8 then (if 0 ≤ x9 then (if x9 < (x7.length : Int) then ((lit_is.f (rd x7 x9)).bind fun t618 => (if t618 = true then ((lit_Has.f k x1 (rd x7 x9)).bind fun t619 => (if t619 = true then (lit_Within.l0 k x1 x7 x8 (wrap64 (x9 + 1))) else (some false))) else (lit_Within.l0 k x1 x7 x8 (wrap64 (x9 + 1))))) else (none)) else (none)) else (some true)
def lit_Within.f (k : Nat) (l0 : List Int) (l1 : List Int) : Option (Bool) := lit_Within.l0 k l1 l0 (l0.length : Int) 0
theorem lit_Within.mono_l : ∀ k, (∀ y0 y1 y2 y3, LeO (lit_Within.l0 k y0 y1 y2 y3) (lit_Within.l0 (k + 1) y0 y1 y2 y3))
  | 0 => fun _ _ _ _ r h => by simp [lit_Within.l0] at h
  | k + 1 => by
    have ih0 := lit_Within.mono_l k
    · intro y0 y1 y2 y3
      unfold lit_Within.l0
      repeat' first
      | (with_reducible exact ih0 _ _ _ _)
      | (with_reducible exact lit_Has.mono _ _ _)
      | (with_reducible exact LeO.refl _)
      | (with_reducible exact LeO.none _)
      | (with_reducible refine LeO.ite ?_ ?_)
      | (with_reducible refine LeO.bind ?_ (fun _ => ?_))
      | exact ih0 _ _ _ _
      | exact lit_Has.mono _ _ _
      | exact LeO.none _
      | refine LeO.ite ?_ ?_
      | refine LeO.bind ?_ (fun _ => ?_)
theorem lit_Within.mono : ∀ a0 a1 k, LeO (lit_Within.f k a0 a1) (lit_Within.f (k + 1) a0 a1) := by
  intro a0 a1 k
  have ih0 := lit_Within.mono_l k
  unfold lit_Within.f
  repeat' first
      | (with_reducible exact ih0 _ _ _ _)
      | (with_reducible exact lit_Has.mono _ _ _)
      | (with_reducible exact LeO.refl _)
      | (with_reducible exact LeO.none _)
      | (with_reducible refine LeO.ite ?_ ?_)
      | (with_reducible refine LeO.bind ?_ (fun _ => ?_))
      | exact ih0 _ _ _ _
      | exact lit_Has.mono _ _ _
      | exact LeO.none _
      | refine LeO.ite ?_ ?_
      | refine LeO.bind ?_ (fun _ => ?_)
set_option maxHeartbeats 8000000 in
set_option maxRecDepth 100000 in
theorem lit_Within.calls (k : Nat) (A0 : Option Addr) (c0 : Nat) (l0 : List Int) (A1 : Option Addr) (c1 : Nat) (l1 : List Int) (r : Bool) (w : World) (hr0 : Kd.C (Kd.int .i64) w A0 l0.length l0) (hc0 : l0.length ≤ c0) (hr1 : Kd.C (Kd.int .i64) w A1 l1.length l1) (hc1 : l1.length ≤ c1) (h : lit_Within.f k l0 l1 = some r) :
    Calls Try.prog 86 #[.slice A0 l0.length c0, .slice A1 l1.length c1] w fun e w' => e = .returned (.bool r) ∧ Drawn0 w w' := by
  have HR0 := Aside0.mk hr0
  have HC0 := Aside0.mk hc0
  clear hr0 hc0
  have HR1 := Aside0.mk hr1
  have HC1 := Aside0.mk hc1
  clear hr1 hc1
  have H : (lit_Within.l0 k l1 l0 (l0.length : Int) 0) = some r := h
  clear h
  have H' := Aside0.mk H
  clear H
  go_enter Try.func86, Try.ntmps86
  go_wp2
  go_loopg [9] k (fun kq v9 w' => ∃ (x9_1 : Int), v9 = .int .i64 x9_1 ∧ Aside0 (lit_Within.l0 kq l1 l0 (l0.length : Int) x9_1 = some r) ∧ Aside0 (kq ≤ k) ∧ Drawn0 w w')
  case atStart => exact ⟨(0), (by first | rfl | (simp; done) | (simp [*]; done)), H', ⟨Nat.le_refl _⟩, by repeat (first | exact Drawn0.refl _ | apply Drawn0.step)⟩
  case round =>
    clear H'
    try clear c1
    try clear p2
    obtain ⟨x9_1, rfl, HA, HK1, ⟨m1, rfl⟩⟩ := hrel
    cases gk with
    | zero => exact absurd HA.out (by simp [lit_Within.l0])
    | succ k1 =>
      have H := HA.out
      clear HA
      simp only [lit_Within.l0] at H
      by_cases c3 : x9_1 < (l0.length : Int)
      · rw [if_pos c3] at H
        have c3b0 : decide (x9_1 < (l0.length : Int)) = true := decide_eq_true c3
        clear c3
        by_cases c4 : 0 ≤ x9_1
        · rw [if_pos c4] at H
          have c4b0 : decide (0 ≤ x9_1) = true := decide_eq_true c4
          clear c4
          by_cases c5 : x9_1 < (l0.length : Int)
          · rw [if_pos c5] at H
            have c5b0 : decide (x9_1 < (l0.length : Int)) = true := decide_eq_true c5
            clear c5
            replace H := Option.bind_eq_some_iff.mp H
            obtain ⟨t618, A60, H⟩ := H
            replace H : (if t618 = true then ((lit_Has.f k1 l1 (rd l0 x9_1)).bind fun t619 => (if t619 = true then (lit_Within.l0 k1 l1 l0 (l0.length : Int) (wrap64 (x9_1 + 1))) else (some false))) else (lit_Within.l0 k1 l1 l0 (l0.length : Int) (wrap64 (x9_1 + 1)))) = some r := H
            have A6 := Aside0.mk A60
            clear A60
            by_cases c7 : t618 = true
            · subst c7
              have H1 : ((lit_Has.f k1 l1 (rd l0 x9_1)).bind fun t619 => (if t619 = true then (lit_Within.l0 k1 l1 l0 (l0.length : Int) (wrap64 (x9_1 + 1))) else (some false))) = some r := by rw [if_pos rfl] at H; exact H
              clear H
              have H := H1
              clear H1
              replace H := Option.bind_eq_some_iff.mp H
              obtain ⟨t619, A80, H⟩ := H
              replace H : (if t619 = true then (lit_Within.l0 k1 l1 l0 (l0.length : Int) (wrap64 (x9_1 + 1))) else (some false)) = some r := H
              have A8 := Aside0.mk A80
              clear A80
              by_cases c9 : t619 = true
              · subst c9
                have H1 : (lit_Within.l0 k1 l1 l0 (l0.length : Int) (wrap64 (x9_1 + 1))) = some r := by rw [if_pos rfl] at H; exact H
                clear H
                have H := H1
                clear H1
                as_aux_lemma =>
                  have H' := Aside0.mk H
                  clear H
                  have p617 : 0 ≤ (x9_1 : Int) := of_decide_eq_true (by first | (with_reducible assumption) | assumption)
                  have q617 : x9_1 < (l0.length : Int) := of_decide_eq_true (by first | (with_reducible assumption) | assumption)
                  obtain ⟨ad617, e617, hx617_0⟩ := Kd.at_int HR0.out x9_1 p617 q617
                  cases e617
                  replace p617 := eq_true p617
                  replace q617 := eq_true q617
                  go_wp2_with (first | ((with_reducible refine gate_callee (f := 73) rfl ?_); refine goesL_ (some 14) rfl rfl Try.func73 (by kernel_rfl) rfl #[.int .i64 (rd l0 x9_1)] rfl (by (try simp only [List.map_toArray, List.map_cons, List.map_nil]); first | done | rfl | (simp only [List.length_drop, List.length_take]; rfl)) ?_; (with_reducible refine (lit_is.calls (rd l0 x9_1) true _ A6.out).mono ?_); rintro e w' ⟨rfl, ⟨nd, rfl⟩⟩; refine ⟨_, rfl, ?_⟩) | (go_at_call 93; (with_reducible refine (lit_Has.calls k1 _ _ l1 (rd l0 x9_1) true _ ?side1 ?side2 A8.out).mono ?_); (case side1 => repeat (first | exact HR1.out | (with_reducible refine Kd.C_alloc ?_ _) | (with_reducible refine Kd.C_drewN ?_ _) | (with_reducible refine Kd.C_drew ?_))); (case side2 => exact HC1.out); rintro e w' ⟨rfl, ⟨nd, rfl⟩⟩))
                  go_roundg k1
                  case measure => have := HK1.out; omega
                  case rel => exact ⟨(wrap64 (x9_1 + 1)), (by first | rfl | (simp; done) | (simp [*]; done)), H', ⟨by have := HK1.out; omega⟩, by repeat (first | exact Drawn0.refl _ | apply Drawn0.step)⟩
              · replace c9 := Bool.eq_false_iff.mpr c9
                subst c9
                have H1 : (some false) = some r := by rw [if_neg (show ¬ (false = true) by decide)] at H; exact H
                clear H
                have H := H1
                clear H1
                as_aux_lemma =>
                  obtain rfl := Option.some.inj H
                  have p617 : 0 ≤ (x9_1 : Int) := of_decide_eq_true (by first | (with_reducible assumption) | assumption)
                  have q617 : x9_1 < (l0.length : Int) := of_decide_eq_true (by first | (with_reducible assumption) | assumption)
                  obtain ⟨ad617, e617, hx617_0⟩ := Kd.at_int HR0.out x9_1 p617 q617
                  cases e617
                  replace p617 := eq_true p617
                  replace q617 := eq_true q617
                  go_wp2_with (first | ((with_reducible refine gate_callee (f := 73) rfl ?_); refine goesL_ (some 14) rfl rfl Try.func73 (by kernel_rfl) rfl #[.int .i64 (rd l0 x9_1)] rfl (by (try simp only [List.map_toArray, List.map_cons, List.map_nil]); first | done | rfl | (simp only [List.length_drop, List.length_take]; rfl)) ?_; (with_reducible refine (lit_is.calls (rd l0 x9_1) true _ A6.out).mono ?_); rintro e w' ⟨rfl, ⟨nd, rfl⟩⟩; refine ⟨_, rfl, ?_⟩) | (go_at_call 93; (with_reducible refine (lit_Has.calls k1 _ _ l1 (rd l0 x9_1) false _ ?side1 ?side2 A8.out).mono ?_); (case side1 => repeat (first | exact HR1.out | (with_reducible refine Kd.C_alloc ?_ _) | (with_reducible refine Kd.C_drewN ?_ _) | (with_reducible refine Kd.C_drew ?_))); (case side2 => exact HC1.out); rintro e w' ⟨rfl, ⟨nd, rfl⟩⟩))
                  go_ret
                  exact ⟨by first | rfl | (simp; done) | (simp [*]; done), by repeat (first | exact Drawn0.refl _ | apply Drawn0.step)⟩
            · replace c7 := Bool.eq_false_iff.mpr c7
              subst c7
              have H1 : (lit_Within.l0 k1 l1 l0 (l0.length : Int) (wrap64 (x9_1 + 1))) = some r := by rw [if_neg (show ¬ (false = true) by decide)] at H; exact H
              clear H
              have H := H1
              clear H1
              as_aux_lemma =>
                have H' := Aside0.mk H
                clear H
                have p617 : 0 ≤ (x9_1 : Int) := of_decide_eq_true (by first | (with_reducible assumption) | assumption)
                have q617 : x9_1 < (l0.length : Int) := of_decide_eq_true (by first | (with_reducible assumption) | assumption)
                obtain ⟨ad617, e617, hx617_0⟩ := Kd.at_int HR0.out x9_1 p617 q617
                cases e617
                replace p617 := eq_true p617
                replace q617 := eq_true q617
                go_wp2_with (first | ((with_reducible refine gate_callee (f := 73) rfl ?_); refine goesL_ (some 14) rfl rfl Try.func73 (by kernel_rfl) rfl #[.int .i64 (rd l0 x9_1)] rfl (by (try simp only [List.map_toArray, List.map_cons, List.map_nil]); first | done | rfl | (simp only [List.length_drop, List.length_take]; rfl)) ?_; (with_reducible refine (lit_is.calls (rd l0 x9_1) false _ A6.out).mono ?_); rintro e w' ⟨rfl, ⟨nd, rfl⟩⟩; refine ⟨_, rfl, ?_⟩))
                go_roundg k1
                case measure => have := HK1.out; omega
                case rel => exact ⟨(wrap64 (x9_1 + 1)), (by first | rfl | (simp; done) | (simp [*]; done)), H', ⟨by have := HK1.out; omega⟩, by repeat (first | exact Drawn0.refl _ | apply Drawn0.step)⟩
          · rw [if_neg c5] at H
            exact absurd H (by simp)
        · rw [if_neg c4] at H
          exact absurd H (by simp)
      · rw [if_neg c3] at H
        have c3b0 : decide (x9_1 < (l0.length : Int)) = false := decide_eq_false c3
        clear c3
        as_aux_lemma =>
          obtain rfl := Option.some.inj H
          go_wp2
          go_ret
          exact ⟨by first | rfl | (simp; done) | (simp [*]; done), by repeat (first | exact Drawn0.refl _ | apply Drawn0.step)⟩

end Go.Proofs.Ytkfnaiobgddjpaa.P

-- Printed by wip/tools/pp.py of this claim's session (over the kit's print.py); Lean checks it.
namespace Go.Proofs.Ytkfnaiobgddjpaa.P
open Go.RowKit Go.Proofs.YtkfnaiobgddjpaaW.PrintWords Go.Proofs.YtkfnaiobgddjpaaW.PrintLast Go.Proofs.YtkfnaiobgddjpaaW.PrintMore
attribute [local go_sem] max2_int min2_int max_two min_two max_three min_three max_four min_four   -- for this text's walks alone
set_option linter.unusedVariables false
set_option linter.unusedSimpArgs false

/-! ### lit_Same: function 70 -/
def lit_Same.f (k : Nat) (l0 : List Int) (l1 : List Int) : Option (Bool) := (lit_Within.f k l0 l1).bind fun t620 => (if t620 = true then ((lit_Within.f k l1 l0).bind fun t621 => (some t621)) else (some false))
theorem lit_Same.mono : ∀ a0 a1 k, LeO (lit_Same.f k a0 a1) (lit_Same.f (k + 1) a0 a1) := by
  intro a0 a1 k
  unfold lit_Same.f
  repeat' first
      | (with_reducible exact lit_Within.mono _ _ _)
      | (with_reducible exact LeO.refl _)
      | (with_reducible exact LeO.none _)
      | (with_reducible refine LeO.ite ?_ ?_)
      | (with_reducible refine LeO.bind ?_ (fun _ => ?_))
      | exact lit_Within.mono _ _ _
      | exact LeO.none _
      | refine LeO.ite ?_ ?_
      | refine LeO.bind ?_ (fun _ => ?_)
set_option maxHeartbeats 8000000 in
set_option maxRecDepth 100000 in
theorem lit_Same.calls (k : Nat) (A0 : Option Addr) (c0 : Nat) (l0 : List Int) (A1 : Option Addr) (c1 : Nat) (l1 : List Int) (r : Bool) (w : World) (hr0 : Kd.C (Kd.int .i64) w A0 l0.length l0) (hc0 : l0.length ≤ c0) (hr1 : Kd.C (Kd.int .i64) w A1 l1.length l1) (hc1 : l1.length ≤ c1) (h : lit_Same.f k l0 l1 = some r) :
    Calls Try.prog 70 #[.slice A0 l0.length c0, .slice A1 l1.length c1] w fun e w' => e = .returned (.bool r) ∧ Drawn0 w w' := by
  have HR0 := Aside0.mk hr0
  have HC0 := Aside0.mk hc0
  clear hr0 hc0
  have HR1 := Aside0.mk hr1
  have HC1 := Aside0.mk hc1
  clear hr1 hc1
  have H : ((lit_Within.f k l0 l1).bind fun t620 => (if t620 = true then ((lit_Within.f k l1 l0).bind fun t621 => (some t621)) else (some false))) = some r := h
  clear h
  replace H := Option.bind_eq_some_iff.mp H
  obtain ⟨t620, A30, H⟩ := H
  replace H : (if t620 = true then ((lit_Within.f k l1 l0).bind fun t621 => (some t621)) else (some false)) = some r := H
  have A3 := Aside0.mk A30
  clear A30
  by_cases c4 : t620 = true
  · subst c4
    have H1 : ((lit_Within.f k l1 l0).bind fun t621 => (some t621)) = some r := by rw [if_pos rfl] at H; exact H
    clear H
    have H := H1
    clear H1
    replace H := Option.bind_eq_some_iff.mp H
    obtain ⟨t621, A50, H⟩ := H
    replace H : (some t621) = some r := H
    have A5 := Aside0.mk A50
    clear A50
    as_aux_lemma =>
      obtain rfl := Option.some.inj H
      go_enter Try.func70, Try.ntmps70
      go_wp2_with (first | ((with_reducible refine gate_callee (f := 86) rfl ?_); refine goesL_ (some 7) rfl rfl Try.func86 (by kernel_rfl) rfl #[.slice A0 l0.length c0, .slice A1 l1.length c1] rfl (by (try simp only [List.map_toArray, List.map_cons, List.map_nil]); first | done | rfl | (simp only [List.length_drop, List.length_take]; rfl)) ?_; (with_reducible refine (lit_Within.calls k _ _ l0 _ _ l1 true _ ?side1 ?side2 ?side3 ?side4 A3.out).mono ?_); (case side1 => repeat (first | exact HR0.out | (with_reducible refine Kd.C_alloc ?_ _) | (with_reducible refine Kd.C_drewN ?_ _) | (with_reducible refine Kd.C_drew ?_))); (case side2 => exact HC0.out); (case side3 => repeat (first | exact HR1.out | (with_reducible refine Kd.C_alloc ?_ _) | (with_reducible refine Kd.C_drewN ?_ _) | (with_reducible refine Kd.C_drew ?_))); (case side4 => exact HC1.out); rintro e w' ⟨rfl, ⟨nd, rfl⟩⟩; refine ⟨_, rfl, ?_⟩) | (go_at_call 86; (with_reducible refine (lit_Within.calls k _ _ l1 _ _ l0 t621 _ ?side1 ?side2 ?side3 ?side4 A5.out).mono ?_); (case side1 => repeat (first | exact HR1.out | (with_reducible refine Kd.C_alloc ?_ _) | (with_reducible refine Kd.C_drewN ?_ _) | (with_reducible refine Kd.C_drew ?_))); (case side2 => exact HC1.out); (case side3 => repeat (first | exact HR0.out | (with_reducible refine Kd.C_alloc ?_ _) | (with_reducible refine Kd.C_drewN ?_ _) | (with_reducible refine Kd.C_drew ?_))); (case side4 => exact HC0.out); rintro e w' ⟨rfl, ⟨nd, rfl⟩⟩))
      go_ret
      exact ⟨by first | rfl | (simp; done) | (simp [*]; done), by repeat (first | exact Drawn0.refl _ | apply Drawn0.step)⟩
  · replace c4 := Bool.eq_false_iff.mpr c4
    subst c4
    have H1 : (some false) = some r := by rw [if_neg (show ¬ (false = true) by decide)] at H; exact H
    clear H
    have H := H1
    clear H1
    as_aux_lemma =>
      obtain rfl := Option.some.inj H
      go_enter Try.func70, Try.ntmps70
      go_wp2_with (first | ((with_reducible refine gate_callee (f := 86) rfl ?_); refine goesL_ (some 7) rfl rfl Try.func86 (by kernel_rfl) rfl #[.slice A0 l0.length c0, .slice A1 l1.length c1] rfl (by (try simp only [List.map_toArray, List.map_cons, List.map_nil]); first | done | rfl | (simp only [List.length_drop, List.length_take]; rfl)) ?_; (with_reducible refine (lit_Within.calls k _ _ l0 _ _ l1 false _ ?side1 ?side2 ?side3 ?side4 A3.out).mono ?_); (case side1 => repeat (first | exact HR0.out | (with_reducible refine Kd.C_alloc ?_ _) | (with_reducible refine Kd.C_drewN ?_ _) | (with_reducible refine Kd.C_drew ?_))); (case side2 => exact HC0.out); (case side3 => repeat (first | exact HR1.out | (with_reducible refine Kd.C_alloc ?_ _) | (with_reducible refine Kd.C_drewN ?_ _) | (with_reducible refine Kd.C_drew ?_))); (case side4 => exact HC1.out); rintro e w' ⟨rfl, ⟨nd, rfl⟩⟩; refine ⟨_, rfl, ?_⟩))
      go_ret
      exact ⟨by first | rfl | (simp; done) | (simp [*]; done), by repeat (first | exact Drawn0.refl _ | apply Drawn0.step)⟩

end Go.Proofs.Ytkfnaiobgddjpaa.P

-- Printed by wip/tools/pp.py of this claim's session (over the kit's print.py); Lean checks it.
namespace Go.Proofs.Ytkfnaiobgddjpaa.P
open Go.RowKit Go.Proofs.YtkfnaiobgddjpaaW.PrintWords Go.Proofs.YtkfnaiobgddjpaaW.PrintLast Go.Proofs.YtkfnaiobgddjpaaW.PrintMore
attribute [local go_sem] max2_int min2_int max_two min_two max_three min_three max_four min_four   -- for this text's walks alone
set_option linter.unusedVariables false
set_option linter.unusedSimpArgs false

-- SOLO
-- IMPORTS Derived.Deep.DeepCutAuto
/-! ### rup_steps: function 64 -/
/-- How much there may be of rows. -/
def rup_steps.cap : Nat := 5864062014805
/-- A log's steps from one on: the first error and its place. -/
def rup_steps.l1 (k : Nat) (n : Int) : List S64 → Int → List (List Int) → Option (Int × Int)
  | [], _, _ => some (0, 0)
  | x :: t, i, all =>
    if x.f0 = true then
      (if ∀ l ∈ all, (lit_Same.f k l x.f1).isSome = true then
        (if ixOf (fun l => (lit_Same.f k l x.f1).getD false) all 0 < 0 then some (i, 3)
         else rup_steps.l1 k n t (i + 1) (all.take (ixOf (fun l => (lit_Same.f k l x.f1).getD false) all 0).toNat ++ all.drop ((ixOf (fun l => (lit_Same.f k l x.f1).getD false) all 0).toNat + 1)))
       else none)
    else (lit_Right.f k x.f1 n).bind fun e => if e = 0 then
      ((rup_follows.f k all n x.f1).bind fun b => if b = true then (if all.length + 1 < rup_steps.cap then rup_steps.l1 k n t (i + 1) (all ++ [x.f1]) else none) else some (i, 30))
     else some (i, e)
def rup_steps.f (k : Nat) (n : Int) (l : List (List Int)) (log : List S64) : Option (Int × Int) :=
  if l.length < rup_steps.cap then rup_steps.l1 k n log 0 l else none
theorem ixOf_range {α : Type} (p : α → Bool) : ∀ (l : List α) (i : Nat), ixOf p l (i : Int) = -1 ∨ ∃ j : Nat, j < l.length ∧ ixOf p l (i : Int) = ((i + j : Nat) : Int)
  | [], i => .inl rfl
  | x :: t, i => by
    rw [ixOf]
    by_cases h : p x = true
    · rw [if_pos h]; exact .inr ⟨0, by simp, by simp⟩
    · rw [if_neg h]
      rcases ixOf_range p t (i + 1) with h' | ⟨j, hj, h'⟩
      · exact .inl (by simpa using h')
      · exact .inr ⟨j + 1, by simpa using hj, by rw [show ((i : Int) + 1) = ((i + 1 : Nat) : Int) by omega, h']; congr 1; omega⟩
theorem HdsOf.add {W : World} {hs : List Hd} {xs : List (List Int)} {h : Hd} {x : List Int} (H : HdsOf W hs xs) (h1 : HdOf W h x) : HdsOf W (hs ++ [h]) (xs ++ [x]) := by
  refine ⟨by simp [H.1], fun i a b ha hb => ?_⟩
  rw [List.getElem?_append] at ha hb
  rw [H.1] at ha
  split at ha
  · rename_i hlt
    rw [if_pos hlt] at hb
    exact H.2 i a b ha hb
  · rename_i hlt
    rw [if_neg hlt] at hb
    have h0 : i - xs.length = 0 := by have := (List.getElem?_eq_some_iff.1 hb).1; simp at this; omega
    rw [h0] at ha hb
    simp at ha hb
    rw [← ha, ← hb]
    exact h1
theorem HdsOf.cut {W : World} {hs : List Hd} {xs : List (List Int)} (H : HdsOf W hs xs) (i : Nat) : HdsOf W (hs.take i ++ hs.drop (i + 1)) (xs.take i ++ xs.drop (i + 1)) := by
  rw [← List.eraseIdx_eq_take_drop_succ, ← List.eraseIdx_eq_take_drop_succ]
  refine ⟨by rw [List.length_eraseIdx, List.length_eraseIdx, H.1], fun j a b ha hb => ?_⟩
  rw [List.getElem?_eraseIdx] at ha hb
  split at ha
  · rename_i hlt; rw [if_pos hlt] at hb; exact H.2 j a b ha hb
  · rename_i hlt; rw [if_neg hlt] at hb; exact H.2 (j + 1) a b ha hb
set_option maxRecDepth 100000 in
set_option maxHeartbeats 2000000 in
theorem rup_steps_1.calls (k : Nat) (B : Nat) (A0 A1 : Option Addr) (c0 c1 : Nat) (l0 l1 : List Int) (r : Bool) (W : World) (hr0 : Kd.C (Kd.int .i64) W A0 l0.length l0) (hc0 : l0.length ≤ c0) (hr1 : Kd.C (Kd.int .i64) W A1 l1.length l1) (hc1 : l1.length ≤ c1)
    (hB : W.cell? ⟨B, 1, none⟩ = some (.slice A1 l1.length c1)) (h : lit_Same.f k l0 l1 = some r) :
    Calls Try.prog 82 #[.slice A0 l0.length c0, .pointer (some ⟨B, 0, none⟩)] W fun e W' => e = .returned (.bool r) ∧ Below W.heap.size W W' := by
  have HC := Aside0.mk (lit_Same.calls k A0 c0 l0 A1 c1 l1 r W hr0 hc0 hr1 hc1 h)
  have hu64 := Try.underlying64
  clear hr0 hr1 h
  go_enter Try.func82, Try.ntmps82
  go_wp2_with fail
  refine HC.out.mono ?_
  rintro e w' ⟨rfl, hb'⟩
  go_wp2
  go_ret
  exact ⟨rfl, hb'.below⟩
set_option maxRecDepth 100000 in
set_option maxHeartbeats 4000000 in
theorem rup_steps.calls (k : Nat) (a0_0 : Int) (A0_1 : Option Addr) (c0_1 : Nat) (l0_1 : List (List Int)) (A1 : Option Addr) (c1 : Nat) (l1 : List S64) (r1 r2 : Int) (w : World)
    (hr0_1 : Kd.C (Kd.slice 3 (Kd.int .i64)) w A0_1 l0_1.length l0_1) (hc0_1 : l0_1.length ≤ c0_1) (hr1 : Kd.C k64 w A1 l1.length l1) (hc1 : l1.length ≤ c1) (h : rup_steps.f k a0_0 l0_1 l1 = some (r1, r2)) :
    Calls Try.prog 64 #[.agg #[.int .i64 a0_0, .slice A0_1 l0_1.length c0_1], .slice A1 l1.length c1] w fun e w' => e = .returned (.tuple #[.int .i64 r1, .int .i64 r2]) ∧ Below w.heap.size w w' := by
  unfold rup_steps.f at h
  by_cases hcap0 : ¬ l0_1.length < rup_steps.cap
  · rw [if_neg hcap0] at h; cases h
  have hcap := Decidable.not_not.1 hcap0
  clear hcap0
  rw [if_pos hcap] at h
  obtain ⟨hs, hhs, hC⟩ := HdsOf.part hr0_1
  have hbig := hr1.2.1
  have H := Aside0.mk h
  have HHS := Aside0.mk hhs
  have HL := Aside0.mk hr1
  obtain ⟨N0, hN0⟩ : ∃ N0, l0_1.length = N0 := ⟨_, rfl⟩
  rw [hN0] at hC hc0_1 hcap ⊢
  have hN1 : hs.length = N0 := by rw [hhs.1, hN0]
  have huC := Try.underlying29
  have huL := Try.underlying64
  obtain ⟨WA, hWA⟩ : ∃ WA : World, w.alloc (.cells #[.int .i64 a0_0, .slice A0_1 N0 c0_1] 29) = WA := ⟨_, rfl⟩
  obtain ⟨Z, hZ⟩ : ∃ Z : World → Prop, Z = fun W => W.heap[w.heap.size]? = some (.cells #[.int .i64 a0_0, .slice A0_1 N0 c0_1] 29 (0, 0)) ∧ Below w.heap.size w W ∧ w.heap.size < W.heap.size := ⟨_, rfl⟩
  have hZA : Z WA := by
    rw [hZ, ← hWA]
    exact ⟨blk_new w _, below_alloc (Below.refl _ w) _, by simp⟩
  have hzB : ∀ {W : World}, Z W → Below w.heap.size w W := fun h => by rw [hZ] at h; exact h.2.1
  have hzS : ∀ {W : World}, Z W → w.heap.size < W.heap.size := fun h => by rw [hZ] at h; exact h.2.2
  have hzK : ∀ {W : World}, Z W → W.heap[w.heap.size]? = some (.cells #[.int .i64 a0_0, .slice A0_1 N0 c0_1] 29 (0, 0)) := fun h => by rw [hZ] at h; exact h.1
  have hzb : ∀ {W W' : World}, Z W → Below W.heap.size W W' → Z W' := fun h hb => by
    rw [hZ] at h ⊢
    exact ⟨blk_below h.1 hb, h.2.1.trans (hb.mono h.2.1.size), Nat.lt_of_lt_of_le h.2.2 hb.size⟩
  have hzc : ∀ {W : World}, Z W → W.cell? ⟨w.heap.size, 0, none⟩ = some (.int .i64 a0_0) ∧ W.cell? ⟨w.heap.size, 1, none⟩ = some (.slice A0_1 N0 c0_1) := fun h => by
    have h := hzK h
    exact ⟨blk_cell h 0, blk_cell h 1⟩
  have hcl := slices_Clone_rows.calls A0_1 c0_1 hs WA (by rw [hN1]; exact Kd.C_below hC (hzB hZA)) (by omega) (by rw [hN1]; exact hcap)
  rw [hN1] at hcl
  have HCL := Aside0.mk hcl
  have HZA := Aside0.mk hZA
  have HZd := Aside0.mk hZ
  have HN0 := Aside0.mk hN0
  have HN1 := Aside0.mk hN1
  have HCAP := Aside0.mk hcap
  have p0 := (hzc hZA).1
  have p1 := (hzc hZA).2
  clear h hhs hr1 hr0_1 hC hcl hZA hZ hN0 hN1 hcap
  go_enter Try.func64, Try.ntmps64
  go_wp2_with fail
  refine HCL.out.mono ?_
  rintro e' w1 ⟨v6, rfl, hR, hb1⟩
  have HZ1 := Aside0.mk (hzb HZA.out hb1)
  have HR := Aside0.mk (Kd.R_lower hR (Nat.le_of_lt (hzS HZA.out)))
  clear hWA p0 p1 hR hb1 HCL
  go_wp2
  go_loopg [6, 7, 8, 9, 10, 16] l1.length (fun gg v6 _ _ _ _ v16 wr => ∃ (i : Nat) (hs : List Hd) (all : List (List Int)), v16 = .int .i64 (i : Int) ∧ Aside0 (i + gg = l1.length) ∧ Aside0 (HdsOf w hs all) ∧ Aside0 (Z wr) ∧ Aside0 (Kd.R kH 43 wr w.heap.size (fun _ => True) v6 hs) ∧ Aside0 (all.length < rup_steps.cap) ∧ Aside0 (rup_steps.l1 k a0_0 (l1.drop i) (i : Int) all = some (r1, r2)))
  case atStart => exact ⟨0, hs, l0_1, rfl, ⟨by simp⟩, HHS, HZ1, HR, ⟨by rw [HN0.out]; exact HCAP.out⟩, H⟩
  case round =>
    clear HZ1 HR H HHS HZA HCAP HN0 HN1
    obtain ⟨i, hs, all, rfl, hg, hhs, hz, hR, hcap, hx⟩ := hrel
    by_cases hlt : i < l1.length
    · obtain ⟨ad, Ax, cx, e1, x1', x2', hlx, hCx'⟩ := at_T64 HL.out (i : Int) (by omega) (by omega)
      cases e1
      obtain ⟨x, hx0⟩ : ∃ x, l1[i] = x := ⟨_, rfl⟩
      have hrd : rd_T64 l1 (i : Int) = x := by simp [rd_T64, hlt, hx0]
      rw [hrd] at x1' x2' hlx hCx'
      have x1 := ((hzB hz.out).cell (World.block_lt_of_cell? w _ x1')).trans x1'
      have x2 := ((hzB hz.out).cell (World.block_lt_of_cell? w _ x2')).trans x2'
      have hCx := Kd.C_below hCx' (hzB hz.out)
      simp only [Int.toNat_natCast] at x1 x2
      have hx2 := hx.out
      rw [List.drop_eq_getElem_cons hlt, hx0] at hx2
      rw [rup_steps.l1] at hx2
      obtain ⟨xb, xl⟩ := x
      dsimp only at x1 x2 hlx hCx hCx' hx2
      have P0 : ((0 : Int) ≤ (i : Int)) = True := eq_true (by omega)
      have P1 : ((i : Int) < (l1.length : Int)) = True := eq_true (by omega)
      have P2 : (i < l1.length) = True := eq_true hlt
      have hd : decide ((i : Int) < (l1.length : Int)) = true := decide_eq_true (by omega)
      obtain ⟨W2, hW2⟩ : ∃ W2 : World, wr.alloc (.cells #[.bool xb, .slice Ax xl.length cx] 64) = W2 := ⟨_, rfl⟩
      have hk2 : W2.heap[wr.heap.size]? = some (.cells #[.bool xb, .slice Ax xl.length cx] 64 (0, 0)) := by rw [← hW2]; exact blk_new wr _
      have hb2 : Below wr.heap.size wr W2 := by rw [← hW2]; exact below_alloc (Below.refl _ _) _
      have hz2 := hzb hz.out hb2
      have hR2 := Kd.R_below hR.out hb2
      have hC2 := Kd.C_below hCx hb2
      have q0 : W2.cell? ⟨wr.heap.size, 0, none⟩ = some (.bool xb) := blk_cell hk2 0
      have q1 : W2.cell? ⟨wr.heap.size, 1, none⟩ = some (.slice Ax xl.length cx) := blk_cell hk2 1
      have p0 := (hzc hz2).1
      have HX2 := Aside0.mk hx2
      have HK2 := Aside0.mk hk2
      have HZ2 := Aside0.mk hz2
      have HR2 := Aside0.mk hR2
      have HC2 := Aside0.mk hC2
      have HCx := Aside0.mk hCx'
      have HLx := Aside0.mk hlx
      clear hx hx2 hx0 hrd hCx hk2 hb2 hz2 hR2 hC2 hR hz x1' x2' hCx'
      obtain ⟨A6, c6, rfl⟩ := Kd.R_slice HR2.out
      have hwi : wrap64 ((i : Int) + 1) = ((i + 1 : Nat) : Int) := by unfold wrap64; omega
      have HWI := Aside0.mk hwi
      clear hwi
      cases xb with
      | true =>
        have hx2 := HX2.out
        rw [if_pos rfl] at hx2
        by_cases hall0 : ¬ ∀ l ∈ all, (lit_Same.f k l xl).isSome = true
        · rw [if_neg hall0] at hx2; cases hx2
        have hall := Decidable.not_not.1 hall0
        clear hall0
        rw [if_pos hall] at hx2
        obtain ⟨p, hp⟩ : ∃ p : List Int → Bool, p = fun l => (lit_Same.f k l xl).getD false := ⟨_, rfl⟩
        rw [← hp] at hx2
        have hjoin := (hhs.out.below (hzB HZ2.out)).join (Kd.R_reads' HR2.out).2.2
        have hlen := hhs.out.1
        rw [hlen] at hjoin
        have hcall := slices_IndexFunc_rows.calls 82 #[.pointer (some ⟨wr.heap.size, 0, none⟩)] (enters_of Try.func82 (by kernel_rfl) rfl) p A6 c6 all W2 hjoin (fun W hbW y hy Ay cy hly hCy => by
          obtain ⟨b, hb⟩ := Option.isSome_iff_exists.1 (hall y hy)
          have hpy : p y = b := by rw [hp]; simp [hb]
          rw [hpy]
          exact rup_steps_1.calls k wr.heap.size Ay Ax cy cx y xl b W hCy hly (Kd.C_below HC2.out hbW) HLx.out (by have := blk_cell (blk_below HK2.out hbW) 1; exact this) hb)
        rw [← hlen] at hcall
        have HCALL := Aside0.mk hcall
        have HX3 := Aside0.mk hx2
        have HLEN := Aside0.mk hlen
        have HP := Aside0.mk hp
        clear hx2 hcall hjoin hlen hall hp HX2
        go_wp2_with fail
        refine HCALL.out.mono ?_
        rintro e' w3 ⟨rfl, hb3⟩
        have HZ3 := Aside0.mk (hzb HZ2.out hb3)
        have HR3 := Aside0.mk (Kd.R_below HR2.out hb3)
        clear hb3 HCALL HR2 HC2 HK2 hW2 q0 q1 p0 HZ2
        rcases ixOf_range p all 0 with hj | ⟨j, hjl, hj⟩
        · have hj' : ixOf p all 0 = -1 := by simpa using hj
          have hx3 := HX3.out
          rw [hj', if_pos (by decide)] at hx3
          simp only [Option.some.injEq, Prod.mk.injEq] at hx3
          obtain ⟨rfl, rfl⟩ := hx3
          clear hj HX3
          go_wp2
          go_ret2
          exact ⟨rfl, hzB HZ3.out⟩
        · have hj' : ixOf p all 0 = (j : Int) := by simpa using hj
          have hx3 := HX3.out
          rw [hj', if_neg (by omega)] at hx3
          simp only [Int.toNat_natCast] at hx3
          have HX4 := Aside0.mk hx3
          obtain ⟨g, rfl⟩ : ∃ g, A6 = some ⟨g, 0, none⟩ := by
            obtain ⟨inner, ho⟩ := Kd.R_own HR3.out
            rcases ho.2 with ⟨e1, e2⟩ | ⟨g, cap, cur, e1, _⟩
            · have := HLEN.out; omega
            · injection e1 with e1 _ _; exact ⟨g, e1⟩
          have hjs : j < hs.length := by rw [HLEN.out]; exact hjl
          have hbigl := (Kd.R_reads' HR3.out).2.2.2.1
          have hdel := slices_Delete_rows.calls hs g c6 j w.heap.size (fun _ => True) w3 HR3.out hjs (Nat.le_of_lt (hzS HZ3.out))
          have HDEL := Aside0.mk hdel
          have HJS := Aside0.mk hjs
          clear hj HX3 hx3 hdel hjl
          rw [hj']
          clear hj'
          go_wp2_with fail
          refine HDEL.out.mono ?_
          rintro e' w4 ⟨rfl, hR4, hB4, hk4, hs4⟩
          have hne : some w.heap.size ≠ some g := fun h => Kd.R_ne HR3.out (hzK HZ3.out) (by decide) h
          have HZ4 : Aside0 (Z w4) := ⟨by
            rw [HZd.out]
            exact ⟨(hk4 _ (hzS HZ3.out) hne).trans (hzK HZ3.out), (hzB HZ3.out).trans hB4, Nat.lt_of_lt_of_le (hzS HZ3.out) hs4⟩⟩
          have HR4 := Aside0.mk hR4
          clear hR4 hB4 hk4 hs4 HDEL HR3 HZ3
          go_wp2
          go_roundg (l1.length - (i + 1))
          case measure => have := hg.out; omega
          case rel =>
            have hl4 : (hs.take j ++ hs.drop (j + 1)).length = hs.length - 1 := by have := HJS.out; simp; omega
            refine ⟨i + 1, hs.take j ++ hs.drop (j + 1), all.take j ++ all.drop (j + 1), by simp, ⟨by have := hg.out; omega⟩, ⟨hhs.out.cut j⟩, HZ4, HR4, ⟨?_⟩, ?_⟩
            · have := hcap.out; have := HLEN.out; have := HJS.out; simp; omega
            · have h4 := HX4.out
              exact ⟨by rw [show ((i + 1 : Nat) : Int) = (i : Int) + 1 by omega]; exact h4⟩
      | false =>
        have hx2 := HX2.out
        rw [if_neg (by decide)] at hx2
        obtain ⟨e, he, hx2⟩ := Option.bind_eq_some_iff.mp hx2
        have HE := Aside0.mk (lit_Right.calls k Ax cx xl a0_0 e W2 HC2.out HLx.out he)
        have HX3 := Aside0.mk hx2
        clear he hx2 HX2
        go_wp2_with fail
        refine HE.out.mono ?_
        rintro e' w3 ⟨rfl, hd3⟩
        have hb3 := hd3.below
        have HZ3 := Aside0.mk (hzb HZ2.out hb3)
        have HR3 := Aside0.mk (Kd.R_below HR2.out hb3)
        have HK3 := Aside0.mk (blk_below HK2.out hb3)
        have q1 : w3.cell? ⟨wr.heap.size, 1, none⟩ = some (.slice Ax xl.length cx) := blk_cell HK3.out 1
        have p0 := (hzc HZ3.out).1
        clear hd3 hb3 HE HR2 HC2 HK2 hW2 q0 p0 HZ2
        clear q1
        have q1 : w3.cell? ⟨wr.heap.size, 1, none⟩ = some (.slice Ax xl.length cx) := blk_cell HK3.out 1
        have p0 := (hzc HZ3.out).1
        by_cases he0 : e = 0
        · subst he0
          have hx3 := HX3.out
          rw [if_pos rfl] at hx3
          obtain ⟨b, hb, hx3⟩ := Option.bind_eq_some_iff.mp hx3
          have hjoin := (hhs.out.below (hzB HZ3.out)).join (Kd.R_reads' HR3.out).2.2
          have hlen := hhs.out.1
          obtain ⟨_, hlc, _⟩ := Kd.R_reads' HR3.out
          rw [hlen] at hjoin hlc
          have hcall := rup_follows.calls k A6 c6 all a0_0 Ax cx xl b w3 hjoin hlc (Kd.C_below HCx.out (hzB HZ3.out)) HLx.out hb
          rw [← hlen] at hcall
          have HCALL := Aside0.mk hcall
          have HX4 := Aside0.mk hx3
          have HLEN := Aside0.mk hlen
          clear hb hx3 hjoin hlen hlc hcall HX3
          go_wp2_with fail
          refine HCALL.out.mono ?_
          rintro e' w4 ⟨rfl, hb4⟩
          have HZ4 := Aside0.mk (hzb HZ3.out hb4)
          have HR4 := Aside0.mk (Kd.R_below HR3.out hb4)
          have HK4 := Aside0.mk (blk_below HK3.out hb4)
          clear q1 p0
          have q1 : w4.cell? ⟨wr.heap.size, 1, none⟩ = some (.slice Ax xl.length cx) := blk_cell HK4.out 1
          clear HCALL HZ3 HR3 HK3 hb4
          cases b with
          | false =>
            have hx4 := HX4.out
            rw [if_neg (by decide)] at hx4
            simp only [Option.some.injEq, Prod.mk.injEq] at hx4
            obtain ⟨rfl, rfl⟩ := hx4
            go_wp2
            go_ret2
            exact ⟨rfl, hzB HZ4.out⟩
          | true =>
            have hx4 := HX4.out
            rw [if_pos rfl] at hx4
            by_cases hcp0 : ¬ all.length + 1 < rup_steps.cap
            · rw [if_neg hcp0] at hx4; cases hx4
            have hcp := Decidable.not_not.1 hcp0
            rw [if_pos hcp] at hx4
            have HX5 := Aside0.mk hx4
            have HCP := Aside0.mk (show all.length + 1 < 5864062014805 from hcp)
            clear hcp0 hcp hx4 HX4
            go_wp2_with (at_builtin; refine Kd.R_append kH (w0 := w) w.heap.size rfl (.tmp 51) (.tmp 54) 27 43 (.slice none 0 0) 24 rfl Try.underlying27 (by kernel_rfl) rfl (by decide) (by decide) (.slice A6 hs.length c6) hs ((Ax, xl.length, cx) : Hd) [.slice Ax xl.length cx] (fun _ => True) (fun _ => False) rfl rfl rfl (fun _ h => h.elim) (fun _ _ => trivial) HR4.out (hzB HZ4.out) (Nat.le_of_lt (hzS HZ4.out)) (by have := HCP.out; have := HLEN.out; omega) ?_; intro v5 w5 r5 hb5 hg5 hat5)
            go_roundg (l1.length - (i + 1))
            case measure => have := hg.out; omega
            case rel =>
              have nG : some w.heap.size ≠ (Value.slice A6 hs.length c6).ownBlock := Kd.R_ne HR4.out (hzK HZ4.out) (by decide)
              refine ⟨i + 1, hs ++ [(Ax, xl.length, cx)], all ++ [xl], by simp, ⟨by have := hg.out; omega⟩, ⟨hhs.out.add ⟨rfl, HLx.out, HCx.out⟩⟩, ⟨by rw [HZd.out]; exact ⟨blk_grown (hzK HZ4.out) hg5 nG, hb5, Nat.lt_of_lt_of_le (hzS HZ4.out) hg5.size⟩⟩, ⟨r5⟩, ⟨by rw [List.length_append]; exact HCP.out⟩, ?_⟩
              have h5 := HX5.out
              exact ⟨by rw [show ((i + 1 : Nat) : Int) = (i : Int) + 1 by omega]; exact h5⟩
        · have hx3 := HX3.out
          rw [if_neg he0] at hx3
          simp only [Option.some.injEq, Prod.mk.injEq] at hx3
          obtain ⟨rfl, rfl⟩ := hx3
          have c1' : (e != 0) = true := by simpa using he0
          have c2' : (e == 0) = false := by simpa using he0
          clear HX3 he0
          go_wp2
          go_ret2
          exact ⟨rfl, hzB HZ3.out⟩
    · have hd : decide ((i : Int) < (l1.length : Int)) = false := decide_eq_false (by omega)
      have hq := hx.out
      rw [List.drop_of_length_le (by omega)] at hq
      simp only [rup_steps.l1, Option.some.injEq, Prod.mk.injEq] at hq
      obtain ⟨rfl, rfl⟩ := hq
      go_wp2
      go_ret2
      exact ⟨rfl, hzB hz.out⟩
theorem rup_steps.mono_l (k : Nat) (n : Int) : ∀ (log : List S64) (i : Int) (all : List (List Int)), LeO (rup_steps.l1 k n log i all) (rup_steps.l1 (k + 1) n log i all)
  | [], _, _ => LeO.refl _
  | x :: t, i, all => by
    rw [rup_steps.l1, rup_steps.l1]
    by_cases hx : x.f0 = true
    · rw [if_pos hx, if_pos hx]
      by_cases hall : ∀ l ∈ all, (lit_Same.f k l x.f1).isSome = true
      · have hup : ∀ l ∈ all, lit_Same.f (k + 1) l x.f1 = lit_Same.f k l x.f1 := fun l hl => by
          obtain ⟨b, hb⟩ := Option.isSome_iff_exists.1 (hall l hl)
          rw [hb]
          exact lit_Same.mono _ _ _ _ hb
        have hall' : ∀ l ∈ all, (lit_Same.f (k + 1) l x.f1).isSome = true := fun l hl => by rw [hup l hl]; exact hall l hl
        rw [if_pos hall, if_pos hall']
        have hix : ∀ (l : List (List Int)) (j : Int), (∀ y ∈ l, y ∈ all) → ixOf (fun l => (lit_Same.f (k + 1) l x.f1).getD false) l j = ixOf (fun l => (lit_Same.f k l x.f1).getD false) l j := by
          intro l
          induction l with
          | nil => intro j _; rfl
          | cons y l ih =>
            intro j hm
            rw [ixOf, ixOf, hup y (hm y (by simp)), ih _ (fun z hz => hm z (by simp [hz]))]
        rw [hix all 0 (fun _ h => h)]
        exact LeO.ite (LeO.refl _) (rup_steps.mono_l k n t _ _)
      · rw [if_neg hall]; exact LeO.none _
    · rw [if_neg hx, if_neg hx]
      refine LeO.bind (lit_Right.mono _ _ _) (fun e => LeO.ite (LeO.bind (rup_follows.mono _ _ _ _) (fun b => LeO.ite (LeO.ite (rup_steps.mono_l k n t _ _) (LeO.refl _)) (LeO.refl _))) (LeO.refl _))
theorem rup_steps.mono : ∀ n l log k, LeO (rup_steps.f k n l log) (rup_steps.f (k + 1) n l log) := by
  intro n l log k
  unfold rup_steps.f
  exact LeO.ite (rup_steps.mono_l k n log 0 l) (LeO.refl _)


end Go.Proofs.Ytkfnaiobgddjpaa.P

-- Printed by wip/tools/pp.py of this claim's session (over the kit's print.py); Lean checks it.
namespace Go.Proofs.Ytkfnaiobgddjpaa.P
open Go.RowKit Go.Proofs.YtkfnaiobgddjpaaW.PrintWords Go.Proofs.YtkfnaiobgddjpaaW.PrintLast Go.Proofs.YtkfnaiobgddjpaaW.PrintMore
attribute [local go_sem] max2_int min2_int max_two min_two max_three min_three max_four min_four   -- for this text's walks alone
set_option linter.unusedVariables false
set_option linter.unusedSimpArgs false

/-! ### rup_empty: function 66 -/
def rup_empty.f (l0 : List Int) : Option (Bool) := some ((l0.length : Int) == 0)
set_option maxHeartbeats 8000000 in
set_option maxRecDepth 100000 in
theorem rup_empty.calls (A0 : Option Addr) (c0 : Nat) (l0 : List Int) (r : Bool) (w : World) (hr0 : Kd.C (Kd.int .i64) w A0 l0.length l0) (hc0 : l0.length ≤ c0) (h : rup_empty.f l0 = some r) :
    Calls Try.prog 66 #[.slice A0 l0.length c0] w fun e w' => e = .returned (.bool r) ∧ Drawn0 w w' := by
  have HR0 := Aside0.mk hr0
  have HC0 := Aside0.mk hc0
  clear hr0 hc0
  have H : (some ((l0.length : Int) == 0)) = some r := h
  clear h
  as_aux_lemma =>
    obtain rfl := Option.some.inj H
    go_enter Try.func66, Try.ntmps66
    go_wp2
    go_ret
    exact ⟨by first | rfl | (simp; done) | (simp [*]; done), by repeat (first | exact Drawn0.refl _ | apply Drawn0.step)⟩

end Go.Proofs.Ytkfnaiobgddjpaa.P

-- Printed by wip/tools/pp.py of this claim's session (over the kit's print.py); Lean checks it.
namespace Go.Proofs.Ytkfnaiobgddjpaa.P
open Go.RowKit Go.Proofs.YtkfnaiobgddjpaaW.PrintWords Go.Proofs.YtkfnaiobgddjpaaW.PrintLast Go.Proofs.YtkfnaiobgddjpaaW.PrintMore
attribute [local go_sem] max2_int min2_int max_two min_two max_three min_three max_four min_four   -- for this text's walks alone
set_option linter.unusedVariables false
set_option linter.unusedSimpArgs false

-- SOLO
-- IMPORTS 
/-! ### rup_Check: function 42 -/
/-- Is a clause empty? -/
def isE (l : List Int) : Bool := (l.length : Int) == 0
/-- Does a step add an empty clause? -/
def addsE (x : S64) : Bool := !x.f0 && isE x.f1
def rup_Check.f (k : Nat) (a0_0 : Int) (l0_1 : List (List Int)) (l1 : List S64) : Option (Int × Int) :=
  (cnf_Right.f k a0_0 l0_1).bind fun b => if b.2 = 0 then
    (if (l1.length : Int) > 4096 then some (-1, 2) else
      (rup_steps.f k a0_0 l0_1 l1).bind fun s => if s.2 = 0 then
        (if (decide (0 ≤ ixOf isE l0_1 0)) = true then some (0, 0) else if (decide (0 ≤ ixOf addsE l1 0)) = true then some (0, 0) else some ((l1.length : Int), 24))
       else some s)
   else some (-1, b.2)
set_option maxRecDepth 100000 in
set_option maxHeartbeats 2000000 in
theorem rup_Check_1.calls (x : S64) (A1 : Option Addr) (c1 : Nat) (W : World) (hr1 : Kd.C (Kd.int .i64) W A1 x.f1.length x.f1) (hc1 : x.f1.length ≤ c1) :
    Calls Try.prog 68 #[.agg #[.bool x.f0, .slice A1 x.f1.length c1]] W fun e W' => e = .returned (.bool (addsE x)) ∧ Below W.heap.size W W' := by
  obtain ⟨xb, xl⟩ := x
  dsimp only at hr1 hc1 ⊢
  have hu64 := Try.underlying64
  unfold addsE
  dsimp only
  cases xb with
  | true =>
    clear hr1
    go_enter Try.func68, Try.ntmps68
    go_wp2
    go_ret
    exact ⟨rfl, below_alloc (Below.refl _ _) _⟩
  | false =>
    have hb1 : Below W.heap.size W (W.alloc (.cells #[.bool false, .slice A1 xl.length c1] 64)) := below_alloc (Below.refl _ _) _
    have HC := Aside0.mk (rup_empty.calls A1 c1 xl (isE xl) _ (Kd.C_below hr1 hb1) hc1 rfl)
    have HB := Aside0.mk hb1
    clear hr1 hb1
    go_enter Try.func68, Try.ntmps68
    go_wp2_with fail
    refine HC.out.mono ?_
    rintro e w' ⟨rfl, hb'⟩
    go_wp2
    go_ret
    exact ⟨by simp, HB.out.trans (hb'.below.mono HB.out.size)⟩
set_option maxRecDepth 100000 in
set_option maxHeartbeats 4000000 in
theorem rup_Check.calls (k : Nat) (a0_0 : Int) (A0_1 : Option Addr) (c0_1 : Nat) (l0_1 : List (List Int)) (A1 : Option Addr) (c1 : Nat) (l1 : List S64) (r1 r2 : Int) (w : World)
    (hr0_1 : Kd.C (Kd.slice 3 (Kd.int .i64)) w A0_1 l0_1.length l0_1) (hc0_1 : l0_1.length ≤ c0_1) (hr1 : Kd.C k64 w A1 l1.length l1) (hc1 : l1.length ≤ c1) (h : rup_Check.f k a0_0 l0_1 l1 = some (r1, r2)) :
    Calls Try.prog 42 #[.agg #[.int .i64 a0_0, .slice A0_1 l0_1.length c0_1], .slice A1 l1.length c1] w fun e w' => e = .returned (.tuple #[.int .i64 r1, .int .i64 r2]) ∧ Below w.heap.size w w' := by
  unfold rup_Check.f at h
  obtain ⟨⟨b1, b2⟩, hb, h⟩ := Option.bind_eq_some_iff.mp h
  dsimp only at h
  have huC := Try.underlying29
  obtain ⟨WA, hWA⟩ : ∃ WA : World, w.alloc (.cells #[.int .i64 a0_0, .slice A0_1 l0_1.length c0_1] 29) = WA := ⟨_, rfl⟩
  obtain ⟨Z, hZ⟩ : ∃ Z : World → Prop, Z = fun W => W.heap[w.heap.size]? = some (.cells #[.int .i64 a0_0, .slice A0_1 l0_1.length c0_1] 29 (0, 0)) ∧ Below w.heap.size w W ∧ w.heap.size < W.heap.size := ⟨_, rfl⟩
  have hZA : Z WA := by
    rw [hZ, ← hWA]
    exact ⟨blk_new w _, below_alloc (Below.refl _ w) _, by simp⟩
  have hzB : ∀ {W : World}, Z W → Below w.heap.size w W := fun h => by rw [hZ] at h; exact h.2.1
  have hzb : ∀ {W W' : World}, Z W → Below W.heap.size W W' → Z W' := fun h hb => by
    rw [hZ] at h ⊢
    exact ⟨blk_below h.1 hb, h.2.1.trans (hb.mono h.2.1.size), Nat.lt_of_lt_of_le h.2.2 hb.size⟩
  have hzc : ∀ {W : World}, Z W → W.cell? ⟨w.heap.size, 0, none⟩ = some (.int .i64 a0_0) ∧ W.cell? ⟨w.heap.size, 1, none⟩ = some (.slice A0_1 l0_1.length c0_1) := fun h => by
    rw [hZ] at h
    exact ⟨blk_cell h.1 0, blk_cell h.1 1⟩
  have hbig := hr1.2.1
  have HRC := Aside0.mk hr0_1
  have HL := Aside0.mk hr1
  have HR := Aside0.mk (cnf_Right.calls k a0_0 A0_1 c0_1 l0_1 b1 b2 WA (Kd.C_below hr0_1 (hzB hZA)) hc0_1 hb)
  have H := Aside0.mk h
  have HZA := Aside0.mk hZA
  obtain ⟨p0, p1⟩ := hzc hZA
  clear hr0_1 hr1 hb h hZ hZA
  go_enter Try.func42, Try.ntmps42
  go_wp2_with fail
  refine HR.out.mono ?_
  rintro e' w1 ⟨rfl, hb1⟩
  have HZ1 := Aside0.mk (hzb HZA.out hb1)
  clear hWA p0 p1 hb1 HR HZA
  obtain ⟨p0, p1⟩ := hzc HZ1.out
  by_cases e0 : b2 = 0
  · subst e0
    have h := H.out
    rw [if_pos rfl] at h
    clear H
    by_cases e1 : (l1.length : Int) > 4096
    · rw [if_pos e1] at h
      simp only [Option.some.injEq, Prod.mk.injEq] at h
      obtain ⟨rfl, rfl⟩ := h
      have d1 : decide ((4096 : Int) < (l1.length : Int)) = true := decide_eq_true e1
      have d2 : (4096 < l1.length) = True := eq_true (by omega)
      clear e1
      go_wp2
      go_ret2
      exact ⟨rfl, hzB HZ1.out⟩
    · rw [if_neg e1] at h
      have d1 : decide ((4096 : Int) < (l1.length : Int)) = false := decide_eq_false e1
      have d2 : (4096 < l1.length) = False := eq_false (by omega)
      clear e1
      obtain ⟨⟨s1, s2⟩, hs, h⟩ := Option.bind_eq_some_iff.mp h
      dsimp only at h
      have HS := Aside0.mk (rup_steps.calls k a0_0 A0_1 c0_1 l0_1 A1 c1 l1 s1 s2 w1 (Kd.C_below HRC.out (hzB HZ1.out)) hc0_1 (Kd.C_below HL.out (hzB HZ1.out)) hc1 hs)
      have H := Aside0.mk h
      clear hs h
      go_wp2_with fail
      refine HS.out.mono ?_
      rintro e' w2 ⟨rfl, hb2⟩
      have HZ2 := Aside0.mk (hzb HZ1.out hb2)
      clear p0 p1 hb2 HS HZ1
      obtain ⟨p0, p1⟩ := hzc HZ2.out
      by_cases e2 : s2 = 0
      · subst e2
        have h := H.out
        rw [if_pos rfl] at h
        clear H
        have HC := Aside0.mk (slices_ContainsFunc_rows.calls 66 #[] (enters_of Try.func66 (by kernel_rfl) rfl) isE A0_1 c0_1 l0_1 w2 (Kd.C_below HRC.out (hzB HZ2.out)) (fun W hbW y hy Ay cy hly hCy => (rup_empty.calls Ay cy y (isE y) W hCy hly rfl).mono (fun e W' hh => ⟨hh.1, hh.2.below⟩)))
        obtain ⟨q1, hq1⟩ : ∃ q1, decide (0 ≤ ixOf isE l0_1 0) = q1 := ⟨_, rfl⟩
        rw [hq1] at HC h
        have H := Aside0.mk h
        clear h hq1
        go_wp2_with fail
        refine HC.out.mono ?_
        rintro e' w3 ⟨rfl, hb3⟩
        have HZ3 := Aside0.mk (hzb HZ2.out hb3)
        clear p0 p1 hb3 HC HZ2
        cases q1 with
        | true =>
          have h := H.out
          rw [if_pos rfl] at h
          simp only [Option.some.injEq, Prod.mk.injEq] at h
          obtain ⟨rfl, rfl⟩ := h
          go_wp2
          go_ret2
          exact ⟨rfl, hzB HZ3.out⟩
        | false =>
          have h := H.out
          rw [if_neg (by decide)] at h
          clear H
          have HC := Aside0.mk (slices_ContainsFunc_logs.calls 68 #[] (enters_of Try.func68 (by kernel_rfl) rfl) addsE A1 c1 l1 w3 (Kd.C_below HL.out (hzB HZ3.out)) (fun W hbW y hy Ay cy hly hCy => rup_Check_1.calls y Ay cy W hCy hly))
          obtain ⟨q2, hq2⟩ : ∃ q2, decide (0 ≤ ixOf addsE l1 0) = q2 := ⟨_, rfl⟩
          rw [hq2] at HC h
          have H := Aside0.mk h
          clear h hq2
          go_wp2_with fail
          refine HC.out.mono ?_
          rintro e' w4 ⟨rfl, hb4⟩
          have HZ4 := Aside0.mk (hzb HZ3.out hb4)
          clear hb4 HC HZ3
          cases q2 with
          | true =>
            have h := H.out
            rw [if_pos rfl] at h
            simp only [Option.some.injEq, Prod.mk.injEq] at h
            obtain ⟨rfl, rfl⟩ := h
            go_wp2
            go_ret2
            exact ⟨rfl, hzB HZ4.out⟩
          | false =>
            have h := H.out
            rw [if_neg (by decide)] at h
            simp only [Option.some.injEq, Prod.mk.injEq] at h
            obtain ⟨rfl, rfl⟩ := h
            go_wp2
            go_ret2
            exact ⟨rfl, hzB HZ4.out⟩
      · have h := H.out
        rw [if_neg e2] at h
        simp only [Option.some.injEq, Prod.mk.injEq] at h
        obtain ⟨rfl, rfl⟩ := h
        have c1' : (s2 != 0) = true := by simpa using e2
        have c2' : (s2 == 0) = false := by simpa using e2
        clear e2
        go_wp2
        go_ret2
        exact ⟨rfl, hzB HZ2.out⟩
  · have h := H.out
    rw [if_neg e0] at h
    simp only [Option.some.injEq, Prod.mk.injEq] at h
    obtain ⟨rfl, rfl⟩ := h
    have c1' : (b2 != 0) = true := by simpa using e0
    have c2' : (b2 == 0) = false := by simpa using e0
    clear e0
    go_wp2
    go_ret2
    exact ⟨rfl, hzB HZ1.out⟩
theorem rup_Check.mono : ∀ n l log k, LeO (rup_Check.f k n l log) (rup_Check.f (k + 1) n l log) := by
  intro n l log k
  unfold rup_Check.f
  exact LeO.bind (cnf_Right.mono _ _ _) (fun _ => LeO.ite (LeO.ite (LeO.refl _) (LeO.bind (rup_steps.mono _ _ _ _) (fun _ => LeO.refl _))) (LeO.refl _))


end Go.Proofs.Ytkfnaiobgddjpaa.P

-- Printed by wip/tools/pp.py of this claim's session (over the kit's print.py); Lean checks it.
namespace Go.Proofs.Ytkfnaiobgddjpaa.P
open Go.RowKit Go.Proofs.YtkfnaiobgddjpaaW.PrintWords Go.Proofs.YtkfnaiobgddjpaaW.PrintLast Go.Proofs.YtkfnaiobgddjpaaW.PrintMore
attribute [local go_sem] max2_int min2_int max_two min_two max_three min_three max_four min_four   -- for this text's walks alone
set_option linter.unusedVariables false
set_option linter.unusedSimpArgs false

/-! ### rup_Step: function 39 -/
def rup_Step.f (k : Nat) (a0_0 : Int) (l0_1 : List (List Int)) (l1 : List Int) : Option (Bool × Int) := (cnf_Right.f k a0_0 l0_1).bind fun bt366 => (if bt366.2 = 0 then ((lit_Right.f k l1 a0_0).bind fun t368 => (if t368 = 0 then ((rup_follows.f k l0_1 a0_0 l1).bind fun t369 => (some (t369, 0))) else (some (false, t368)))) else (some (false, bt366.2)))
theorem rup_Step.mono : ∀ a0 a1 a2 k, LeO (rup_Step.f k a0 a1 a2) (rup_Step.f (k + 1) a0 a1 a2) := by
  intro a0 a1 a2 k
  unfold rup_Step.f
  repeat' first
      | (with_reducible exact cnf_Right.mono _ _ _)
      | (with_reducible exact lit_Right.mono _ _ _)
      | (with_reducible exact rup_follows.mono _ _ _ _)
      | (with_reducible exact LeO.refl _)
      | (with_reducible exact LeO.none _)
      | (with_reducible refine LeO.ite ?_ ?_)
      | (with_reducible refine LeO.bind ?_ (fun _ => ?_))
      | exact cnf_Right.mono _ _ _
      | exact lit_Right.mono _ _ _
      | exact rup_follows.mono _ _ _ _
      | exact LeO.none _
      | refine LeO.ite ?_ ?_
      | refine LeO.bind ?_ (fun _ => ?_)
set_option maxHeartbeats 8000000 in
set_option maxRecDepth 100000 in
theorem rup_Step.calls (k : Nat) (a0_0 : Int) (A0_1 : Option Addr) (c0_1 : Nat) (l0_1 : List (List Int)) (A1 : Option Addr) (c1 : Nat) (l1 : List Int) (r1 : Bool) (r2 : Int) (w : World) (hr0_1 : Kd.C (Kd.slice 3 (Kd.int .i64)) w A0_1 l0_1.length l0_1) (hc0_1 : l0_1.length ≤ c0_1) (hr1 : Kd.C (Kd.int .i64) w A1 l1.length l1) (hc1 : l1.length ≤ c1) (h : rup_Step.f k a0_0 l0_1 l1 = some (r1, r2)) :
    Calls Try.prog 39 #[.agg #[.int .i64 a0_0, .slice A0_1 l0_1.length c0_1], .slice A1 l1.length c1] w fun e w' => e = .returned (.tuple #[.bool r1, .int .i64 r2]) ∧ Below w.heap.size w w' := by
  have hu29 := Try.underlying29
  have HR0_1 := Aside0.mk hr0_1
  have HC0_1 := Aside0.mk hc0_1
  clear hr0_1 hc0_1
  have HR1 := Aside0.mk hr1
  have HC1 := Aside0.mk hc1
  clear hr1 hc1
  have HB := Aside0.mk (Below.refl w.heap.size w)
  have H : ((cnf_Right.f k a0_0 l0_1).bind fun bt366 => (if bt366.2 = 0 then ((lit_Right.f k l1 a0_0).bind fun t368 => (if t368 = 0 then ((rup_follows.f k l0_1 a0_0 l1).bind fun t369 => (some (t369, 0))) else (some (false, t368)))) else (some (false, bt366.2)))) = some (r1, r2) := h
  clear h
  replace H := Option.bind_eq_some_iff.mp H
  obtain ⟨⟨t366, t367⟩, A30, H⟩ := H
  replace H : (if t367 = 0 then ((lit_Right.f k l1 a0_0).bind fun t368 => (if t368 = 0 then ((rup_follows.f k l0_1 a0_0 l1).bind fun t369 => (some (t369, 0))) else (some (false, t368)))) else (some (false, t367))) = some (r1, r2) := H
  have A3 := Aside0.mk A30
  clear A30
  by_cases c4 : t367 = 0
  · rw [if_pos c4] at H
    have c4b0 : (t367 == 0) = true := beq_iff_eq.mpr c4
    have c4b1 : (t367 != 0) = false := bne_eq_false_iff_eq.mpr c4
    clear c4
    replace H := Option.bind_eq_some_iff.mp H
    obtain ⟨t368, A50, H⟩ := H
    replace H : (if t368 = 0 then ((rup_follows.f k l0_1 a0_0 l1).bind fun t369 => (some (t369, 0))) else (some (false, t368))) = some (r1, r2) := H
    have A5 := Aside0.mk A50
    clear A50
    by_cases c6 : t368 = 0
    · rw [if_pos c6] at H
      have c6b0 : (t368 == 0) = true := beq_iff_eq.mpr c6
      have c6b1 : (t368 != 0) = false := bne_eq_false_iff_eq.mpr c6
      clear c6
      replace H := Option.bind_eq_some_iff.mp H
      obtain ⟨t369, A70, H⟩ := H
      replace H : (some (t369, 0)) = some (r1, r2) := H
      have A7 := Aside0.mk A70
      clear A70
      as_aux_lemma =>
        simp only [Option.some.injEq, Prod.mk.injEq] at H
        obtain ⟨rfl, rfl⟩ := H
        go_enter Try.func39, Try.ntmps39
        go_wp2_with (first | ((with_reducible refine gate_dst (N := 2) rfl ?_); refine box_event ?hg (N := 2) ?hd (cs := #[.int .i64 a0_0, .slice A0_1 l0_1.length c0_1]) (t := 29) ?hr ?_; (case hd => rfl); (case hg => rfl); (case hr => first | (go_simp; done) | (go_simp; rfl)); intro gb365 hg w8 hbox hb; have n0_ := Aside0.mk (below_step (by repeat (first | (with_reducible first | exact HB.out | apply below_alloc | apply pw_below_drewN | apply below_drew1) | exact HB.out)) hb); have n1_ := Aside0.mk (hbox); have n2_ := Aside0.mk ((by rw [hg]; exact (below_size (by repeat (first | (with_reducible first | exact HB.out | apply below_alloc | apply pw_below_drewN | apply below_drew1) | exact HB.out))) : w.heap.size ≤ gb365)); have n3_ := Aside0.mk ((by rw [hg]; exact (below_size (by repeat (first | (with_reducible first | exact HB.out | apply below_alloc | apply pw_below_drewN | apply below_drew1) | exact HB.out))) : w.heap.size ≤ gb365)); clear HB; have HB := n0_; have BK365 := n1_; have GW365 := n2_; have GE365 := n3_; clear n0_ n1_ n2_ n3_; clear hb hbox hg; have hcz9_0 : w8.cell? ⟨gb365, 0, none⟩ = some (.int .i64 a0_0) := (blk_cell BK365.out 0).trans rfl; have hcz9_1 : w8.cell? ⟨gb365, 1, none⟩ = some (.slice A0_1 l0_1.length c0_1) := (blk_cell BK365.out 1).trans rfl; have hfz9_0 := blk_frozen BK365.out 0; have hfz9_1 := blk_frozen BK365.out 1) | ((with_reducible refine gate_callee (f := 51) rfl ?_); refine goesL_ (some 11) rfl rfl Try.func51 (by kernel_rfl) rfl #[.agg #[.int .i64 a0_0, .slice A0_1 l0_1.length c0_1]] rfl (by (try simp only [List.map_toArray, List.map_cons, List.map_nil]); first | done | rfl | (simp only [List.length_drop, List.length_take]; rfl)) ?_; (with_reducible refine (cnf_Right.calls k a0_0 _ _ l0_1 t366 t367 _ ?side1 ?side2 A3.out).mono ?_); (case side1 => repeat (first | exact (Kd.C_below HR0_1.out HB.out) | (with_reducible refine Kd.C_alloc ?_ _) | (with_reducible refine Kd.C_drewN ?_ _) | (with_reducible refine Kd.C_drew ?_))); (case side2 => exact HC0_1.out); rintro e w10 ⟨rfl, hb⟩; refine ⟨_, rfl, ?_⟩; have n0_ := Aside0.mk (blk_below (g := gb365) (o := .cells #[.int .i64 a0_0, .slice A0_1 l0_1.length c0_1] 29 (0, 0)) (by (with_reducible repeat (first | refine blk_drewN ?_ _ | refine blk_drew ?_ | refine blk_alloc ?_ _)); exact BK365.out) hb); have n1_ := Aside0.mk (below_step (by repeat (first | (with_reducible first | exact HB.out | apply below_alloc | apply pw_below_drewN | apply below_drew1 | refine below_set ?_ GE365.out) | exact HB.out)) hb); clear BK365; clear HB; have BK365 := n0_; have HB := n1_; clear n0_ n1_; (try clear hb); (try clear hb2); (try clear hk); (try clear hi); have hcz11_0 : w10.cell? ⟨gb365, 0, none⟩ = some (.int .i64 a0_0) := (blk_cell BK365.out 0).trans rfl; have hcz11_1 : w10.cell? ⟨gb365, 1, none⟩ = some (.slice A0_1 l0_1.length c0_1) := (blk_cell BK365.out 1).trans rfl; have hfz11_0 := blk_frozen BK365.out 0; have hfz11_1 := blk_frozen BK365.out 1) | ((with_reducible refine gate_callee (f := 52) rfl ?_); refine goesL_ (some 20) rfl rfl Try.func52 (by kernel_rfl) rfl #[.slice A1 l1.length c1, .int .i64 a0_0] rfl (by (try simp only [List.map_toArray, List.map_cons, List.map_nil]); first | done | rfl | (simp only [List.length_drop, List.length_take]; rfl)) ?_; (with_reducible refine (lit_Right.calls k _ _ l1 a0_0 t368 _ ?side1 ?side2 A5.out).mono ?_); (case side1 => repeat (first | exact (Kd.C_below HR1.out HB.out) | (with_reducible refine Kd.C_alloc ?_ _) | (with_reducible refine Kd.C_drewN ?_ _) | (with_reducible refine Kd.C_drew ?_))); (case side2 => exact HC1.out); rintro e w' ⟨rfl, ⟨nd, rfl⟩⟩; refine ⟨_, rfl, ?_⟩) | ((with_reducible refine gate_callee (f := 60) rfl ?_); refine goesL_ (some 29) rfl rfl Try.func60 (by kernel_rfl) rfl #[.slice A0_1 l0_1.length c0_1, .int .i64 a0_0, .slice A1 l1.length c1] rfl (by (try simp only [List.map_toArray, List.map_cons, List.map_nil]); first | done | rfl | (simp only [List.length_drop, List.length_take]; rfl)) ?_; (with_reducible refine (rup_follows.calls k _ _ l0_1 a0_0 _ _ l1 t369 _ ?side1 ?side2 ?side3 ?side4 A7.out).mono ?_); (case side1 => repeat (first | exact (Kd.C_below HR0_1.out (by repeat (first | (with_reducible first | exact HB.out | apply below_alloc | apply pw_below_drewN | apply below_drew1 | refine below_set ?_ GE365.out) | exact HB.out))) | (with_reducible refine Kd.C_alloc ?_ _) | (with_reducible refine Kd.C_drewN ?_ _) | (with_reducible refine Kd.C_drew ?_))); (case side2 => exact HC0_1.out); (case side3 => repeat (first | exact (Kd.C_below HR1.out (by repeat (first | (with_reducible first | exact HB.out | apply below_alloc | apply pw_below_drewN | apply below_drew1 | refine below_set ?_ GE365.out) | exact HB.out))) | (with_reducible refine Kd.C_alloc ?_ _) | (with_reducible refine Kd.C_drewN ?_ _) | (with_reducible refine Kd.C_drew ?_))); (case side4 => exact HC1.out); rintro e w12 ⟨rfl, hb⟩; refine ⟨_, rfl, ?_⟩; have n0_ := Aside0.mk (blk_below (g := gb365) (o := .cells #[.int .i64 a0_0, .slice A0_1 l0_1.length c0_1] 29 (0, 0)) (by (with_reducible repeat (first | refine blk_drewN ?_ _ | refine blk_drew ?_ | refine blk_alloc ?_ _)); exact BK365.out) hb); have n1_ := Aside0.mk (below_step (by repeat (first | (with_reducible first | exact HB.out | apply below_alloc | apply pw_below_drewN | apply below_drew1 | refine below_set ?_ GE365.out) | exact HB.out)) hb); clear BK365; clear HB; have BK365 := n0_; have HB := n1_; clear n0_ n1_; (try clear hb); (try clear hb2); (try clear hk); (try clear hi)))
        go_ret2
        exact ⟨by first | rfl | (simp [errW_none, errW_some] <;> rfl) | (simp [*, errW_none, errW_some] <;> rfl), by repeat (first | (with_reducible first | exact HB.out | apply below_alloc | apply pw_below_drewN | apply below_drew1 | refine below_set ?_ GE365.out) | exact HB.out)⟩
    · rw [if_neg c6] at H
      have c6b0 : (t368 == 0) = false := beq_eq_false_iff_ne.mpr c6
      have c6b1 : (t368 != 0) = true := bne_iff_ne.mpr c6
      as_aux_lemma =>
        simp only [Option.some.injEq, Prod.mk.injEq] at H
        obtain ⟨rfl, rfl⟩ := H
        go_enter Try.func39, Try.ntmps39
        go_wp2_with (first | ((with_reducible refine gate_dst (N := 2) rfl ?_); refine box_event ?hg (N := 2) ?hd (cs := #[.int .i64 a0_0, .slice A0_1 l0_1.length c0_1]) (t := 29) ?hr ?_; (case hd => rfl); (case hg => rfl); (case hr => first | (go_simp; done) | (go_simp; rfl)); intro gb365 hg w13 hbox hb; have n0_ := Aside0.mk (below_step (by repeat (first | (with_reducible first | exact HB.out | apply below_alloc | apply pw_below_drewN | apply below_drew1) | exact HB.out)) hb); have n1_ := Aside0.mk (hbox); have n2_ := Aside0.mk ((by rw [hg]; exact (below_size (by repeat (first | (with_reducible first | exact HB.out | apply below_alloc | apply pw_below_drewN | apply below_drew1) | exact HB.out))) : w.heap.size ≤ gb365)); have n3_ := Aside0.mk ((by rw [hg]; exact (below_size (by repeat (first | (with_reducible first | exact HB.out | apply below_alloc | apply pw_below_drewN | apply below_drew1) | exact HB.out))) : w.heap.size ≤ gb365)); clear HB; have HB := n0_; have BK365 := n1_; have GW365 := n2_; have GE365 := n3_; clear n0_ n1_ n2_ n3_; clear hb hbox hg; have hcz14_0 : w13.cell? ⟨gb365, 0, none⟩ = some (.int .i64 a0_0) := (blk_cell BK365.out 0).trans rfl; have hcz14_1 : w13.cell? ⟨gb365, 1, none⟩ = some (.slice A0_1 l0_1.length c0_1) := (blk_cell BK365.out 1).trans rfl; have hfz14_0 := blk_frozen BK365.out 0; have hfz14_1 := blk_frozen BK365.out 1) | ((with_reducible refine gate_callee (f := 51) rfl ?_); refine goesL_ (some 11) rfl rfl Try.func51 (by kernel_rfl) rfl #[.agg #[.int .i64 a0_0, .slice A0_1 l0_1.length c0_1]] rfl (by (try simp only [List.map_toArray, List.map_cons, List.map_nil]); first | done | rfl | (simp only [List.length_drop, List.length_take]; rfl)) ?_; (with_reducible refine (cnf_Right.calls k a0_0 _ _ l0_1 t366 t367 _ ?side1 ?side2 A3.out).mono ?_); (case side1 => repeat (first | exact (Kd.C_below HR0_1.out HB.out) | (with_reducible refine Kd.C_alloc ?_ _) | (with_reducible refine Kd.C_drewN ?_ _) | (with_reducible refine Kd.C_drew ?_))); (case side2 => exact HC0_1.out); rintro e w15 ⟨rfl, hb⟩; refine ⟨_, rfl, ?_⟩; have n0_ := Aside0.mk (blk_below (g := gb365) (o := .cells #[.int .i64 a0_0, .slice A0_1 l0_1.length c0_1] 29 (0, 0)) (by (with_reducible repeat (first | refine blk_drewN ?_ _ | refine blk_drew ?_ | refine blk_alloc ?_ _)); exact BK365.out) hb); have n1_ := Aside0.mk (below_step (by repeat (first | (with_reducible first | exact HB.out | apply below_alloc | apply pw_below_drewN | apply below_drew1 | refine below_set ?_ GE365.out) | exact HB.out)) hb); clear BK365; clear HB; have BK365 := n0_; have HB := n1_; clear n0_ n1_; (try clear hb); (try clear hb2); (try clear hk); (try clear hi); have hcz16_0 : w15.cell? ⟨gb365, 0, none⟩ = some (.int .i64 a0_0) := (blk_cell BK365.out 0).trans rfl; have hcz16_1 : w15.cell? ⟨gb365, 1, none⟩ = some (.slice A0_1 l0_1.length c0_1) := (blk_cell BK365.out 1).trans rfl; have hfz16_0 := blk_frozen BK365.out 0; have hfz16_1 := blk_frozen BK365.out 1) | ((with_reducible refine gate_callee (f := 52) rfl ?_); refine goesL_ (some 20) rfl rfl Try.func52 (by kernel_rfl) rfl #[.slice A1 l1.length c1, .int .i64 a0_0] rfl (by (try simp only [List.map_toArray, List.map_cons, List.map_nil]); first | done | rfl | (simp only [List.length_drop, List.length_take]; rfl)) ?_; (with_reducible refine (lit_Right.calls k _ _ l1 a0_0 t368 _ ?side1 ?side2 A5.out).mono ?_); (case side1 => repeat (first | exact (Kd.C_below HR1.out HB.out) | (with_reducible refine Kd.C_alloc ?_ _) | (with_reducible refine Kd.C_drewN ?_ _) | (with_reducible refine Kd.C_drew ?_))); (case side2 => exact HC1.out); rintro e w' ⟨rfl, ⟨nd, rfl⟩⟩; refine ⟨_, rfl, ?_⟩))
        go_ret2
        exact ⟨by first | rfl | (simp [errW_none, errW_some] <;> rfl) | (simp [*, errW_none, errW_some] <;> rfl), by repeat (first | (with_reducible first | exact HB.out | apply below_alloc | apply pw_below_drewN | apply below_drew1 | refine below_set ?_ GE365.out) | exact HB.out)⟩
  · rw [if_neg c4] at H
    have c4b0 : (t367 == 0) = false := beq_eq_false_iff_ne.mpr c4
    have c4b1 : (t367 != 0) = true := bne_iff_ne.mpr c4
    as_aux_lemma =>
      simp only [Option.some.injEq, Prod.mk.injEq] at H
      obtain ⟨rfl, rfl⟩ := H
      go_enter Try.func39, Try.ntmps39
      go_wp2_with (first | ((with_reducible refine gate_dst (N := 2) rfl ?_); refine box_event ?hg (N := 2) ?hd (cs := #[.int .i64 a0_0, .slice A0_1 l0_1.length c0_1]) (t := 29) ?hr ?_; (case hd => rfl); (case hg => rfl); (case hr => first | (go_simp; done) | (go_simp; rfl)); intro gb365 hg w17 hbox hb; have n0_ := Aside0.mk (below_step (by repeat (first | (with_reducible first | exact HB.out | apply below_alloc | apply pw_below_drewN | apply below_drew1) | exact HB.out)) hb); have n1_ := Aside0.mk (hbox); have n2_ := Aside0.mk ((by rw [hg]; exact (below_size (by repeat (first | (with_reducible first | exact HB.out | apply below_alloc | apply pw_below_drewN | apply below_drew1) | exact HB.out))) : w.heap.size ≤ gb365)); have n3_ := Aside0.mk ((by rw [hg]; exact (below_size (by repeat (first | (with_reducible first | exact HB.out | apply below_alloc | apply pw_below_drewN | apply below_drew1) | exact HB.out))) : w.heap.size ≤ gb365)); clear HB; have HB := n0_; have BK365 := n1_; have GW365 := n2_; have GE365 := n3_; clear n0_ n1_ n2_ n3_; clear hb hbox hg; have hcz18_0 : w17.cell? ⟨gb365, 0, none⟩ = some (.int .i64 a0_0) := (blk_cell BK365.out 0).trans rfl; have hcz18_1 : w17.cell? ⟨gb365, 1, none⟩ = some (.slice A0_1 l0_1.length c0_1) := (blk_cell BK365.out 1).trans rfl; have hfz18_0 := blk_frozen BK365.out 0; have hfz18_1 := blk_frozen BK365.out 1) | ((with_reducible refine gate_callee (f := 51) rfl ?_); refine goesL_ (some 11) rfl rfl Try.func51 (by kernel_rfl) rfl #[.agg #[.int .i64 a0_0, .slice A0_1 l0_1.length c0_1]] rfl (by (try simp only [List.map_toArray, List.map_cons, List.map_nil]); first | done | rfl | (simp only [List.length_drop, List.length_take]; rfl)) ?_; (with_reducible refine (cnf_Right.calls k a0_0 _ _ l0_1 t366 t367 _ ?side1 ?side2 A3.out).mono ?_); (case side1 => repeat (first | exact (Kd.C_below HR0_1.out HB.out) | (with_reducible refine Kd.C_alloc ?_ _) | (with_reducible refine Kd.C_drewN ?_ _) | (with_reducible refine Kd.C_drew ?_))); (case side2 => exact HC0_1.out); rintro e w19 ⟨rfl, hb⟩; refine ⟨_, rfl, ?_⟩; have n0_ := Aside0.mk (blk_below (g := gb365) (o := .cells #[.int .i64 a0_0, .slice A0_1 l0_1.length c0_1] 29 (0, 0)) (by (with_reducible repeat (first | refine blk_drewN ?_ _ | refine blk_drew ?_ | refine blk_alloc ?_ _)); exact BK365.out) hb); have n1_ := Aside0.mk (below_step (by repeat (first | (with_reducible first | exact HB.out | apply below_alloc | apply pw_below_drewN | apply below_drew1 | refine below_set ?_ GE365.out) | exact HB.out)) hb); clear BK365; clear HB; have BK365 := n0_; have HB := n1_; clear n0_ n1_; (try clear hb); (try clear hb2); (try clear hk); (try clear hi)))
      go_ret2
      exact ⟨by first | rfl | (simp [errW_none, errW_some] <;> rfl) | (simp [*, errW_none, errW_some] <;> rfl), by repeat (first | (with_reducible first | exact HB.out | apply below_alloc | apply pw_below_drewN | apply below_drew1 | refine below_set ?_ GE365.out) | exact HB.out)⟩

end Go.Proofs.Ytkfnaiobgddjpaa.P
