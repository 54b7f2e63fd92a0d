import Derived.RangeFuncNested
import Derived.RangeFuncBound
import Derived.RangeFuncCalls
import Derived.RangeFuncLeaves
import Derived.Shelf.Abstract
import Derived.Shelf.RegionOpen
import Derived.OwnWalkIn
import Derived.TacticsInMore
import Derived.LoopNIn
import Derived.LoopIn
import Derived.Lib.SliceRun
import Derived.Test.YtppkeonhbkahmaaKCoreTrims1
namespace Go.Proofs.Ytppkeonhbkahmaa.P
open Go.RowKit Go.Proofs.YtppkeonhbkahmaaW.PrintWords Go.Proofs.YtppkeonhbkahmaaW.PrintLast Go.Proofs.YtppkeonhbkahmaaW.PrintMore
attribute [local go_sem] max2_int min2_int max_two min_two max_three min_three max_four min_four
set_option linter.unusedVariables false
set_option linter.unusedSimpArgs false
def lit_Count.l0 : Nat → List Bool → Int → List Int → Int → Int → Option (Int)
  | 0, _, _, _, _, _ => none
  | k + 1, x1, x5, x8, x9, x10 => if x10 < x9 then (if 0 ≤ x10 then (if x10 < (x8.length : Int) then ((lit_is.f (rd x8 x10)).bind fun t409 => (if t409 = true then ((lit_variable.f (rd x8 x10)).bind fun t410 => (if t410 ≤ (x1.length : Int) then (if 0 ≤ (wrap64 (t410 - 1)) then (if (wrap64 (t410 - 1)) < (x1.length : Int) then (if ((rdOf false x1 (wrap64 (t410 - 1))) == (decide ((rd x8 x10) > 0))) = true then (lit_Count.l0 k x1 (wrap64 (x5 + 1)) x8 x9 (wrap64 (x10 + 1))) else (lit_Count.l0 k x1 x5 x8 x9 (wrap64 (x10 + 1)))) else (none)) else (none)) else (lit_Count.l0 k x1 x5 x8 x9 (wrap64 (x10 + 1))))) else (lit_Count.l0 k x1 x5 x8 x9 (wrap64 (x10 + 1))))) else (none)) else (none)) else (some x5)
def lit_Count.f (k : Nat) (l0 : List Int) (l1 : List Bool) : Option (Int) := lit_Count.l0 k l1 0 l0 (l0.length : Int) 0
theorem lit_Count.mono_l : ∀ k, (∀ y0 y1 y2 y3 y4, LeO (lit_Count.l0 k y0 y1 y2 y3 y4) (lit_Count.l0 (k + 1) y0 y1 y2 y3 y4))
  | 0 => fun _ _ _ _ _ r h => by simp [lit_Count.l0] at h
  | k + 1 => by
    have ih0 := lit_Count.mono_l k
    intro y0 y1 y2 y3 y4
    unfold lit_Count.l0
    repeat' first
    | (with_reducible exact ih0 _ _ _ _ _)
    | (with_reducible exact LeO.refl _)
    | (with_reducible exact LeO.none _)
    | (with_reducible refine LeO.ite ?_ ?_)
    | (with_reducible refine LeO.bind ?_ (fun _ => ?_))
    | exact ih0 _ _ _ _ _
    | exact LeO.none _
    | refine LeO.ite ?_ ?_
    | refine LeO.bind ?_ (fun _ => ?_)
theorem lit_Count.mono : ∀ a0 a1 k, LeO (lit_Count.f k a0 a1) (lit_Count.f (k + 1) a0 a1) := by
  intro a0 a1 k
  have ih0 := lit_Count.mono_l k
  unfold lit_Count.f
  repeat' first
      | (with_reducible exact ih0 _ _ _ _ _)
      | (with_reducible exact LeO.refl _)
      | (with_reducible exact LeO.none _)
      | (with_reducible refine LeO.ite ?_ ?_)
      | (with_reducible refine LeO.bind ?_ (fun _ => ?_))
      | exact ih0 _ _ _ _ _
      | exact LeO.none _
      | refine LeO.ite ?_ ?_
      | refine LeO.bind ?_ (fun _ => ?_)
set_option maxHeartbeats 8000000 in
set_option maxRecDepth 100000 in
theorem lit_Count.calls (k : Nat) (A0 : Option Addr) (c0 : Nat) (l0 : List Int) (A1 : Option Addr) (c1 : Nat) (l1 : List Bool) (r : Int) (w : World) (hr0 : Kd.C (Kd.int .i64) w A0 l0.length l0) (hc0 : l0.length ≤ c0) (hr1 : Kd.C Kd.bool w A1 l1.length l1) (hc1 : l1.length ≤ c1) (h : lit_Count.f k l0 l1 = some r) :
    Calls Try.prog 76 #[.slice A0 l0.length c0, .slice A1 l1.length c1] w fun e w' => e = .returned (.int .i64 r) ∧ Drawn0 w w' := by
  have HR0 := K0 hr0; have HC0 := K0 hc0; clear hr0 hc0; have HR1 := K0 hr1; have HC1 := K0 hc1; clear hr1 hc1
  have H : (lit_Count.l0 k l1 0 l0 (l0.length : Int) 0) = some r := h
  clear h
  have H' := K0 H
  clear H
  go_enter Try.func76, Try.ntmps76
  go_wp2
  go_loopg [5, 10] k (fun kq v5 v10 w' => ∃ (x5_1 : Int) (x10_1 : Int), v5 = .int .i64 x5_1 ∧ v10 = .int .i64 x10_1 ∧ Aside0 (lit_Count.l0 kq l1 x5_1 l0 (l0.length : Int) x10_1 = some r) ∧ Aside0 (kq ≤ k) ∧ Drawn0 w w')
  case atStart => exact ⟨(0), (0), (by first | rfl | (simp; done) | (simp [*]; done)), (by first | rfl | (simp; done) | (simp [*]; done)), H', ⟨Nat.le_refl _⟩, by repeat (first | exact Drawn0.refl _ | apply Drawn0.step)⟩
  case round =>
    clear H'; try clear c1; try clear p2
    obtain ⟨x5_1, x10_1, rfl, rfl, HA, HK1, ⟨m1, rfl⟩⟩ := hrel
    cases gk with
    | zero => exact absurd HA.out (by simp [lit_Count.l0])
    | succ k1 =>
      have H := HA.out
      clear HA
      simp only [lit_Count.l0] at H
      by_cases c3 : x10_1 < (l0.length : Int)
      case neg =>
        rw [if_neg c3] at H
        have c3b0 : decide (x10_1 < (l0.length : Int)) = false := decide_eq_false c3
        clear c3
        as_aux_lemma =>
          obtain rfl := Option.some.inj H
          go_wp2
          go_ret
          exact ⟨by first | rfl | (simp; done) | (simp [*]; done), by repeat (first | exact Drawn0.refl _ | apply Drawn0.step)⟩
      rw [if_pos c3] at H
      have c3b0 : decide (x10_1 < (l0.length : Int)) = true := decide_eq_true c3
      clear c3
      by_cases c4 : 0 ≤ x10_1
      case neg =>
        rw [if_neg c4] at H
        exact absurd H (by simp)
      rw [if_pos c4] at H
      have c4b0 : decide (0 ≤ x10_1) = true := decide_eq_true c4
      clear c4
      by_cases c5 : x10_1 < (l0.length : Int)
      case neg =>
        rw [if_neg c5] at H
        exact absurd H (by simp)
      rw [if_pos c5] at H
      have c5b0 : decide (x10_1 < (l0.length : Int)) = true := decide_eq_true c5
      clear c5
      replace H := Option.bind_eq_some_iff.mp H
      obtain ⟨t409, A60, H⟩ := H
      replace H : (if t409 = true then ((lit_variable.f (rd l0 x10_1)).bind fun t410 => (if t410 ≤ (l1.length : Int) then (if 0 ≤ (wrap64 (t410 - 1)) then (if (wrap64 (t410 - 1)) < (l1.length : Int) then (if ((rdOf false l1 (wrap64 (t410 - 1))) == (decide ((rd l0 x10_1) > 0))) = true then (lit_Count.l0 k1 l1 (wrap64 (x5_1 + 1)) l0 (l0.length : Int) (wrap64 (x10_1 + 1))) else (lit_Count.l0 k1 l1 x5_1 l0 (l0.length : Int) (wrap64 (x10_1 + 1)))) else (none)) else (none)) else (lit_Count.l0 k1 l1 x5_1 l0 (l0.length : Int) (wrap64 (x10_1 + 1))))) else (lit_Count.l0 k1 l1 x5_1 l0 (l0.length : Int) (wrap64 (x10_1 + 1)))) = some r := H
      have A6 := K0 A60; clear A60
      by_cases c7 : t409 = true
      case neg =>
        replace c7 := Bool.eq_false_iff.mpr c7
        subst c7
        have H1 : (lit_Count.l0 k1 l1 x5_1 l0 (l0.length : Int) (wrap64 (x10_1 + 1))) = some r := by rw [if_neg (show ¬ (false = true) by decide)] at H; exact H
        clear H
        have H := H1
        clear H1
        as_aux_lemma =>
          have H' := K0 H
          clear H
          have p408 : 0 ≤ (x10_1 : Int) := of_decide_eq_true (by first | (with_reducible assumption) | assumption)
          have q408 : x10_1 < (l0.length : Int) := of_decide_eq_true (by first | (with_reducible assumption) | assumption)
          obtain ⟨ad408, e408, hx408_0⟩ := Kd.at_int HR0.out x10_1 p408 q408
          cases e408; replace p408 := eq_true p408; replace q408 := eq_true q408
          go_wp2_with (first | ((with_reducible refine gate_callee (f := 60) rfl ?_); refine goesL_ (some 15) rfl rfl Try.func60 (by kernel_rfl) rfl #[.int .i64 (rd l0 x10_1)] rfl (by (try simp only [List.map_toArray, List.map_cons, List.map_nil]); first | done | rfl | (simp only [List.length_drop, List.length_take]; rfl)) ?_; (with_reducible refine (lit_is.calls (rd l0 x10_1) false _ A6.out).mono ?_); rintro e w' ⟨rfl, ⟨nd, rfl⟩⟩; refine ⟨_, rfl, ?_⟩))
          go_roundg k1
          case measure => have := HK1.out; omega
          case rel => exact ⟨(x5_1), (wrap64 (x10_1 + 1)), (by first | rfl | (simp; done) | (simp [*]; done)), (by first | rfl | (simp; done) | (simp [*]; done)), H', ⟨by have := HK1.out; omega⟩, by repeat (first | exact Drawn0.refl _ | apply Drawn0.step)⟩
      subst c7
      have H1 : ((lit_variable.f (rd l0 x10_1)).bind fun t410 => (if t410 ≤ (l1.length : Int) then (if 0 ≤ (wrap64 (t410 - 1)) then (if (wrap64 (t410 - 1)) < (l1.length : Int) then (if ((rdOf false l1 (wrap64 (t410 - 1))) == (decide ((rd l0 x10_1) > 0))) = true then (lit_Count.l0 k1 l1 (wrap64 (x5_1 + 1)) l0 (l0.length : Int) (wrap64 (x10_1 + 1))) else (lit_Count.l0 k1 l1 x5_1 l0 (l0.length : Int) (wrap64 (x10_1 + 1)))) else (none)) else (none)) else (lit_Count.l0 k1 l1 x5_1 l0 (l0.length : Int) (wrap64 (x10_1 + 1))))) = some r := by rw [if_pos rfl] at H; exact H
      clear H
      have H := H1
      clear H1
      replace H := Option.bind_eq_some_iff.mp H
      obtain ⟨t410, A80, H⟩ := H
      replace H : (if t410 ≤ (l1.length : Int) then (if 0 ≤ (wrap64 (t410 - 1)) then (if (wrap64 (t410 - 1)) < (l1.length : Int) then (if ((rdOf false l1 (wrap64 (t410 - 1))) == (decide ((rd l0 x10_1) > 0))) = true then (lit_Count.l0 k1 l1 (wrap64 (x5_1 + 1)) l0 (l0.length : Int) (wrap64 (x10_1 + 1))) else (lit_Count.l0 k1 l1 x5_1 l0 (l0.length : Int) (wrap64 (x10_1 + 1)))) else (none)) else (none)) else (lit_Count.l0 k1 l1 x5_1 l0 (l0.length : Int) (wrap64 (x10_1 + 1)))) = some r := H
      have A8 := K0 A80; clear A80
      by_cases c9 : t410 ≤ (l1.length : Int)
      case neg =>
        rw [if_neg c9] at H
        have c9b0 : decide (t410 ≤ (l1.length : Int)) = false := decide_eq_false c9
        clear c9
        as_aux_lemma =>
          have H' := K0 H
          clear H
          have p408 : 0 ≤ (x10_1 : Int) := of_decide_eq_true (by first | (with_reducible assumption) | assumption)
          have q408 : x10_1 < (l0.length : Int) := of_decide_eq_true (by first | (with_reducible assumption) | assumption)
          obtain ⟨ad408, e408, hx408_0⟩ := Kd.at_int HR0.out x10_1 p408 q408
          cases e408; replace p408 := eq_true p408; replace q408 := eq_true q408
          go_wp2_with (first | ((with_reducible refine gate_callee (f := 60) rfl ?_); refine goesL_ (some 15) rfl rfl Try.func60 (by kernel_rfl) rfl #[.int .i64 (rd l0 x10_1)] rfl (by (try simp only [List.map_toArray, List.map_cons, List.map_nil]); first | done | rfl | (simp only [List.length_drop, List.length_take]; rfl)) ?_; (with_reducible refine (lit_is.calls (rd l0 x10_1) true _ A6.out).mono ?_); rintro e w' ⟨rfl, ⟨nd, rfl⟩⟩; refine ⟨_, rfl, ?_⟩) | (go_at_call 61; (with_reducible refine (lit_variable.calls (rd l0 x10_1) t410 _ A8.out).mono ?_); rintro e w' ⟨rfl, ⟨nd, rfl⟩⟩))
          go_roundg k1
          case measure => have := HK1.out; omega
          case rel => exact ⟨(x5_1), (wrap64 (x10_1 + 1)), (by first | rfl | (simp; done) | (simp [*]; done)), (by first | rfl | (simp; done) | (simp [*]; done)), H', ⟨by have := HK1.out; omega⟩, by repeat (first | exact Drawn0.refl _ | apply Drawn0.step)⟩
      rw [if_pos c9] at H
      have c9b0 : decide (t410 ≤ (l1.length : Int)) = true := decide_eq_true c9
      clear c9
      obtain ⟨ji10, hji10⟩ : ∃ j_ : Int, (wrap64 (t410 - 1)) = j_ := ⟨_, rfl⟩
      replace H : (if 0 ≤ (ji10) then (if (ji10) < (l1.length : Int) then (if ((rdOf false l1 (ji10)) == (decide ((rd l0 x10_1) > 0))) = true then (lit_Count.l0 k1 l1 (wrap64 (x5_1 + 1)) l0 (l0.length : Int) (wrap64 (x10_1 + 1))) else (lit_Count.l0 k1 l1 x5_1 l0 (l0.length : Int) (wrap64 (x10_1 + 1)))) else (none)) else (none)) = some r := by first | (rw [hji10] at H; exact H) | (simp only [hji10] at H ⊢; exact H)
      (try rw [hji10] at A6)
      (try rw [hji10] at A8)
      have hji10w : (IntKind.i64.wrap (t410 - 1)) = ji10 := (i64_w _).trans hji10
      by_cases c11 : 0 ≤ (ji10)
      case neg =>
        rw [if_neg c11] at H
        exact absurd H (by simp)
      rw [if_pos c11] at H
      have c11b0 : decide (0 ≤ (ji10)) = true := decide_eq_true c11
      clear c11
      by_cases c12 : (ji10) < (l1.length : Int)
      case neg =>
        rw [if_neg c12] at H
        exact absurd H (by simp)
      rw [if_pos c12] at H
      have c12b0 : decide ((ji10) < (l1.length : Int)) = true := decide_eq_true c12
      clear c12
      by_cases c13 : ((rdOf false l1 (ji10)) == (decide ((rd l0 x10_1) > 0))) = true
      case pos =>
        rw [if_pos c13] at H
        have c13b0 : ((rdOf false l1 (ji10)) == (decide ((rd l0 x10_1) > 0))) = true := c13
        (try (have c13b1 : decide ((rdOf false l1 (ji10)) = (decide ((rd l0 x10_1) > 0))) = true := by simpa using c13))
        (try (have c13b2 : ((rdOf false l1 (ji10)) == (decide ((rd l0 x10_1) > 0))) = true := by simpa using c13))
        clear c13
        as_aux_lemma =>
          have H' := K0 H
          clear H
          have p408 : 0 ≤ (x10_1 : Int) := of_decide_eq_true (by first | (with_reducible assumption) | assumption)
          have q408 : x10_1 < (l0.length : Int) := of_decide_eq_true (by first | (with_reducible assumption) | assumption)
          obtain ⟨ad408, e408, hx408_0⟩ := Kd.at_int HR0.out x10_1 p408 q408
          cases e408; replace p408 := eq_true p408; replace q408 := eq_true q408
          go_wp2_with (first | ((with_reducible refine gate_callee (f := 60) rfl ?_); refine goesL_ (some 15) rfl rfl Try.func60 (by kernel_rfl) rfl #[.int .i64 (rd l0 x10_1)] rfl (by (try simp only [List.map_toArray, List.map_cons, List.map_nil]); first | done | rfl | (simp only [List.length_drop, List.length_take]; rfl)) ?_; (with_reducible refine (lit_is.calls (rd l0 x10_1) true _ A6.out).mono ?_); rintro e w' ⟨rfl, ⟨nd, rfl⟩⟩; refine ⟨_, rfl, ?_⟩) | (go_at_call 61; (with_reducible refine (lit_variable.calls (rd l0 x10_1) t410 _ A8.out).mono ?_); rintro e w' ⟨rfl, ⟨nd, rfl⟩⟩; have p411 : 0 ≤ ((ji10) : Int) := of_decide_eq_true (by first | (with_reducible assumption) | assumption); have q411 : (ji10) < (l1.length : Int) := of_decide_eq_true (by first | (with_reducible assumption) | assumption); obtain ⟨ad411, e411, hx411_0⟩ := Kd.at_bool HR1.out (ji10) p411 q411; cases e411; replace p411 := eq_true p411; replace q411 := eq_true q411))
          go_roundg k1
          case measure => have := HK1.out; omega
          case rel => exact ⟨(wrap64 (x5_1 + 1)), (wrap64 (x10_1 + 1)), (by first | rfl | (simp; done) | (simp [*]; done)), (by first | rfl | (simp; done) | (simp [*]; done)), H', ⟨by have := HK1.out; omega⟩, by repeat (first | exact Drawn0.refl _ | apply Drawn0.step)⟩
      rw [if_neg c13] at H
      have c13b0 : ((rdOf false l1 (ji10)) == (decide ((rd l0 x10_1) > 0))) = false := by simpa using c13
      (try (have c13b1 : decide ((rdOf false l1 (ji10)) = (decide ((rd l0 x10_1) > 0))) = false := by simpa using c13))
      (try (have c13b2 : ((rdOf false l1 (ji10)) == (decide ((rd l0 x10_1) > 0))) = false := by simpa using c13))
      (try (have c13b3 : ¬ ((rdOf false l1 (ji10)) = (decide ((rd l0 x10_1) > 0))) := by simpa using c13))
      clear c13
      as_aux_lemma =>
        have H' := K0 H
        clear H
        have p408 : 0 ≤ (x10_1 : Int) := of_decide_eq_true (by first | (with_reducible assumption) | assumption)
        have q408 : x10_1 < (l0.length : Int) := of_decide_eq_true (by first | (with_reducible assumption) | assumption)
        obtain ⟨ad408, e408, hx408_0⟩ := Kd.at_int HR0.out x10_1 p408 q408
        cases e408; replace p408 := eq_true p408; replace q408 := eq_true q408
        go_wp2_with (first | ((with_reducible refine gate_callee (f := 60) rfl ?_); refine goesL_ (some 15) rfl rfl Try.func60 (by kernel_rfl) rfl #[.int .i64 (rd l0 x10_1)] rfl (by (try simp only [List.map_toArray, List.map_cons, List.map_nil]); first | done | rfl | (simp only [List.length_drop, List.length_take]; rfl)) ?_; (with_reducible refine (lit_is.calls (rd l0 x10_1) true _ A6.out).mono ?_); rintro e w' ⟨rfl, ⟨nd, rfl⟩⟩; refine ⟨_, rfl, ?_⟩) | (go_at_call 61; (with_reducible refine (lit_variable.calls (rd l0 x10_1) t410 _ A8.out).mono ?_); rintro e w' ⟨rfl, ⟨nd, rfl⟩⟩; have p411 : 0 ≤ ((ji10) : Int) := of_decide_eq_true (by first | (with_reducible assumption) | assumption); have q411 : (ji10) < (l1.length : Int) := of_decide_eq_true (by first | (with_reducible assumption) | assumption); obtain ⟨ad411, e411, hx411_0⟩ := Kd.at_bool HR1.out (ji10) p411 q411; cases e411; replace p411 := eq_true p411; replace q411 := eq_true q411))
        go_roundg k1
        case measure => have := HK1.out; omega
        case rel => exact ⟨(x5_1), (wrap64 (x10_1 + 1)), (by first | rfl | (simp; done) | (simp [*]; done)), (by first | rfl | (simp; done) | (simp [*]; done)), H', ⟨by have := HK1.out; omega⟩, by repeat (first | exact Drawn0.refl _ | apply Drawn0.step)⟩
def lit_Holds.f (k : Nat) (l0 : List Int) (l1 : List Bool) : Option (Bool) := (lit_Count.f k l0 l1).bind fun t412 => (some (decide (t412 > 0)))
theorem lit_Holds.mono : ∀ a0 a1 k, LeO (lit_Holds.f k a0 a1) (lit_Holds.f (k + 1) a0 a1) := by
  intro a0 a1 k
  unfold lit_Holds.f
  repeat' first
      | (with_reducible exact lit_Count.mono _ _ _)
      | (with_reducible exact LeO.refl _)
      | (with_reducible exact LeO.none _)
      | (with_reducible refine LeO.ite ?_ ?_)
      | (with_reducible refine LeO.bind ?_ (fun _ => ?_))
      | exact lit_Count.mono _ _ _
      | exact LeO.none _
      | refine LeO.ite ?_ ?_
      | refine LeO.bind ?_ (fun _ => ?_)
set_option maxHeartbeats 8000000 in
set_option maxRecDepth 100000 in
theorem lit_Holds.calls (k : Nat) (A0 : Option Addr) (c0 : Nat) (l0 : List Int) (A1 : Option Addr) (c1 : Nat) (l1 : List Bool) (r : Bool) (w : World) (hr0 : Kd.C (Kd.int .i64) w A0 l0.length l0) (hc0 : l0.length ≤ c0) (hr1 : Kd.C Kd.bool w A1 l1.length l1) (hc1 : l1.length ≤ c1) (h : lit_Holds.f k l0 l1 = some r) :
    Calls Try.prog 71 #[.slice A0 l0.length c0, .slice A1 l1.length c1] w fun e w' => e = .returned (.bool r) ∧ Drawn0 w w' := by
  have HR0 := K0 hr0
  have HC0 := K0 hc0
  clear hr0 hc0
  have HR1 := K0 hr1
  have HC1 := K0 hc1
  clear hr1 hc1
  have H : ((lit_Count.f k l0 l1).bind fun t412 => (some (decide (t412 > 0)))) = some r := h
  clear h
  replace H := Option.bind_eq_some_iff.mp H
  obtain ⟨t412, A30, H⟩ := H
  replace H : (some (decide (t412 > 0))) = some r := H
  have A3 := K0 A30
  clear A30
  as_aux_lemma =>
    obtain rfl := Option.some.inj H
    go_enter Try.func71, Try.ntmps71
    go_wp2_with (first | ((with_reducible refine gate_callee (f := 76) rfl ?_); refine goesL_ (some 7) rfl rfl Try.func76 (by kernel_rfl) rfl #[.slice A0 l0.length c0, .slice A1 l1.length c1] rfl (by (try simp only [List.map_toArray, List.map_cons, List.map_nil]); first | done | rfl | (simp only [List.length_drop, List.length_take]; rfl)) ?_; (with_reducible refine (lit_Count.calls k _ _ l0 _ _ l1 t412 _ ?side1 ?side2 ?side3 ?side4 A3.out).mono ?_); (case side1 => repeat (first | exact HR0.out | (with_reducible refine Kd.C_alloc ?_ _) | (with_reducible refine Kd.C_drewN ?_ _) | (with_reducible refine Kd.C_drew ?_))); (case side2 => exact HC0.out); (case side3 => repeat (first | exact HR1.out | (with_reducible refine Kd.C_alloc ?_ _) | (with_reducible refine Kd.C_drewN ?_ _) | (with_reducible refine Kd.C_drew ?_))); (case side4 => exact HC1.out); rintro e w' ⟨rfl, ⟨nd, rfl⟩⟩; refine ⟨_, rfl, ?_⟩))
    go_ret
    exact ⟨by first | rfl | (simp; done) | (simp [*]; done), by repeat (first | exact Drawn0.refl _ | apply Drawn0.step)⟩
def cnf_Holds.l0 : Nat → List Bool → List (List Int) → Int → Int → Option (Int × Bool)
  | 0, _, _, _, _ => none
  | k + 1, x1, x9, x10, x11 => if x11 < x10 then (if 0 ≤ x11 then (if x11 < (x9.length : Int) then ((lit_Holds.f k (rd_L3 x9 x11) x1).bind fun t415 => (if t415 = true then (cnf_Holds.l0 k x1 x9 x10 (wrap64 (x11 + 1))) else (some (x11, false)))) else (none)) else (none)) else (some (0, true))
def cnf_Holds.f (k : Nat) (a0_0 : Int) (l0_1 : List (List Int)) (l1 : List Bool) : Option (Int × Bool) := cnf_Holds.l0 k l1 l0_1 (l0_1.length : Int) 0
theorem cnf_Holds.mono_l : ∀ k, (∀ y0 y1 y2 y3, LeO (cnf_Holds.l0 k y0 y1 y2 y3) (cnf_Holds.l0 (k + 1) y0 y1 y2 y3))
  | 0 => fun _ _ _ _ r h => by simp [cnf_Holds.l0] at h
  | k + 1 => by
    have ih0 := cnf_Holds.mono_l k
    · intro y0 y1 y2 y3
      unfold cnf_Holds.l0
      repeat' first
      | (with_reducible exact ih0 _ _ _ _)
      | (with_reducible exact lit_Holds.mono _ _ _)
      | (with_reducible exact LeO.refl _)
      | (with_reducible exact LeO.none _)
      | (with_reducible refine LeO.ite ?_ ?_)
      | (with_reducible refine LeO.bind ?_ (fun _ => ?_))
      | exact ih0 _ _ _ _
      | exact lit_Holds.mono _ _ _
      | exact LeO.none _
      | refine LeO.ite ?_ ?_
      | refine LeO.bind ?_ (fun _ => ?_)
theorem cnf_Holds.mono : ∀ a0 a1 a2 k, LeO (cnf_Holds.f k a0 a1 a2) (cnf_Holds.f (k + 1) a0 a1 a2) := by
  intro a0 a1 a2 k
  have ih0 := cnf_Holds.mono_l k
  unfold cnf_Holds.f
  repeat' first
      | (with_reducible exact ih0 _ _ _ _)
      | (with_reducible exact lit_Holds.mono _ _ _)
      | (with_reducible exact LeO.refl _)
      | (with_reducible exact LeO.none _)
      | (with_reducible refine LeO.ite ?_ ?_)
      | (with_reducible refine LeO.bind ?_ (fun _ => ?_))
      | exact ih0 _ _ _ _
      | exact lit_Holds.mono _ _ _
      | exact LeO.none _
      | refine LeO.ite ?_ ?_
      | refine LeO.bind ?_ (fun _ => ?_)
set_option maxHeartbeats 8000000 in
set_option maxRecDepth 100000 in
theorem cnf_Holds.calls (k : Nat) (a0_0 : Int) (A0_1 : Option Addr) (c0_1 : Nat) (l0_1 : List (List Int)) (A1 : Option Addr) (c1 : Nat) (l1 : List Bool) (r1 : Int) (r2 : Bool) (w : World) (hr0_1 : Kd.C (Kd.slice 3 (Kd.int .i64)) w A0_1 l0_1.length l0_1) (hc0_1 : l0_1.length ≤ c0_1) (hr1 : Kd.C Kd.bool w A1 l1.length l1) (hc1 : l1.length ≤ c1) (h : cnf_Holds.f k a0_0 l0_1 l1 = some (r1, r2)) :
    Calls Try.prog 64 #[.agg #[.int .i64 a0_0, .slice A0_1 l0_1.length c0_1], .slice A1 l1.length c1] w fun e w' => e = .returned (.tuple #[.int .i64 r1, .bool r2]) ∧ Below w.heap.size w w' := by
  have hu24 := Try.underlying24
  have HR0_1 := K0 hr0_1
  have HC0_1 := K0 hc0_1
  clear hr0_1 hc0_1
  have HR1 := K0 hr1
  have HC1 := K0 hc1
  clear hr1 hc1
  have HB := K0 (Below.refl w.heap.size w)
  have H : (cnf_Holds.l0 k l1 l0_1 (l0_1.length : Int) 0) = some (r1, r2) := h
  clear h
  have H' := K0 H
  clear H
  go_enter Try.func64, Try.ntmps64
  go_wp2_with (first | ((with_reducible refine gate_dst (N := 2) rfl ?_); refine box_event ?hg (N := 2) ?hd (cs := #[.int .i64 a0_0, .slice A0_1 l0_1.length c0_1]) (t := 24) ?hr ?_; (case hd => rfl); (case hg => rfl); (case hr => first | (go_simp; done) | (go_simp; rfl)); intro gb413 hg w3 hbox hb; have n0_ := K0 (below_step (by repeat (first | (with_reducible first | exact HB.out | apply below_alloc | apply pw_below_drewN | apply below_drew1) | exact HB.out)) hb); have n1_ := K0 (hbox); have n2_ := K0 ((by rw [hg]; exact (below_size (by repeat (first | (with_reducible first | exact HB.out | apply below_alloc | apply pw_below_drewN | apply below_drew1) | exact HB.out))) : w.heap.size ≤ gb413)); have n3_ := K0 ((by rw [hg]; exact (below_size (by repeat (first | (with_reducible first | exact HB.out | apply below_alloc | apply pw_below_drewN | apply below_drew1) | exact HB.out))) : w.heap.size ≤ gb413)); clear HB; have HB := n0_; have BK413 := n1_; have GW413 := n2_; have GE413 := n3_; clear n0_ n1_ n2_ n3_; clear hb hbox hg; have hcz4_0 : w3.cell? ⟨gb413, 0, none⟩ = some (.int .i64 a0_0) := (blk_cell BK413.out 0).trans rfl; have hcz4_1 : w3.cell? ⟨gb413, 1, none⟩ = some (.slice A0_1 l0_1.length c0_1) := (blk_cell BK413.out 1).trans rfl; have hfz4_0 := blk_frozen BK413.out 0; have hfz4_1 := blk_frozen BK413.out 1))
  go_loopg [11] k (fun kq v11 w' => ∃ (x11_1 : Int), v11 = .int .i64 x11_1 ∧ Aside0 (cnf_Holds.l0 kq l1 l0_1 (l0_1.length : Int) x11_1 = some (r1, r2)) ∧ Aside0 (kq ≤ k) ∧ Aside0 (w'.heap[gb413]? = some (.cells #[.int .i64 a0_0, (.slice A0_1 l0_1.length c0_1)] 24 (0, 0))) ∧ Aside0 (Below w.heap.size w w'))
  case atStart => exact ⟨(0), (by first | rfl | (simp; done) | (simp [*]; done)), H', ⟨Nat.le_refl _⟩, ⟨by (with_reducible repeat (first | refine blk_drewN ?_ _ | refine blk_drew ?_ | refine blk_alloc ?_ _)); exact BK413.out⟩, ⟨by repeat (first | (with_reducible first | exact HB.out | apply below_alloc | apply pw_below_drewN | apply below_drew1 | refine below_set ?_ GE413.out) | exact HB.out)⟩⟩
  case round =>
    clear H'
    try clear c1
    try clear p2
    try clear hcz4_0
    try clear hcz4_1
    try clear hfz4_0
    try clear hfz4_1
    obtain ⟨x11_1, rfl, HA, HK1, BK413, HB⟩ := hrel
    cases gk with
    | zero => exact absurd HA.out (by simp [cnf_Holds.l0])
    | succ k1 =>
      have H := HA.out
      clear HA
      simp only [cnf_Holds.l0] at H
      by_cases c5 : x11_1 < (l0_1.length : Int)
      · rw [if_pos c5] at H
        have c5b0 : decide (x11_1 < (l0_1.length : Int)) = true := decide_eq_true c5
        clear c5
        by_cases c6 : 0 ≤ x11_1
        · rw [if_pos c6] at H
          have c6b0 : decide (0 ≤ x11_1) = true := decide_eq_true c6
          clear c6
          by_cases c7 : x11_1 < (l0_1.length : Int)
          · rw [if_pos c7] at H
            have c7b0 : decide (x11_1 < (l0_1.length : Int)) = true := decide_eq_true c7
            clear c7
            replace H := Option.bind_eq_some_iff.mp H
            obtain ⟨t415, A80, H⟩ := H
            replace H : (if t415 = true then (cnf_Holds.l0 k1 l1 l0_1 (l0_1.length : Int) (wrap64 (x11_1 + 1))) else (some (x11_1, false))) = some (r1, r2) := H
            have A8 := K0 A80
            clear A80
            by_cases c9 : t415 = true
            · subst c9
              have H1 : (cnf_Holds.l0 k1 l1 l0_1 (l0_1.length : Int) (wrap64 (x11_1 + 1))) = some (r1, r2) := by rw [if_pos rfl] at H; exact H
              clear H
              have H := H1
              clear H1
              as_aux_lemma =>
                have H' := K0 H
                clear H
                have p414 : 0 ≤ (x11_1 : Int) := of_decide_eq_true (by first | (with_reducible assumption) | assumption)
                have q414 : x11_1 < (l0_1.length : Int) := of_decide_eq_true (by first | (with_reducible assumption) | assumption)
                obtain ⟨ad414, A414_0, c414_0, e414, hx414_0, hl414_0, hi414_0⟩ := at_L3 HR0_1.out x11_1 p414 q414
                cases e414
                replace hx414_0 := (HB.out.cell (World.block_lt_of_cell? w _ hx414_0)).trans hx414_0
                have HR414_0 := K0 hi414_0
                have HC414_0 := K0 hl414_0
                clear hi414_0 hl414_0
                replace p414 := eq_true p414
                replace q414 := eq_true q414
                go_wp2_with (first | ((with_reducible refine gate_callee (f := 71) rfl ?_); refine goesL_ (some 18) rfl rfl Try.func71 (by kernel_rfl) rfl #[.slice A414_0 (rd_L3 l0_1 x11_1).length c414_0, .slice A1 l1.length c1] rfl (by (try simp only [List.map_toArray, List.map_cons, List.map_nil]); first | done | rfl | (simp only [List.length_drop, List.length_take]; rfl)) ?_; (with_reducible refine (lit_Holds.calls k1 _ _ (rd_L3 l0_1 x11_1) _ _ l1 true _ ?side1 ?side2 ?side3 ?side4 A8.out).mono ?_); (case side1 => repeat (first | exact (Kd.C_below HR414_0.out HB.out) | (with_reducible refine Kd.C_alloc ?_ _) | (with_reducible refine Kd.C_drewN ?_ _) | (with_reducible refine Kd.C_drew ?_))); (case side2 => exact HC414_0.out); (case side3 => repeat (first | exact (Kd.C_below HR1.out HB.out) | (with_reducible refine Kd.C_alloc ?_ _) | (with_reducible refine Kd.C_drewN ?_ _) | (with_reducible refine Kd.C_drew ?_))); (case side4 => exact HC1.out); rintro e w' ⟨rfl, ⟨nd, rfl⟩⟩; refine ⟨_, rfl, ?_⟩))
                go_roundg k1
                case measure => have := HK1.out; omega
                case rel => exact ⟨(wrap64 (x11_1 + 1)), (by first | rfl | (simp; done) | (simp [*]; done)), H', ⟨by have := HK1.out; omega⟩, ⟨by (with_reducible repeat (first | refine blk_drewN ?_ _ | refine blk_drew ?_ | refine blk_alloc ?_ _)); exact BK413.out⟩, ⟨by repeat (first | (with_reducible first | exact HB.out | apply below_alloc | apply pw_below_drewN | apply below_drew1 | refine below_set ?_ GE413.out) | exact HB.out)⟩⟩
            · replace c9 := Bool.eq_false_iff.mpr c9
              subst c9
              have H1 : (some (x11_1, false)) = some (r1, r2) := by rw [if_neg (show ¬ (false = true) by decide)] at H; exact H
              clear H
              have H := H1
              clear H1
              as_aux_lemma =>
                simp only [Option.some.injEq, Prod.mk.injEq] at H
                obtain ⟨rfl, rfl⟩ := H
                have p414 : 0 ≤ (x11_1 : Int) := of_decide_eq_true (by first | (with_reducible assumption) | assumption)
                have q414 : x11_1 < (l0_1.length : Int) := of_decide_eq_true (by first | (with_reducible assumption) | assumption)
                obtain ⟨ad414, A414_0, c414_0, e414, hx414_0, hl414_0, hi414_0⟩ := at_L3 HR0_1.out x11_1 p414 q414
                cases e414
                replace hx414_0 := (HB.out.cell (World.block_lt_of_cell? w _ hx414_0)).trans hx414_0
                have HR414_0 := K0 hi414_0
                have HC414_0 := K0 hl414_0
                clear hi414_0 hl414_0
                replace p414 := eq_true p414
                replace q414 := eq_true q414
                go_wp2_with (first | ((with_reducible refine gate_callee (f := 71) rfl ?_); refine goesL_ (some 18) rfl rfl Try.func71 (by kernel_rfl) rfl #[.slice A414_0 (rd_L3 l0_1 x11_1).length c414_0, .slice A1 l1.length c1] rfl (by (try simp only [List.map_toArray, List.map_cons, List.map_nil]); first | done | rfl | (simp only [List.length_drop, List.length_take]; rfl)) ?_; (with_reducible refine (lit_Holds.calls k1 _ _ (rd_L3 l0_1 x11_1) _ _ l1 false _ ?side1 ?side2 ?side3 ?side4 A8.out).mono ?_); (case side1 => repeat (first | exact (Kd.C_below HR414_0.out HB.out) | (with_reducible refine Kd.C_alloc ?_ _) | (with_reducible refine Kd.C_drewN ?_ _) | (with_reducible refine Kd.C_drew ?_))); (case side2 => exact HC414_0.out); (case side3 => repeat (first | exact (Kd.C_below HR1.out HB.out) | (with_reducible refine Kd.C_alloc ?_ _) | (with_reducible refine Kd.C_drewN ?_ _) | (with_reducible refine Kd.C_drew ?_))); (case side4 => exact HC1.out); rintro e w' ⟨rfl, ⟨nd, rfl⟩⟩; refine ⟨_, rfl, ?_⟩))
                go_ret2
                exact ⟨by first | rfl | (simp [errW_none, errW_some] <;> rfl) | (simp [*, errW_none, errW_some] <;> rfl), by repeat (first | (with_reducible first | exact HB.out | apply below_alloc | apply pw_below_drewN | apply below_drew1 | refine below_set ?_ GE413.out) | exact HB.out)⟩
          · rw [if_neg c7] at H
            exact absurd H (by simp)
        · rw [if_neg c6] at H
          exact absurd H (by simp)
      · rw [if_neg c5] at H
        have c5b0 : decide (x11_1 < (l0_1.length : Int)) = false := decide_eq_false c5
        clear c5
        as_aux_lemma =>
          simp only [Option.some.injEq, Prod.mk.injEq] at H
          obtain ⟨rfl, rfl⟩ := H
          go_wp2
          go_ret2
          exact ⟨by first | rfl | (simp [errW_none, errW_some] <;> rfl) | (simp [*, errW_none, errW_some] <;> rfl), by repeat (first | (with_reducible first | exact HB.out | apply below_alloc | apply pw_below_drewN | apply below_drew1 | refine below_set ?_ GE413.out) | exact HB.out)⟩
section
open Go.Shelf
attribute [local go_sem] Oper.semAt_some
def table_All.l0 : Nat → Int → List (List Int) → Int → Int → Option (List (List Bool))
  | 0, _, _, _, _ => none
  | k + 1, n, l, x12, x13 => if x13 < x12 then ((table_Values.f k n x13).bind fun v => ((cnf_Holds.f k n l v).bind fun b => ((table_All.l0 k n l x12 (wrap64 (x13 + 1))).bind fun r => (some (if b.2 = true then v :: r else r))))) else (some [])
def table_All.f (k : Nat) (a0_0 : Int) (l0_1 : List (List Int)) : Option (List (List Bool)) :=
  (table_wrong.f k a0_0 l0_1).bind fun e => if e = 0 then (if 0 ≤ a0_0 then table_All.l0 k a0_0 l0_1 (shl .i64 1 a0_0) 0 else none) else (some [])
set_option maxRecDepth 100000 in
set_option maxHeartbeats 2000000 in
theorem table_All.seq (k : Nat) (a0_0 : Int) (l0_1 : List (List Int)) (items : List (List Bool)) (h : table_All.f k a0_0 l0_1 = some items) (B : Nat) (A : Option Addr) (c : Nat) (w : World)
    (hb : w.heap[B]? = some (.cells #[.int .i64 a0_0, .slice A l0_1.length c] 24 (0, 0))) (wc : World) (hbc : Below wc.heap.size wc w) (hr : Kd.C (Kd.slice 3 (Kd.int .i64)) wc A l0_1.length l0_1) (hc : l0_1.length ≤ c) :
    SeqW Try.prog 62 #[.pointer (some ⟨B, 0, none⟩)] (fun W v b => Kd.R Kd.bool 4 W w.heap.size (fun _ => True) v b) items wc.heap.size B w := by
  intro l J Jx W hW hJ hJx hY h0
  unfold table_All.f at h
  obtain ⟨e, he, h2⟩ := Option.bind_eq_some_iff.mp h
  have hB : B < w.heap.size := (Array.getElem?_eq_some_iff.1 hb).1
  have hbW := (hW.block _ hB).trans hb
  have hcW : Below wc.heap.size wc W := hbc.trans (hW.mono hbc.size)
  have hrW := Kd.C_below hr hcW
  have hc0 : W.cell? ⟨B, 0, none⟩ = some (.int .i64 a0_0) := by simp [World.cell?, hbW]
  have hc1 : W.cell? ⟨B, 1, none⟩ = some (.slice A l0_1.length c) := by simp [World.cell?, hbW]
  have HE := K0 he
  have H := K0 h2
  have HR := K0 hrW
  have HY := K0 hY
  have HJ := K0 hJ
  have HJx := K0 hJx
  have H0 := K0 h0
  have HC := K0 hc
  clear he h2 hrW hY hJ hJx h0 hc
  have huC := Try.underlying24
  refine callsIn_of_wp Try.func62 rfl trivial ?_ rfl
  simp only [Try.ntmps62, List.size_toArray, List.length_cons, List.length_nil, Nat.reduceAdd, Nat.reduceSub, Array.replicate_succ, Array.replicate_zero, List.push_toArray, List.append_toArray, List.nil_append, List.cons_append]
  clear h
  by_cases e0 : e = 0
  · subst e0
    replace H : (if 0 ≤ a0_0 then table_All.l0 k a0_0 l0_1 (shl .i64 1 a0_0) 0 else none) = some items := by have := H.out; rwa [if_pos rfl] at this
    by_cases n0 : 0 ≤ a0_0
    · rw [if_pos n0] at H
      obtain ⟨N, hN⟩ : ∃ N : Int, shl .i64 1 a0_0 = N := ⟨_, rfl⟩
      rw [hN] at H
      have hN1 : wrap64 (1 * 2 ^ min a0_0.toNat 64) = N := (i64_w _).symm.trans hN
      have hN2 : wrap64 (2 ^ min a0_0.toNat 64) = N := by rw [Int.one_mul] at hN1; exact hN1
      have hNb : N ≤ 9223372036854775807 := by rw [← hN2]; unfold wrap64; omega
      clear hN1
      clear hN
      have H := K0 H
      gi_wp2_with (refine ⟨trivial, rfl, ?_⟩; gi_at_call 52; refine (callsIn_wide.2 (table_wrong.calls k a0_0 A c l0_1 0 _ HR.out HC.out HE.out)).mono ?_; rintro e' w' ⟨rfl, hb1⟩; have g0 := pw_cell_below hb1 hc0; have g1 := pw_cell_below hb1 hc1)
      rw [hN2]
      clear hN2
      gi_loopw [13] (fun c13 wr => ∃ (kq : Nat) (x13 : Int) (pre rest : List (List Bool)), c13 = .int .i64 x13 ∧ 0 ≤ x13 ∧ Aside0 (table_All.l0 kq a0_0 l0_1 N x13 = some rest) ∧ Aside0 (items = pre ++ rest) ∧ Aside0 (J pre wr) ∧ Aside0 (Below wc.heap.size wc wr) ∧ Aside0 (w.heap.size ≤ wr.heap.size ∧ wr.heap[B]? = some (.cells #[.int .i64 a0_0, .slice A l0_1.length c] 24 (0, 0)))) (fun c13 _ => (N - intOf c13).toNat)
      case atStart => exact ⟨k, 0, [], items, rfl, by omega, H, ⟨rfl⟩, ⟨HJ.out _ _ _ H0.out hb1⟩, ⟨hcW.trans (hb1.mono hcW.size)⟩, ⟨Nat.le_trans hW.size hb1.size, (hb1.block _ (Array.getElem?_eq_some_iff.1 hbW).1).trans hbW⟩⟩
      case round =>
        obtain ⟨kq, x13, pre, rest, rfl, hx0, HA, HP, HJp, HBw, HBx⟩ := hrel
        cases kq with
        | zero => exact absurd HA.out (by simp [table_All.l0])
        | succ kq =>
          have H := HA.out
          clear HA
          simp only [table_All.l0] at H
          have q0 : wr.cell? ⟨B, 0, none⟩ = some (.int .i64 a0_0) := blk_cell HBx.out.2 0
          have q1 : wr.cell? ⟨B, 1, none⟩ = some (.slice A l0_1.length c) := blk_cell HBx.out.2 1
          have HR' := K0 (Kd.C_below hr HBw.out)
          by_cases hlt : x13 < N
          · rw [if_pos hlt] at H
            obtain ⟨v, hv, H⟩ := Option.bind_eq_some_iff.mp H
            obtain ⟨⟨b1, b2⟩, hbb, H⟩ := Option.bind_eq_some_iff.mp H
            obtain ⟨r, hr', H⟩ := Option.bind_eq_some_iff.mp H
            have HV := K0 hv
            have HBB := K0 hbb
            have HRR := K0 hr'
            have HI := K0 (Option.some.inj H)
            clear hv hbb hr' H
            have hl0 : decide (x13 < N) = true := decide_eq_true hlt
            rw [show wrap64 (x13 + 1) = x13 + 1 from by unfold wrap64; omega] at HRR
            have HRR0 := HRR
            have hx1 : wrap64 (x13 + 1) = x13 + 1 := by unfold wrap64; omega
            cases b2 with
            | false =>
              have HI2 : r = rest := by simpa using HI.out
              subst HI2
              gi_wp2_with (first | (refine ⟨trivial, rfl, ?_⟩; gi_at_call 63; refine (callsIn_wide.2 (table_Values.calls kq a0_0 x13 v _ HV.out)).mono ?_; rintro e' w1 ⟨v0, rfl, hR, hb2⟩; have p0 := pw_cell_below hb2 q0; have p1 := pw_cell_below hb2 q1; obtain ⟨A1, c1, rfl, hc1', hrd⟩ := Kd.R_reads hR; have HRd := K0 hrd; have HC1 := K0 hc1'; have HR2 := K0 hR; clear hR hrd hc1') | (refine ⟨trivial, rfl, ?_⟩; gi_at_call 64; refine (callsIn_wide.2 (cnf_Holds.calls kq a0_0 A c l0_1 A1 c1 v b1 false _ (Kd.C_below HR'.out hb2) HC.out HRd.out HC1.out HBB.out)).mono ?_; rintro e' w2 ⟨rfl, hb3⟩))
              refine ⟨(fun f h => by cases h), ?_⟩
              gi_wp2
              go_roundw
              case rel => exact ⟨kq, x13 + 1, pre, r, rfl, by omega, HRR0, HP, ⟨HJ.out _ _ _ HJp.out (hb2.trans (hb3.mono hb2.size))⟩, ⟨HBw.out.trans ((hb2.trans (hb3.mono hb2.size)).mono HBw.out.size)⟩, ⟨Nat.le_trans HBx.out.1 (Nat.le_trans hb2.size hb3.size), ((hb2.trans (hb3.mono hb2.size)).block _ (Array.getElem?_eq_some_iff.1 HBx.out.2).1).trans HBx.out.2⟩⟩
              case measure => simp [intOf]; omega
            | true =>
              have HI2 : v :: r = rest := by simpa using HI.out
              have hpre : pre ++ [v] <+: items := ⟨r, by rw [HP.out, ← HI2]; simp⟩
              gi_wp2_with (first | (refine ⟨trivial, rfl, ?_⟩; gi_at_call 63; refine (callsIn_wide.2 (table_Values.calls kq a0_0 x13 v _ HV.out)).mono ?_; rintro e' w1 ⟨v0, rfl, hR, hb2⟩; have p0 := pw_cell_below hb2 q0; have p1 := pw_cell_below hb2 q1; obtain ⟨A1, c1, rfl, hc1', hrd⟩ := Kd.R_reads hR; have HRd := K0 hrd; have HC1 := K0 hc1'; have HR2 := K0 hR; clear hR hrd hc1') | (refine ⟨trivial, rfl, ?_⟩; gi_at_call 64; refine (callsIn_wide.2 (cnf_Holds.calls kq a0_0 A c l0_1 A1 c1 v b1 true _ (Kd.C_below HR'.out hb2) HC.out HRd.out HC1.out HBB.out)).mono ?_; rintro e' w2 ⟨rfl, hb3⟩; obtain ⟨fn, tmps, assign, body, hy, hRn⟩ := HY.out pre v (.slice A1 v.length c1) w2 hpre (HJ.out _ _ _ HJp.out (hb2.trans (hb3.mono hb2.size))) (Kd.R_lower (Kd.R_below HR2.out hb3) HBx.out.1)))
              refine ⟨rfl, hRn.mono ?_⟩
              rintro e' w3 (⟨rfl, hJ3, hk3⟩ | ⟨rfl, hJ3⟩)
              · gi_wp2
                go_roundw
                case rel => exact ⟨kq, x13 + 1, pre ++ [v], r, rfl, by omega, HRR0, ⟨by rw [HP.out, ← HI2]; simp⟩, ⟨hJ3⟩, ⟨HBw.out.trans (((hb2.trans (hb3.mono hb2.size)).mono HBw.out.size).trans hk3.1)⟩, ⟨Nat.le_trans HBx.out.1 (Nat.le_trans hb2.size (Nat.le_trans hb3.size hk3.1.size)), hk3.2.trans (((hb2.trans (hb3.mono hb2.size)).block _ (Array.getElem?_eq_some_iff.1 HBx.out.2).1).trans HBx.out.2)⟩⟩
                case measure => simp [intOf]; omega
              · gi_wp2
                refine bodyPost_ret (results_none rfl _ _ _) rfl ?_
                exact ⟨⟨_, rfl⟩, .inr ⟨pre, v, hpre, hJ3⟩⟩
          · rw [if_neg hlt] at H
            have hr0 : rest = [] := by simpa using H.symm
            have hl0 : decide (x13 < N) = false := decide_eq_false hlt
            subst hr0
            gi_wp2
            go_end0
            refine ⟨⟨_, rfl⟩, .inl ?_⟩
            rw [HP.out, List.append_nil]
            exact HJp.out
    · rw [if_neg n0] at H
      cases H
  · replace H : items = [] := by have := H.out; rw [if_neg e0] at this; simpa using this.symm
    have c1 : (e != 0) = true := by simpa using e0
    have c2 : (e == 0) = false := by simpa using e0
    clear e0
    gi_wp2_with (refine ⟨trivial, rfl, ?_⟩; gi_at_call 52; refine (callsIn_wide.2 (table_wrong.calls k a0_0 A c l0_1 e _ HR.out HC.out HE.out)).mono ?_; rintro e' w' ⟨rfl, hb1⟩)
    refine bodyPost_ret (results_none rfl _ _ _) rfl ?_
    refine ⟨⟨_, rfl⟩, .inl ?_⟩
    rw [H]
    exact HJ.out _ _ _ H0.out hb1
theorem table_All.mono_l : ∀ k, (∀ y0 y1 y2 y3, LeO (table_All.l0 k y0 y1 y2 y3) (table_All.l0 (k + 1) y0 y1 y2 y3))
  | 0 => fun _ _ _ _ r h => by simp [table_All.l0] at h
  | k + 1 => by
    have ih0 := table_All.mono_l k
    intro y0 y1 y2 y3
    unfold table_All.l0
    repeat' first
      | (with_reducible exact ih0 _ _ _ _)
      | (with_reducible exact cnf_Holds.mono _ _ _ _)
      | (with_reducible exact table_Values.mono _ _ _)
      | (with_reducible exact LeO.refl _)
      | (with_reducible exact LeO.none _)
      | (with_reducible refine LeO.ite ?_ ?_)
      | (with_reducible refine LeO.bind ?_ (fun _ => ?_))
theorem table_All.mono : ∀ a0_0 l0_1 k, LeO (table_All.f k a0_0 l0_1) (table_All.f (k + 1) a0_0 l0_1) := by
  intro a0_0 l0_1 k
  have ih0 := table_All.mono_l k
  unfold table_All.f
  repeat' first
      | (with_reducible exact ih0 _ _ _ _)
      | (with_reducible exact table_wrong.mono _ _ _)
      | (with_reducible exact LeO.refl _)
      | (with_reducible exact LeO.none _)
      | (with_reducible refine LeO.ite ?_ ?_)
      | (with_reducible refine LeO.bind ?_ (fun _ => ?_))
set_option maxHeartbeats 1000000 in
theorem table_All.callsIn (a0_0 : Int) (A : Option Addr) (c n : Nat) (w : World) :
    CallsIn Fence.wide 0 Try.prog 51 #[.agg #[.int .i64 a0_0, .slice A n c]] w fun e w' =>
      e = .returned (.func (.func 62) #[] #[.pointer (some ⟨w.heap.size, 0, none⟩)]) ∧ w' = w.alloc (.cells #[.int .i64 a0_0, .slice A n c] 24) := by
  have huC := Try.underlying24
  refine callsIn_of_wp Try.func51 rfl trivial ?_ rfl
  simp only [Try.ntmps51, List.size_toArray, List.length_cons, List.length_nil, Nat.reduceAdd, Nat.reduceSub, Array.replicate_succ, Array.replicate_zero, List.push_toArray, List.append_toArray, List.nil_append, List.cons_append]
  gi_wp2
  go_ret
  exact ⟨rfl, rfl⟩
end
section
open Go.Shelf
attribute [local go_sem] Oper.semAt_some
def table_First.f (k : Nat) (a0_0 : Int) (l0_1 : List (List Int)) : Option (List Bool × Bool × Int) :=
  (table_All.f k a0_0 l0_1).bind fun l => match l with
    | [] => (table_wrong.f k a0_0 l0_1).bind fun e => some ([], false, e)
    | v :: _ => some (v, true, 0)
set_option maxRecDepth 100000 in
set_option maxHeartbeats 2000000 in
theorem table_First.calls (k : Nat) (a0_0 : Int) (A0_1 : Option Addr) (c0_1 : Nat) (l0_1 : List (List Int)) (r1 : List Bool) (r2 : Bool) (r3 : Int) (w : World)
    (hr0_1 : Kd.C (Kd.slice 3 (Kd.int .i64)) w A0_1 l0_1.length l0_1) (hc0_1 : l0_1.length ≤ c0_1) (h : table_First.f k a0_0 l0_1 = some (r1, r2, r3)) :
    Calls Try.prog 38 #[.agg #[.int .i64 a0_0, .slice A0_1 l0_1.length c0_1]] w fun e w' => ∃ v0_ : Value, e = .returned (.tuple #[v0_, .bool r2, .int .i64 r3]) ∧ Kd.R Kd.bool 4 w' w.heap.size (fun _ => True) v0_ r1 ∧ Below w.heap.size w w' := by
  unfold table_First.f at h
  obtain ⟨items, hit, h⟩ := Option.bind_eq_some_iff.mp h
  have HIT := K0 hit; have H := K0 h; have HR := K0 hr0_1; have HC := K0 hc0_1; clear hit h hr0_1 hc0_1
  have huC := Try.underlying24
  refine (callsIn_wide (n := 0)).1 ?_
  refine callsIn_of_wp_marks Try.func38 rfl trivial ?_ rfl
  simp only [Try.ntmps38, List.size_toArray, List.length_cons, List.length_nil, Nat.reduceAdd, Nat.reduceSub, Array.replicate_succ, Array.replicate_zero, List.push_toArray, List.append_toArray, List.nil_append, List.cons_append]
  gi_wp2_with (refine ⟨trivial, rfl, ?_⟩; gi_at_call 51; refine (table_All.callsIn a0_0 A0_1 c0_1 l0_1.length _).mono ?_; rintro e' w' ⟨rfl, rfl⟩)
  obtain ⟨W0, hW0⟩ : ∃ W0 : World, (((((w.alloc (.cells #[.int .i64 a0_0, .slice A0_1 l0_1.length c0_1] 24)).alloc (.cells #[.slice none 0 0] 55)).alloc (.cells #[.bool false] 4)).alloc (.cells #[.int .i64 0] 30)).alloc (.cells #[.int .i64 a0_0, .slice A0_1 l0_1.length c0_1] 24)) = W0 := ⟨_, rfl⟩
  have k0 : W0.heap[w.heap.size]? = some (.cells #[.int .i64 a0_0, .slice A0_1 l0_1.length c0_1] 24 (0, 0)) := by rw [← hW0]; exact blk_alloc (blk_alloc (blk_alloc (blk_alloc (blk_new w _) _) _) _) _
  have k1 : W0.heap[w.heap.size + 1]? = some (.cells #[.slice none 0 0] 55 (0, 0)) := by
    rw [← hW0]; refine blk_alloc (blk_alloc (blk_alloc ?_ _) _) _; have := blk_new (w.alloc (.cells #[.int .i64 a0_0, .slice A0_1 l0_1.length c0_1] 24)) (.cells #[.slice none 0 0] 55); rwa [World.size_alloc] at this
  have k2 : W0.heap[w.heap.size + 1 + 1]? = some (.cells #[.bool false] 4 (0, 0)) := by
    rw [← hW0]; refine blk_alloc (blk_alloc ?_ _) _; have := blk_new ((w.alloc (.cells #[.int .i64 a0_0, .slice A0_1 l0_1.length c0_1] 24)).alloc (.cells #[.slice none 0 0] 55)) (.cells #[.bool false] 4); rwa [World.size_alloc, World.size_alloc] at this
  have k3 : W0.heap[w.heap.size + 1 + 1 + 1]? = some (.cells #[.int .i64 0] 30 (0, 0)) := by
    rw [← hW0]; refine blk_alloc ?_ _; have := blk_new (((w.alloc (.cells #[.int .i64 a0_0, .slice A0_1 l0_1.length c0_1] 24)).alloc (.cells #[.slice none 0 0] 55)).alloc (.cells #[.bool false] 4)) (.cells #[.int .i64 0] 30); rwa [World.size_alloc, World.size_alloc, World.size_alloc] at this
  have k4 : W0.heap[w.heap.size + 1 + 1 + 1 + 1]? = some (.cells #[.int .i64 a0_0, .slice A0_1 l0_1.length c0_1] 24 (0, 0)) := by
    rw [← hW0]; have := blk_new ((((w.alloc (.cells #[.int .i64 a0_0, .slice A0_1 l0_1.length c0_1] 24)).alloc (.cells #[.slice none 0 0] 55)).alloc (.cells #[.bool false] 4)).alloc (.cells #[.int .i64 0] 30)) (.cells #[.int .i64 a0_0, .slice A0_1 l0_1.length c0_1] 24); rwa [World.size_alloc, World.size_alloc, World.size_alloc, World.size_alloc] at this
  have kB : Below w.heap.size w W0 := by rw [← hW0]; exact below_alloc (below_alloc (below_alloc (below_alloc (below_alloc (Below.refl _ w) _) _) _) _) _
  have kS : W0.heap.size = w.heap.size + 1 + 1 + 1 + 1 + 1 := by rw [← hW0]; simp
  rw [hW0]
  clear hW0; have KB := K0 kB; have KS := K0 kS; clear kB kS
  refine range_wide (p := 8) (gf := 62) (lb := #[.pointer (some ⟨w.heap.size + 1 + 1 + 1 + 1, 0, none⟩)]) rfl (enters_of Try.func62 (by kernel_rfl) rfl)
    (table_All.seq k a0_0 l0_1 items HIT.out (w.heap.size + 1 + 1 + 1 + 1) A0_1 c0_1 W0 k4 w KB.out HR.out HC.out) KB.out.size (by have := KS.out; omega)
    (fun W r o o' v b hi hr ho => Kd_R_putObj hi o' hr ho)
    (fun pre W => pre = [] ∧ W.heap[w.heap.size]? = some (.cells #[.int .i64 a0_0, .slice A0_1 l0_1.length c0_1] 24 (0, 0)) ∧ W.heap[w.heap.size + 1]? = some (.cells #[.slice none 0 0] 55 (0, 0)) ∧ W.heap[w.heap.size + 1 + 1]? = some (.cells #[.bool false] 4 (0, 0)) ∧ W.heap[w.heap.size + 1 + 1 + 1]? = some (.cells #[.int .i64 0] 30 (0, 0)) ∧ Below w.heap.size w W)
    (fun cd pre W => cd = .ret ∧ ∃ b v0, pre = [b] ∧ W.heap[w.heap.size + 1]? = some (.cells #[v0] 55 (0, 0)) ∧ Kd.R Kd.bool 4 W w.heap.size (fun _ => True) v0 b ∧ W.heap[w.heap.size + 1 + 1]? = some (.cells #[.bool true] 4 (0, 0)) ∧ W.heap[w.heap.size + 1 + 1 + 1]? = some (.cells #[.int .i64 0] 30 (0, 0)) ∧ Below w.heap.size w W)
    (fun pre A B row h hg hr => ⟨h.1, blk_ownG h.2.1 hg hr, blk_ownG h.2.2.1 hg hr, blk_ownG h.2.2.2.1 hg hr, blk_ownG h.2.2.2.2.1 hg hr, below_ownG h.2.2.2.2.2 (Nat.le_refl _) (by have := KS.out; omega) hg hr⟩)
    (fun cd pre A B row h hg hr => by
      obtain ⟨h1, b, v0, h2, h3, h4, h5, h6, h7⟩ := h
      exact ⟨h1, b, v0, h2, blk_ownG h3 hg hr, Kd_R_ownG h4 hg hr, blk_ownG h5 hg hr, blk_ownG h6 hg hr, below_ownG h7 (Nat.le_refl _) (by have := KS.out; omega) hg hr⟩)
    ⟨rfl, k0, k1, k2, k3, KB.out⟩
    (fun v => { tmps := #[.agg #[.int .i64 a0_0, .slice A0_1 l0_1.length c0_1], .pointer (some ⟨w.heap.size, 0, none⟩), .pointer (some ⟨w.heap.size + 1, 0, none⟩), .pointer (some ⟨w.heap.size + 1 + 1, 0, none⟩), .pointer (some ⟨w.heap.size + 1 + 1 + 1, 0, none⟩), v, .agg #[.int .i64 a0_0, .slice A0_1 l0_1.length c0_1], .func (.func 62) #[] #[.pointer (some ⟨w.heap.size + 1 + 1 + 1 + 1, 0, none⟩)], v, undef, undef, undef], defers := [] })
    ?assign ?body ?done ?stop
  case assign =>
    intro l v W K hK
    gi_wp2
    exact hK
  case body =>
    rintro l pre b v W hpre ⟨rfl, j0, j1, j2, j3, jB⟩ hit
    obtain ⟨A1, c1, rfl, hc1, hrd⟩ := Kd.R_reads hit
    have JB := K0 jB; have HIt := K0 hit; clear jB hit hrd
    have g1 := blk_cell j1 0
    have f1 := blk_frozen j1 0
    have g2 := blk_cell j2 0
    have f2 := blk_frozen j2 0
    have g3 := blk_cell j3 0
    have f3 := blk_frozen j3 0
    simp only [List.getElem?_toArray, List.getElem?_cons_zero] at g1 g2 g3
    have J1 := K0 j1; have J2 := K0 j2; have J3 := K0 j3; clear j0 j1 j2 j3 k0 k1 k2 k3 k4
    gi_wp2
    have hR5 : Kd.R Kd.bool 4 W w.heap.size (fun k => w.heap.size + 5 ≤ k) (.slice A1 b.length c1) b := Kd.R_lower (Kd.R_mono (Kd.R_bound HIt.out) (fun k hk => by have := hk.2.1; have := KS.out; omega)) (by have := KS.out; omega)
    refine ⟨((KeepsOthers.setCell _ _ _).trans (KeepsOthers.setCell _ _ _)).trans (KeepsOthers.setCell _ _ _), rfl, b, .slice A1 b.length c1, rfl, ?_, ?_, ?_, ?_, ?_⟩
    · exact blk_far (blk_far (blk_put J1.out 0 _ rfl) (by simp) _) (by first | (simp; done) | (simp; omega)) _
    · exact Kd.R_mono (Kd.R_far (Kd.R_far (Kd.R_far hR5 (fun k hk => by simp; omega) _) (fun k hk => by simp; omega) _) (fun k hk => by simp; omega) _) (fun _ _ => trivial)
    · exact blk_far (blk_put (blk_far J2.out (by simp) _) 0 _ rfl) (by simp) _
    · exact blk_put (blk_far (blk_far J3.out (by first | (simp; done) | (simp; omega)) _) (by simp) _) 0 _ rfl
    · exact ((JB.out.setCell (p := ⟨w.heap.size + 1, 0, none⟩) (by simp) _).setCell (p := ⟨w.heap.size + 1 + 1, 0, none⟩) (by first | (simp; done) | (simp; omega)) _).setCell (p := ⟨w.heap.size + 1 + 1 + 1, 0, none⟩) (by first | (simp; done) | (simp; omega)) _
  case done =>
    rintro D W hD ⟨h0, j0, j1, j2, j3, jB⟩ hK
    subst h0
    obtain ⟨e, he, hh⟩ := Option.bind_eq_some_iff.mp H.out
    have HE := K0 he
    simp only [Option.some.injEq, Prod.mk.injEq] at hh
    obtain ⟨rfl, rfl, rfl⟩ := hh
    have JB := K0 jB; clear he jB k0 k1 k2 k3 k4; have HK := K0 hK; clear hK
    have g0 := blk_cell j0 0
    have g01 := blk_cell j0 1
    simp only [List.getElem?_toArray, List.getElem?_cons_zero, List.getElem?_cons_succ] at g0 g01
    have J0 := K0 j0; have J1 := K0 j1; have J2 := K0 j2; have J3 := K0 j3; clear j0 j1 j2 j3
    gi_wp2_with (refine ⟨trivial, rfl, ?_⟩; gi_at_call 52; refine (callsIn_wide.2 (table_wrong.calls k a0_0 A0_1 c0_1 l0_1 e _ (Kd.C_below HR.out JB.out) HC.out HE.out)).mono ?_; rintro e' w1 ⟨rfl, hb1⟩; have g1 := blk_cell (blk_below J1.out hb1) 0; have f1 := blk_frozen (blk_below J1.out hb1) 0; have g2 := blk_cell (blk_below J2.out hb1) 0; have f2 := blk_frozen (blk_below J2.out hb1) 0; have g3 := blk_cell (blk_below J3.out hb1) 0; have f3 := blk_frozen (blk_below J3.out hb1) 0; simp only [List.getElem?_toArray, List.getElem?_cons_zero] at g1 g2 g3)
    have hk3 : KeepsOthers w1 (((w1.setCell ⟨w.heap.size + 1, 0, none⟩ (.slice none 0 0)).setCell ⟨w.heap.size + 1 + 1, 0, none⟩ (.bool false)).setCell ⟨w.heap.size + 1 + 1 + 1, 0, none⟩ (.int .i64 e)) := ((KeepsOthers.setCell _ _ _).trans (KeepsOthers.setCell _ _ _)).trans (KeepsOthers.setCell _ _ _)
    have hKf := hk3.same D _ (blk_below HK.out hb1) rfl
    refine ⟨by simp, .inl ⟨_, _, rfl, run_takeDeferred hKf, ?_⟩⟩
    have z1 : ∀ o', ((((w1.setCell ⟨w.heap.size + 1, 0, none⟩ (.slice none 0 0)).setCell ⟨w.heap.size + 1 + 1, 0, none⟩ (.bool false)).setCell ⟨w.heap.size + 1 + 1 + 1, 0, none⟩ (.int .i64 e)).putObj D o').heap[w.heap.size + 1]? = some (.cells #[.slice none 0 0] 55 (0, 0)) := fun o' => (World.putObj_heap_other (by have := KS.out; omega)).trans (blk_far (blk_far (blk_put (blk_below J1.out hb1) 0 _ rfl) (by simp) _) (by first | (simp; done) | (simp; omega)) _)
    have z2 : ∀ o', ((((w1.setCell ⟨w.heap.size + 1, 0, none⟩ (.slice none 0 0)).setCell ⟨w.heap.size + 1 + 1, 0, none⟩ (.bool false)).setCell ⟨w.heap.size + 1 + 1 + 1, 0, none⟩ (.int .i64 e)).putObj D o').heap[w.heap.size + 1 + 1]? = some (.cells #[.bool false] 4 (0, 0)) := fun o' => (World.putObj_heap_other (by have := KS.out; omega)).trans (blk_far (blk_put (blk_far (blk_below J2.out hb1) (by simp) _) 0 _ rfl) (by simp) _)
    have z3 : ∀ o', ((((w1.setCell ⟨w.heap.size + 1, 0, none⟩ (.slice none 0 0)).setCell ⟨w.heap.size + 1 + 1, 0, none⟩ (.bool false)).setCell ⟨w.heap.size + 1 + 1 + 1, 0, none⟩ (.int .i64 e)).putObj D o').heap[w.heap.size + 1 + 1 + 1]? = some (.cells #[.int .i64 e] 30 (0, 0)) := fun o' => (World.putObj_heap_other (by have := KS.out; omega)).trans (blk_put (blk_far (blk_far (blk_below J3.out hb1) (by first | (simp; done) | (simp; omega)) _) (by simp) _) 0 _ rfl)
    have y1 := blk_cell (z1 (.deferred none)) 0
    have y2 := blk_cell (z2 (.deferred none)) 0
    have y3 := blk_cell (z3 (.deferred none)) 0
    simp only [List.getElem?_toArray, List.getElem?_cons_zero] at y1 y2 y3
    refine ⟨.tuple #[.slice none 0 0, .bool false, .int .i64 e], by simp [results, Try.results38, go_sem, y1, y2, y3], .slice none 0 0, rfl, Kd.R_nil _ _ _ _ _, ?_⟩
    have hB2 : Below w.heap.size w (((w1.setCell ⟨w.heap.size + 1, 0, none⟩ (.slice none 0 0)).setCell ⟨w.heap.size + 1 + 1, 0, none⟩ (.bool false)).setCell ⟨w.heap.size + 1 + 1 + 1, 0, none⟩ (.int .i64 e)) := (((JB.out.trans (hb1.mono JB.out.size)).setCell (p := ⟨w.heap.size + 1, 0, none⟩) (by simp) _).setCell (p := ⟨w.heap.size + 1 + 1, 0, none⟩) (by first | (simp; done) | (simp; omega)) _).setCell (p := ⟨w.heap.size + 1 + 1 + 1, 0, none⟩) (by first | (simp; done) | (simp; omega)) _
    exact hB2.trans (belowK_b (w := w) (Nat.le_refl _) _ D _ _ (by have := KS.out; omega) hKf rfl rfl)
  case stop =>
    rintro D cd pre b W hD hpre ⟨rfl, b', v0, hb', j1, hR, j2, j3, jB⟩ hK
    obtain ⟨t, ht⟩ := hpre
    have hb2 : items = b' :: t := by rw [← ht, hb']; rfl
    have hh := H.out
    rw [hb2] at hh
    simp only [Option.some.injEq, Prod.mk.injEq] at hh
    obtain ⟨rfl, rfl, rfl⟩ := hh
    have J1 := K0 j1; have J2 := K0 j2; have J3 := K0 j3; have JB := K0 jB; have HR1 := K0 hR; have HK := K0 hK; clear j1 j2 j3 jB hR hK k0 k1 k2 k3 k4 ht hb' hb2 H HIT
    gi_wp2
    refine ⟨by simp, .inl ⟨_, _, rfl, run_takeDeferred HK.out, ?_⟩⟩
    have y1 := blk_cell (show (W.putObj D (.deferred none)).heap[w.heap.size + 1]? = _ from (World.putObj_heap_other (by have := KS.out; omega)).trans J1.out) 0
    have y2 := blk_cell (show (W.putObj D (.deferred none)).heap[w.heap.size + 1 + 1]? = _ from (World.putObj_heap_other (by have := KS.out; omega)).trans J2.out) 0
    have y3 := blk_cell (show (W.putObj D (.deferred none)).heap[w.heap.size + 1 + 1 + 1]? = _ from (World.putObj_heap_other (by have := KS.out; omega)).trans J3.out) 0
    simp only [List.getElem?_toArray, List.getElem?_cons_zero] at y1 y2 y3
    refine ⟨.tuple #[v0, .bool true, .int .i64 0], by simp [results, Try.results38, go_sem, y1, y2, y3], v0, rfl, Kd_R_putObj HR1.out _ HK.out rfl, ?_⟩
    exact JB.out.trans (belowK_b (w := w) (Nat.le_refl _) _ D _ _ (by have := KS.out; omega) HK.out rfl rfl)
theorem table_First.mono : ∀ a0_0 l0_1 k, LeO (table_First.f k a0_0 l0_1) (table_First.f (k + 1) a0_0 l0_1) := by
  intro a0_0 l0_1 k
  unfold table_First.f
  refine LeO.bind (table_All.mono _ _ _) (fun l => ?_)
  cases l with
  | nil => exact LeO.bind (table_wrong.mono _ _ _) (fun _ => LeO.refl _)
  | cons v t => exact LeO.refl _
end
def core_some.l0 : Nat → List Int → Int → Int → Int → List (List Int) → Int → List (List Int) → Option (Int × (List (List Int)))
  | 0, _, _, _, _, _, _, _ => none
  | k + 1, x11, x12, x13, x119000, x119001, x121000, x121001 => if x13 < x12 then (if 0 ≤ x13 then (if x13 < (x11.length : Int) then (if 0 ≤ (rd x11 x13) then (if (rd x11 x13) < (x119001.length : Int) then (if x121001.length < 5864062014805 then (core_some.l0 k x11 x12 (wrap64 (x13 + 1)) x119000 x119001 x121000 (x121001 ++ [rd_L3 x119001 (rd x11 x13)])) else (none)) else (none)) else (none)) else (none)) else (none)) else (some (x121000, x121001))
def core_some.f (k : Nat) (a0_0 : Int) (l0_1 : List (List Int)) (l1 : List Int) : Option (Int × (List (List Int))) := core_some.l0 k l1 (l1.length : Int) 0 a0_0 l0_1 a0_0 ([] : List (List Int))
theorem core_some.mono_l : ∀ k, (∀ y0 y1 y2 y3 y4 y5 y6, LeO (core_some.l0 k y0 y1 y2 y3 y4 y5 y6) (core_some.l0 (k + 1) y0 y1 y2 y3 y4 y5 y6))
  | 0 => fun _ _ _ _ _ _ _ r h => by simp [core_some.l0] at h
  | k + 1 => by
    have ih0 := core_some.mono_l k
    intro y0 y1 y2 y3 y4 y5 y6
    unfold core_some.l0
    repeat' first
    | (with_reducible exact ih0 _ _ _ _ _ _ _)
    | (with_reducible exact LeO.refl _)
    | (with_reducible exact LeO.none _)
    | (with_reducible refine LeO.ite ?_ ?_)
    | (with_reducible refine LeO.bind ?_ (fun _ => ?_))
    | exact ih0 _ _ _ _ _ _ _
    | exact LeO.none _
    | refine LeO.ite ?_ ?_
    | refine LeO.bind ?_ (fun _ => ?_)
theorem core_some.mono : ∀ a0 a1 a2 k, LeO (core_some.f k a0 a1 a2) (core_some.f (k + 1) a0 a1 a2) := by
  intro a0 a1 a2 k
  have ih0 := core_some.mono_l k
  unfold core_some.f
  repeat' first
      | (with_reducible exact ih0 _ _ _ _ _ _ _)
      | (with_reducible exact LeO.refl _)
      | (with_reducible exact LeO.none _)
      | (with_reducible refine LeO.ite ?_ ?_)
      | (with_reducible refine LeO.bind ?_ (fun _ => ?_))
      | exact ih0 _ _ _ _ _ _ _
      | exact LeO.none _
      | refine LeO.ite ?_ ?_
      | refine LeO.bind ?_ (fun _ => ?_)
def core_some.T5 : Bool × List (List Nat × List Nat) := (true, [([], []), ([0], [0]), ([], []), ([2], [2]), ([], []), ([3, 4], [3, 4]), ([5], [5]), ([6], [6]), ([1, 7], [1, 7]), ([0, 1, 2, 3, 4, 5, 6, 7, 8], []), ([9, 8, 8, 0, 1, 2, 3, 4, 5, 6, 7, 8], [8, 9])])
def core_some.B5 : List Nat := [0, 1, 0, 4, 0, 28, 60, 124, 255, 511, 1023]
theorem core_some.tab5 : rtab .any (opsOf Try.f41 5) = core_some.T5 := by kernel_rfl
theorem core_some.bits5 : waitsOk core_some.T5.2 core_some.B5 = true := by kernel_rfl
set_option maxHeartbeats 8000000 in
set_option maxRecDepth 100000 in
theorem core_some.calls (k : Nat) (a0_0 : Int) (P0_1_ : Nat → Prop) (A0_1 : Option Addr) (c0_1 : Nat) (l0_1 : List (List Int)) (A1 : Option Addr) (c1 : Nat) (l1 : List Int) (r1 : Int) (r2 : List (List Int)) (w : World) (hs0_1 : Kd.V (Kd.slice 3 (Kd.int .i64)) 29 w w.heap.size (fun k_ => P0_1_ k_) (.slice A0_1 l0_1.length c0_1) l0_1) (hr1 : Kd.C (Kd.int .i64) w A1 l1.length l1) (hc1 : l1.length ≤ c1) (h : core_some.f k a0_0 l0_1 l1 = some (r1, r2)) :
    Calls Try.prog 41 #[.agg #[.int .i64 a0_0, .slice A0_1 l0_1.length c0_1], .slice A1 l1.length c1] w fun e w' => ∃ v1_ : Value, e = .returned (.agg #[.int .i64 r1, v1_]) ∧ Kd.N (Kd.slice 3 (Kd.int .i64)) 29 w' w.heap.size (fun k_ => (P0_1_ k_ ∨ w.heap.size ≤ k_)) v1_ r2 ∧ Below w.heap.size w w' := by
  have hu24 := Try.underlying24
  have HO0_1 := K0 (show Kd.V (Kd.slice 3 (Kd.int .i64)) 29 w w.heap.size (fun k_ => (P0_1_ k_ ∨ w.heap.size ≤ k_)) (.slice A0_1 l0_1.length c0_1) l0_1 from Kd.V_mono hs0_1 (fun k_ hk => .inl hk))
  have HR1 := K0 hr1; have HC1 := K0 hc1; clear hr1 hc1
  have HB := K0 (Below.refl w.heap.size w)
  have H : (core_some.l0 k l1 (l1.length : Int) 0 a0_0 l0_1 a0_0 ([] : List (List Int))) = some (r1, r2) := h
  clear h
  have H' := K0 H
  clear H
  go_enter Try.func41, Try.ntmps41
  go_wp2_with (first | ((with_reducible refine gate_dst (N := 2) rfl ?_); refine box_event ?hg (N := 2) ?hd (cs := #[.int .i64 a0_0, .slice A0_1 l0_1.length c0_1]) (t := 24) ?hr ?_; (case hd => rfl); (case hg => rfl); (case hr => first | (go_simp; done) | (go_simp; rfl)); intro gb118 hg w3 hbox hb; have n0_ := K0 (Kd.V_below (Kd.V_elderB (by (with_reducible repeat (first | apply Kd.V_alloc | apply Kd.V_drewN | apply Kd.V_drew)); exact HO0_1.out) gb118 (Nat.le_of_eq hg.symm)) hb); have n1_ := K0 (below_step (by repeat (first | (with_reducible first | exact HB.out | apply below_alloc | apply pw_below_drewN | apply below_drew1) | exact HB.out)) hb); have n2_ := K0 (hbox); have n3_ := K0 ((by rw [hg]; exact (below_size (by repeat (first | (with_reducible first | exact HB.out | apply below_alloc | apply pw_below_drewN | apply below_drew1) | exact HB.out))) : w.heap.size ≤ gb118)); have n4_ := K0 ((by rw [hg]; exact (below_size (by repeat (first | (with_reducible first | exact HB.out | apply below_alloc | apply pw_below_drewN | apply below_drew1) | exact HB.out))) : w.heap.size ≤ gb118)); clear HO0_1; clear HB; have HO0_1 := n0_; have HB := n1_; have BK118 := n2_; have GW118 := n3_; have GE118 := n4_; clear n0_ n1_ n2_ n3_ n4_; clear hb hbox hg) | ((with_reducible refine gate_dst (N := 4) rfl ?_); refine box_event ?hg (N := 4) ?hd (cs := #[.int .i64 0, .slice none 0 0]) (t := 24) ?hr ?_; (case hd => rfl); (case hg => rfl); (case hr => first | (go_simp; done) | (go_simp; rfl)); intro gb119 hg w4 hbox hb; have n0_ := K0 (Kd.V_below (Kd.V_elderB (by (with_reducible repeat (first | apply Kd.V_alloc | apply Kd.V_drewN | apply Kd.V_drew)); exact HO0_1.out) gb119 (Nat.le_of_eq hg.symm)) hb); have n1_ := K0 (blk_below (g := gb118) (o := .cells #[.int .i64 a0_0, .slice A0_1 l0_1.length c0_1] 24 (0, 0)) (by (with_reducible repeat (first | refine blk_drewN ?_ _ | refine blk_drew ?_ | refine blk_alloc ?_ _)); exact BK118.out) hb); have n2_ := K0 (below_step (by repeat (first | (with_reducible first | exact HB.out | apply below_alloc | apply pw_below_drewN | apply below_drew1 | refine below_set ?_ GE118.out) | exact HB.out)) hb); have n3_ := K0 (hbox); have n4_ := K0 ((by rw [hg]; exact (below_size (by repeat (first | (with_reducible first | exact HB.out | apply below_alloc | apply pw_below_drewN | apply below_drew1 | refine below_set ?_ GE118.out) | exact HB.out))) : w.heap.size ≤ gb119)); have n5_ := K0 ((by rw [hg]; exact (below_size (by repeat (first | (with_reducible first | exact HB.out | apply below_alloc | apply pw_below_drewN | apply below_drew1 | refine below_set ?_ GE118.out) | exact HB.out))) : w.heap.size ≤ gb119)); have n6_ := K0 ((by rw [hg]; exact Nat.ne_of_lt (blk_lt (g := gb118) (o := .cells #[.int .i64 a0_0, .slice A0_1 l0_1.length c0_1] 24 (0, 0)) (by (with_reducible repeat (first | refine blk_drewN ?_ _ | refine blk_drew ?_ | refine blk_alloc ?_ _)); exact BK118.out)) : gb118 ≠ gb119)); have n7_ := K0 ((by rw [hg]; exact Nat.ne_of_gt (blk_lt (g := gb118) (o := .cells #[.int .i64 a0_0, .slice A0_1 l0_1.length c0_1] 24 (0, 0)) (by (with_reducible repeat (first | refine blk_drewN ?_ _ | refine blk_drew ?_ | refine blk_alloc ?_ _)); exact BK118.out)) : gb119 ≠ gb118)); clear HO0_1; clear BK118; clear HB; have HO0_1 := n0_; have BK118 := n1_; have HB := n2_; have BK119 := n3_; have GW119 := n4_; have GE119 := n5_; have NB118_119 := n6_; have NB119_118 := n7_; clear n0_ n1_ n2_ n3_ n4_ n5_ n6_ n7_; clear hb hbox hg; have hnb5 := NB118_119.out; have hnc5 := NB119_118.out; have hcz6_0 : w4.cell? ⟨gb118, 0, none⟩ = some (.int .i64 a0_0) := (blk_cell BK118.out 0).trans rfl; have hcz6_1 : w4.cell? ⟨gb118, 1, none⟩ = some (.slice A0_1 l0_1.length c0_1) := (blk_cell BK118.out 1).trans rfl; have hfz6_0 := blk_frozen BK118.out 0; have hfz6_1 := blk_frozen BK118.out 1) | ((with_reducible refine gate_dst (N := 5) rfl ?_); refine box_event ?hg (N := 5) ?hd (cs := #[.int .i64 0, .slice none 0 0]) (t := 24) ?hr ?_; (case hd => rfl); (case hg => rfl); (case hr => first | (go_simp; done) | (go_simp; rfl)); intro gb120 hg w7 hbox hb; have n0_ := K0 (Kd.V_below (Kd.V_elderB (by (with_reducible repeat (first | apply Kd.V_alloc | apply Kd.V_drewN | apply Kd.V_drew)); exact HO0_1.out) gb120 (Nat.le_of_eq hg.symm)) hb); have n1_ := K0 (blk_below (g := gb118) (o := .cells #[.int .i64 a0_0, .slice A0_1 l0_1.length c0_1] 24 (0, 0)) (by (with_reducible repeat (first | refine blk_drewN ?_ _ | refine blk_drew ?_ | refine blk_alloc ?_ _)); exact BK118.out) hb); have n2_ := K0 (blk_below (g := gb119) (o := .cells #[.int .i64 0, .slice none 0 0] 24 (0, 0)) (by (with_reducible repeat (first | refine blk_drewN ?_ _ | refine blk_drew ?_ | refine blk_alloc ?_ _)); exact BK119.out) hb); have n3_ := K0 (below_step (by repeat (first | (with_reducible first | exact HB.out | apply below_alloc | apply pw_below_drewN | apply below_drew1 | refine below_set ?_ GE118.out | refine below_set ?_ GE119.out) | exact HB.out)) hb); have n4_ := K0 (hbox); have n5_ := K0 ((by rw [hg]; exact (below_size (by repeat (first | (with_reducible first | exact HB.out | apply below_alloc | apply pw_below_drewN | apply below_drew1 | refine below_set ?_ GE118.out | refine below_set ?_ GE119.out) | exact HB.out))) : w.heap.size ≤ gb120)); have n6_ := K0 ((by rw [hg]; exact (below_size (by repeat (first | (with_reducible first | exact HB.out | apply below_alloc | apply pw_below_drewN | apply below_drew1 | refine below_set ?_ GE118.out | refine below_set ?_ GE119.out) | exact HB.out))) : w.heap.size ≤ gb120)); have n7_ := K0 ((by rw [hg]; exact Nat.ne_of_lt (blk_lt (g := gb118) (o := .cells #[.int .i64 a0_0, .slice A0_1 l0_1.length c0_1] 24 (0, 0)) (by (with_reducible repeat (first | refine blk_drewN ?_ _ | refine blk_drew ?_ | refine blk_alloc ?_ _)); exact BK118.out)) : gb118 ≠ gb120)); have n8_ := K0 ((by rw [hg]; exact Nat.ne_of_gt (blk_lt (g := gb118) (o := .cells #[.int .i64 a0_0, .slice A0_1 l0_1.length c0_1] 24 (0, 0)) (by (with_reducible repeat (first | refine blk_drewN ?_ _ | refine blk_drew ?_ | refine blk_alloc ?_ _)); exact BK118.out)) : gb120 ≠ gb118)); have n9_ := K0 ((by rw [hg]; exact Nat.ne_of_lt (blk_lt (g := gb119) (o := .cells #[.int .i64 0, .slice none 0 0] 24 (0, 0)) (by (with_reducible repeat (first | refine blk_drewN ?_ _ | refine blk_drew ?_ | refine blk_alloc ?_ _)); exact BK119.out)) : gb119 ≠ gb120)); have n10_ := K0 ((by rw [hg]; exact Nat.ne_of_gt (blk_lt (g := gb119) (o := .cells #[.int .i64 0, .slice none 0 0] 24 (0, 0)) (by (with_reducible repeat (first | refine blk_drewN ?_ _ | refine blk_drew ?_ | refine blk_alloc ?_ _)); exact BK119.out)) : gb120 ≠ gb119)); clear HO0_1; clear BK118; clear BK119; clear HB; have HO0_1 := n0_; have BK118 := n1_; have BK119 := n2_; have HB := n3_; have BK120 := n4_; have GW120 := n5_; have GE120 := n6_; have NB118_120 := n7_; have NB120_118 := n8_; have NB119_120 := n9_; have NB120_119 := n10_; clear n0_ n1_ n2_ n3_ n4_ n5_ n6_ n7_ n8_ n9_ n10_; clear hb hbox hg; have hnb8 := NB120_118.out; have hnc8 := NB118_120.out; have hnb9 := NB120_119.out; have hnc9 := NB119_120.out; have hcz10_0 : w7.cell? ⟨gb120, 0, none⟩ = some (.int .i64 0) := (blk_cell BK120.out 0).trans rfl; have hcz10_1 : w7.cell? ⟨gb120, 1, none⟩ = some (.slice none 0 0) := (blk_cell BK120.out 1).trans rfl; have hfz10_0 := blk_frozen BK120.out 0; have hfz10_1 := blk_frozen BK120.out 1))
  go_loopg [13] k (fun kq v13 w' => ∃ (x13_1 : Int) (x121001_1 : List (List Int)) (u121001 : Value), v13 = .int .i64 x13_1 ∧ Aside0 (core_some.l0 kq l1 (l1.length : Int) x13_1 a0_0 l0_1 a0_0 x121001_1 = some (r1, r2)) ∧ Aside0 (kq ≤ k) ∧ Aside0 (Kd.V (Kd.slice 3 (Kd.int .i64)) 29 w' w.heap.size (fun k_ => (P0_1_ k_ ∨ w.heap.size ≤ k_) ∧ some k_ ≠ (u121001 : Value).ownBlock ∧ k_ ≠ gb118 ∧ k_ ≠ gb119 ∧ k_ ≠ gb120) (.slice A0_1 l0_1.length c0_1) l0_1) ∧ Aside0 (Kd.N (Kd.slice 3 (Kd.int .i64)) 29 w' w.heap.size (fun k_ => (P0_1_ k_ ∨ w.heap.size ≤ k_) ∧ k_ ≠ gb118 ∧ k_ ≠ gb119 ∧ k_ ≠ gb120) u121001 x121001_1) ∧ Aside0 (w'.heap[gb118]? = some (.cells #[.int .i64 a0_0, (.slice A0_1 l0_1.length c0_1)] 24 (0, 0))) ∧ Aside0 (w'.heap[gb119]? = some (.cells #[.int .i64 0, (.slice none 0 0)] 24 (0, 0))) ∧ Aside0 (w'.heap[gb120]? = some (.cells #[.int .i64 a0_0, u121001] 24 (0, 0))) ∧ Aside0 (Below w.heap.size w w'))
  case atStart => exact ⟨(0), (([] : List (List Int))), (.slice none 0 0), (by first | rfl | (simp; done) | (simp [*]; done)), H', ⟨Nat.le_refl _⟩, ⟨by (with_reducible repeat (first | apply Kd.V_alloc | apply Kd.V_drewN | apply Kd.V_drew)); exact Kd.V_mono (Kd.V_far (p := ⟨gb120, 1, none⟩) (Kd.V_far (p := ⟨gb120, 0, none⟩) (Kd.V_mono HO0_1.out (fun k_ hk => (⟨hk, hk.2⟩ : _ ∧ k_ ≠ gb120))) (fun _ hk => hk.2) (.int .i64 a0_0)) (fun _ hk => hk.2) (.slice none 0 0)) (fun _ hk => ⟨hk.1.1.1.1, ⟨(by simp [Value.ownBlock]), ⟨hk.1.1.1.2, ⟨hk.1.1.2, hk.1.2⟩⟩⟩⟩)⟩, ⟨by first | exact Kd.S_nil _ _ _ _ _ | exact Kd.N_nil _ _ _ _ _ | exact Kd.V_nil _ _ _ _ _ | exact Kd.Q_nil _ _ _ _ _ | exact Kd.R_nil _ _ _ _ _⟩, ⟨by (with_reducible repeat (first | refine blk_drewN ?_ _ | refine blk_drew ?_ | refine blk_alloc ?_ _)); refine blk_far ?_ NB118_120.out _; (with_reducible repeat (first | refine blk_drewN ?_ _ | refine blk_drew ?_ | refine blk_alloc ?_ _)); refine blk_far ?_ NB118_120.out _; (with_reducible repeat (first | refine blk_drewN ?_ _ | refine blk_drew ?_ | refine blk_alloc ?_ _)); exact BK118.out⟩, ⟨by (with_reducible repeat (first | refine blk_drewN ?_ _ | refine blk_drew ?_ | refine blk_alloc ?_ _)); refine blk_far ?_ NB119_120.out _; (with_reducible repeat (first | refine blk_drewN ?_ _ | refine blk_drew ?_ | refine blk_alloc ?_ _)); refine blk_far ?_ NB119_120.out _; (with_reducible repeat (first | refine blk_drewN ?_ _ | refine blk_drew ?_ | refine blk_alloc ?_ _)); exact BK119.out⟩, ⟨by (with_reducible repeat (first | refine blk_drewN ?_ _ | refine blk_drew ?_ | refine blk_alloc ?_ _)); refine blk_put (cs := #[.int .i64 a0_0, .slice none 0 0]) ?_ 1 _ rfl; (with_reducible repeat (first | refine blk_drewN ?_ _ | refine blk_drew ?_ | refine blk_alloc ?_ _)); refine blk_put (cs := #[.int .i64 0, .slice none 0 0]) ?_ 0 _ rfl; (with_reducible repeat (first | refine blk_drewN ?_ _ | refine blk_drew ?_ | refine blk_alloc ?_ _)); exact BK120.out⟩, ⟨by repeat (first | (with_reducible first | exact HB.out | apply below_alloc | apply pw_below_drewN | apply below_drew1 | refine below_set ?_ GE118.out | refine below_set ?_ GE119.out | refine below_set ?_ GE120.out) | exact HB.out)⟩⟩
  case round =>
    clear H'; try clear c1; try clear p2; try clear c4; try clear c5; try clear c8; try clear c9; try clear hcz10_0; try clear hcz10_1; try clear hcz6_0; try clear hcz6_1; try clear hfz10_0; try clear hfz10_1; try clear hfz6_0; try clear hfz6_1
    obtain ⟨x13_1, x121001_1, u121001, rfl, HA, HK1, HO_119001, HO_121001, BK118, BK119, BK120, HB⟩ := hrel
    cases gk with
    | zero => exact absurd HA.out (by simp [core_some.l0])
    | succ k1 =>
      have H := HA.out
      clear HA
      simp only [core_some.l0] at H
      by_cases c11 : x13_1 < (l1.length : Int)
      case neg =>
        rw [if_neg c11] at H
        have c11b0 : decide (x13_1 < (l1.length : Int)) = false := decide_eq_false c11
        clear c11
        as_aux_lemma =>
          simp only [Option.some.injEq, Prod.mk.injEq] at H
          obtain ⟨rfl, rfl⟩ := H
          have hnb21 := NB120_118.out; have hnc21 := NB118_120.out; have hnb22 := NB120_119.out; have hnc22 := NB119_120.out
          have hcz23_0 : wr.cell? ⟨gb120, 0, none⟩ = some (.int .i64 a0_0) := (blk_cell BK120.out 0).trans rfl
          have hcz23_1 : wr.cell? ⟨gb120, 1, none⟩ = some (u121001) := (blk_cell BK120.out 1).trans rfl
          have hfz23_0 := blk_frozen BK120.out 0; have hfz23_1 := blk_frozen BK120.out 1; have hnb24 := NB119_118.out; have hnc24 := NB118_119.out
          have hcz25_0 : wr.cell? ⟨gb119, 0, none⟩ = some (.int .i64 0) := (blk_cell BK119.out 0).trans rfl
          have hcz25_1 : wr.cell? ⟨gb119, 1, none⟩ = some (.slice none 0 0) := (blk_cell BK119.out 1).trans rfl
          have hfz25_0 := blk_frozen BK119.out 0; have hfz25_1 := blk_frozen BK119.out 1
          obtain ⟨Ao26, co26, eo26⟩ := Kd.N_slice HO_121001.out
          subst eo26
          go_wp2
          refine bodyPost_ret (results_cell_row rfl _ _ gb119 24 #[.int .i64 a0_0, .slice Ao26 x121001_1.length co26] (0, 0) _ rfl (by (with_reducible repeat (first | refine blk_drewN ?_ _ | refine blk_drew ?_ | refine blk_alloc ?_ _)); refine blk_put (cs := #[.int .i64 a0_0, .slice none 0 0]) ?_ 1 _ rfl; (with_reducible repeat (first | refine blk_drewN ?_ _ | refine blk_drew ?_ | refine blk_alloc ?_ _)); refine blk_put (cs := #[.int .i64 0, .slice none 0 0]) ?_ 0 _ rfl; (with_reducible repeat (first | refine blk_drewN ?_ _ | refine blk_drew ?_ | refine blk_alloc ?_ _)); exact BK119.out) Try.underlying24 rfl (by kernel_rfl)) rfl ?_
          exact ⟨_, by first | rfl | (simp [errW_none, errW_some] <;> rfl) | (simp [*, errW_none, errW_some] <;> rfl), by (with_reducible repeat (first | apply Kd.N_alloc | apply Kd.N_drewN | apply Kd.N_drew)); exact Kd.N_mono (Kd.N_far (p := ⟨gb119, 1, none⟩) (Kd.N_far (p := ⟨gb119, 0, none⟩) (Kd.N_mono HO_121001.out (fun k_ hk => (⟨hk, hk.2.2.1⟩ : _ ∧ k_ ≠ gb119))) (fun _ hk => hk.2) (.int .i64 a0_0)) (fun _ hk => hk.2) (.slice Ao26 x121001_1.length co26)) (fun _ hk => hk.1.1), by repeat (first | (with_reducible first | exact HB.out | apply below_alloc | apply pw_below_drewN | apply below_drew1 | refine below_set ?_ GE118.out | refine below_set ?_ GE119.out | refine below_set ?_ GE120.out) | exact HB.out)⟩
      rw [if_pos c11] at H
      have c11b0 : decide (x13_1 < (l1.length : Int)) = true := decide_eq_true c11
      clear c11
      by_cases c12 : 0 ≤ x13_1
      case neg =>
        rw [if_neg c12] at H
        exact absurd H (by simp)
      rw [if_pos c12] at H
      have c12b0 : decide (0 ≤ x13_1) = true := decide_eq_true c12
      clear c12
      by_cases c13 : x13_1 < (l1.length : Int)
      case neg =>
        rw [if_neg c13] at H
        exact absurd H (by simp)
      rw [if_pos c13] at H
      have c13b0 : decide (x13_1 < (l1.length : Int)) = true := decide_eq_true c13
      clear c13
      by_cases c14 : 0 ≤ (rd l1 x13_1)
      case neg =>
        rw [if_neg c14] at H
        exact absurd H (by simp)
      rw [if_pos c14] at H
      have c14b0 : decide (0 ≤ (rd l1 x13_1)) = true := decide_eq_true c14
      clear c14
      by_cases c15 : (rd l1 x13_1) < (l0_1.length : Int)
      case neg =>
        rw [if_neg c15] at H
        exact absurd H (by simp)
      rw [if_pos c15] at H
      have c15b0 : decide ((rd l1 x13_1) < (l0_1.length : Int)) = true := decide_eq_true c15
      clear c15
      by_cases c16 : x121001_1.length < 5864062014805
      case neg =>
        rw [if_neg c16] at H
        exact absurd H (by simp)
      rw [if_pos c16] at H
      have LMc16 := K0 c16; clear c16
      obtain ⟨y123, hy123⟩ : ∃ y_ : List (List Int), y_ = (x121001_1 ++ [rd_L3 l0_1 (rd l1 x13_1)]) := ⟨_, rfl⟩
      replace H : (core_some.l0 k1 l1 (l1.length : Int) (wrap64 (x13_1 + 1)) a0_0 l0_1 a0_0 y123) = some (r1, r2) := by first | (rw [hy123]; with_reducible exact H) | (have H2_ := (Option.bind_some _ _).symm.trans H; rw [hy123]; with_reducible exact H2_) | (have H2_ := (Option.bind_some _ _).symm.trans H; with_reducible exact H2_) | with_reducible exact H | (rw [hy123]; exact H) | exact H
      have Ny123 := K0 hy123; clear hy123
      as_aux_lemma =>
        have H' := K0 H
        clear H
        have p121 : 0 ≤ (x13_1 : Int) := of_decide_eq_true (by first | (with_reducible assumption) | assumption)
        have q121 : x13_1 < (l1.length : Int) := of_decide_eq_true (by first | (with_reducible assumption) | assumption)
        obtain ⟨ad121, e121, hx121_0⟩ := Kd.at_int HR1.out x13_1 p121 q121
        cases e121
        replace hx121_0 := (HB.out.cell (World.block_lt_of_cell? w _ hx121_0)).trans hx121_0
        replace p121 := eq_true p121; replace q121 := eq_true q121
        try go_wp2
        have n0_ := K0 (Kd.V_drew HO_119001.out); have n1_ := K0 (Kd.N_drew HO_121001.out); have n2_ := K0 (blk_drew BK118.out); have n3_ := K0 (blk_drew BK119.out); have n4_ := K0 (blk_drew BK120.out); have n5_ := K0 (below_drew1 HB.out); clear HO_119001 HO_121001 BK118 BK119 BK120 HB; have HO_119001 := n0_; have HO_121001 := n1_; have BK118 := n2_; have BK119 := n3_; have BK120 := n4_; have HB := n5_; clear n0_ n1_ n2_ n3_ n4_ n5_
        have p122 : 0 ≤ ((rd l1 x13_1) : Int) := of_decide_eq_true (by first | (with_reducible assumption) | assumption)
        have q122 : (rd l1 x13_1) < (l0_1.length : Int) := of_decide_eq_true (by first | (with_reducible assumption) | assumption)
        obtain ⟨ad122, A122_0, c122_0, e122, hx122_0, hl122_0, hi122_0⟩ := at_L3 (Kd.V_reads' HO_119001.out).2.2 (rd l1 x13_1) p122 q122
        cases e122
        obtain ⟨ce122, hce122, hMe122, hcc122⟩ := Kd.V_get HO_119001.out [] (rd l1 x13_1) p122 (by first | exact q122 | exact of_decide_eq_true (by first | (with_reducible assumption) | assumption) | (have e_ := (Kd.V_reads' HO_119001.out).1; omega))
        obtain ⟨ua122_0, uc122_0, rfl, ul122_0, ge122_0⟩ := Kd.FK_slice_open hMe122
        have hv122_0 := hcc122 0 _ rfl
        rw [Nat.add_zero, show ((Kd.slice 3 (Kd.int .i64))).sz = 1 from rfl, Nat.mul_one] at hv122_0
        replace hv122_0 := Option.some.inj (hv122_0.symm.trans hx122_0)
        injection hv122_0 with hva_ hvn_ hvc_
        rw [hva_] at ge122_0
        rw [hvc_] at ul122_0
        have HL122_0 := K0 (show Kd.V (Kd.int .i64) 3 _ w.heap.size _ _ (rd_L3 l0_1 (rd l1 x13_1)) from Kd.V_mk ul122_0 ge122_0)
        clear hva_ hvn_ hvc_ ge122_0 ul122_0 hcc122 hce122; have HR122_0 := K0 hi122_0; have HC122_0 := K0 hl122_0; clear hi122_0 hl122_0; replace p122 := eq_true p122; replace q122 := eq_true q122
        refine start_ (n := 11) (S := fun w' => w'.cell? ⟨gb120, 0, none⟩ = some (.int .i64 a0_0) ∧ w'.cell? ⟨gb120, 1, none⟩ = some (u121001) ∧ w'.cell? ⟨gb118, 0, none⟩ = some (.int .i64 a0_0) ∧ w'.cell? ⟨gb118, 1, none⟩ = some (.slice (some ad122) l0_1.length c0_1) ∧ w'.cell? (ad122.add ((rd l1 x13_1)).toNat) = some (.slice A122_0 (rd_L3 l0_1 (rd l1 x13_1)).length c122_0)) (ds := [8, 10]) #[false, false, false, false, false, false, false, false, false, false, false] (by kernel_rfl) rfl rfl ⟨(blk_cell BK120.out 0).trans rfl, (blk_cell BK120.out 1).trans rfl, (blk_cell BK118.out 0).trans rfl, (blk_cell BK118.out 1).trans rfl, hx122_0⟩ (fun hHeld => ?_); refine with_tabW core_some.tab5 core_some.bits5 (fun HT_ HW_ => ?_)
        generalize wr.drew = w17 at HO_119001 HO_121001 BK118 BK119 BK120 HB HL122_0 HR122_0 hx122_0 hHeld ⊢
        refine pure_ (i := 0) (N := some 17) (v := ?_) (a' := ?_) #[true, false, false, false, false, false, false, false, false, false, false] rfl rfl (any_of HT_.out (by kernel_rfl)) (fun _ _ _ h => h) (Or.inl ⟨by rfl, ?_⟩) ?_ ?_
        rotate_left
        · intro w'
          go_simp
          with_reducible rfl
        rotate_left
        · simp only [Act.put, List.setIfInBounds_toArray, List.set_cons_zero, List.set_cons_succ, i64_w, i32_w]
          rfl
        refine pure_ (i := 2) (N := some 19) (v := ?_) (a' := ?_) #[true, false, true, false, false, false, false, false, false, false, false] rfl rfl (any_of HT_.out (by kernel_rfl)) (fun _ _ _ h => h) (Or.inl ⟨by rfl, ?_⟩) ?_ ?_
        rotate_left
        · intro w'
          go_simp
          with_reducible rfl
        rotate_left
        · simp only [Act.put, List.setIfInBounds_toArray, List.set_cons_zero, List.set_cons_succ, i64_w, i32_w]
          rfl
        refine pure_ (i := 4) (N := some 21) (v := ?_) (a' := ?_) #[true, false, true, false, true, false, false, false, false, false, false] rfl rfl (any_of HT_.out (by kernel_rfl)) (fun _ _ _ h => h) (Or.inl ⟨by rfl, ?_⟩) ?_ ?_
        rotate_left
        · intro w'
          go_simp
          with_reducible rfl
        rotate_left
        · simp only [Act.put, List.setIfInBounds_toArray, List.set_cons_zero, List.set_cons_succ, i64_w, i32_w]
          rfl
        refine take_ (i := 1) (N := some 18) (v := ?_) (a' := ?_) #[true, true, true, false, true, false, false, false, false, false, false] rfl rfl (take_ofW HT_.out HW_.out (by kernel_rfl)) (fun _ _ _ h => h) (Or.inl ⟨by rfl, ?_⟩) hHeld ?_ ?_
        rotate_left
        · rintro w' ⟨s0, s1, s2, s3, s4⟩
          go_simp
          with_reducible rfl
        rotate_left
        · simp only [Act.put, List.setIfInBounds_toArray, List.set_cons_zero, List.set_cons_succ, i64_w, i32_w]
          rfl
        refine take_ (i := 3) (N := some 20) (v := ?_) (a' := ?_) #[true, true, true, true, true, false, false, false, false, false, false] rfl rfl (take_ofW HT_.out HW_.out (by kernel_rfl)) (fun _ _ _ h => h) (Or.inl ⟨by rfl, ?_⟩) hHeld ?_ ?_
        rotate_left
        · rintro w' ⟨s0, s1, s2, s3, s4⟩
          go_simp
          with_reducible rfl
        rotate_left
        · simp only [Act.put, List.setIfInBounds_toArray, List.set_cons_zero, List.set_cons_succ, i64_w, i32_w]
          rfl
        refine pure_ (i := 5) (N := some 22) (v := ?_) (a' := ?_) #[true, true, true, true, true, true, false, false, false, false, false] rfl rfl (any_of HT_.out (by kernel_rfl)) (fun _ _ _ h => h) (Or.inl ⟨by rfl, ?_⟩) ?_ ?_
        rotate_left
        · intro w'
          go_simp
          with_reducible rfl
        rotate_left
        · simp only [Act.put, List.setIfInBounds_toArray, List.set_cons_zero, List.set_cons_succ, i64_w, i32_w]
          rfl
        refine take_ (i := 6) (N := some 23) (v := ?_) (a' := ?_) #[true, true, true, true, true, true, true, false, false, false, false] rfl rfl (take_ofW HT_.out HW_.out (by kernel_rfl)) (fun _ _ _ h => h) (Or.inl ⟨by rfl, ?_⟩) hHeld ?_ ?_
        rotate_left
        · rintro w' ⟨s0, s1, s2, s3, s4⟩
          go_simp
          with_reducible rfl
        rotate_left
        · simp only [Act.put, List.setIfInBounds_toArray, List.set_cons_zero, List.set_cons_succ, i64_w, i32_w]
          rfl
        refine one_ (i := 7) (N := some 24) #[true, true, true, true, true, true, true, true, false, false, false] rfl rfl (one_of HT_.out (by kernel_rfl)) (by decide) (fun K hK => ?_)
        refine value_ (w1 := ?_) (v := ?_) (by rfl) rfl ?_ ?_
        rotate_left 2
        · go_simp
          constructor
          · rfl
          rfl
        refine hK.out _ _ ⟨(blk_cell (blk_alloc BK120.out _) 0).trans rfl, (blk_cell (blk_alloc BK120.out _) 1).trans rfl, (blk_cell (blk_alloc BK118.out _) 0).trans rfl, (blk_cell (blk_alloc BK118.out _) 1).trans rfl, (World.cell?_alloc_lt _ _ _ (World.block_lt_of_cell? _ _ (hHeld.2.2.2.2))).trans (hHeld.2.2.2.2)⟩ (fun hHeld => ?_)
        clear hK K
        refine norm_ (a' := ?_) ?_ ?_
        rotate_left
        · show Act.put _ (some 24) _ = _
          simp only [Act.put, List.setIfInBounds_toArray, List.set_cons_zero, List.set_cons_succ, i64_w, i32_w]
          rfl
        refine last_ (i := 8) (N := some 25) #[true, true, true, true, true, true, true, true, true, false, false] rfl rfl (one_of HT_.out (by kernel_rfl)) (by decide) (fun K hK => ?_)
        refine Kd.N_append_step (Kd.slice 3 (Kd.int .i64)) (w0 := w) w.heap.size (by rfl) (.tmp 18) (.tmp 24) 22 29 (.slice none 0 0) 24 rfl Try.underlying22 info29 rfl (by decide) (by omega) u121001 x121001_1 (rd_L3 l0_1 (rd l1 x13_1)) [.slice A122_0 (rd_L3 l0_1 (rd l1 x13_1)).length c122_0] (fun k_ => (P0_1_ k_ ∨ w.heap.size ≤ k_) ∧ k_ ≠ gb118 ∧ k_ ≠ gb119 ∧ k_ ≠ gb120) (fun k_ => ((fun k_ => (P0_1_ k_ ∨ w.heap.size ≤ k_) ∧ k_ ≠ gb118 ∧ k_ ≠ gb119 ∧ k_ ≠ gb120)) k_ ∧ some k_ ≠ (u121001 : Value).ownBlock) rfl rfl ?aP (fun _ hk => hk) ?aF ?aO ?aB ?aS ?aL ?_
        (case aP => exact (Kd.FK_slice_mk (Kd.V_reads' (Kd.V_mono (ok' := (fun k_ => ((fun k_ => (P0_1_ k_ ∨ w.heap.size ≤ k_) ∧ k_ ≠ gb118 ∧ k_ ≠ gb119 ∧ k_ ≠ gb120)) k_ ∧ some k_ ≠ (u121001 : Value).ownBlock)) (HL122_0.out) (fun k_ hk => ⟨⟨hk.1, ⟨hk.2.2.1, ⟨hk.2.2.2.1, hk.2.2.2.2⟩⟩⟩, hk.2.1⟩))).2.1 (Kd.V_F (Kd.V_mono (ok' := (fun k_ => ((fun k_ => (P0_1_ k_ ∨ w.heap.size ≤ k_) ∧ k_ ≠ gb118 ∧ k_ ≠ gb119 ∧ k_ ≠ gb120)) k_ ∧ some k_ ≠ (u121001 : Value).ownBlock)) (HL122_0.out) (fun k_ hk => ⟨⟨hk.1, ⟨hk.2.2.1, ⟨hk.2.2.2.1, hk.2.2.2.2⟩⟩⟩, hk.2.1⟩)))))
        (case aB => exact (by repeat (first | (with_reducible first | exact HB.out | apply below_alloc | apply pw_below_drewN | apply below_drew1 | refine below_set ?_ GE118.out | refine below_set ?_ GE119.out | refine below_set ?_ GE120.out) | exact HB.out)))
        (case aF => exact (fun k_ hk => ⟨(.inr (Nat.le_trans (below_size (by repeat (first | (with_reducible first | exact HB.out | apply below_alloc | apply pw_below_drewN | apply below_drew1 | refine below_set ?_ GE118.out | refine below_set ?_ GE119.out | refine below_set ?_ GE120.out) | exact HB.out))) hk)), Kd.freshB (g := gb118) (o := .cells #[.int .i64 a0_0, .slice (some ad122) l0_1.length c0_1] 24 (0, 0)) (by (with_reducible repeat (first | refine blk_drewN ?_ _ | refine blk_drew ?_ | refine blk_alloc ?_ _)); exact BK118.out) k_ hk, Kd.freshB (g := gb119) (o := .cells #[.int .i64 0, .slice none 0 0] 24 (0, 0)) (by (with_reducible repeat (first | refine blk_drewN ?_ _ | refine blk_drew ?_ | refine blk_alloc ?_ _)); exact BK119.out) k_ hk, Kd.freshB (g := gb120) (o := .cells #[.int .i64 a0_0, u121001] 24 (0, 0)) (by (with_reducible repeat (first | refine blk_drewN ?_ _ | refine blk_drew ?_ | refine blk_alloc ?_ _)); exact BK120.out) k_ hk⟩))
        (case aO => exact (by (with_reducible repeat (first | apply Kd.N_alloc | apply Kd.N_drewN | apply Kd.N_drew)); exact HO_121001.out))
        (case aS => exact (below_size (by repeat (first | (with_reducible first | exact HB.out | apply below_alloc | apply pw_below_drewN | apply below_drew1 | refine below_set ?_ GE118.out | refine below_set ?_ GE119.out | refine below_set ?_ GE120.out) | exact HB.out))))
        (case aL => have := LMc16.out; omega)
        intro v124 w18 ho hb hg hat
        rw [← Ny123.out] at ho
        have n0_ := K0 (Kd.V_afterv (ok := (fun k_ => (P0_1_ k_ ∨ w.heap.size ≤ k_) ∧ k_ ≠ gb118 ∧ k_ ≠ gb119 ∧ k_ ≠ gb120)) (by (with_reducible repeat (first | apply Kd.V_alloc | apply Kd.V_drewN | apply Kd.V_drew)); exact Kd.V_mono HO_119001.out (fun _ hk => ⟨⟨hk.1, ⟨hk.2.2.1, ⟨hk.2.2.2.1, hk.2.2.2.2⟩⟩⟩, hk.2.1⟩)) hg hat); have n1_ := K0 (blk_grown (g := gb118) (o := .cells #[.int .i64 a0_0, .slice (some ad122) l0_1.length c0_1] 24 (0, 0)) (by (with_reducible repeat (first | refine blk_drewN ?_ _ | refine blk_drew ?_ | refine blk_alloc ?_ _)); exact BK118.out) hg (Kd.N_ne HO_121001.out BK118.out (by decide))); have n2_ := K0 (blk_grown (g := gb119) (o := .cells #[.int .i64 0, .slice none 0 0] 24 (0, 0)) (by (with_reducible repeat (first | refine blk_drewN ?_ _ | refine blk_drew ?_ | refine blk_alloc ?_ _)); exact BK119.out) hg (Kd.N_ne HO_121001.out BK119.out (by decide))); have n3_ := K0 (blk_grown (g := gb120) (o := .cells #[.int .i64 a0_0, u121001] 24 (0, 0)) (by (with_reducible repeat (first | refine blk_drewN ?_ _ | refine blk_drew ?_ | refine blk_alloc ?_ _)); exact BK120.out) hg (Kd.N_ne HO_121001.out BK120.out (by decide))); have n4_ := K0 (Kd.V_afterv (ok := (fun k_ => (P0_1_ k_ ∨ w.heap.size ≤ k_) ∧ k_ ≠ gb118 ∧ k_ ≠ gb119 ∧ k_ ≠ gb120)) (by (with_reducible repeat (first | apply Kd.V_alloc | apply Kd.V_drewN | apply Kd.V_drew)); exact Kd.V_mono HL122_0.out (fun _ hk => ⟨⟨hk.1, ⟨hk.2.2.1, ⟨hk.2.2.2.1, hk.2.2.2.2⟩⟩⟩, hk.2.1⟩)) hg hat); have n5_ := K0 (hb); have n6_ := K0 (ho); clear HO_119001 BK118 BK119 BK120 HL122_0 HB HO_121001; have HO_119001 := n0_; have BK118 := n1_; have BK119 := n2_; have BK120 := n3_; have HL122_0 := n4_; have HB := n5_; have HO125 := n6_; clear n0_ n1_ n2_ n3_ n4_ n5_ n6_ ho hb hg hat
        obtain ⟨Ao19, co19, eo19⟩ := Kd.N_slice HO125.out
        (first | subst eo19 | (injection eo19 with f1_ f2_ f3_; have f4_ := f1_.symm; have f5_ := f3_.symm; clear f1_ f2_ f3_; subst f4_; subst f5_))
        refine hK.out _ _ ?_
        clear hK K
        refine norm_ (a' := ?_) ?_ ?_
        rotate_left
        · show Act.put _ (some 25) _ = _
          simp only [Act.put, List.setIfInBounds_toArray, List.set_cons_zero, List.set_cons_succ, i64_w, i32_w]
          rfl
        refine pure_ (i := 9) (N := some 26) (v := ?_) (a' := ?_) #[true, true, true, true, true, true, true, true, true, true, false] rfl rfl (any_of HT_.out (by kernel_rfl)) (fun _ _ _ h => h) (Or.inl ⟨by rfl, ?_⟩) ?_ ?_
        rotate_left
        · intro w'
          go_simp
          with_reducible rfl
        rotate_left
        · simp only [Act.put, List.setIfInBounds_toArray, List.set_cons_zero, List.set_cons_succ, i64_w, i32_w]
          rfl
        refine last_ (i := 10) (N := none) #[true, true, true, true, true, true, true, true, true, true, true] rfl rfl (one_of HT_.out (by kernel_rfl)) (by decide) (fun K hK => ?_)
        have hs20 : w18.cell? ⟨gb120, 1, none⟩ = some (u121001) := (blk_cell BK120.out 1).trans rfl
        have hfs20 := blk_frozen BK120.out 1; have hns20_0 := NB118_120.out; have hns20_1 := NB119_120.out; have hms20_0 := NB120_118.out; have hms20_1 := NB120_119.out
        refine skip_ (w1 := ?_) (by rfl) rfl ?_ ?_
        rotate_left
        · go_simp
          rfl
        refine hK.out _ _ ?_
        clear hK K
        refine done_ (done_of HT_.out (by kernel_rfl)) ?_
        try go_wp2
        go_roundg k1
        case measure => have := HK1.out; omega
        case rel => exact ⟨(wrap64 (x13_1 + 1)), (y123), (.slice Ao19 y123.length co19), (by first | rfl | (simp; done) | (simp [*]; done)), H', ⟨by have := HK1.out; omega⟩, ⟨by (with_reducible repeat (first | apply Kd.V_alloc | apply Kd.V_drewN | apply Kd.V_drew)); exact Kd.V_mono (Kd.V_far (p := ⟨gb120, 1, none⟩) (Kd.V_mono HO_119001.out (fun k_ hk => (⟨hk, hk.1.2.2.2⟩ : _ ∧ k_ ≠ gb120))) (fun _ hk => hk.2) (.slice Ao19 y123.length co19)) (fun _ hk => ⟨hk.1.1.1, ⟨hk.1.2, ⟨hk.1.1.2.1, ⟨hk.1.1.2.2.1, hk.1.1.2.2.2⟩⟩⟩⟩)⟩, ⟨by (with_reducible repeat (first | apply Kd.N_alloc | apply Kd.N_drewN | apply Kd.N_drew)); exact Kd.N_mono (Kd.N_far (p := ⟨gb120, 1, none⟩) (Kd.N_mono HO125.out (fun k_ hk => (⟨hk, hk.2.2.2⟩ : _ ∧ k_ ≠ gb120))) (fun _ hk => hk.2) (.slice Ao19 y123.length co19)) (fun _ hk => ⟨hk.1.1, ⟨hk.1.2.1, ⟨hk.1.2.2.1, hk.1.2.2.2⟩⟩⟩)⟩, ⟨by (with_reducible repeat (first | refine blk_drewN ?_ _ | refine blk_drew ?_ | refine blk_alloc ?_ _)); refine blk_far ?_ NB118_120.out _; (with_reducible repeat (first | refine blk_drewN ?_ _ | refine blk_drew ?_ | refine blk_alloc ?_ _)); exact BK118.out⟩, ⟨by (with_reducible repeat (first | refine blk_drewN ?_ _ | refine blk_drew ?_ | refine blk_alloc ?_ _)); refine blk_far ?_ NB119_120.out _; (with_reducible repeat (first | refine blk_drewN ?_ _ | refine blk_drew ?_ | refine blk_alloc ?_ _)); exact BK119.out⟩, ⟨by (with_reducible repeat (first | refine blk_drewN ?_ _ | refine blk_drew ?_ | refine blk_alloc ?_ _)); refine blk_put (cs := #[.int .i64 a0_0, u121001]) ?_ 1 _ rfl; (with_reducible repeat (first | refine blk_drewN ?_ _ | refine blk_drew ?_ | refine blk_alloc ?_ _)); exact BK120.out⟩, ⟨by repeat (first | (with_reducible first | exact HB.out | apply below_alloc | apply pw_below_drewN | apply below_drew1 | refine below_set ?_ GE118.out | refine below_set ?_ GE119.out | refine below_set ?_ GE120.out) | exact HB.out)⟩⟩
set_option maxRecDepth 100000 in
theorem core_Minimal_1.calls (n x : Int) (B : Nat) (W : World) (hc : W.cell? ⟨B, 0, none⟩ = some (.int .i64 n)) :
    Calls Try.prog 40 #[.int .i64 x, .pointer (some ⟨B, 0, none⟩)] W fun e W' => e = .returned (.bool (x == n)) ∧ Below W.heap.size W W' := by
  go_enter Try.func40, Try.ntmps40
  go_wp2
  all_goals (go_ret; exact ⟨by simp_all, Below.refl _ _⟩)
def idx (n : Nat) : List Int := (List.range n).map Int.ofNat
theorem idx_succ (n : Nat) : idx (n + 1) = idx n ++ [(n : Int)] := by simp [idx, List.range_succ]
theorem idx_length (n : Nat) : (idx n).length = n := by simp [idx]
def core_Minimal.l1 (k : Nat) (a0_0 : Int) (l0_1 : List (List Int)) : Nat → Int → List Int → Option (List Int)
  | 0, _, left => some left
  | m + 1, n, left => (core_some.f k a0_0 l0_1 (left.filter fun x => !(x == n))).bind fun c => (table_First.f k c.1 c.2).bind fun r => if r.2.1 = true then core_Minimal.l1 k a0_0 l0_1 m (n + 1) left else core_Minimal.l1 k a0_0 l0_1 m (n + 1) (left.filter fun x => !(x == n))
def core_Minimal.f (k : Nat) (a0_0 : Int) (l0_1 : List (List Int)) : Option (List Int × Int) :=
  (cnf_Right.f k a0_0 l0_1).bind fun b => if b.2 = 0 then ((table_First.f k a0_0 l0_1).bind fun r => if r.2.2 = 0 then (if r.2.1 = true then some ([], 32) else if l0_1.length < 5864062014805 then (core_Minimal.l1 k a0_0 l0_1 l0_1.length 0 (idx l0_1.length)).bind fun x => some (x, 0) else none) else some ([], r.2.2)) else some ([], b.2)
set_option maxRecDepth 100000 in
set_option maxHeartbeats 4000000 in
theorem core_Minimal.calls (k : Nat) (a0_0 : Int) (P0_1_ : Nat → Prop) (A0_1 : Option Addr) (c0_1 : Nat) (l0_1 : List (List Int)) (r1 : List Int) (r2 : Int) (w : World)
    (hs0_1 : Kd.V (Kd.slice 3 (Kd.int .i64)) 29 w w.heap.size (fun k_ => P0_1_ k_) (.slice A0_1 l0_1.length c0_1) l0_1) (h : core_Minimal.f k a0_0 l0_1 = some (r1, r2)) :
    Calls Try.prog 21 #[.agg #[.int .i64 a0_0, .slice A0_1 l0_1.length c0_1]] w fun e w' => ∃ v0_ : Value, e = .returned (.tuple #[v0_, .int .i64 r2]) ∧ Kd.R (Kd.int .i64) 3 w' w.heap.size (fun _ => True) v0_ r1 ∧ Below w.heap.size w w' := by
  unfold core_Minimal.f at h
  obtain ⟨⟨b1, b2⟩, hb, h⟩ := Option.bind_eq_some_iff.mp h
  dsimp only at h
  obtain ⟨_, hc0, hr0⟩ := Kd.V_reads' hs0_1
  have HV := K0 hs0_1; have HB1 := K0 hb; have HR := K0 hr0; have HC := K0 hc0; have H := K0 h; clear hb hs0_1 hr0 hc0 h
  have huC := Try.underlying24
  obtain ⟨WA, hWA⟩ : ∃ WA : World, w.alloc (.cells #[.int .i64 a0_0, .slice A0_1 l0_1.length c0_1] 24) = WA := ⟨_, rfl⟩
  have KA : WA.heap[w.heap.size]? = some (.cells #[.int .i64 a0_0, .slice A0_1 l0_1.length c0_1] 24 (0, 0)) := by rw [← hWA]; exact blk_new w _
  have BA : Below w.heap.size w WA := by rw [← hWA]; exact below_alloc (Below.refl _ w) _
  have SA : w.heap.size < WA.heap.size := by rw [← hWA]; simp
  have KA' := K0 (And.intro KA (And.intro BA SA))
  have q0 := blk_cell KA 0
  have q01 := blk_cell KA 1
  simp only [List.getElem?_toArray, List.getElem?_cons_zero, List.getElem?_cons_succ] at q0 q01
  clear KA BA SA
  go_enter Try.func21, Try.ntmps21
  go_wp2_with fail
  refine (cnf_Right.calls k a0_0 A0_1 c0_1 l0_1 b1 b2 _ (Kd.C_below HR.out KA'.out.2.1) HC.out HB1.out).mono ?_
  rintro e' w1 ⟨rfl, hb1⟩
  have K1 := K0 (And.intro (blk_below KA'.out.1 hb1) (And.intro (KA'.out.2.1.trans (hb1.mono KA'.out.2.1.size)) (Nat.lt_of_lt_of_le KA'.out.2.2 hb1.size)))
  clear hWA KA' hb1 q0 q01
  have q0 := blk_cell K1.out.1 0
  have q01 := blk_cell K1.out.1 1
  simp only [List.getElem?_toArray, List.getElem?_cons_zero, List.getElem?_cons_succ] at q0 q01
  by_cases e0 : b2 = 0
  case neg =>
    have h := H.out
    rw [if_neg e0] at h
    simp only [Option.some.injEq, Prod.mk.injEq] at h
    obtain ⟨rfl, rfl⟩ := h
    have c1' : (b2 != 0) = true := by simpa using e0
    have c2' : (b2 == 0) = false := by simpa using e0
    clear e0
    go_wp2
    go_ret2
    exact ⟨_, rfl, Kd.R_nil _ _ _ _ _, K1.out.2.1⟩
  subst e0
  have h := H.out
  rw [if_pos rfl] at h
  obtain ⟨⟨v, ok, e⟩, hf, h⟩ := Option.bind_eq_some_iff.mp h
  dsimp only at h
  have HF := K0 hf; clear H hf; have H := K0 h; clear h
  go_wp2_with fail
  refine (table_First.calls k a0_0 A0_1 c0_1 l0_1 v ok e _ (Kd.C_below HR.out K1.out.2.1) HC.out HF.out).mono ?_
  rintro e' w2 ⟨v0_, rfl, hv0, hb2⟩
  have K2 := K0 (And.intro (blk_below K1.out.1 hb2) (And.intro (K1.out.2.1.trans (hb2.mono K1.out.2.1.size)) (Nat.lt_of_lt_of_le K1.out.2.2 hb2.size)))
  clear K1 hb2 hv0 q0 q01
  have q0 := blk_cell K2.out.1 0
  have q01 := blk_cell K2.out.1 1
  simp only [List.getElem?_toArray, List.getElem?_cons_zero, List.getElem?_cons_succ] at q0 q01
  by_cases e1 : e = 0
  case neg =>
    have h := H.out
    rw [if_neg e1] at h
    simp only [Option.some.injEq, Prod.mk.injEq] at h
    obtain ⟨rfl, rfl⟩ := h
    have c1' : (e != 0) = true := by simpa using e1
    have c2' : (e == 0) = false := by simpa using e1
    clear e1
    go_wp2
    go_ret2
    exact ⟨_, rfl, Kd.R_nil _ _ _ _ _, K2.out.2.1⟩
  subst e1
  have h := H.out
  rw [if_pos rfl] at h
  clear H
  cases ok with
  | true =>
    rw [if_pos rfl] at h
    simp only [Option.some.injEq, Prod.mk.injEq] at h
    obtain ⟨rfl, rfl⟩ := h
    go_wp2
    go_ret2
    exact ⟨_, rfl, Kd.R_nil _ _ _ _ _, K2.out.2.1⟩
  | false =>
    rw [if_neg (by decide)] at h
    by_cases hl : l0_1.length < 5864062014805
    case neg =>
      rw [if_neg hl] at h
      cases h
    rw [if_pos hl] at h
    obtain ⟨x, hx, h⟩ := Option.bind_eq_some_iff.mp h
    simp only [Option.some.injEq, Prod.mk.injEq] at h
    obtain ⟨rfl, rfl⟩ := h
    have HX := K0 hx; have HLn := K0 hl; clear hx hl
    go_wp2
    go_loopg [9, 10, 39] l0_1.length (fun kq v9 _ v39 wr => ∃ (i : Nat), v39 = .int .i64 (i : Int) ∧ Aside0 (i + kq = l0_1.length) ∧ Aside0 (Kd.R (Kd.int .i64) 3 wr w.heap.size (fun _ => True) v9 (idx i)) ∧ Aside0 (wr.heap[w.heap.size]? = some (.cells #[.int .i64 a0_0, .slice A0_1 l0_1.length c0_1] 24 (0, 0)) ∧ Below w.heap.size w wr ∧ w.heap.size < wr.heap.size))
    case atStart => exact ⟨0, rfl, ⟨by simp⟩, ⟨Kd.R_nil _ _ _ _ _⟩, K2⟩
    case round =>
      obtain ⟨i, rfl, hg, hR, hK⟩ := hrel
      obtain ⟨A8, c8, rfl⟩ := Kd.R_slice hR.out
      rw [idx_length] at *
      clear q0 q01
      have q0 := blk_cell hK.out.1 0
      have q01 := blk_cell hK.out.1 1
      simp only [List.getElem?_toArray, List.getElem?_cons_zero, List.getElem?_cons_succ] at q0 q01
      by_cases hlt : i < l0_1.length
      case pos =>
        have hd : decide ((i : Int) < (l0_1.length : Int)) = true := decide_eq_true (by omega)
        have P2 : (i < l0_1.length) = True := eq_true hlt
        go_wp2_with (at_builtin; refine Kd.R_append (Kd.int .i64) (w0 := w) w.heap.size rfl (.tmp 42) (.tmp 44) 29 3 (.int .i64 0) 8 rfl Try.underlying29 (by kernel_rfl) rfl (by decide) (by decide) (.slice A8 i c8) (idx i) (i : Int) [.int .i64 (i : Int)] (fun _ => True) (fun _ => False) rfl rfl rfl (fun _ h => h.elim) (fun _ _ => trivial) hR.out hK.out.2.1 hK.out.2.1.size (by have := HLn.out; rw [idx_length]; omega) ?_; intro v1 w3 r1 hb3 hg3 hat3)
        go_roundg (l0_1.length - (i + 1))
        case measure => have := hg.out; omega
        case rel =>
          have nG : some w.heap.size ≠ (Value.slice A8 i c8).ownBlock := Kd.R_ne hR.out hK.out.1 (by decide)
          refine ⟨i + 1, by rw [show wrap64 ((i : Int) + 1) = ((i + 1 : Nat) : Int) by have := HLn.out; unfold wrap64; omega], ⟨by omega⟩, ⟨by rw [idx_succ]; exact r1⟩, ⟨blk_grown hK.out.1 hg3 nG, hb3, Nat.lt_of_lt_of_le hK.out.2.2 hg3.size⟩⟩
      obtain rfl : i = l0_1.length := by have := hg.out; omega
      have hd : decide ((l0_1.length : Int) < (l0_1.length : Int)) = false := decide_eq_false (by omega)
      have P2 : (l0_1.length < l0_1.length) = False := eq_false (by omega)
      have HR9 := K0 hR.out
      have HK9 := K0 hK.out
      clear hR hg hK
      go_wp2
      go_loopg [9, 11, 12, 13, 14, 15, 50] l0_1.length (fun kq v9 _ _ _ _ _ v50 wr => ∃ (i : Nat) (left : List Int), v50 = .int .i64 (i : Int) ∧ Aside0 (i + kq = l0_1.length) ∧ Aside0 (Kd.R (Kd.int .i64) 3 wr w.heap.size (fun _ => True) v9 left) ∧ Aside0 (left.length ≤ l0_1.length) ∧ Aside0 (core_Minimal.l1 k a0_0 l0_1 kq (i : Int) left = some x) ∧ Aside0 (wr.heap[w.heap.size]? = some (.cells #[.int .i64 a0_0, .slice A0_1 l0_1.length c0_1] 24 (0, 0)) ∧ Below w.heap.size w wr ∧ w.heap.size < wr.heap.size))
      case atStart => exact ⟨0, _, rfl, ⟨by simp⟩, ⟨HR9.out⟩, ⟨by rw [idx_length]; exact Nat.le_refl _⟩, HX, HK9⟩
      case round =>
        obtain ⟨i, left, rfl, hg, hR, hll, hx, hK⟩ := hrel
        clear q0 q01 HX HR9 HK9
        have q0 := blk_cell hK.out.1 0
        have q01 := blk_cell hK.out.1 1
        simp only [List.getElem?_toArray, List.getElem?_cons_zero, List.getElem?_cons_succ] at q0 q01
        obtain ⟨A8, c8, rfl, hl8, hr8⟩ := Kd.R_reads hR.out
        cases gk with
        | zero =>
          obtain rfl : i = l0_1.length := by have := hg.out; omega
          have hq : left = x := by have := hx.out; simpa [core_Minimal.l1] using this
          subst hq
          go_wp2
          go_ret2
          exact ⟨_, rfl, hR.out, hK.out.2.1⟩
        | succ m =>
          have hlt : i < l0_1.length := by have := hg.out; omega
          have hd : decide ((i : Int) < (l0_1.length : Int)) = true := decide_eq_true (by omega)
          have P3 : (i < l0_1.length) = True := eq_true hlt
          have hx2 := hx.out
          rw [core_Minimal.l1] at hx2
          obtain ⟨⟨n2, l2⟩, hso, hx2⟩ := Option.bind_eq_some_iff.mp hx2
          obtain ⟨⟨v2, ok2, e2⟩, hfi, hx2⟩ := Option.bind_eq_some_iff.mp hx2
          dsimp only at hfi hx2
          have HSO := K0 hso; have HFI := K0 hfi; have HX2 := K0 hx2; have HR8 := K0 hr8; have HL8 := K0 hl8; clear hso hfi hx2 hx hr8 hl8
          go_wp2_with fail
          refine (slices_Clone_int.calls A8 c8 left _ (Kd.C_below HR8.out (below_alloc (Below.refl _ _) _)) HL8.out (by have := hll.out; have := HLn.out; omega)).mono ?_
          rintro e' w4 ⟨v4, rfl, hcl, hb4⟩
          have hBn : w4.heap[wr.heap.size]? = some (.cells #[.int .i64 (i : Int)] 3 (0, 0)) := blk_below (blk_new wr _) hb4
          have hs4 : (wr.alloc (.cells #[.int .i64 (i : Int)] 3)).heap.size = wr.heap.size + 1 := by simp
          have hb04 : Below wr.heap.size wr w4 := below_then (below_alloc (Below.refl _ _) _) (by simp) hb4
          have hne4 : some wr.heap.size ≠ v4.ownBlock := fun e' => by
            obtain ⟨inner, ho⟩ := Kd.R_own hcl
            have := own_base ho _ e'.symm
            omega
          have hR4 := Kd.R_lower hcl (show w.heap.size ≤ (wr.alloc (.cells #[.int .i64 (i : Int)] 3)).heap.size by have := hK.out.2.2; omega)
          have hcalls : ∀ W : World, w4.heap.size ≤ W.heap.size → (∀ k', k' < w4.heap.size → some k' ≠ v4.ownBlock → W.heap[k']? = w4.heap[k']?) → ∀ y : Int, Calls Try.prog 40 (#[.int .i64 y] ++ #[.pointer (some ⟨wr.heap.size, 0, none⟩)]) W fun e W' => e = .returned (.bool (y == (i : Int))) ∧ Below W.heap.size W W' := fun W _ hsame y => by
            refine core_Minimal_1.calls (i : Int) y wr.heap.size W ?_
            have h1 := hsame wr.heap.size (Array.getElem?_eq_some_iff.1 hBn).1 hne4
            rw [hBn] at h1
            exact blk_cell h1 0
          have K4 := K0 (And.intro (blk_below hK.out.1 hb04) (And.intro (hK.out.2.1.trans (hb04.mono hK.out.2.1.size)) (Nat.lt_of_lt_of_le hK.out.2.2 hb04.size)))
          have nG4 : some w.heap.size ≠ v4.ownBlock := fun e' => by
            obtain ⟨inner, ho⟩ := Kd.R_own hcl
            have := own_base ho _ e'.symm
            have := hK.out.2.2
            omega
          have HCL := K0 hcl; have HR4 := K0 hR4; have HB04 := K0 hb04; have HCALLS := K0 hcalls
          have HNE := K0 (And.intro hs4 nG4)
          clear hcl hR4 hb04 hb4 hcalls hBn hs4 hne4 nG4 q0 q01
          go_wp2_with fail
          refine (slices_DeleteFunc_int.calls 40 #[.pointer (some ⟨wr.heap.size, 0, none⟩)] (enters_of Try.func40 (by kernel_rfl) rfl) (fun y => y == (i : Int)) v4 left w4 w.heap.size HR4.out K4.out.2.1.size HCALLS.out).mono ?_
          rintro e' w5 ⟨v5, rfl, hdel, hb5, hk5⟩
          have K5 := K0 (And.intro ((hk5 _ K4.out.2.2 HNE.out.2).trans K4.out.1) (And.intro (K4.out.2.1.trans hb5) (Nat.lt_of_lt_of_le K4.out.2.2 hb5.size)))
          have HR5 := K0 (show Kd.R (Kd.int .i64) 3 w5 w.heap.size (fun _ => True) (.slice A8 left.length c8) left from
            Kd.R_mono (Kd.R_move (Kd.R_bound hR.out) (fun k' hk' => by
              have hlt' := hk'.2.2.1
              refine (hk5 k' (by have := HB04.out.size; omega) (fun e' => ?_)).trans (HB04.out.block k' hlt')
              obtain ⟨inner, ho⟩ := Kd.R_own HCL.out
              have := own_base ho _ e'.symm
              have := HNE.out.1
              omega)) (fun _ _ => trivial))
          obtain ⟨A5, c5, rfl, hl5, hr5⟩ := Kd.R_reads hdel
          have HDEL := K0 hdel; have HL5 := K0 hl5; have HRR5 := K0 hr5
          have HFL := K0 (show (left.filter fun y => !(y == (i : Int))).length ≤ l0_1.length from Nat.le_trans (List.length_filter_le _ _) hll.out)
          clear hdel hl5 hr5 hb5 hk5 K4 HR4 HB04 HCALLS HNE HCL hR HR8 HL8
          generalize hless : (left.filter fun y => !(y == (i : Int))) = less at *
          have q0 := blk_cell K5.out.1 0
          have q01 := blk_cell K5.out.1 1
          simp only [List.getElem?_toArray, List.getElem?_cons_zero, List.getElem?_cons_succ] at q0 q01
          go_wp2_with fail
          refine (core_some.calls k a0_0 P0_1_ A0_1 c0_1 l0_1 A5 c5 less n2 l2 w5 (show Kd.V (Kd.slice 3 (Kd.int .i64)) 29 w5 w5.heap.size (fun k_ => P0_1_ k_) (.slice A0_1 l0_1.length c0_1) l0_1 from Kd.V_below HV.out K5.out.2.1) HRR5.out HL5.out HSO.out).mono ?_
          rintro e' w6 ⟨v6, rfl, hn6, hb6⟩
          obtain ⟨A6, c6, rfl⟩ := Kd.N_slice hn6
          obtain ⟨_, hl6, hr6⟩ := Kd.N_reads' hn6
          have K6 := K0 (And.intro (blk_below K5.out.1 hb6) (And.intro (K5.out.2.1.trans (hb6.mono K5.out.2.1.size)) (Nat.lt_of_lt_of_le K5.out.2.2 hb6.size)))
          have HR6 := K0 (Kd.R_below HR5.out hb6)
          have HD6 := K0 (Kd.R_below HDEL.out hb6)
          have HL6 := K0 hl6; have HRR6 := K0 hr6; clear hn6 hb6 hl6 hr6 K5 HR5 HDEL q0 q01 HL5 HRR5
          have q0 := blk_cell K6.out.1 0
          have q01 := blk_cell K6.out.1 1
          simp only [List.getElem?_toArray, List.getElem?_cons_zero, List.getElem?_cons_succ] at q0 q01
          go_wp2_with fail
          refine (table_First.calls k n2 A6 c6 l2 v2 ok2 e2 _ HRR6.out HL6.out HFI.out).mono ?_
          rintro e' w7 ⟨v7, rfl, _, hb7⟩
          have K7 := K0 (And.intro (blk_below K6.out.1 hb7) (And.intro (K6.out.2.1.trans (hb7.mono K6.out.2.1.size)) (Nat.lt_of_lt_of_le K6.out.2.2 hb7.size)))
          have HR7 := K0 (Kd.R_below HR6.out hb7)
          have HD7 := K0 (Kd.R_below HD6.out hb7)
          clear hb7 K6 HR6 HD6 HL6 HRR6 q0 q01
          have hw : wrap64 ((i : Int) + 1) = ((i + 1 : Nat) : Int) := by have := HLn.out; unfold wrap64; omega
          have HW := K0 hw; clear hw
          cases ok2 with
          | true =>
            have hz := HX2.out
            rw [if_pos rfl] at hz
            have HZ := K0 hz; clear hz
            go_wp2
            go_roundg m
            case measure => omega
            case rel => exact ⟨i + 1, left, by rw [HW.out], ⟨by have := hg.out; omega⟩, HR7, hll, ⟨by have := HZ.out; simpa using this⟩, K7⟩
          | false =>
            have hz := HX2.out
            rw [if_neg (by decide)] at hz
            have HZ := K0 hz; clear hz
            go_wp2
            go_roundg m
            case measure => omega
            case rel => exact ⟨i + 1, less, by rw [HW.out], ⟨by have := hg.out; omega⟩, HD7, HFL, ⟨by have := HZ.out; simpa using this⟩, K7⟩
theorem core_Minimal.l1_mono (a0_0 : Int) (l0_1 : List (List Int)) (k : Nat) : ∀ (m : Nat) (n : Int) (left : List Int), LeO (core_Minimal.l1 k a0_0 l0_1 m n left) (core_Minimal.l1 (k + 1) a0_0 l0_1 m n left)
  | 0, _, _ => LeO.refl _
  | m + 1, n, left => by
    unfold core_Minimal.l1
    exact LeO.bind (core_some.mono _ _ _ _) (fun _ => LeO.bind (table_First.mono _ _ _) (fun _ => LeO.ite (core_Minimal.l1_mono a0_0 l0_1 k m _ _) (core_Minimal.l1_mono a0_0 l0_1 k m _ _)))
theorem core_Minimal.mono : ∀ a0_0 l0_1 k, LeO (core_Minimal.f k a0_0 l0_1) (core_Minimal.f (k + 1) a0_0 l0_1) := by
  intro a0_0 l0_1 k
  unfold core_Minimal.f
  exact LeO.bind (cnf_Right.mono _ _ _) (fun _ => LeO.ite (LeO.bind (table_First.mono _ _ _) (fun _ => LeO.ite (LeO.ite (LeO.refl _) (LeO.ite (LeO.bind (core_Minimal.l1_mono _ _ _ _ _ _) (fun _ => LeO.refl _)) (LeO.none _))) (LeO.refl _))) (LeO.refl _))
def sequiturlaw25_goes.f (k : Nat)  : Option (Bool) := (core_Minimal.f k 2 (([(([1] : List Int)), (([(-1)] : List Int)), (([2] : List Int)), (([(-2)] : List Int))] : List (List Int)))).bind fun bt141 => (if bt141.2 = 0 then ((sequiturbase_Ints.f k bt141.1 (([2, 3] : List Int))).bind fun t148 => (some t148)) else (some false))
theorem sequiturlaw25_goes.mono : ∀ k, LeO (sequiturlaw25_goes.f k ) (sequiturlaw25_goes.f (k + 1) ) := by
  intro  k
  unfold sequiturlaw25_goes.f
  repeat' first
      | (with_reducible exact core_Minimal.mono _ _ _)
      | (with_reducible exact sequiturbase_Ints.mono _ _ _)
      | (with_reducible exact LeO.refl _)
      | (with_reducible exact LeO.none _)
      | (with_reducible refine LeO.ite ?_ ?_)
      | (with_reducible refine LeO.bind ?_ (fun _ => ?_))
      | exact core_Minimal.mono _ _ _
      | exact sequiturbase_Ints.mono _ _ _
      | exact LeO.none _
      | refine LeO.ite ?_ ?_
      | refine LeO.bind ?_ (fun _ => ?_)
set_option maxHeartbeats 8000000 in
set_option maxRecDepth 100000 in
theorem sequiturlaw25_goes.calls (k : Nat)  (r : Bool) (w : World) (h : sequiturlaw25_goes.f k  = some r) :
    Calls Try.prog 8 #[] w fun e w' => e = .returned (.bool r) ∧ Below w.heap.size w w' := by
  have hu24 := Try.underlying24
  have HB := K0 (Below.refl w.heap.size w)
  have H : ((core_Minimal.f k 2 (([(([1] : List Int)), (([(-1)] : List Int)), (([2] : List Int)), (([(-2)] : List Int))] : List (List Int)))).bind fun bt141 => (if bt141.2 = 0 then ((sequiturbase_Ints.f k bt141.1 (([2, 3] : List Int))).bind fun t148 => (some t148)) else (some false))) = some r := h
  clear h
  obtain ⟨y126, hy126⟩ : ∃ y_ : List Int, y_ = (([1] : List Int)) := ⟨_, rfl⟩
  replace H : ((core_Minimal.f k 2 (([y126, (([(-1)] : List Int)), (([2] : List Int)), (([(-2)] : List Int))] : List (List Int)))).bind fun bt141 => (if bt141.2 = 0 then ((sequiturbase_Ints.f k bt141.1 (([2, 3] : List Int))).bind fun t148 => (some t148)) else (some false))) = some r := by first | (rw [hy126]; with_reducible exact H) | (have H2_ := (Option.bind_some _ _).symm.trans H; rw [hy126]; with_reducible exact H2_) | (have H2_ := (Option.bind_some _ _).symm.trans H; with_reducible exact H2_) | with_reducible exact H | (rw [hy126]; exact H) | exact H
  have Ny126 := K0 hy126; clear hy126
  obtain ⟨y129, hy129⟩ : ∃ y_ : List Int, y_ = (([(-1)] : List Int)) := ⟨_, rfl⟩
  replace H : ((core_Minimal.f k 2 (([y126, y129, (([2] : List Int)), (([(-2)] : List Int))] : List (List Int)))).bind fun bt141 => (if bt141.2 = 0 then ((sequiturbase_Ints.f k bt141.1 (([2, 3] : List Int))).bind fun t148 => (some t148)) else (some false))) = some r := by first | (rw [hy129]; with_reducible exact H) | (have H2_ := (Option.bind_some _ _).symm.trans H; rw [hy129]; with_reducible exact H2_) | (have H2_ := (Option.bind_some _ _).symm.trans H; with_reducible exact H2_) | with_reducible exact H | (rw [hy129]; exact H) | exact H
  have Ny129 := K0 hy129; clear hy129
  obtain ⟨y132, hy132⟩ : ∃ y_ : List Int, y_ = (([2] : List Int)) := ⟨_, rfl⟩
  replace H : ((core_Minimal.f k 2 (([y126, y129, y132, (([(-2)] : List Int))] : List (List Int)))).bind fun bt141 => (if bt141.2 = 0 then ((sequiturbase_Ints.f k bt141.1 (([2, 3] : List Int))).bind fun t148 => (some t148)) else (some false))) = some r := by first | (rw [hy132]; with_reducible exact H) | (have H2_ := (Option.bind_some _ _).symm.trans H; rw [hy132]; with_reducible exact H2_) | (have H2_ := (Option.bind_some _ _).symm.trans H; with_reducible exact H2_) | with_reducible exact H | (rw [hy132]; exact H) | exact H
  have Ny132 := K0 hy132; clear hy132
  obtain ⟨y135, hy135⟩ : ∃ y_ : List Int, y_ = (([(-2)] : List Int)) := ⟨_, rfl⟩
  replace H : ((core_Minimal.f k 2 (([y126, y129, y132, y135] : List (List Int)))).bind fun bt141 => (if bt141.2 = 0 then ((sequiturbase_Ints.f k bt141.1 (([2, 3] : List Int))).bind fun t148 => (some t148)) else (some false))) = some r := by first | (rw [hy135]; with_reducible exact H) | (have H2_ := (Option.bind_some _ _).symm.trans H; rw [hy135]; with_reducible exact H2_) | (have H2_ := (Option.bind_some _ _).symm.trans H; with_reducible exact H2_) | with_reducible exact H | (rw [hy135]; exact H) | exact H
  have Ny135 := K0 hy135; clear hy135
  obtain ⟨y138, hy138⟩ : ∃ y_ : List (List Int), y_ = (([y126, y129, y132, y135] : List (List Int))) := ⟨_, rfl⟩
  replace H : ((core_Minimal.f k 2 y138).bind fun bt141 => (if bt141.2 = 0 then ((sequiturbase_Ints.f k bt141.1 (([2, 3] : List Int))).bind fun t148 => (some t148)) else (some false))) = some r := by first | (rw [hy138]; with_reducible exact H) | (have H2_ := (Option.bind_some _ _).symm.trans H; rw [hy138]; with_reducible exact H2_) | (have H2_ := (Option.bind_some _ _).symm.trans H; with_reducible exact H2_) | with_reducible exact H | (rw [hy138]; exact H) | exact H
  have Ny138 := K0 hy138; clear hy138
  replace H := Option.bind_eq_some_iff.mp H
  obtain ⟨⟨t141, t144⟩, A10, H⟩ := H
  replace H : (if t144 = 0 then ((sequiturbase_Ints.f k t141 (([2, 3] : List Int))).bind fun t148 => (some t148)) else (some false)) = some r := H
  have A1 := K0 A10; clear A10
  by_cases c2 : t144 = 0
  case neg =>
    rw [if_neg c2] at H
    have c2b0 : (t144 == 0) = false := beq_eq_false_iff_ne.mpr c2
    have c2b1 : (t144 != 0) = true := bne_iff_ne.mpr c2
    as_aux_lemma =>
      obtain rfl := Option.some.inj H
      go_enter Try.func8, Try.ntmps8
      go_wp2_with (first | ((with_reducible refine gate_dst (N := 4) rfl ?_); (try (refine gate_guard (by rfl) ?_; dsimp only)); refine Kd.R_lit (Kd.int .i64) _ 3 ?hg (N := 4) ?hd (xs := ([1] : List Int)) (inner := [.int .i64 1]) (ok := fun _ => True) (okp := fun _ => True) ?hr ?hp (fun _ hk => hk) trivial (Below.refl _ _) (Nat.le_refl _) (by simp) ?_; (case hd => rfl); (case hg => rfl); (case hr => first | (go_simp; done) | (go_simp; rfl)); (case hp => exact (Reps.one (show Kd.M (Kd.int .i64) _ _ _ 1 [.int .i64 1] from rfl) (Reps.none _ _))); intro v127 w24 ho25 hb hg_ hnew_; clear hg_ hnew_; (first | rw [← Ny126.out] at ho25 | (simp only [Int.reduceToNat] at ho25; rw [← Ny126.out] at ho25)); have n0_ := K0 (Kd.R_lower ho25 (below_size (by repeat (first | (with_reducible first | exact HB.out | apply below_alloc | apply pw_below_drewN | apply below_drew1) | exact HB.out)))); have n1_ := K0 (below_step (by repeat (first | (with_reducible first | exact HB.out | apply below_alloc | apply pw_below_drewN | apply below_drew1) | exact HB.out)) hb); clear HB; have HO128 := n0_; have HB := n1_; clear n0_ n1_; clear hb ho25) | ((with_reducible refine gate_dst (N := 5) rfl ?_); (try (refine gate_guard (by rfl) ?_; dsimp only)); refine Kd.R_lit (Kd.int .i64) _ 3 ?hg (N := 5) ?hd (xs := ([(-1)] : List Int)) (inner := [.int .i64 (-1)]) (ok := fun _ => True) (okp := fun _ => True) ?hr ?hp (fun _ hk => hk) trivial (Below.refl _ _) (Nat.le_refl _) (by simp) ?_; (case hd => rfl); (case hg => rfl); (case hr => first | (go_simp; done) | (go_simp; rfl)); (case hp => exact (Reps.one (show Kd.M (Kd.int .i64) _ _ _ (-1) [.int .i64 (-1)] from rfl) (Reps.none _ _))); intro v130 w26 ho27 hb hg_ hnew_; clear hg_ hnew_; (first | rw [← Ny129.out] at ho27 | (simp only [Int.reduceToNat] at ho27; rw [← Ny129.out] at ho27)); have n0_ := K0 (Kd.R_elder' (by (with_reducible repeat (first | apply Kd.R_alloc | apply Kd.R_drewN | apply Kd.R_drew)); exact HO128.out) (Kd.R_base ho27) hb); have n1_ := K0 (Kd.R_lower (Kd.R_new' ho27 (Kd.R_lt (by (with_reducible repeat (first | apply Kd.R_alloc | apply Kd.R_drewN | apply Kd.R_drew)); exact HO128.out))) (below_size (by repeat (first | (with_reducible first | exact HB.out | apply below_alloc | apply pw_below_drewN | apply below_drew1) | exact HB.out)))); have n2_ := K0 (below_step (by repeat (first | (with_reducible first | exact HB.out | apply below_alloc | apply pw_below_drewN | apply below_drew1) | exact HB.out)) hb); clear HO128; clear HB; have HO128 := n0_; have HO131 := n1_; have HB := n2_; clear n0_ n1_ n2_; clear hb ho27) | ((with_reducible refine gate_dst (N := 6) rfl ?_); (try (refine gate_guard (by rfl) ?_; dsimp only)); refine Kd.R_lit (Kd.int .i64) _ 3 ?hg (N := 6) ?hd (xs := ([2] : List Int)) (inner := [.int .i64 2]) (ok := fun _ => True) (okp := fun _ => True) ?hr ?hp (fun _ hk => hk) trivial (Below.refl _ _) (Nat.le_refl _) (by simp) ?_; (case hd => rfl); (case hg => rfl); (case hr => first | (go_simp; done) | (go_simp; rfl)); (case hp => exact (Reps.one (show Kd.M (Kd.int .i64) _ _ _ 2 [.int .i64 2] from rfl) (Reps.none _ _))); intro v133 w28 ho29 hb hg_ hnew_; clear hg_ hnew_; (first | rw [← Ny132.out] at ho29 | (simp only [Int.reduceToNat] at ho29; rw [← Ny132.out] at ho29)); have n0_ := K0 (Kd.R_elder' (by (with_reducible repeat (first | apply Kd.R_alloc | apply Kd.R_drewN | apply Kd.R_drew)); exact HO128.out) (Kd.R_base ho29) hb); have n1_ := K0 (Kd.R_elder' (by (with_reducible repeat (first | apply Kd.R_alloc | apply Kd.R_drewN | apply Kd.R_drew)); exact HO131.out) (Kd.R_base ho29) hb); have n2_ := K0 (Kd.R_lower (Kd.R_new' (Kd.R_new' ho29 (Kd.R_lt (by (with_reducible repeat (first | apply Kd.R_alloc | apply Kd.R_drewN | apply Kd.R_drew)); exact HO128.out))) (Kd.R_lt (by (with_reducible repeat (first | apply Kd.R_alloc | apply Kd.R_drewN | apply Kd.R_drew)); exact HO131.out))) (below_size (by repeat (first | (with_reducible first | exact HB.out | apply below_alloc | apply pw_below_drewN | apply below_drew1) | exact HB.out)))); have n3_ := K0 (below_step (by repeat (first | (with_reducible first | exact HB.out | apply below_alloc | apply pw_below_drewN | apply below_drew1) | exact HB.out)) hb); clear HO128; clear HO131; clear HB; have HO128 := n0_; have HO131 := n1_; have HO134 := n2_; have HB := n3_; clear n0_ n1_ n2_ n3_; clear hb ho29) | ((with_reducible refine gate_dst (N := 7) rfl ?_); (try (refine gate_guard (by rfl) ?_; dsimp only)); refine Kd.R_lit (Kd.int .i64) _ 3 ?hg (N := 7) ?hd (xs := ([(-2)] : List Int)) (inner := [.int .i64 (-2)]) (ok := fun _ => True) (okp := fun _ => True) ?hr ?hp (fun _ hk => hk) trivial (Below.refl _ _) (Nat.le_refl _) (by simp) ?_; (case hd => rfl); (case hg => rfl); (case hr => first | (go_simp; done) | (go_simp; rfl)); (case hp => exact (Reps.one (show Kd.M (Kd.int .i64) _ _ _ (-2) [.int .i64 (-2)] from rfl) (Reps.none _ _))); intro v136 w30 ho31 hb hg_ hnew_; clear hg_ hnew_; (first | rw [← Ny135.out] at ho31 | (simp only [Int.reduceToNat] at ho31; rw [← Ny135.out] at ho31)); have n0_ := K0 (Kd.R_elder' (by (with_reducible repeat (first | apply Kd.R_alloc | apply Kd.R_drewN | apply Kd.R_drew)); exact HO128.out) (Kd.R_base ho31) hb); have n1_ := K0 (Kd.R_elder' (by (with_reducible repeat (first | apply Kd.R_alloc | apply Kd.R_drewN | apply Kd.R_drew)); exact HO131.out) (Kd.R_base ho31) hb); have n2_ := K0 (Kd.R_elder' (by (with_reducible repeat (first | apply Kd.R_alloc | apply Kd.R_drewN | apply Kd.R_drew)); exact HO134.out) (Kd.R_base ho31) hb); have n3_ := K0 (Kd.R_lower (Kd.R_new' (Kd.R_new' (Kd.R_new' ho31 (Kd.R_lt (by (with_reducible repeat (first | apply Kd.R_alloc | apply Kd.R_drewN | apply Kd.R_drew)); exact HO128.out))) (Kd.R_lt (by (with_reducible repeat (first | apply Kd.R_alloc | apply Kd.R_drewN | apply Kd.R_drew)); exact HO131.out))) (Kd.R_lt (by (with_reducible repeat (first | apply Kd.R_alloc | apply Kd.R_drewN | apply Kd.R_drew)); exact HO134.out))) (below_size (by repeat (first | (with_reducible first | exact HB.out | apply below_alloc | apply pw_below_drewN | apply below_drew1) | exact HB.out)))); have n4_ := K0 (below_step (by repeat (first | (with_reducible first | exact HB.out | apply below_alloc | apply pw_below_drewN | apply below_drew1) | exact HB.out)) hb); clear HO128; clear HO131; clear HO134; clear HB; have HO128 := n0_; have HO131 := n1_; have HO134 := n2_; have HO137 := n3_; have HB := n4_; clear n0_ n1_ n2_ n3_ n4_; clear hb ho31; obtain ⟨Ao32, co32, eo32⟩ := Kd.R_slice HO128.out; subst eo32; obtain ⟨Ao33, co33, eo33⟩ := Kd.R_slice HO131.out; subst eo33; obtain ⟨Ao34, co34, eo34⟩ := Kd.R_slice HO134.out; subst eo34; obtain ⟨Ao35, co35, eo35⟩ := Kd.R_slice HO137.out; subst eo35) | ((with_reducible refine gate_dst (N := 8) rfl ?_); (try (refine gate_guard (by rfl) ?_; dsimp only)); refine Kd.N_lit (Kd.slice 3 (Kd.int .i64)) _ 29 ?hg (N' := 8) ?hd (xs := ([y126, y129, y132, y135] : List (List Int))) (inner := [.slice Ao32 y126.length co32, .slice Ao33 y129.length co33, .slice Ao34 y132.length co34, .slice Ao35 y135.length co35]) (ok := (fun _ => True)) (okp := (fun _ => True)) ?hr ?hp (fun _ hk => hk) ((show ∀ k_, w30.heap.size ≤ k_ → (fun _ => True) k_ from fun k_ hk => trivial) _ (Nat.le_refl _)) (Below.refl _ _) (Nat.le_refl _) (by simp) ?_; (case hd => rfl); (case hg => rfl); (case hr => first | (go_simp; done) | (go_simp; rfl)); (case hp => exact (Reps.one (show Kd.FK (Kd.slice 3 (Kd.int .i64)) _ _ y126 [.slice Ao32 y126.length co32] from (Kd.FK_slice_mk (Kd.R_reads' (Kd.R_mono (ok' := (fun _ => True)) (HO128.out) (fun k_ hk => trivial))).2.1 (Kd.R_F (Kd.R_mono (ok' := (fun _ => True)) (HO128.out) (fun k_ hk => trivial))))) (Reps.one (show Kd.FK (Kd.slice 3 (Kd.int .i64)) _ _ y129 [.slice Ao33 y129.length co33] from (Kd.FK_slice_mk (Kd.R_reads' (Kd.R_mono (ok' := (fun _ => True)) (HO131.out) (fun k_ hk => trivial))).2.1 (Kd.R_F (Kd.R_mono (ok' := (fun _ => True)) (HO131.out) (fun k_ hk => trivial))))) (Reps.one (show Kd.FK (Kd.slice 3 (Kd.int .i64)) _ _ y132 [.slice Ao34 y132.length co34] from (Kd.FK_slice_mk (Kd.R_reads' (Kd.R_mono (ok' := (fun _ => True)) (HO134.out) (fun k_ hk => trivial))).2.1 (Kd.R_F (Kd.R_mono (ok' := (fun _ => True)) (HO134.out) (fun k_ hk => trivial))))) (Reps.one (show Kd.FK (Kd.slice 3 (Kd.int .i64)) _ _ y135 [.slice Ao35 y135.length co35] from (Kd.FK_slice_mk (Kd.R_reads' (Kd.R_mono (ok' := (fun _ => True)) (HO137.out) (fun k_ hk => trivial))).2.1 (Kd.R_F (Kd.R_mono (ok' := (fun _ => True)) (HO137.out) (fun k_ hk => trivial))))) (Reps.none _ _)))))); intro v139 w36 ho37 hb hg_ hnew_; clear hg_ hnew_; (first | rw [← Ny138.out] at ho37 | (simp only [Int.reduceToNat] at ho37; rw [← Ny138.out] at ho37)); have n0_ := K0 (Kd.N_lower ho37 (below_size (by repeat (first | (with_reducible first | exact HB.out | apply below_alloc | apply pw_below_drewN | apply below_drew1) | exact HB.out)))); have n1_ := K0 (below_step (by repeat (first | (with_reducible first | exact HB.out | apply below_alloc | apply pw_below_drewN | apply below_drew1) | exact HB.out)) hb); clear HB; clear HO128; clear HO131; clear HO134; clear HO137; have HO140 := n0_; have HB := n1_; clear n0_ n1_; clear hb ho37; obtain ⟨Ao38, co38, eo38⟩ := Kd.N_slice HO140.out; subst eo38) | ((with_reducible refine gate_callee (f := 21) rfl ?_); refine goesL_ (some 10) rfl rfl Try.func21 (by kernel_rfl) rfl #[.agg #[.int .i64 2, .slice Ao38 y138.length co38]] rfl (by (try simp only [List.map_toArray, List.map_cons, List.map_nil]); first | done | rfl | (simp only [List.length_drop, List.length_take]; rfl)) ?_; (with_reducible refine (core_Minimal.calls k 2 (fun k_ => True) _ _ y138 t141 t144 _ ?side1 A1.out).mono ?_); (case side1 => exact Kd.N_V (HO140.out)); rintro e w39 ⟨v142, rfl, ho0, hb⟩; refine ⟨_, rfl, ?_⟩; have n0_ := K0 (Kd.N_elder' (by (with_reducible repeat (first | apply Kd.N_alloc | apply Kd.N_drewN | apply Kd.N_drew)); exact HO140.out) (Kd.R_base ho0) hb); have n1_ := K0 (Kd.R_lower (Kd.R_mono (ok' := fun k_ => True) ho0 (fun _ hk_ => trivial)) (below_size (by repeat (first | (with_reducible first | exact HB.out | apply below_alloc | apply pw_below_drewN | apply below_drew1) | exact HB.out)))); have n2_ := K0 (below_step (by repeat (first | (with_reducible first | exact HB.out | apply below_alloc | apply pw_below_drewN | apply below_drew1) | exact HB.out)) hb); clear HO140; clear HB; have HO140 := n0_; have HO143 := n1_; have HB := n2_; clear n0_ n1_ n2_; (try clear hb); (try clear hb2); (try clear hk); (try clear hi); (try clear ho0)))
      go_ret
      exact ⟨by first | rfl | (simp [errW_none, errW_some] <;> rfl) | (simp [*, errW_none, errW_some] <;> rfl), by repeat (first | (with_reducible first | exact HB.out | apply below_alloc | apply pw_below_drewN | apply below_drew1) | exact HB.out)⟩
  rw [if_pos c2] at H
  have c2b0 : (t144 == 0) = true := beq_iff_eq.mpr c2
  have c2b1 : (t144 != 0) = false := bne_eq_false_iff_eq.mpr c2
  clear c2
  obtain ⟨y145, hy145⟩ : ∃ y_ : List Int, y_ = (([2, 3] : List Int)) := ⟨_, rfl⟩
  replace H : ((sequiturbase_Ints.f k t141 y145).bind fun t148 => (some t148)) = some r := by first | (rw [hy145]; with_reducible exact H) | (have H2_ := (Option.bind_some _ _).symm.trans H; rw [hy145]; with_reducible exact H2_) | (have H2_ := (Option.bind_some _ _).symm.trans H; with_reducible exact H2_) | with_reducible exact H | (rw [hy145]; exact H) | exact H
  have Ny145 := K0 hy145; clear hy145
  replace H := Option.bind_eq_some_iff.mp H
  obtain ⟨t148, A30, H⟩ := H
  replace H : (some t148) = some r := H
  have A3 := K0 A30; clear A30
  as_aux_lemma =>
    obtain rfl := Option.some.inj H
    go_enter Try.func8, Try.ntmps8
    go_wp2_with (first | ((with_reducible refine gate_dst (N := 4) rfl ?_); (try (refine gate_guard (by rfl) ?_; dsimp only)); refine Kd.R_lit (Kd.int .i64) _ 3 ?hg (N := 4) ?hd (xs := ([1] : List Int)) (inner := [.int .i64 1]) (ok := fun _ => True) (okp := fun _ => True) ?hr ?hp (fun _ hk => hk) trivial (Below.refl _ _) (Nat.le_refl _) (by simp) ?_; (case hd => rfl); (case hg => rfl); (case hr => first | (go_simp; done) | (go_simp; rfl)); (case hp => exact (Reps.one (show Kd.M (Kd.int .i64) _ _ _ 1 [.int .i64 1] from rfl) (Reps.none _ _))); intro v127 w4 ho5 hb hg_ hnew_; clear hg_ hnew_; (first | rw [← Ny126.out] at ho5 | (simp only [Int.reduceToNat] at ho5; rw [← Ny126.out] at ho5)); have n0_ := K0 (Kd.R_lower ho5 (below_size (by repeat (first | (with_reducible first | exact HB.out | apply below_alloc | apply pw_below_drewN | apply below_drew1) | exact HB.out)))); have n1_ := K0 (below_step (by repeat (first | (with_reducible first | exact HB.out | apply below_alloc | apply pw_below_drewN | apply below_drew1) | exact HB.out)) hb); clear HB; have HO128 := n0_; have HB := n1_; clear n0_ n1_; clear hb ho5) | ((with_reducible refine gate_dst (N := 5) rfl ?_); (try (refine gate_guard (by rfl) ?_; dsimp only)); refine Kd.R_lit (Kd.int .i64) _ 3 ?hg (N := 5) ?hd (xs := ([(-1)] : List Int)) (inner := [.int .i64 (-1)]) (ok := fun _ => True) (okp := fun _ => True) ?hr ?hp (fun _ hk => hk) trivial (Below.refl _ _) (Nat.le_refl _) (by simp) ?_; (case hd => rfl); (case hg => rfl); (case hr => first | (go_simp; done) | (go_simp; rfl)); (case hp => exact (Reps.one (show Kd.M (Kd.int .i64) _ _ _ (-1) [.int .i64 (-1)] from rfl) (Reps.none _ _))); intro v130 w6 ho7 hb hg_ hnew_; clear hg_ hnew_; (first | rw [← Ny129.out] at ho7 | (simp only [Int.reduceToNat] at ho7; rw [← Ny129.out] at ho7)); have n0_ := K0 (Kd.R_elder' (by (with_reducible repeat (first | apply Kd.R_alloc | apply Kd.R_drewN | apply Kd.R_drew)); exact HO128.out) (Kd.R_base ho7) hb); have n1_ := K0 (Kd.R_lower (Kd.R_new' ho7 (Kd.R_lt (by (with_reducible repeat (first | apply Kd.R_alloc | apply Kd.R_drewN | apply Kd.R_drew)); exact HO128.out))) (below_size (by repeat (first | (with_reducible first | exact HB.out | apply below_alloc | apply pw_below_drewN | apply below_drew1) | exact HB.out)))); have n2_ := K0 (below_step (by repeat (first | (with_reducible first | exact HB.out | apply below_alloc | apply pw_below_drewN | apply below_drew1) | exact HB.out)) hb); clear HO128; clear HB; have HO128 := n0_; have HO131 := n1_; have HB := n2_; clear n0_ n1_ n2_; clear hb ho7) | ((with_reducible refine gate_dst (N := 6) rfl ?_); (try (refine gate_guard (by rfl) ?_; dsimp only)); refine Kd.R_lit (Kd.int .i64) _ 3 ?hg (N := 6) ?hd (xs := ([2] : List Int)) (inner := [.int .i64 2]) (ok := fun _ => True) (okp := fun _ => True) ?hr ?hp (fun _ hk => hk) trivial (Below.refl _ _) (Nat.le_refl _) (by simp) ?_; (case hd => rfl); (case hg => rfl); (case hr => first | (go_simp; done) | (go_simp; rfl)); (case hp => exact (Reps.one (show Kd.M (Kd.int .i64) _ _ _ 2 [.int .i64 2] from rfl) (Reps.none _ _))); intro v133 w8 ho9 hb hg_ hnew_; clear hg_ hnew_; (first | rw [← Ny132.out] at ho9 | (simp only [Int.reduceToNat] at ho9; rw [← Ny132.out] at ho9)); have n0_ := K0 (Kd.R_elder' (by (with_reducible repeat (first | apply Kd.R_alloc | apply Kd.R_drewN | apply Kd.R_drew)); exact HO128.out) (Kd.R_base ho9) hb); have n1_ := K0 (Kd.R_elder' (by (with_reducible repeat (first | apply Kd.R_alloc | apply Kd.R_drewN | apply Kd.R_drew)); exact HO131.out) (Kd.R_base ho9) hb); have n2_ := K0 (Kd.R_lower (Kd.R_new' (Kd.R_new' ho9 (Kd.R_lt (by (with_reducible repeat (first | apply Kd.R_alloc | apply Kd.R_drewN | apply Kd.R_drew)); exact HO128.out))) (Kd.R_lt (by (with_reducible repeat (first | apply Kd.R_alloc | apply Kd.R_drewN | apply Kd.R_drew)); exact HO131.out))) (below_size (by repeat (first | (with_reducible first | exact HB.out | apply below_alloc | apply pw_below_drewN | apply below_drew1) | exact HB.out)))); have n3_ := K0 (below_step (by repeat (first | (with_reducible first | exact HB.out | apply below_alloc | apply pw_below_drewN | apply below_drew1) | exact HB.out)) hb); clear HO128; clear HO131; clear HB; have HO128 := n0_; have HO131 := n1_; have HO134 := n2_; have HB := n3_; clear n0_ n1_ n2_ n3_; clear hb ho9) | ((with_reducible refine gate_dst (N := 7) rfl ?_); (try (refine gate_guard (by rfl) ?_; dsimp only)); refine Kd.R_lit (Kd.int .i64) _ 3 ?hg (N := 7) ?hd (xs := ([(-2)] : List Int)) (inner := [.int .i64 (-2)]) (ok := fun _ => True) (okp := fun _ => True) ?hr ?hp (fun _ hk => hk) trivial (Below.refl _ _) (Nat.le_refl _) (by simp) ?_; (case hd => rfl); (case hg => rfl); (case hr => first | (go_simp; done) | (go_simp; rfl)); (case hp => exact (Reps.one (show Kd.M (Kd.int .i64) _ _ _ (-2) [.int .i64 (-2)] from rfl) (Reps.none _ _))); intro v136 w10 ho11 hb hg_ hnew_; clear hg_ hnew_; (first | rw [← Ny135.out] at ho11 | (simp only [Int.reduceToNat] at ho11; rw [← Ny135.out] at ho11)); have n0_ := K0 (Kd.R_elder' (by (with_reducible repeat (first | apply Kd.R_alloc | apply Kd.R_drewN | apply Kd.R_drew)); exact HO128.out) (Kd.R_base ho11) hb); have n1_ := K0 (Kd.R_elder' (by (with_reducible repeat (first | apply Kd.R_alloc | apply Kd.R_drewN | apply Kd.R_drew)); exact HO131.out) (Kd.R_base ho11) hb); have n2_ := K0 (Kd.R_elder' (by (with_reducible repeat (first | apply Kd.R_alloc | apply Kd.R_drewN | apply Kd.R_drew)); exact HO134.out) (Kd.R_base ho11) hb); have n3_ := K0 (Kd.R_lower (Kd.R_new' (Kd.R_new' (Kd.R_new' ho11 (Kd.R_lt (by (with_reducible repeat (first | apply Kd.R_alloc | apply Kd.R_drewN | apply Kd.R_drew)); exact HO128.out))) (Kd.R_lt (by (with_reducible repeat (first | apply Kd.R_alloc | apply Kd.R_drewN | apply Kd.R_drew)); exact HO131.out))) (Kd.R_lt (by (with_reducible repeat (first | apply Kd.R_alloc | apply Kd.R_drewN | apply Kd.R_drew)); exact HO134.out))) (below_size (by repeat (first | (with_reducible first | exact HB.out | apply below_alloc | apply pw_below_drewN | apply below_drew1) | exact HB.out)))); have n4_ := K0 (below_step (by repeat (first | (with_reducible first | exact HB.out | apply below_alloc | apply pw_below_drewN | apply below_drew1) | exact HB.out)) hb); clear HO128; clear HO131; clear HO134; clear HB; have HO128 := n0_; have HO131 := n1_; have HO134 := n2_; have HO137 := n3_; have HB := n4_; clear n0_ n1_ n2_ n3_ n4_; clear hb ho11; obtain ⟨Ao12, co12, eo12⟩ := Kd.R_slice HO128.out; subst eo12; obtain ⟨Ao13, co13, eo13⟩ := Kd.R_slice HO131.out; subst eo13; obtain ⟨Ao14, co14, eo14⟩ := Kd.R_slice HO134.out; subst eo14; obtain ⟨Ao15, co15, eo15⟩ := Kd.R_slice HO137.out; subst eo15) | ((with_reducible refine gate_dst (N := 8) rfl ?_); (try (refine gate_guard (by rfl) ?_; dsimp only)); refine Kd.N_lit (Kd.slice 3 (Kd.int .i64)) _ 29 ?hg (N' := 8) ?hd (xs := ([y126, y129, y132, y135] : List (List Int))) (inner := [.slice Ao12 y126.length co12, .slice Ao13 y129.length co13, .slice Ao14 y132.length co14, .slice Ao15 y135.length co15]) (ok := (fun _ => True)) (okp := (fun _ => True)) ?hr ?hp (fun _ hk => hk) ((show ∀ k_, w10.heap.size ≤ k_ → (fun _ => True) k_ from fun k_ hk => trivial) _ (Nat.le_refl _)) (Below.refl _ _) (Nat.le_refl _) (by simp) ?_; (case hd => rfl); (case hg => rfl); (case hr => first | (go_simp; done) | (go_simp; rfl)); (case hp => exact (Reps.one (show Kd.FK (Kd.slice 3 (Kd.int .i64)) _ _ y126 [.slice Ao12 y126.length co12] from (Kd.FK_slice_mk (Kd.R_reads' (Kd.R_mono (ok' := (fun _ => True)) (HO128.out) (fun k_ hk => trivial))).2.1 (Kd.R_F (Kd.R_mono (ok' := (fun _ => True)) (HO128.out) (fun k_ hk => trivial))))) (Reps.one (show Kd.FK (Kd.slice 3 (Kd.int .i64)) _ _ y129 [.slice Ao13 y129.length co13] from (Kd.FK_slice_mk (Kd.R_reads' (Kd.R_mono (ok' := (fun _ => True)) (HO131.out) (fun k_ hk => trivial))).2.1 (Kd.R_F (Kd.R_mono (ok' := (fun _ => True)) (HO131.out) (fun k_ hk => trivial))))) (Reps.one (show Kd.FK (Kd.slice 3 (Kd.int .i64)) _ _ y132 [.slice Ao14 y132.length co14] from (Kd.FK_slice_mk (Kd.R_reads' (Kd.R_mono (ok' := (fun _ => True)) (HO134.out) (fun k_ hk => trivial))).2.1 (Kd.R_F (Kd.R_mono (ok' := (fun _ => True)) (HO134.out) (fun k_ hk => trivial))))) (Reps.one (show Kd.FK (Kd.slice 3 (Kd.int .i64)) _ _ y135 [.slice Ao15 y135.length co15] from (Kd.FK_slice_mk (Kd.R_reads' (Kd.R_mono (ok' := (fun _ => True)) (HO137.out) (fun k_ hk => trivial))).2.1 (Kd.R_F (Kd.R_mono (ok' := (fun _ => True)) (HO137.out) (fun k_ hk => trivial))))) (Reps.none _ _)))))); intro v139 w16 ho17 hb hg_ hnew_; clear hg_ hnew_; (first | rw [← Ny138.out] at ho17 | (simp only [Int.reduceToNat] at ho17; rw [← Ny138.out] at ho17)); have n0_ := K0 (Kd.N_lower ho17 (below_size (by repeat (first | (with_reducible first | exact HB.out | apply below_alloc | apply pw_below_drewN | apply below_drew1) | exact HB.out)))); have n1_ := K0 (below_step (by repeat (first | (with_reducible first | exact HB.out | apply below_alloc | apply pw_below_drewN | apply below_drew1) | exact HB.out)) hb); clear HB; clear HO128; clear HO131; clear HO134; clear HO137; have HO140 := n0_; have HB := n1_; clear n0_ n1_; clear hb ho17; obtain ⟨Ao18, co18, eo18⟩ := Kd.N_slice HO140.out; subst eo18) | ((with_reducible refine gate_callee (f := 21) rfl ?_); refine goesL_ (some 10) rfl rfl Try.func21 (by kernel_rfl) rfl #[.agg #[.int .i64 2, .slice Ao18 y138.length co18]] rfl (by (try simp only [List.map_toArray, List.map_cons, List.map_nil]); first | done | rfl | (simp only [List.length_drop, List.length_take]; rfl)) ?_; (with_reducible refine (core_Minimal.calls k 2 (fun k_ => True) _ _ y138 t141 t144 _ ?side1 A1.out).mono ?_); (case side1 => exact Kd.N_V (HO140.out)); rintro e w19 ⟨v142, rfl, ho0, hb⟩; refine ⟨_, rfl, ?_⟩; have n0_ := K0 (Kd.N_elder' (by (with_reducible repeat (first | apply Kd.N_alloc | apply Kd.N_drewN | apply Kd.N_drew)); exact HO140.out) (Kd.R_base ho0) hb); have n1_ := K0 (Kd.R_lower (Kd.R_mono (ok' := fun k_ => True) ho0 (fun _ hk_ => trivial)) (below_size (by repeat (first | (with_reducible first | exact HB.out | apply below_alloc | apply pw_below_drewN | apply below_drew1) | exact HB.out)))); have n2_ := K0 (below_step (by repeat (first | (with_reducible first | exact HB.out | apply below_alloc | apply pw_below_drewN | apply below_drew1) | exact HB.out)) hb); clear HO140; clear HB; have HO140 := n0_; have HO143 := n1_; have HB := n2_; clear n0_ n1_ n2_; (try clear hb); (try clear hb2); (try clear hk); (try clear hi); (try clear ho0)) | ((with_reducible refine gate_dst (N := 17) rfl ?_); (try (refine gate_guard (by rfl) ?_; dsimp only)); refine Kd.R_lit (Kd.int .i64) _ 3 ?hg (N := 17) ?hd (xs := ([2, 3] : List Int)) (inner := [.int .i64 2, .int .i64 3]) (ok := fun _ => True) (okp := fun _ => True) ?hr ?hp (fun _ hk => hk) trivial (Below.refl _ _) (Nat.le_refl _) (by simp) ?_; (case hd => rfl); (case hg => rfl); (case hr => first | (go_simp; done) | (go_simp; rfl)); (case hp => exact (Reps.one (show Kd.M (Kd.int .i64) _ _ _ 2 [.int .i64 2] from rfl) (Reps.one (show Kd.M (Kd.int .i64) _ _ _ 3 [.int .i64 3] from rfl) (Reps.none _ _)))); intro v146 w20 ho21 hb hg_ hnew_; clear hg_ hnew_; (first | rw [← Ny145.out] at ho21 | (simp only [Int.reduceToNat] at ho21; rw [← Ny145.out] at ho21)); have n0_ := K0 (Kd.N_elder' (by (with_reducible repeat (first | apply Kd.N_alloc | apply Kd.N_drewN | apply Kd.N_drew)); exact HO140.out) (Kd.R_base ho21) hb); have n1_ := K0 (Kd.R_elder' (by (with_reducible repeat (first | apply Kd.R_alloc | apply Kd.R_drewN | apply Kd.R_drew)); exact HO143.out) (Kd.R_base ho21) hb); have n2_ := K0 (Kd.R_lower (Kd.R_new' ho21 (Kd.R_lt (by (with_reducible repeat (first | apply Kd.R_alloc | apply Kd.R_drewN | apply Kd.R_drew)); exact HO143.out))) (below_size (by repeat (first | (with_reducible first | exact HB.out | apply below_alloc | apply pw_below_drewN | apply below_drew1) | exact HB.out)))); have n3_ := K0 (below_step (by repeat (first | (with_reducible first | exact HB.out | apply below_alloc | apply pw_below_drewN | apply below_drew1) | exact HB.out)) hb); clear HO140; clear HO143; clear HB; have HO140 := n0_; have HO143 := n1_; have HO147 := n2_; have HB := n3_; clear n0_ n1_ n2_ n3_; clear hb ho21; obtain ⟨Ao22, co22, eo22⟩ := Kd.R_slice HO143.out; subst eo22; obtain ⟨Ao23, co23, eo23⟩ := Kd.R_slice HO147.out; subst eo23) | (go_at_call 18; (with_reducible refine (sequiturbase_Ints.calls k _ _ t141 _ _ y145 t148 _ ?side1 ?side2 ?side3 ?side4 A3.out).mono ?_); (case side1 => repeat (first | exact (Kd.R_reads' HO143.out).2.2 | (with_reducible refine Kd.C_alloc ?_ _) | (with_reducible refine Kd.C_drewN ?_ _) | (with_reducible refine Kd.C_drew ?_))); (case side2 => exact (Kd.R_reads' HO143.out).2.1); (case side3 => repeat (first | exact (Kd.R_reads' HO147.out).2.2 | (with_reducible refine Kd.C_alloc ?_ _) | (with_reducible refine Kd.C_drewN ?_ _) | (with_reducible refine Kd.C_drew ?_))); (case side4 => exact (Kd.R_reads' HO147.out).2.1); rintro e w' ⟨rfl, ⟨nd, rfl⟩⟩))
    go_ret
    exact ⟨by first | rfl | (simp [errW_none, errW_some] <;> rfl) | (simp [*, errW_none, errW_some] <;> rfl), by repeat (first | (with_reducible first | exact HB.out | apply below_alloc | apply pw_below_drewN | apply below_drew1) | exact HB.out)⟩
end Go.Proofs.Ytppkeonhbkahmaa.P
