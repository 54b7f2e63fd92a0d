import Derived.StillTailTactics
import Derived.Shelf.Abstract
import Derived.RangeFuncCalls
import Derived.Lib.SliceRun
import Derived.Deep.RegionLaw
import Derived.Shelf.RegionOpenPlain
import Derived.Test.YtkmlekfmccghjaaKLearnUnit1
namespace Go.Proofs.Ytkmlekfmccghjaa.P
open Go.RowKit Go.Proofs.YtkmlekfmccghjaaW.PrintWords Go.Proofs.YtkmlekfmccghjaaW.PrintLast Go.Proofs.YtkmlekfmccghjaaW.PrintMore
attribute [local go_sem] max2_int min2_int max_two min_two max_three min_three max_four min_four
set_option linter.unusedVariables false
set_option linter.unusedSimpArgs false
def slices_Contains_int_int.f (k : Nat) (l0 : List Int) (a1 : Int) : Option (Bool) := (slices_Index_int_int.f k l0 a1).bind fun t305 => (some (decide (t305 ≥ 0)))
set_option maxHeartbeats 8000000 in
set_option maxRecDepth 100000 in
theorem slices_Contains_int_int.calls (k : Nat) (A0 : Option Addr) (c0 : Nat) (l0 : List Int) (a1 : Int) (r : Bool) (w : World) (hr0 : Kd.C (Kd.int .i64) w A0 l0.length l0) (hc0 : l0.length ≤ c0) (h : slices_Contains_int_int.f k l0 a1 = some r) :
    Calls Try.prog 64 #[.slice A0 l0.length c0, .int .i64 a1] w fun e w' => e = .returned (.bool r) ∧ Drawn0 w w' := by
  have HR0 := K0 hr0
  have HC0 := K0 hc0
  clear hr0 hc0
  have H : ((slices_Index_int_int.f k l0 a1).bind fun t305 => (some (decide (t305 ≥ 0)))) = some r := h
  clear h
  replace H := Option.bind_eq_some_iff.mp H
  obtain ⟨t305, A30, H⟩ := H
  replace H : (some (decide (t305 ≥ 0))) = some r := H
  have A3 := K0 A30
  clear A30
  as_aux_lemma =>
    obtain rfl := Option.some.inj H
    go_enter Try.func64, Try.ntmps64
    go_wp2_with (first | ((with_reducible refine gate_callee (f := 88) rfl ?_); refine goesL_ (some 7) rfl rfl Try.func88 (by kernel_rfl) rfl #[.slice A0 l0.length c0, .int .i64 a1] rfl (by (try simp only [List.map_toArray, List.map_cons, List.map_nil]); first | done | rfl | (simp only [List.length_drop, List.length_take]; rfl)) ?_; (with_reducible refine (slices_Index_int_int.calls k _ _ l0 a1 t305 _ ?side1 ?side2 A3.out).mono ?_); (case side1 => repeat (first | exact HR0.out | (with_reducible refine Kd.C_alloc ?_ _) | (with_reducible refine Kd.C_drewN ?_ _) | (with_reducible refine Kd.C_drew ?_))); (case side2 => exact HC0.out); rintro e w' ⟨rfl, ⟨nd, rfl⟩⟩; refine ⟨_, rfl, ?_⟩))
    go_ret
    exact ⟨by first | rfl | (simp; done) | (simp [*]; done), by repeat (first | exact Drawn0.refl _ | apply Drawn0.step)⟩
def lit_Has.f (k : Nat) (l0 : List Int) (a1 : Int) : Option (Bool) := (lit_is.f a1).bind fun t306 => (if t306 = true then ((slices_Contains_int_int.f k l0 a1).bind fun t307 => (some t307)) else (some false))
set_option maxHeartbeats 8000000 in
set_option maxRecDepth 100000 in
theorem lit_Has.calls (k : Nat) (A0 : Option Addr) (c0 : Nat) (l0 : List Int) (a1 : Int) (r : Bool) (w : World) (hr0 : Kd.C (Kd.int .i64) w A0 l0.length l0) (hc0 : l0.length ≤ c0) (h : lit_Has.f k l0 a1 = some r) :
    Calls Try.prog 102 #[.slice A0 l0.length c0, .int .i64 a1] w fun e w' => e = .returned (.bool r) ∧ Drawn0 w w' := by
  have HR0 := K0 hr0
  have HC0 := K0 hc0
  clear hr0 hc0
  have H : ((lit_is.f a1).bind fun t306 => (if t306 = true then ((slices_Contains_int_int.f k l0 a1).bind fun t307 => (some t307)) else (some false))) = some r := h
  clear h
  replace H := Option.bind_eq_some_iff.mp H
  obtain ⟨t306, A30, H⟩ := H
  replace H : (if t306 = true then ((slices_Contains_int_int.f k l0 a1).bind fun t307 => (some t307)) else (some false)) = some r := H
  have A3 := K0 A30
  clear A30
  by_cases c4 : t306 = true
  · subst c4
    have H1 : ((slices_Contains_int_int.f k l0 a1).bind fun t307 => (some t307)) = some r := by rw [if_pos rfl] at H; exact H
    clear H
    have H := H1
    clear H1
    replace H := Option.bind_eq_some_iff.mp H
    obtain ⟨t307, A50, H⟩ := H
    replace H : (some t307) = some r := H
    have A5 := K0 A50
    clear A50
    as_aux_lemma =>
      obtain rfl := Option.some.inj H
      go_enter Try.func102, Try.ntmps102
      go_wp2_with (first | ((with_reducible refine gate_callee (f := 90) rfl ?_); refine goesL_ (some 6) rfl rfl Try.func90 (by kernel_rfl) rfl #[.int .i64 a1] rfl (by (try simp only [List.map_toArray, List.map_cons, List.map_nil]); first | done | rfl | (simp only [List.length_drop, List.length_take]; rfl)) ?_; (with_reducible refine (lit_is.calls a1 true _ A3.out).mono ?_); rintro e w' ⟨rfl, ⟨nd, rfl⟩⟩; refine ⟨_, rfl, ?_⟩) | (go_at_call 64; (with_reducible refine (slices_Contains_int_int.calls k _ _ l0 a1 t307 _ ?side1 ?side2 A5.out).mono ?_); (case side1 => repeat (first | exact HR0.out | (with_reducible refine Kd.C_alloc ?_ _) | (with_reducible refine Kd.C_drewN ?_ _) | (with_reducible refine Kd.C_drew ?_))); (case side2 => exact HC0.out); rintro e w' ⟨rfl, ⟨nd, rfl⟩⟩))
      go_ret
      exact ⟨by first | rfl | (simp; done) | (simp [*]; done), by repeat (first | exact Drawn0.refl _ | apply Drawn0.step)⟩
  · replace c4 := Bool.eq_false_iff.mpr c4
    subst c4
    have H1 : (some false) = some r := by rw [if_neg (show ¬ (false = true) by decide)] at H; exact H
    clear H
    have H := H1
    clear H1
    as_aux_lemma =>
      obtain rfl := Option.some.inj H
      go_enter Try.func102, Try.ntmps102
      go_wp2_with (first | ((with_reducible refine gate_callee (f := 90) rfl ?_); refine goesL_ (some 6) rfl rfl Try.func90 (by kernel_rfl) rfl #[.int .i64 a1] rfl (by (try simp only [List.map_toArray, List.map_cons, List.map_nil]); first | done | rfl | (simp only [List.length_drop, List.length_take]; rfl)) ?_; (with_reducible refine (lit_is.calls a1 false _ A3.out).mono ?_); rintro e w' ⟨rfl, ⟨nd, rfl⟩⟩; refine ⟨_, rfl, ?_⟩))
      go_ret
      exact ⟨by first | rfl | (simp; done) | (simp [*]; done), by repeat (first | exact Drawn0.refl _ | apply Drawn0.step)⟩
def lit_Right.l0 : Nat → Int → List Int → Int → Int → Option (Int)
  | 0, _, _, _, _ => none
  | k + 1, x1, x10, x11, x12 => if x12 < x11 then (if 0 ≤ x12 then (if x12 < (x10.length : Int) then ((lit_is.f (rd x10 x12)).bind fun t106 => (if t106 = true then ((lit_variable.f (rd x10 x12)).bind fun t107 => (if t107 > x1 then (some 1) else (lit_Right.l0 k x1 x10 x11 (wrap64 (x12 + 1))))) else (some 1))) else (none)) else (none)) else (some 0)
def lit_Right.f (k : Nat) (l0 : List Int) (a1 : Int) : Option (Int) := if (l0.length : Int) > 64 then (some 2) else (lit_Right.l0 k a1 l0 (l0.length : Int) 0)
theorem lit_Right.mono_l : ∀ k, (∀ y0 y1 y2 y3, LeO (lit_Right.l0 k y0 y1 y2 y3) (lit_Right.l0 (k + 1) y0 y1 y2 y3))
  | 0 => fun _ _ _ _ r h => by simp [lit_Right.l0] at h
  | k + 1 => by
    have ih0 := lit_Right.mono_l k
    · intro y0 y1 y2 y3
      unfold lit_Right.l0
      repeat' first
      | (with_reducible exact ih0 _ _ _ _)
      | (with_reducible exact LeO.refl _)
      | (with_reducible exact LeO.none _)
      | (with_reducible refine LeO.ite ?_ ?_)
      | (with_reducible refine LeO.bind ?_ (fun _ => ?_))
      | exact ih0 _ _ _ _
      | exact LeO.none _
      | refine LeO.ite ?_ ?_
      | refine LeO.bind ?_ (fun _ => ?_)
theorem lit_Right.mono : ∀ a0 a1 k, LeO (lit_Right.f k a0 a1) (lit_Right.f (k + 1) a0 a1) := by
  intro a0 a1 k
  have ih0 := lit_Right.mono_l k
  unfold lit_Right.f
  repeat' first
      | (with_reducible exact ih0 _ _ _ _)
      | (with_reducible exact LeO.refl _)
      | (with_reducible exact LeO.none _)
      | (with_reducible refine LeO.ite ?_ ?_)
      | (with_reducible refine LeO.bind ?_ (fun _ => ?_))
      | exact ih0 _ _ _ _
      | exact LeO.none _
      | refine LeO.ite ?_ ?_
      | refine LeO.bind ?_ (fun _ => ?_)
set_option maxHeartbeats 8000000 in
set_option maxRecDepth 100000 in
theorem lit_Right.calls (k : Nat) (A0 : Option Addr) (c0 : Nat) (l0 : List Int) (a1 : Int) (r : Int) (w : World) (hr0 : Kd.C (Kd.int .i64) w A0 l0.length l0) (hc0 : l0.length ≤ c0) (h : lit_Right.f k l0 a1 = some r) :
    Calls Try.prog 69 #[.slice A0 l0.length c0, .int .i64 a1] w fun e w' => e = .returned (.int .i64 r) ∧ Drawn0 w w' := by
  have HR0 := K0 hr0
  have HC0 := K0 hc0
  clear hr0 hc0
  have H : (if (l0.length : Int) > 64 then (some 2) else (lit_Right.l0 k a1 l0 (l0.length : Int) 0)) = some r := h
  clear h
  by_cases c3 : (l0.length : Int) > 64
  · rw [if_pos c3] at H
    have c3b0 : decide (64 < (l0.length : Int)) = true := decide_eq_true c3
    have c3b1 : decide (64 < l0.length) = true := decide_eq_true (by omega)
    clear c3
    as_aux_lemma =>
      obtain rfl := Option.some.inj H
      go_enter Try.func69, Try.ntmps69
      go_wp2
      go_ret
      exact ⟨by first | rfl | (simp; done) | (simp [*]; done), by repeat (first | exact Drawn0.refl _ | apply Drawn0.step)⟩
  · rw [if_neg c3] at H
    have c3b0 : decide (64 < (l0.length : Int)) = false := decide_eq_false c3
    have c3b1 : decide (64 < l0.length) = false := decide_eq_false (by omega)
    clear c3
    have H' := K0 H
    clear H
    go_enter Try.func69, Try.ntmps69
    go_wp2
    go_loopg [12] k (fun kq v12 w' => ∃ (x12_1 : Int), v12 = .int .i64 x12_1 ∧ Aside0 (lit_Right.l0 kq a1 l0 (l0.length : Int) x12_1 = some r) ∧ Aside0 (kq ≤ k) ∧ Drawn0 w w')
    case atStart => exact ⟨(0), (by first | rfl | (simp; done) | (simp [*]; done)), H', ⟨Nat.le_refl _⟩, by repeat (first | exact Drawn0.refl _ | apply Drawn0.step)⟩
    case round =>
      clear H'
      try clear p2
      try clear c3
      try clear c3b0
      try clear c3b1
      obtain ⟨x12_1, rfl, HA, HK1, ⟨m1, rfl⟩⟩ := hrel
      cases gk with
      | zero => exact absurd HA.out (by simp [lit_Right.l0])
      | succ k1 =>
        have H := HA.out
        clear HA
        simp only [lit_Right.l0] at H
        by_cases c4 : x12_1 < (l0.length : Int)
        · rw [if_pos c4] at H
          have c4b0 : decide (x12_1 < (l0.length : Int)) = true := decide_eq_true c4
          clear c4
          by_cases c5 : 0 ≤ x12_1
          · rw [if_pos c5] at H
            have c5b0 : decide (0 ≤ x12_1) = true := decide_eq_true c5
            clear c5
            by_cases c6 : x12_1 < (l0.length : Int)
            · rw [if_pos c6] at H
              have c6b0 : decide (x12_1 < (l0.length : Int)) = true := decide_eq_true c6
              clear c6
              replace H := Option.bind_eq_some_iff.mp H
              obtain ⟨t106, A70, H⟩ := H
              replace H : (if t106 = true then ((lit_variable.f (rd l0 x12_1)).bind fun t107 => (if t107 > a1 then (some 1) else (lit_Right.l0 k1 a1 l0 (l0.length : Int) (wrap64 (x12_1 + 1))))) else (some 1)) = some r := H
              have A7 := K0 A70
              clear A70
              by_cases c8 : t106 = true
              · subst c8
                have H1 : ((lit_variable.f (rd l0 x12_1)).bind fun t107 => (if t107 > a1 then (some 1) else (lit_Right.l0 k1 a1 l0 (l0.length : Int) (wrap64 (x12_1 + 1))))) = some r := by rw [if_pos rfl] at H; exact H
                clear H
                have H := H1
                clear H1
                replace H := Option.bind_eq_some_iff.mp H
                obtain ⟨t107, A90, H⟩ := H
                replace H : (if t107 > a1 then (some 1) else (lit_Right.l0 k1 a1 l0 (l0.length : Int) (wrap64 (x12_1 + 1)))) = some r := H
                have A9 := K0 A90
                clear A90
                by_cases c10 : t107 > a1
                · rw [if_pos c10] at H
                  have c10b0 : decide (a1 < t107) = true := decide_eq_true c10
                  clear c10
                  as_aux_lemma =>
                    obtain rfl := Option.some.inj H
                    have p105 : 0 ≤ (x12_1 : Int) := of_decide_eq_true (by first | (with_reducible assumption) | assumption)
                    have q105 : x12_1 < (l0.length : Int) := of_decide_eq_true (by first | (with_reducible assumption) | assumption)
                    obtain ⟨ad105, e105, hx105_0⟩ := Kd.at_int HR0.out x12_1 p105 q105
                    cases e105
                    replace p105 := eq_true p105
                    replace q105 := eq_true q105
                    go_wp2_with (first | ((with_reducible refine gate_callee (f := 90) rfl ?_); refine goesL_ (some 17) rfl rfl Try.func90 (by kernel_rfl) rfl #[.int .i64 (rd l0 x12_1)] rfl (by (try simp only [List.map_toArray, List.map_cons, List.map_nil]); first | done | rfl | (simp only [List.length_drop, List.length_take]; rfl)) ?_; (with_reducible refine (lit_is.calls (rd l0 x12_1) true _ A7.out).mono ?_); rintro e w' ⟨rfl, ⟨nd, rfl⟩⟩; refine ⟨_, rfl, ?_⟩) | (go_at_call 91; (with_reducible refine (lit_variable.calls (rd l0 x12_1) t107 _ A9.out).mono ?_); rintro e w' ⟨rfl, ⟨nd, rfl⟩⟩))
                    go_ret
                    exact ⟨by first | rfl | (simp; done) | (simp [*]; done), by repeat (first | exact Drawn0.refl _ | apply Drawn0.step)⟩
                · rw [if_neg c10] at H
                  have c10b0 : decide (a1 < t107) = false := decide_eq_false c10
                  clear c10
                  as_aux_lemma =>
                    have H' := K0 H
                    clear H
                    have p105 : 0 ≤ (x12_1 : Int) := of_decide_eq_true (by first | (with_reducible assumption) | assumption)
                    have q105 : x12_1 < (l0.length : Int) := of_decide_eq_true (by first | (with_reducible assumption) | assumption)
                    obtain ⟨ad105, e105, hx105_0⟩ := Kd.at_int HR0.out x12_1 p105 q105
                    cases e105
                    replace p105 := eq_true p105
                    replace q105 := eq_true q105
                    go_wp2_with (first | ((with_reducible refine gate_callee (f := 90) rfl ?_); refine goesL_ (some 17) rfl rfl Try.func90 (by kernel_rfl) rfl #[.int .i64 (rd l0 x12_1)] rfl (by (try simp only [List.map_toArray, List.map_cons, List.map_nil]); first | done | rfl | (simp only [List.length_drop, List.length_take]; rfl)) ?_; (with_reducible refine (lit_is.calls (rd l0 x12_1) true _ A7.out).mono ?_); rintro e w' ⟨rfl, ⟨nd, rfl⟩⟩; refine ⟨_, rfl, ?_⟩) | (go_at_call 91; (with_reducible refine (lit_variable.calls (rd l0 x12_1) t107 _ A9.out).mono ?_); rintro e w' ⟨rfl, ⟨nd, rfl⟩⟩))
                    go_roundg k1
                    case measure => have := HK1.out; omega
                    case rel => exact ⟨(wrap64 (x12_1 + 1)), (by first | rfl | (simp; done) | (simp [*]; done)), H', ⟨by have := HK1.out; omega⟩, by repeat (first | exact Drawn0.refl _ | apply Drawn0.step)⟩
              · replace c8 := Bool.eq_false_iff.mpr c8
                subst c8
                have H1 : (some 1) = some r := by rw [if_neg (show ¬ (false = true) by decide)] at H; exact H
                clear H
                have H := H1
                clear H1
                as_aux_lemma =>
                  obtain rfl := Option.some.inj H
                  have p105 : 0 ≤ (x12_1 : Int) := of_decide_eq_true (by first | (with_reducible assumption) | assumption)
                  have q105 : x12_1 < (l0.length : Int) := of_decide_eq_true (by first | (with_reducible assumption) | assumption)
                  obtain ⟨ad105, e105, hx105_0⟩ := Kd.at_int HR0.out x12_1 p105 q105
                  cases e105
                  replace p105 := eq_true p105
                  replace q105 := eq_true q105
                  go_wp2_with (first | ((with_reducible refine gate_callee (f := 90) rfl ?_); refine goesL_ (some 17) rfl rfl Try.func90 (by kernel_rfl) rfl #[.int .i64 (rd l0 x12_1)] rfl (by (try simp only [List.map_toArray, List.map_cons, List.map_nil]); first | done | rfl | (simp only [List.length_drop, List.length_take]; rfl)) ?_; (with_reducible refine (lit_is.calls (rd l0 x12_1) false _ A7.out).mono ?_); rintro e w' ⟨rfl, ⟨nd, rfl⟩⟩; refine ⟨_, rfl, ?_⟩))
                  go_ret
                  exact ⟨by first | rfl | (simp; done) | (simp [*]; done), by repeat (first | exact Drawn0.refl _ | apply Drawn0.step)⟩
            · rw [if_neg c6] at H
              exact absurd H (by simp)
          · rw [if_neg c5] at H
            exact absurd H (by simp)
        · rw [if_neg c4] at H
          have c4b0 : decide (x12_1 < (l0.length : Int)) = false := decide_eq_false c4
          clear c4
          as_aux_lemma =>
            obtain rfl := Option.some.inj H
            go_wp2
            go_ret
            exact ⟨by first | rfl | (simp; done) | (simp [*]; done), by repeat (first | exact Drawn0.refl _ | apply Drawn0.step)⟩
mutual
def cnf_Right.j0 : Nat → Bool → Int → List (List Int) → Option (Int × Int)
  | 0, _, _, _ => none
  | k + 1, x14, x109000, x109001 => if x14 = true then (some ((-1), 1)) else (if (x109001.length : Int) > 4096 then (some ((-1), 2)) else (cnf_Right.l0 k x109001 (x109001.length : Int) 0 x109000 x109001))
def cnf_Right.l0 : Nat → List (List Int) → Int → Int → Int → List (List Int) → Option (Int × Int)
  | 0, _, _, _, _, _ => none
  | k + 1, x20, x21, x22, x109000, x109001 => if x22 < x21 then (if 0 ≤ x22 then (if x22 < (x20.length : Int) then ((lit_Right.f k (rd_L3 x20 x22) x109000).bind fun t110 => (if t110 = 0 then (cnf_Right.l0 k x20 x21 (wrap64 (x22 + 1)) x109000 x109001) else (some (x22, t110)))) else (none)) else (none)) else (some (0, 0))
end
def cnf_Right.f (k : Nat) (a0_0 : Int) (l0_1 : List (List Int)) : Option (Int × Int) := if a0_0 < 0 then (cnf_Right.j0 k true a0_0 l0_1) else (cnf_Right.j0 k (decide (a0_0 > 1024)) a0_0 l0_1)
theorem cnf_Right.mono_l : ∀ k, (∀ y0 y1 y2, LeO (cnf_Right.j0 k y0 y1 y2) (cnf_Right.j0 (k + 1) y0 y1 y2)) ∧ (∀ y0 y1 y2 y3 y4, LeO (cnf_Right.l0 k y0 y1 y2 y3 y4) (cnf_Right.l0 (k + 1) y0 y1 y2 y3 y4))
  | 0 => ⟨fun _ _ _ r h => by simp [cnf_Right.j0] at h, fun _ _ _ _ _ r h => by simp [cnf_Right.l0] at h⟩
  | k + 1 => by
    obtain ⟨ih0, ih1⟩ := cnf_Right.mono_l k
    refine ⟨?_, ?_⟩
    · intro y0 y1 y2
      unfold cnf_Right.j0
      repeat' first
      | (with_reducible exact ih0 _ _ _)
      | (with_reducible exact ih1 _ _ _ _ _)
      | (with_reducible exact lit_Right.mono _ _ _)
      | (with_reducible exact LeO.refl _)
      | (with_reducible exact LeO.none _)
      | (with_reducible refine LeO.ite ?_ ?_)
      | (with_reducible refine LeO.bind ?_ (fun _ => ?_))
      | exact ih0 _ _ _
      | exact ih1 _ _ _ _ _
      | exact lit_Right.mono _ _ _
      | exact LeO.none _
      | refine LeO.ite ?_ ?_
      | refine LeO.bind ?_ (fun _ => ?_)
    intro y0 y1 y2 y3 y4
    unfold cnf_Right.l0
    repeat' first
    | (with_reducible exact ih0 _ _ _)
    | (with_reducible exact ih1 _ _ _ _ _)
    | (with_reducible exact lit_Right.mono _ _ _)
    | (with_reducible exact LeO.refl _)
    | (with_reducible exact LeO.none _)
    | (with_reducible refine LeO.ite ?_ ?_)
    | (with_reducible refine LeO.bind ?_ (fun _ => ?_))
    | exact ih0 _ _ _
    | exact ih1 _ _ _ _ _
    | exact lit_Right.mono _ _ _
    | exact LeO.none _
    | refine LeO.ite ?_ ?_
    | refine LeO.bind ?_ (fun _ => ?_)
theorem cnf_Right.mono : ∀ a0 a1 k, LeO (cnf_Right.f k a0 a1) (cnf_Right.f (k + 1) a0 a1) := by
  intro a0 a1 k
  obtain ⟨ih0, ih1⟩ := cnf_Right.mono_l k
  unfold cnf_Right.f
  repeat' first
      | (with_reducible exact ih0 _ _ _)
      | (with_reducible exact ih1 _ _ _ _ _)
      | (with_reducible exact lit_Right.mono _ _ _)
      | (with_reducible exact LeO.refl _)
      | (with_reducible exact LeO.none _)
      | (with_reducible refine LeO.ite ?_ ?_)
      | (with_reducible refine LeO.bind ?_ (fun _ => ?_))
      | exact ih0 _ _ _
      | exact ih1 _ _ _ _ _
      | exact lit_Right.mono _ _ _
      | exact LeO.none _
      | refine LeO.ite ?_ ?_
      | refine LeO.bind ?_ (fun _ => ?_)
set_option maxHeartbeats 8000000 in
set_option maxRecDepth 100000 in
theorem cnf_Right.calls (k : Nat) (a0_0 : Int) (A0_1 : Option Addr) (c0_1 : Nat) (l0_1 : List (List Int)) (r1 : Int) (r2 : Int) (w : World) (hr0_1 : Kd.C (Kd.slice 3 (Kd.int .i64)) w A0_1 l0_1.length l0_1) (hc0_1 : l0_1.length ≤ c0_1) (h : cnf_Right.f k a0_0 l0_1 = some (r1, r2)) :
    Calls Try.prog 35 #[.agg #[.int .i64 a0_0, .slice A0_1 l0_1.length c0_1]] w fun e w' => e = .returned (.tuple #[.int .i64 r1, .int .i64 r2]) ∧ Below w.heap.size w w' := by
  have hu24 := Try.underlying24
  have HR0_1 := K0 hr0_1; have HC0_1 := K0 hc0_1; clear hr0_1 hc0_1
  have HB := K0 (Below.refl w.heap.size w)
  have H : (if a0_0 < 0 then (cnf_Right.j0 k true a0_0 l0_1) else (cnf_Right.j0 k (decide (a0_0 > 1024)) a0_0 l0_1)) = some (r1, r2) := h
  clear h; have HC2 := K0 H; clear H
  go_enter Try.func35, Try.ntmps35
  go_upto_region 1 with (first | ((with_reducible refine gate_dst (N := 1) rfl ?_); refine box_event ?hg (N := 1) ?hd (cs := #[.int .i64 a0_0, .slice A0_1 l0_1.length c0_1]) (t := 24) ?hr ?_; (case hd => rfl); (case hg => rfl); (case hr => first | (go_simp; done) | (go_simp; rfl)); intro gb108 hg w3 hbox hb; have n0_ := K0 (below_step (by repeat (first | (with_reducible first | exact HB.out | apply below_alloc | apply pw_below_drewN | apply below_drew1) | exact HB.out)) hb); have n1_ := K0 (hbox); have n2_ := K0 ((by rw [hg]; exact (below_size (by repeat (first | (with_reducible first | exact HB.out | apply below_alloc | apply pw_below_drewN | apply below_drew1) | exact HB.out))) : w.heap.size ≤ gb108)); have n3_ := K0 ((by rw [hg]; exact (below_size (by repeat (first | (with_reducible first | exact HB.out | apply below_alloc | apply pw_below_drewN | apply below_drew1) | exact HB.out))) : w.heap.size ≤ gb108)); clear HB; have HB := n0_; have BK108 := n1_; have GW108 := n2_; have GE108 := n3_; clear n0_ n1_ n2_ n3_; clear hb hbox hg))
  (try simp only [Act.put, List.setIfInBounds_toArray, List.set_cons_zero, List.set_cons_succ])
  go_cut [14] (fun v14 wc => ∃ (kq : Nat) (x14_1 : Bool), v14 = .bool x14_1 ∧ Aside0 (cnf_Right.j0 kq x14_1 a0_0 l0_1 = some (r1, r2)) ∧ Aside0 (kq ≤ k) ∧ Aside0 (wc.heap[gb108]? = some (.cells #[.int .i64 a0_0, (.slice A0_1 l0_1.length c0_1)] 24 (0, 0))) ∧ Aside0 (Below w.heap.size w wc))
  case first =>
    have H := HC2.out
    clear HC2
    by_cases c4 : a0_0 < 0
    case pos =>
      rw [if_pos c4] at H
      have c4b0 : decide (a0_0 < 0) = true := decide_eq_true c4
      clear c4
      (first | rw [c4b0] | (simp only [i64_w, i32_w]; rw [c4b0]) | skip)
      as_aux_lemma =>
        have H' := K0 H
        clear H
        have hcz5_0 : w3.cell? ⟨gb108, 0, none⟩ = some (.int .i64 a0_0) := (blk_cell BK108.out 0).trans rfl
        have hcz5_1 : w3.cell? ⟨gb108, 1, none⟩ = some (.slice A0_1 l0_1.length c0_1) := (blk_cell BK108.out 1).trans rfl
        have hfz5_0 := blk_frozen BK108.out 0; have hfz5_1 := blk_frozen BK108.out 1
        go_wp2
        go_meet
        case rel => exact ⟨_, (true), (by first | rfl | (simp; done) | (simp [*]; done)), H', ⟨by first | omega | exact Nat.le_refl _⟩, ⟨by (with_reducible repeat (first | refine blk_drewN ?_ _ | refine blk_drew ?_ | refine blk_alloc ?_ _)); exact BK108.out⟩, ⟨by repeat (first | (with_reducible first | exact HB.out | apply below_alloc | apply pw_below_drewN | apply below_drew1 | refine below_set ?_ GE108.out) | exact HB.out)⟩⟩
    rw [if_neg c4] at H
    have c4b0 : decide (a0_0 < 0) = false := decide_eq_false c4
    clear c4
    (first | rw [c4b0] | (simp only [i64_w, i32_w]; rw [c4b0]) | skip)
    as_aux_lemma =>
      have H' := K0 H
      clear H
      have hcz6_0 : w3.cell? ⟨gb108, 0, none⟩ = some (.int .i64 a0_0) := (blk_cell BK108.out 0).trans rfl
      have hcz6_1 : w3.cell? ⟨gb108, 1, none⟩ = some (.slice A0_1 l0_1.length c0_1) := (blk_cell BK108.out 1).trans rfl
      have hfz6_0 := blk_frozen BK108.out 0; have hfz6_1 := blk_frozen BK108.out 1
      go_wp2
      go_meet
      case rel => exact ⟨_, (decide (a0_0 > 1024)), (by first | rfl | (simp; done) | (simp [*]; done)), H', ⟨by first | omega | exact Nat.le_refl _⟩, ⟨by (with_reducible repeat (first | refine blk_drewN ?_ _ | refine blk_drew ?_ | refine blk_alloc ?_ _)); exact BK108.out⟩, ⟨by repeat (first | (with_reducible first | exact HB.out | apply below_alloc | apply pw_below_drewN | apply below_drew1 | refine below_set ?_ GE108.out) | exact HB.out)⟩⟩
  case rest =>
    clear HC2; try clear p2; try clear c3; try clear c4; try clear c4b0; try clear hcz5_0; try clear hcz5_1; try clear hcz6_0; try clear hcz6_1; try clear hfz5_0; try clear hfz5_1; try clear hfz6_0; try clear hfz6_1
    obtain ⟨kq, x14_1, rfl, HA, HJ1, BK108, HB⟩ := hcut
    cases kq with
    | zero => exact absurd HA.out (by simp [cnf_Right.j0])
    | succ kj1 =>
      have H := HA.out
      clear HA
      simp only [cnf_Right.j0] at H
      by_cases c7 : x14_1 = true
      case pos =>
        subst c7
        have H1 : (some ((-1), 1)) = some (r1, r2) := by rw [if_pos rfl] at H; exact H
        clear H
        have H := H1
        clear H1
        as_aux_lemma =>
          simp only [Option.some.injEq, Prod.mk.injEq] at H
          obtain ⟨rfl, rfl⟩ := H
          go_wp2
          go_ret2
          exact ⟨by first | rfl | (simp [errW_none, errW_some] <;> rfl) | (simp [*, errW_none, errW_some] <;> rfl), by repeat (first | (with_reducible first | exact HB.out | apply below_alloc | apply pw_below_drewN | apply below_drew1 | refine below_set ?_ GE108.out) | exact HB.out)⟩
      replace c7 := Bool.eq_false_iff.mpr c7
      subst c7
      have H1 : (if (l0_1.length : Int) > 4096 then (some ((-1), 2)) else (cnf_Right.l0 kj1 l0_1 (l0_1.length : Int) 0 a0_0 l0_1)) = some (r1, r2) := by rw [if_neg (show ¬ (false = true) by decide)] at H; exact H
      clear H
      have H := H1
      clear H1
      by_cases c8 : (l0_1.length : Int) > 4096
      case pos =>
        rw [if_pos c8] at H
        have c8b0 : decide (4096 < (l0_1.length : Int)) = true := decide_eq_true c8
        have c8b1 : decide (4096 < l0_1.length) = true := decide_eq_true (by omega)
        clear c8
        as_aux_lemma =>
          simp only [Option.some.injEq, Prod.mk.injEq] at H
          obtain ⟨rfl, rfl⟩ := H
          have hcz9_0 : wc.cell? ⟨gb108, 0, none⟩ = some (.int .i64 a0_0) := (blk_cell BK108.out 0).trans rfl
          have hcz9_1 : wc.cell? ⟨gb108, 1, none⟩ = some (.slice A0_1 l0_1.length c0_1) := (blk_cell BK108.out 1).trans rfl
          have hfz9_0 := blk_frozen BK108.out 0; have hfz9_1 := blk_frozen BK108.out 1
          go_wp2
          go_ret2
          exact ⟨by first | rfl | (simp [errW_none, errW_some] <;> rfl) | (simp [*, errW_none, errW_some] <;> rfl), by repeat (first | (with_reducible first | exact HB.out | apply below_alloc | apply pw_below_drewN | apply below_drew1 | refine below_set ?_ GE108.out) | exact HB.out)⟩
      rw [if_neg c8] at H
      have c8b0 : decide (4096 < (l0_1.length : Int)) = false := decide_eq_false c8
      have c8b1 : decide (4096 < l0_1.length) = false := decide_eq_false (by omega)
      clear c8
      have H' := K0 H
      clear H
      have hcz10_0 : wc.cell? ⟨gb108, 0, none⟩ = some (.int .i64 a0_0) := (blk_cell BK108.out 0).trans rfl
      have hcz10_1 : wc.cell? ⟨gb108, 1, none⟩ = some (.slice A0_1 l0_1.length c0_1) := (blk_cell BK108.out 1).trans rfl
      have hfz10_0 := blk_frozen BK108.out 0; have hfz10_1 := blk_frozen BK108.out 1
      go_wp2
      go_loopg [22] kj1 (fun kq v22 w' => ∃ (x22_2 : Int), v22 = .int .i64 x22_2 ∧ Aside0 (cnf_Right.l0 kq l0_1 (l0_1.length : Int) x22_2 a0_0 l0_1 = some (r1, r2)) ∧ Aside0 (kq ≤ kj1) ∧ Aside0 (w'.heap[gb108]? = some (.cells #[.int .i64 a0_0, (.slice A0_1 l0_1.length c0_1)] 24 (0, 0))) ∧ Aside0 (Below w.heap.size w w'))
      case atStart => exact ⟨(0), (by first | rfl | (simp; done) | (simp [*]; done)), H', ⟨Nat.le_refl _⟩, ⟨by (with_reducible repeat (first | refine blk_drewN ?_ _ | refine blk_drew ?_ | refine blk_alloc ?_ _)); exact BK108.out⟩, ⟨by repeat (first | (with_reducible first | exact HB.out | apply below_alloc | apply pw_below_drewN | apply below_drew1 | refine below_set ?_ GE108.out) | exact HB.out)⟩⟩
      case round =>
        clear H'; try clear p2; try clear c3; try clear c4; try clear c4b0; try clear c7; try clear c8; try clear c8b0; try clear c8b1; try clear hcz10_0; try clear hcz10_1; try clear hcz5_0; try clear hcz5_1; try clear hcz6_0; try clear hcz6_1; try clear hcz9_0; try clear hcz9_1; try clear hfz10_0; try clear hfz10_1; try clear hfz5_0; try clear hfz5_1; try clear hfz6_0; try clear hfz6_1; try clear hfz9_0; try clear hfz9_1; try clear p2
        obtain ⟨x22_2, rfl, HA, HK2, BK108, HB⟩ := hrel
        cases gk with
        | zero => exact absurd HA.out (by simp [cnf_Right.l0])
        | succ k2 =>
          have H := HA.out
          clear HA
          simp only [cnf_Right.l0] at H
          by_cases c11 : x22_2 < (l0_1.length : Int)
          case neg =>
            rw [if_neg c11] at H
            have c11b0 : decide (x22_2 < (l0_1.length : Int)) = false := decide_eq_false c11
            clear c11
            as_aux_lemma =>
              simp only [Option.some.injEq, Prod.mk.injEq] at H
              obtain ⟨rfl, rfl⟩ := H
              go_wp2
              go_ret2
              exact ⟨by first | rfl | (simp [errW_none, errW_some] <;> rfl) | (simp [*, errW_none, errW_some] <;> rfl), by repeat (first | (with_reducible first | exact HB.out | apply below_alloc | apply pw_below_drewN | apply below_drew1 | refine below_set ?_ GE108.out) | exact HB.out)⟩
          rw [if_pos c11] at H
          have c11b0 : decide (x22_2 < (l0_1.length : Int)) = true := decide_eq_true c11
          clear c11
          by_cases c12 : 0 ≤ x22_2
          case neg =>
            rw [if_neg c12] at H
            exact absurd H (by simp)
          rw [if_pos c12] at H
          have c12b0 : decide (0 ≤ x22_2) = true := decide_eq_true c12
          clear c12
          by_cases c13 : x22_2 < (l0_1.length : Int)
          case neg =>
            rw [if_neg c13] at H
            exact absurd H (by simp)
          rw [if_pos c13] at H
          have c13b0 : decide (x22_2 < (l0_1.length : Int)) = true := decide_eq_true c13
          clear c13
          replace H := Option.bind_eq_some_iff.mp H
          obtain ⟨t110, A140, H⟩ := H
          replace H : (if t110 = 0 then (cnf_Right.l0 k2 l0_1 (l0_1.length : Int) (wrap64 (x22_2 + 1)) a0_0 l0_1) else (some (x22_2, t110))) = some (r1, r2) := H
          have A14 := K0 A140; clear A140
          by_cases c15 : t110 = 0
          case neg =>
            rw [if_neg c15] at H
            have c15b0 : (t110 == 0) = false := beq_eq_false_iff_ne.mpr c15
            have c15b1 : (t110 != 0) = true := bne_iff_ne.mpr c15
            as_aux_lemma =>
              simp only [Option.some.injEq, Prod.mk.injEq] at H
              obtain ⟨rfl, rfl⟩ := H
              have p109 : 0 ≤ (x22_2 : Int) := of_decide_eq_true (by first | (with_reducible assumption) | assumption)
              have q109 : x22_2 < (l0_1.length : Int) := of_decide_eq_true (by first | (with_reducible assumption) | assumption)
              obtain ⟨ad109, A109_0, c109_0, e109, hx109_0, hl109_0, hi109_0⟩ := at_L3 HR0_1.out x22_2 p109 q109
              cases e109
              replace hx109_0 := (HB.out.cell (World.block_lt_of_cell? w _ hx109_0)).trans hx109_0
              have HR109_0 := K0 hi109_0; have HC109_0 := K0 hl109_0; clear hi109_0 hl109_0; replace p109 := eq_true p109; replace q109 := eq_true q109
              have hcz17_0 : wr.cell? ⟨gb108, 0, none⟩ = some (.int .i64 a0_0) := (blk_cell BK108.out 0).trans rfl
              have hcz17_1 : wr.cell? ⟨gb108, 1, none⟩ = some (.slice (some ad109) l0_1.length c0_1) := (blk_cell BK108.out 1).trans rfl
              have hfz17_0 := blk_frozen BK108.out 0; have hfz17_1 := blk_frozen BK108.out 1
              go_wp2_with (first | ((with_reducible refine gate_callee (f := 69) rfl ?_); refine goesL_ (some 30) rfl rfl Try.func69 (by kernel_rfl) rfl #[.slice A109_0 (rd_L3 l0_1 x22_2).length c109_0, .int .i64 a0_0] rfl (by (try simp only [List.map_toArray, List.map_cons, List.map_nil]); first | done | rfl | (simp only [List.length_drop, List.length_take]; rfl)) ?_; (with_reducible refine (lit_Right.calls k2 _ _ (rd_L3 l0_1 x22_2) a0_0 t110 _ ?side1 ?side2 A14.out).mono ?_); (case side1 => repeat (first | exact (Kd.C_below HR109_0.out HB.out) | (with_reducible refine Kd.C_alloc ?_ _) | (with_reducible refine Kd.C_drewN ?_ _) | (with_reducible refine Kd.C_drew ?_))); (case side2 => exact HC109_0.out); rintro e w' ⟨rfl, ⟨nd, rfl⟩⟩; refine ⟨_, rfl, ?_⟩))
              go_ret2
              exact ⟨by first | rfl | (simp [errW_none, errW_some] <;> rfl) | (simp [*, errW_none, errW_some] <;> rfl), by repeat (first | (with_reducible first | exact HB.out | apply below_alloc | apply pw_below_drewN | apply below_drew1 | refine below_set ?_ GE108.out) | exact HB.out)⟩
          rw [if_pos c15] at H
          have c15b0 : (t110 == 0) = true := beq_iff_eq.mpr c15
          have c15b1 : (t110 != 0) = false := bne_eq_false_iff_eq.mpr c15
          clear c15
          as_aux_lemma =>
            have H' := K0 H
            clear H
            have p109 : 0 ≤ (x22_2 : Int) := of_decide_eq_true (by first | (with_reducible assumption) | assumption)
            have q109 : x22_2 < (l0_1.length : Int) := of_decide_eq_true (by first | (with_reducible assumption) | assumption)
            obtain ⟨ad109, A109_0, c109_0, e109, hx109_0, hl109_0, hi109_0⟩ := at_L3 HR0_1.out x22_2 p109 q109
            cases e109
            replace hx109_0 := (HB.out.cell (World.block_lt_of_cell? w _ hx109_0)).trans hx109_0
            have HR109_0 := K0 hi109_0; have HC109_0 := K0 hl109_0; clear hi109_0 hl109_0; replace p109 := eq_true p109; replace q109 := eq_true q109
            have hcz16_0 : wr.cell? ⟨gb108, 0, none⟩ = some (.int .i64 a0_0) := (blk_cell BK108.out 0).trans rfl
            have hcz16_1 : wr.cell? ⟨gb108, 1, none⟩ = some (.slice (some ad109) l0_1.length c0_1) := (blk_cell BK108.out 1).trans rfl
            have hfz16_0 := blk_frozen BK108.out 0; have hfz16_1 := blk_frozen BK108.out 1
            go_wp2_with (first | ((with_reducible refine gate_callee (f := 69) rfl ?_); refine goesL_ (some 30) rfl rfl Try.func69 (by kernel_rfl) rfl #[.slice A109_0 (rd_L3 l0_1 x22_2).length c109_0, .int .i64 a0_0] rfl (by (try simp only [List.map_toArray, List.map_cons, List.map_nil]); first | done | rfl | (simp only [List.length_drop, List.length_take]; rfl)) ?_; (with_reducible refine (lit_Right.calls k2 _ _ (rd_L3 l0_1 x22_2) a0_0 t110 _ ?side1 ?side2 A14.out).mono ?_); (case side1 => repeat (first | exact (Kd.C_below HR109_0.out HB.out) | (with_reducible refine Kd.C_alloc ?_ _) | (with_reducible refine Kd.C_drewN ?_ _) | (with_reducible refine Kd.C_drew ?_))); (case side2 => exact HC109_0.out); rintro e w' ⟨rfl, ⟨nd, rfl⟩⟩; refine ⟨_, rfl, ?_⟩))
            go_roundg k2
            case measure => have := HJ1.out; have := HK2.out; omega
            case rel => exact ⟨(wrap64 (x22_2 + 1)), (by first | rfl | (simp; done) | (simp [*]; done)), H', ⟨by have := HJ1.out; have := HK2.out; omega⟩, ⟨by (with_reducible repeat (first | refine blk_drewN ?_ _ | refine blk_drew ?_ | refine blk_alloc ?_ _)); exact BK108.out⟩, ⟨by repeat (first | (with_reducible first | exact HB.out | apply below_alloc | apply pw_below_drewN | apply below_drew1 | refine below_set ?_ GE108.out) | exact HB.out)⟩⟩
def Eng.put (E : Eng) (l why : Int) : Eng := { E with tr := E.tr ++ [l], ms := fun x => if x = l then some ((E.st.length : Int), why) else E.ms x }
theorem mkV_set (f : Int → Option (Int × Int)) (l a b : Int) (x : Int) : setI (mkV f) l (some (.agg #[.int .i64 a, .int .i64 b])) x = mkV (fun x => if x = l then some (a, b) else f x) x := by
  unfold setI mkV
  by_cases h : x = l
  · simp only [if_pos h]; rfl
  · simp only [if_neg h]
set_option maxRecDepth 100000 in
set_option maxHeartbeats 1000000 in
theorem eng_put.calls (E : Eng) (B : Nat) (T : Tag) (p : EngP) (l why : Int) (w : World) (h : EngIn w B T E p) (hl : (Lit.int .i64 l).wf = true) (hlen : E.tr.length < 4398046511104) :
    Calls Try.prog 72 #[.pointer (some ⟨B, 0, none⟩), .int .i64 l, .int .i64 why] w fun e w' => e = .returned (.tuple #[]) ∧ EngPost B T p (E.put l why) w w' := by
  have c3 := h.cells.2.2.2.1
  have f3 := h.cells.2.2.2.2.2.2.2 3
  have HE := K0 h
  have HLN := K0 hlen
  clear h hlen
  go_enter Try.func72, Try.ntmps72
  go_wp2_with (at_builtin; refine Kd.R_append (Kd.int .i64) (w0 := w) 0 rfl (.tmp 10) (.tmp 12) 37 3 (.int .i64 0) 8 rfl Try.underlying37 (by kernel_rfl) rfl (by decide) (by decide) p.vT E.tr l [.int .i64 l] (fun k => T k = (4, 0) ∨ w.heap.size ≤ k) (fun _ => False) rfl rfl rfl (fun _ h => h.elim) (fun k hk => .inr hk) (Kd.R_mono HE.out.tr (fun _ hk => .inl hk)) (Below.refl 0 _) (Nat.zero_le _) (by have := HLN.out; omega) ?_; intro v1 w1 r1 hb1 hg1 hat1; obtain ⟨A1, k1, e1⟩ := Kd.R_slice r1; rw [List.length_append, List.length_singleton] at e1; subst e1; obtain ⟨c31, f31⟩ : w1.cell? ⟨B, 3, none⟩ = some p.vT ∧ w1.frozen? ⟨B, 3, none⟩ = false := HE.out.after HE.out.tr.1 (by decide) hg1 3)
  obtain ⟨T1, E1, p1, h1, m1, hE1, hf1⟩ : ∃ T1 E1 p1, EngIn (w1.setCell ⟨B, 3, none⟩ (.slice A1 (E.tr.length + 1) k1)) B T1 E1 p1 ∧ Moved T T1 w (w1.setCell ⟨B, 3, none⟩ (.slice A1 (E.tr.length + 1) k1)) ∧ E1 = { E with tr := E.tr ++ [l] } ∧ p1.fw = p.fw := by
    obtain ⟨a1, a2⟩ := HE.out.turn_tr r1 hg1 (fun x hx => List.mem_append.2 (.inl (HE.out.mst x hx)))
    exact ⟨_, _, _, a1, a2, rfl, rfl⟩
  clear hb1 r1 hg1 hat1 c3 f3 c31 f31
  obtain ⟨W1, hW1⟩ : ∃ W1, w1.setCell ⟨B, 3, none⟩ (.slice A1 (E.tr.length + 1) k1) = W1 := ⟨_, rfl⟩
  rw [hW1] at h1 m1 ⊢
  have HE1 := K0 hE1
  have HF1 := K0 hf1
  have HD := K0 (h1.below (below_drew (Below.refl _ W1)))
  have HM := K0 (m1.trans (Moved.of_below (below_drew (Below.refl _ W1))))
  clear hW1 h1 m1 hE1 hf1
  have c4 := HD.out.cells.2.2.2.2.1
  obtain ⟨A5, n5, e5⟩ := Kd.R_slice HD.out.st
  have c5 := HD.out.cells.2.2.2.2.2.1
  rw [e5] at c5
  clear e5
  go_still_tail 12, (by kernel_rfl)
  refine wpList_store_I rfl (.tmp 19) (.tmp 20) (.tmp 27) 69 rfl 3 104 Try.underlying3 Try.underlying69 p1.bm (mkV E1.ms) rfl HD.out.ms l (.agg #[.int .i64 (E1.st.length : Int), .int .i64 why]) rfl rfl hl E1.tr (fun x hx => HD.out.mst x (by unfold mkV at hx; simpa using hx)) ?_ ?_
  · rw [HE1.out]
    have := HLN.out
    simp; omega
  · intro w2 hM2 hg2
    obtain ⟨h2, m2⟩ := HD.out.turn_ms (hM2.congr (mkV_set _ _ _ _)) hg2 (fun x hx => by
      by_cases e : x = l
      · rw [e, HE1.out]; simp
      · simp only [if_neg e] at hx
        exact HD.out.mst x hx)
    have H2 := K0 h2
    have M2 := K0 (HM.out.trans m2)
    clear h2 m2 hM2 hg2
    go_wp2
    go_end0
    refine ⟨rfl, T1, p1, ?_, M2.out, HF1.out⟩
    have h := H2.out
    rw [HE1.out] at h
    exact h
def scanU (E : Eng) : List Int → Int → Option Int
  | [], o => some o
  | l :: t, o => if E.val l > 0 then none else if E.val l = 0 then (if o = 0 then scanU E t l else none) else scanU E t o
def Eng.look (E : Eng) (n : Nat) : Eng := match scanU E (E.cls.getD n []) 0 with
  | none => E
  | some o => if o = 0 then { E with br := (n : Int) } else E.put o (n : Int)
theorem Eng.val_or (E : Eng) (l : Int) : E.val l = 1 ∨ E.val l = 0 ∨ E.val l = -1 := by
  unfold Eng.val
  split
  · exact .inl rfl
  · split
    · exact .inr (.inr rfl)
    · exact .inr (.inl rfl)
theorem EngIn.row {w : World} {B : Nat} {T : Tag} {E : Eng} {p : EngP} (h : EngIn w B T E p) (n : Nat) (hn : n < E.cls.length) : ∃ ad k A c, p.vC = .slice (some ad) E.cls.length k ∧ w.cell? (ad.add n) = some (.slice A E.cls[n].length c) ∧ Kd.C (Kd.int .i64) w A E.cls[n].length E.cls[n] := by
  obtain ⟨A0, k, e0⟩ := Kd.R_slice h.cls
  have hC := h.cls
  rw [e0] at hC
  obtain ⟨_, _, h3⟩ := Kd.R_reads' hC
  obtain ⟨ad, c, e1, hc1, hK, hcell⟩ := Kd.C_get h3 ((none, 0, 0) : Hd) (n : Int) (by omega) (by rw [h.len]; omega)
  have hx : p.hs[n]? = some (p.hs.getD n (none, 0, 0)) := by simp [show n < p.hs.length by rw [h.len]; exact hn]
  have hr := h.rows n _ _ hx (List.getElem?_eq_getElem hn)
  obtain ⟨A, c2, e2⟩ := Kd.R_slice hr
  have hr2 := hr
  rw [e2] at hr2
  have hK2 : c = [hdv (p.hs.getD ((n : Int).toNat) (none, 0, 0))] := hK
  refine ⟨ad, k, A, c2, by rw [e0, e1, h.len], ?_, (Kd.R_reads' hr2).2.2⟩
  have := hcell 0 _ (by rw [hK2, Int.toNat_natCast, e2]; rfl)
  rw [show ((n : Int).toNat * Kd.sz kH + 0) = n by rw [Int.toNat_natCast]; show n * 1 + 0 = n; omega] at this
  exact this
set_option maxRecDepth 100000 in
set_option maxHeartbeats 2000000 in
theorem eng_look.calls (E : Eng) (B : Nat) (T : Tag) (p : EngP) (n : Nat) (w : World) (h : EngIn w B T E p) (hn : n < E.cls.length) (hlit : ∀ x ∈ E.cls[n], (Lit.int .i64 x).wf = true) (hlen : E.tr.length < 4398046511104) :
    Calls Try.prog 70 #[.pointer (some ⟨B, 0, none⟩), .int .i64 (n : Int)] w fun e w' => e = .returned (.tuple #[]) ∧ EngPost B T p (E.look n) w w' := by
  obtain ⟨ad, k, A, c, e0, cr, hC⟩ := h.row n hn
  have c1 := h.cells.2.1
  rw [e0] at c1
  have hlk : E.look n = match scanU E E.cls[n] 0 with | none => E | some o => if o = 0 then { E with br := (n : Int) } else E.put o (n : Int) := by
    unfold Eng.look
    rw [List.getD_eq_getElem?_getD, List.getElem?_eq_getElem hn, Option.getD_some]
  obtain ⟨cl, hcl⟩ : ∃ cl, E.cls[n] = cl := ⟨_, rfl⟩
  rw [hcl] at cr hC hlk hlit
  obtain ⟨E2, hE2⟩ : ∃ E2, E.look n = E2 := ⟨_, rfl⟩
  rw [hE2] at hlk ⊢
  have hbig := hC.2.1
  have hcb : (E.cls.length : Int) ≤ 9223372036854775807 := by have := (Kd.R_reads' (e0 ▸ h.cls)).2.2.2.1; rw [h.len] at this; omega
  have HE := K0 h
  have HC := K0 hC
  have HK := K0 hlk
  have HL := K0 hlit
  have HLN := K0 hlen
  have p0 : ((0 : Int) ≤ (n : Int)) = True := eq_true (by omega)
  have p1 : ((n : Int) < (E.cls.length : Int)) = True := eq_true (by omega)
  have p2 : (n < E.cls.length) = True := eq_true hn
  clear h hC hlk hlit hlen hcl hE2 e0
  go_enter Try.func70, Try.ntmps70
  go_wp2
  go_loopg [4, 6, 7, 16, 23, 26, 33] cl.length (fun gg v4 _ _ v16 _ _ _ wr => ∃ (o : Int) (j : Nat), v4 = .int .i64 o ∧ v16 = .int .i64 (j : Int) ∧ Aside0 (j + gg = cl.length) ∧ Aside0 (Below w.heap.size w wr) ∧ Aside0 (scanU E cl 0 = scanU E (cl.drop j) o) ∧ Aside0 (o = 0 ∨ o ∈ cl))
  case atStart => exact ⟨0, 0, rfl, rfl, ⟨by simp⟩, ⟨Below.refl _ _⟩, ⟨rfl⟩, ⟨.inl rfl⟩⟩
  case round =>
    clear c1 cr
    obtain ⟨o, j, rfl, rfl, hg, hB, hS, hO⟩ := hrel
    by_cases hlt : j < cl.length
    · obtain ⟨ad2, e1, x1⟩ := Kd.at_int (Kd.C_below HC.out hB.out) (j : Int) (by omega) (by omega)
      cases e1
      obtain ⟨y, hy⟩ : ∃ y, cl[j] = y := ⟨_, rfl⟩
      have hrd : rd cl (j : Int) = y := by simp [rd, hlt, hy]
      rw [hrd] at x1
      simp only [Int.toNat_natCast] at x1
      have hmem : y ∈ cl := by rw [← hy]; exact List.getElem_mem hlt
      have hS2 := hS.out
      rw [List.drop_eq_getElem_cons hlt, hy, scanU] at hS2
      have hcall := eng_Value.calls E B T p y wr (HE.out.below hB.out) (HL.out y hmem)
      have HY := K0 hmem
      have P0 : ((0 : Int) ≤ (j : Int)) = True := eq_true (by omega)
      have P1 : ((j : Int) < (cl.length : Int)) = True := eq_true (by omega)
      have P2 : (j < cl.length) = True := eq_true hlt
      have hd : decide ((j : Int) < (cl.length : Int)) = true := decide_eq_true (by omega)
      rcases E.val_or y with hv | hv | hv
      · rw [hv] at hcall hS2
        rw [if_pos (by decide)] at hS2
        have HCALL := K0 hcall
        have HS2 := K0 hS2
        clear hS hS2 hcall hv hy hrd hmem
        go_wp2_with fail
        refine HCALL.out.mono ?_
        rintro e' w1 ⟨rfl, hb1⟩
        have HB1 := K0 (hB.out.trans (hb1.mono hB.out.size))
        clear hb1 HCALL
        go_wp2
        try simp only [Exit.inBlock, Exit.then]
        refine bodyPost_ret (results_none rfl _ _ _) rfl ?_
        refine ⟨rfl, T, p, ?_, Moved.of_below HB1.out, rfl⟩
        rw [HK.out, HS2.out]
        exact HE.out.below HB1.out
      · rw [hv] at hcall hS2
        rw [if_neg (by decide), if_pos rfl] at hS2
        have HCALL := K0 hcall
        have HS2 := K0 hS2
        clear hS hS2 hcall hv hy hrd hmem
        by_cases ho : o = 0
        · subst ho
          have hS3 := HS2.out
          rw [if_pos rfl] at hS3
          have HS3 := K0 hS3
          clear hS3 HS2
          go_wp2_with fail
          refine HCALL.out.mono ?_
          rintro e' w1 ⟨rfl, hb1⟩
          have HB1 := K0 (hB.out.trans (hb1.mono hB.out.size))
          clear hb1 HCALL
          go_wp2
          go_roundg (cl.length - (j + 1))
          case measure => have := hg.out; omega
          case rel => exact ⟨y, j + 1, rfl, by simp, ⟨by have := hg.out; omega⟩, HB1, HS3, ⟨.inr HY.out⟩⟩
        · have hS3 := HS2.out
          rw [if_neg ho] at hS3
          have HS3 := K0 hS3
          have c1' : (o != 0) = true := by simpa using ho
          have c2' : (o == 0) = false := by simpa using ho
          clear hS3 HS2 ho
          go_wp2_with fail
          refine HCALL.out.mono ?_
          rintro e' w1 ⟨rfl, hb1⟩
          have HB1 := K0 (hB.out.trans (hb1.mono hB.out.size))
          clear hb1 HCALL
          go_wp2
          try simp only [Exit.inBlock, Exit.then]
          refine bodyPost_ret (results_none rfl _ _ _) rfl ?_
          refine ⟨rfl, T, p, ?_, Moved.of_below HB1.out, rfl⟩
          rw [HK.out, HS3.out]
          exact HE.out.below HB1.out
      · rw [hv] at hcall hS2
        rw [if_neg (by decide), if_neg (by decide)] at hS2
        have HCALL := K0 hcall
        have HS2 := K0 hS2
        clear hS hS2 hcall hv hy hrd hmem
        go_wp2_with fail
        refine HCALL.out.mono ?_
        rintro e' w1 ⟨rfl, hb1⟩
        have HB1 := K0 (hB.out.trans (hb1.mono hB.out.size))
        clear hb1 HCALL
        go_wp2
        go_roundg (cl.length - (j + 1))
        case measure => have := hg.out; omega
        case rel => exact ⟨o, j + 1, rfl, by simp, ⟨by have := hg.out; omega⟩, HB1, HS2, hO⟩
    · have hd : decide ((j : Int) < (cl.length : Int)) = false := decide_eq_false (by omega)
      have hS2 := hS.out
      rw [List.drop_of_length_le (by omega), scanU] at hS2
      have hk := HK.out
      rw [hS2] at hk
      simp only at hk
      have HB := K0 hB.out
      by_cases ho : o = 0
      · subst ho
        rw [if_pos rfl] at hk
        have hE := HE.out.below HB.out
        obtain ⟨h2, m2⟩ := hE.turn_br (n : Int)
        have H2 := K0 h2
        have M2 := K0 ((Moved.of_below HB.out).trans m2)
        have HK2 := K0 hk
        have c6 := hE.cells.2.2.2.2.2.2.1
        have f6 := hE.cells.2.2.2.2.2.2.2 6
        clear hk h2 m2 hE hS hS2 HK
        go_wp2
        try simp only [Exit.inBlock, Exit.then]
        refine bodyPost_ret (results_none rfl _ _ _) rfl ?_
        refine ⟨rfl, T, p, ?_, M2.out, rfl⟩
        rw [HK2.out]
        exact H2.out
      · rw [if_neg ho] at hk
        have HK2 := K0 hk
        have c1' : (o != 0) = true := by simpa using ho
        have c2' : (o == 0) = false := by simpa using ho
        have HCALL := K0 (eng_put.calls E B T p o (n : Int) wr (HE.out.below HB.out) (HL.out o (hO.out.resolve_left ho)) HLN.out)
        clear hk hS hS2 HK ho
        go_wp2_with fail
        refine HCALL.out.mono ?_
        rintro e' w1 ⟨rfl, T2, p2, h2, m2, hf2⟩
        have H2 := K0 h2
        have M2 := K0 ((Moved.of_below HB.out).trans m2)
        have HF2 := K0 hf2
        clear h2 m2 hf2 HCALL
        go_wp2
        go_end0
        refine ⟨rfl, T2, p2, ?_, M2.out, HF2.out⟩
        rw [HK2.out]
        exact H2.out
def Eng.looks : List Int → Eng → Option (Eng × Bool)
  | [], E => some (E, false)
  | n :: t, E => if E.br ≥ 0 then some (E, true) else if 0 ≤ n ∧ n.toNat < E.cls.length ∧ E.tr.length < 4398046511104 then Eng.looks t (E.look n.toNat) else none
def Eng.follow : Nat → Eng → Nat → Option Eng
  | 0, _, _ => none
  | k + 1, E, i => if i < E.tr.length then (Eng.looks (E.wt (wrap64 (-(rd E.tr (i : Int))))) E).bind fun r => if r.2 = true then some r.1 else Eng.follow k r.1 (i + 1) else some E
theorem Eng.look_cls (E : Eng) (n : Nat) : (E.look n).cls = E.cls ∧ (E.look n).wt = E.wt ∧ (E.look n).ws = E.ws ∧ (E.look n).n = E.n ∧ (E.look n).st = E.st := by
  unfold Eng.look
  split
  · exact ⟨rfl, rfl, rfl, rfl, rfl⟩
  · split
    · exact ⟨rfl, rfl, rfl, rfl, rfl⟩
    · exact ⟨rfl, rfl, rfl, rfl, rfl⟩
theorem zero_row (W : World) : (zeroValue 37).run Try.prog W = .ok (.slice none 0 0) W := by kernel_rfl
set_option maxRecDepth 100000 in
set_option maxHeartbeats 4000000 in
theorem eng_follow.calls (k : Nat) (E : Eng) (B : Nat) (T : Tag) (p : EngP) (i : Nat) (E2 : Eng) (w : World) (h : EngIn w B T E p) (hlit : E.Lits) (hf : Eng.follow k E i = some E2) :
    Calls Try.prog 71 #[.pointer (some ⟨B, 0, none⟩), .int .i64 (i : Int)] w fun e w' => e = .returned (.tuple #[]) ∧ EngPost B T p E2 w w' := by
  have HE := K0 h
  have HL := K0 hlit
  have HF := K0 hf
  clear h hlit hf
  go_enter Try.func71, Try.ntmps71
  go_wp2
  go_loopg [1, 5, 29] k (fun gg v1 _ _ wr => ∃ (i : Nat) (E1 : Eng) (T1 : Tag) (p1 : EngP), v1 = .int .i64 (i : Int) ∧ Aside0 (EngIn wr B T1 E1 p1) ∧ Aside0 (Moved T T1 w wr) ∧ Aside0 (p1.fw = p.fw) ∧ Aside0 (E1.Lits) ∧ Aside0 (Eng.follow gg E1 i = some E2) ∧ Aside0 (gg ≤ k))
  case atStart => exact ⟨i, E, T, p, rfl, HE, ⟨Moved.refl _ _⟩, ⟨rfl⟩, HL, HF, ⟨Nat.le_refl _⟩⟩
  case round =>
    clear HE HL HF
    obtain ⟨i, E1, T1, p1, rfl, HE, HM, HP, HL, HF, HG⟩ := hrel
    obtain ⟨wo, rfl⟩ : ∃ wo : World, wo = wr := ⟨_, rfl⟩
    cases gk with
    | zero => exact absurd HF.out (by simp [Eng.follow])
    | succ k1 =>
      have hF := HF.out
      rw [Eng.follow] at hF
      clear HF
      have c3 := HE.out.cells.2.2.2.1
      obtain ⟨A3, n3, e3⟩ := Kd.R_slice HE.out.tr
      have hR3 := HE.out.tr
      rw [e3] at c3 hR3
      obtain ⟨_, _, hC3⟩ := Kd.R_reads' hR3
      have hbig := hC3.2.1
      by_cases hlt : i < E1.tr.length
      · rw [if_pos hlt] at hF
        obtain ⟨ad, e1, x1⟩ := Kd.at_int (Kd.C_below hC3 (below_drew (Below.refl _ wo))) (i : Int) (by omega) (by omega)
        cases e1
        simp only [Int.toNat_natCast] at x1
        obtain ⟨y, hy⟩ : ∃ y, rd E1.tr (i : Int) = y := ⟨_, rfl⟩
        rw [hy] at x1 hF
        obtain ⟨⟨E3, b3⟩, hlk, hF⟩ := Option.bind_eq_some_iff.mp hF
        dsimp only at hF
        have hD := HE.out.below (below_drew (Below.refl _ wo))
        have q1 := hD.wt.look Try.underlying3 Try.underlying68 (zero_row _) (wf_wrap y)
        obtain ⟨x, hx⟩ : ∃ x, wrap64 (-y) = x := ⟨_, rfl⟩
        have P6 : IntKind.i64.wrap (-y) = wrap64 (-y) := Go.IntWalk.i64_left _
        rw [hx] at q1 hlk P6
        have hg := HE.out.grp x
        obtain ⟨Ag, ng, eg⟩ := Kd.R_slice hg
        rw [eg] at q1
        have d2 := hD.cells.2.2.1
        have d3 : wo.drew.cell? ⟨B, 3, none⟩ = some (.slice (some ad) E1.tr.length n3) := by rw [hD.cells.2.2.2.1, e3]
        have P0 : ((0 : Int) ≤ (i : Int)) = True := eq_true (by omega)
        have P1 : ((i : Int) < (E1.tr.length : Int)) = True := eq_true (by omega)
        have P2 : (i < E1.tr.length) = True := eq_true hlt
        have hd : decide ((i : Int) < (E1.tr.length : Int)) = true := decide_eq_true (by omega)
        have HEG := K0 eg
        have HLK := K0 hlk
        have HF := K0 hF
        have HD := K0 hD
        obtain ⟨N3, hN3⟩ : ∃ N3, E1.tr.length = N3 := ⟨_, rfl⟩
        obtain ⟨ws, hws⟩ : ∃ ws, E1.wt x = ws := ⟨_, rfl⟩
        rw [hws] at HLK HEG q1
        have HWS := K0 hws
        have hwb : ws.length ≤ 9223372036854775807 := by rw [← hws]; have := hg; rw [eg] at this; exact (Kd.R_reads' this).2.2.2.1
        clear e3 hR3 hC3 hy hx hg eg hlk hF hD hN3 hws
        go_wp2
        go_still (by kernel_rfl)
        go_wp2
        have HB0 := K0 (Moved.of_below (T := T1) (below_drew (Below.refl wo.heap.size wo)))
        clear q1 d2 d3 c3 x1 P6
        go_loopg [5, 29] ws.length (fun gg _ v29 wr => ∃ (j : Nat) (E4 : Eng) (T4 : Tag) (p4 : EngP), v29 = .int .i64 (j : Int) ∧ Aside0 (j + gg = ws.length) ∧ Aside0 (EngIn wr B T4 E4 p4) ∧ Aside0 (Moved T T4 w wr) ∧ Aside0 (p4.fw = p.fw) ∧ Aside0 (E4.Lits ∧ E4.wt x = ws) ∧ Aside0 (Eng.looks (ws.drop j) E4 = some (E3, b3)))
        case atStart => exact ⟨0, E1, T1, p1, rfl, ⟨by simp⟩, HD, ⟨HM.out.trans HB0.out⟩, HP, ⟨HL.out, HWS.out⟩, HLK⟩
        case round =>
          clear HD HLK HWS HB0 HE HM HL
          obtain ⟨j, E4, T4, p4, rfl, hg, HE, HM, HP4, HL, HLK⟩ := hrel
          by_cases hjl : j < ws.length
          · have hgr := HE.out.grp x
            rw [HL.out.2, HP4.out, ← HP.out, HEG.out] at hgr
            obtain ⟨ad2, e1, x1⟩ := Kd.at_int (Kd.R_reads' hgr).2.2 (j : Int) (by omega) (by omega)
            cases e1
            obtain ⟨y, hy⟩ : ∃ y, ws[j] = y := ⟨_, rfl⟩
            have hrd : rd ws (j : Int) = y := by simp [rd, hjl, hy]
            rw [hrd] at x1
            simp only [Int.toNat_natCast] at x1
            have hlk := HLK.out
            rw [List.drop_eq_getElem_cons hjl, hy, Eng.looks] at hlk
            have c6 := HE.out.cells.2.2.2.2.2.2.1
            have P3 : ((0 : Int) ≤ (j : Int)) = True := eq_true (by omega)
            have P4 : ((j : Int) < (ws.length : Int)) = True := eq_true (by omega)
            have P5 : (j < ws.length) = True := eq_true hjl
            have hd2 : decide ((j : Int) < (ws.length : Int)) = true := decide_eq_true (by omega)
            by_cases hbr : E4.br ≥ 0
            · rw [if_pos hbr] at hlk
              simp only [Option.some.injEq, Prod.mk.injEq] at hlk
              obtain ⟨h1, h2⟩ := hlk
              have hF := HF.out
              rw [← h2, if_pos rfl, ← h1] at hF
              have HE2 := K0 (Option.some.inj hF)
              have hd3 : decide ((0 : Int) ≤ E4.br) = true := decide_eq_true hbr
              clear h1 h2 hF hbr hrd hy hgr HLK
              go_wp2
              try simp only [Exit.inBlock, Exit.then]
              refine bodyPost_ret (results_none rfl _ _ _) rfl ?_
              rw [← HE2.out]
              exact ⟨rfl, T4, p4, HE.out, HM.out, HP4.out⟩
            · rw [if_neg hbr] at hlk
              by_cases hcond : 0 ≤ y ∧ y.toNat < E4.cls.length ∧ E4.tr.length < 4398046511104
              · rw [if_pos hcond] at hlk
                obtain ⟨hy0, hy1, hy2⟩ := hcond
                obtain ⟨m, rfl⟩ := Int.eq_ofNat_of_zero_le hy0
                rw [Int.toNat_natCast] at hy1 hlk
                have hd3 : decide ((0 : Int) ≤ E4.br) = false := decide_eq_false hbr
                have HCALL := K0 (eng_look.calls E4 B T4 p4 m wr HE.out hy1 (HL.out.1 _ (List.getElem_mem hy1)) hy2)
                have HLK2 := K0 hlk
                clear hlk hbr hrd hy hgr HLK hy0 hy1 hy2
                go_wp2_with fail
                refine HCALL.out.mono ?_
                rintro e' w5 ⟨rfl, T5, p5, h5, m5, f5⟩
                have H5 := K0 h5
                have M5 := K0 (HM.out.trans m5)
                have F5 := K0 (f5.trans HP4.out)
                obtain ⟨l1, l2, _⟩ := E4.look_cls m
                have L5 : Aside0 ((E4.look m).Lits ∧ (E4.look m).wt x = ws) := ⟨by unfold Eng.Lits; rw [l1]; exact HL.out.1, by rw [l2]; exact HL.out.2⟩
                clear h5 m5 f5 l1 l2 HCALL
                go_wp2
                go_roundg (ws.length - (j + 1))
                case measure => have := hg.out; omega
                case rel => exact ⟨j + 1, E4.look m, T5, p5, by simp, ⟨by have := hg.out; omega⟩, H5, M5, F5, L5, HLK2⟩
              · rw [if_neg hcond] at hlk; cases hlk
          · have hd2 : decide ((j : Int) < (ws.length : Int)) = false := decide_eq_false (by omega)
            have P5 : (j < ws.length) = False := eq_false hjl
            have hlk := HLK.out
            rw [List.drop_of_length_le (by omega), Eng.looks] at hlk
            simp only [Option.some.injEq, Prod.mk.injEq] at hlk
            obtain ⟨h1, h2⟩ := hlk
            have hF := HF.out
            rw [← h2, if_neg (by decide), ← h1] at hF
            have HF2 := K0 hF
            clear h1 h2 hF HLK
            go_wp2
            go_roundg k1
            case measure => have := HG.out; omega
            case rel => exact ⟨i + 1, E4, T4, p4, by simp, HE, HM, HP4, ⟨HL.out.1⟩, HF2, ⟨by have := HG.out; omega⟩⟩
      · rw [if_neg hlt] at hF
        have HE2 := K0 (Option.some.inj hF)
        have hd : decide ((i : Int) < (E1.tr.length : Int)) = false := decide_eq_false (by omega)
        have P2 : (i < E1.tr.length) = False := eq_false hlt
        clear e3 hR3 hC3 hF
        go_wp2
        go_end0
        rw [← HE2.out]
        exact ⟨rfl, T1, p1, HE.out, HM.out, HP.out⟩
def Eng.scan : Nat → Nat → Eng → Option Eng
  | 0, _, E => some E
  | m + 1, n, E => if E.br < 0 then (if E.tr.length < 4398046511104 then Eng.scan m (n + 1) (E.look n) else none) else some E
def Eng.settle (k : Nat) (E : Eng) : Option Eng := (Eng.scan E.cls.length 0 E).bind fun E' => Eng.follow k E' E.tr.length
set_option maxRecDepth 100000 in
set_option maxHeartbeats 4000000 in
theorem eng_settle.calls (k : Nat) (E : Eng) (B : Nat) (T : Tag) (p : EngP) (E2 : Eng) (w : World) (h : EngIn w B T E p) (hlit : E.Lits) (hf : Eng.settle k E = some E2) :
    Calls Try.prog 37 #[.pointer (some ⟨B, 0, none⟩)] w fun e w' => e = .returned (.tuple #[]) ∧ EngPost B T p E2 w w' := by
  unfold Eng.settle at hf
  obtain ⟨E3, hsc, hf⟩ := Option.bind_eq_some_iff.mp hf
  have c3 := h.cells.2.2.2.1
  obtain ⟨A3, n3, e3⟩ := Kd.R_slice h.tr
  rw [e3] at c3
  obtain ⟨N, hN⟩ : ∃ N, E.cls.length = N := ⟨_, rfl⟩
  rw [hN] at hsc
  have HE := K0 h
  have HL := K0 hlit
  have HF := K0 hf
  have HS := K0 hsc
  have HN := K0 hN
  have hNb : N ≤ 9223372036854775807 := by obtain ⟨A1, k1, e1⟩ := Kd.R_slice h.cls; have := h.cls; rw [e1] at this; have := (Kd.R_reads' this).2.2.2.1; rw [← hN, ← h.len]; exact this
  obtain ⟨tl, htl⟩ : ∃ tl, E.tr.length = tl := ⟨_, rfl⟩
  rw [htl] at c3 HF
  clear h hlit hf hsc hN e3 htl
  go_enter Try.func37, Try.ntmps37
  go_wp2
  go_loopg [3] N (fun gg v3 wr => ∃ (n : Nat) (E1 : Eng) (T1 : Tag) (p1 : EngP), v3 = .int .i64 (n : Int) ∧ Aside0 (n + gg = N) ∧ Aside0 (EngIn wr B T1 E1 p1) ∧ Aside0 (Moved T T1 w wr) ∧ Aside0 (p1.fw = p.fw) ∧ Aside0 (E1.Lits) ∧ Aside0 (E1.cls.length = N) ∧ Aside0 (Eng.scan gg n E1 = some E3))
  case atStart => exact ⟨0, E, T, p, rfl, ⟨by simp⟩, HE, ⟨Moved.refl _ _⟩, ⟨rfl⟩, HL, HN, HS⟩
  case round =>
    clear HE HL HS HN c3
    obtain ⟨n, E1, T1, p1, rfl, hg, HE, HM, HP, HL, HN, HS⟩ := hrel
    have c1 := HE.out.cells.2.1
    have c6 := HE.out.cells.2.2.2.2.2.2.1
    obtain ⟨A1, k1, e1⟩ := Kd.R_slice HE.out.cls
    rw [e1, HE.out.len, HN.out] at c1
    have fin : ∀ {E4 : Eng} {T4 : Tag} {p4 : EngP} {W4 : World}, EngIn W4 B T4 E4 p4 → E4 = E3 → E4.Lits → Calls Try.prog 71 #[.pointer (some ⟨B, 0, none⟩), .int .i64 (tl : Int)] W4 fun e w' => e = .returned (.tuple #[]) ∧ EngPost B T4 p4 E2 W4 w' := fun h4 e4 l4 => eng_follow.calls k _ B _ _ tl E2 _ h4 l4 (by rw [e4]; exact HF.out)
    by_cases hlt : n < N
    · obtain ⟨m, hm⟩ : ∃ m, gk = m + 1 := ⟨gk - 1, by have := hg.out; omega⟩
      have hs := HS.out
      rw [hm, Eng.scan] at hs
      have P0 : ((n : Int) < (N : Int)) = True := eq_true (by omega)
      have P2 : (n < N) = True := eq_true hlt
      have hd : decide ((n : Int) < (N : Int)) = true := decide_eq_true (by omega)
      by_cases hb : E1.br < 0
      · rw [if_pos hb] at hs
        by_cases hl : E1.tr.length < 4398046511104
        · rw [if_pos hl] at hs
          have hnl : n < E1.cls.length := by rw [HN.out]; exact hlt
          have HCALL := K0 (eng_look.calls E1 B T1 p1 n wr HE.out hnl (HL.out _ (List.getElem_mem hnl)) hl)
          have HS2 := K0 hs
          have HM1 := K0 hm
          have hd2 : decide (E1.br < 0) = true := decide_eq_true hb
          clear hs hb hl hnl e1 fin hm HS
          go_wp2_with fail
          refine HCALL.out.mono ?_
          rintro e' w5 ⟨rfl, T5, p5, h5, m5, f5⟩
          have H5 := K0 h5
          have M5 := K0 (HM.out.trans m5)
          have F5 := K0 (f5.trans HP.out)
          obtain ⟨l1, l2, _⟩ := E1.look_cls n
          have L5 : Aside0 (E1.look n).Lits := ⟨by unfold Eng.Lits; rw [l1]; exact HL.out⟩
          have N5 : Aside0 ((E1.look n).cls.length = N) := ⟨by rw [l1]; exact HN.out⟩
          clear h5 m5 f5 l1 l2 HCALL
          go_wp2
          go_roundg m
          case measure => have := HM1.out; omega
          case rel => exact ⟨n + 1, E1.look n, T5, p5, by simp, ⟨by have := hg.out; have := HM1.out; omega⟩, H5, M5, F5, L5, N5, HS2⟩
        · rw [if_neg hl] at hs; cases hs
      · rw [if_neg hb] at hs
        have HCALL := K0 (fin HE.out (Option.some.inj hs) HL.out)
        have hd2 : decide (E1.br < 0) = false := decide_eq_false hb
        clear hs hb e1 fin hm HS
        go_wp2_with fail
        refine HCALL.out.mono ?_
        rintro e' w5 ⟨rfl, T5, p5, h5, m5, f5⟩
        have H5 := K0 h5
        have M5 := K0 (HM.out.trans m5)
        have F5 := K0 (f5.trans HP.out)
        clear h5 m5 f5 HCALL
        go_wp2
        go_end0
        exact ⟨rfl, T5, p5, H5.out, M5.out, F5.out⟩
    · have hs := HS.out
      have hm : gk = 0 := by have := hg.out; omega
      rw [hm, Eng.scan] at hs
      have HCALL := K0 (fin HE.out (Option.some.inj hs) HL.out)
      have hd : decide ((n : Int) < (N : Int)) = false := decide_eq_false (by omega)
      have P2 : (n < N) = False := eq_false hlt
      clear hs e1 fin hm HS
      go_wp2_with fail
      refine HCALL.out.mono ?_
      rintro e' w5 ⟨rfl, T5, p5, h5, m5, f5⟩
      have H5 := K0 h5
      have M5 := K0 (HM.out.trans m5)
      have F5 := K0 (f5.trans HP.out)
      clear h5 m5 f5 HCALL
      go_wp2
      go_end0
      exact ⟨rfl, T5, p5, H5.out, M5.out, F5.out⟩
def sequiturbase_Ints.l0 : Nat → List Int → List Int → Int → Option (Bool)
  | 0, _, _, _ => none
  | k + 1, x0, x1, x5 => if x5 < (x0.length : Int) then (if 0 ≤ x5 then (if x5 < (x1.length : Int) then (if (rd x0 x5) = (rd x1 x5) then (sequiturbase_Ints.l0 k x0 x1 (wrap64 (x5 + 1))) else (some false)) else (none)) else (none)) else (some true)
def sequiturbase_Ints.f (k : Nat) (l0 : List Int) (l1 : List Int) : Option (Bool) := if (l0.length : Int) = (l1.length : Int) then (sequiturbase_Ints.l0 k l0 l1 0) else (some false)
set_option maxHeartbeats 8000000 in
set_option maxRecDepth 100000 in
theorem sequiturbase_Ints.calls (k : Nat) (A0 : Option Addr) (c0 : Nat) (l0 : List Int) (A1 : Option Addr) (c1 : Nat) (l1 : List Int) (r : Bool) (w : World) (hr0 : Kd.C (Kd.int .i64) w A0 l0.length l0) (hc0 : l0.length ≤ c0) (hr1 : Kd.C (Kd.int .i64) w A1 l1.length l1) (hc1 : l1.length ≤ c1) (h : sequiturbase_Ints.f k l0 l1 = some r) :
    Calls Try.prog 23 #[.slice A0 l0.length c0, .slice A1 l1.length c1] w fun e w' => e = .returned (.bool r) ∧ Drawn0 w w' := by
  have HR0 := K0 hr0
  have HC0 := K0 hc0
  clear hr0 hc0
  have HR1 := K0 hr1
  have HC1 := K0 hc1
  clear hr1 hc1
  have H : (if (l0.length : Int) = (l1.length : Int) then (sequiturbase_Ints.l0 k l0 l1 0) else (some false)) = some r := h
  clear h
  by_cases c3 : (l0.length : Int) = (l1.length : Int)
  · rw [if_pos c3] at H
    have c3b0 : ((l0.length : Int) == (l1.length : Int)) = true := beq_iff_eq.mpr c3
    have c3b1 : ((l0.length : Int) != (l1.length : Int)) = false := bne_eq_false_iff_eq.mpr c3
    have c3b2 : (l0.length == l1.length) = true := by first | simpa using c3 | (simp at c3 ⊢; omega)
    clear c3
    have H' := K0 H
    clear H
    go_enter Try.func23, Try.ntmps23
    go_wp2
    repeat (go_quiet (fail); try go_wp2)
    go_loopg [5] k (fun kq v5 w' => ∃ (x5_1 : Int), v5 = .int .i64 x5_1 ∧ Aside0 (sequiturbase_Ints.l0 kq l0 l1 x5_1 = some r) ∧ Aside0 (kq ≤ k) ∧ Drawn0 w w')
    case atStart => exact ⟨(0), (by first | rfl | (simp; done) | (simp [*]; done)), H', ⟨Nat.le_refl _⟩, by repeat (first | exact Drawn0.refl _ | apply Drawn0.step)⟩
    case round =>
      clear H'
      try clear c1
      try clear c2
      try clear p2
      try clear c3
      try clear c3b0
      try clear c3b1
      try clear c3b2
      obtain ⟨x5_1, rfl, HA, HK1, ⟨m1, rfl⟩⟩ := hrel
      cases gk with
      | zero => exact absurd HA.out (by simp [sequiturbase_Ints.l0])
      | succ k1 =>
        have H := HA.out
        clear HA
        simp only [sequiturbase_Ints.l0] at H
        by_cases c4 : x5_1 < (l0.length : Int)
        · rw [if_pos c4] at H
          have c4b0 : decide (x5_1 < (l0.length : Int)) = true := decide_eq_true c4
          clear c4
          by_cases c5 : 0 ≤ x5_1
          · rw [if_pos c5] at H
            have c5b0 : decide (0 ≤ x5_1) = true := decide_eq_true c5
            clear c5
            by_cases c6 : x5_1 < (l1.length : Int)
            · rw [if_pos c6] at H
              have c6b0 : decide (x5_1 < (l1.length : Int)) = true := decide_eq_true c6
              clear c6
              by_cases c7 : (rd l0 x5_1) = (rd l1 x5_1)
              · rw [if_pos c7] at H
                have c7b0 : ((rd l0 x5_1) == (rd l1 x5_1)) = true := beq_iff_eq.mpr c7
                have c7b1 : ((rd l0 x5_1) != (rd l1 x5_1)) = false := bne_eq_false_iff_eq.mpr c7
                clear c7
                as_aux_lemma =>
                  have H' := K0 H
                  clear H
                  have p127 : 0 ≤ (x5_1 : Int) := of_decide_eq_true (by first | (with_reducible assumption) | assumption)
                  have q127 : x5_1 < (l0.length : Int) := of_decide_eq_true (by first | (with_reducible assumption) | assumption)
                  obtain ⟨ad127, e127, hx127_0⟩ := Kd.at_int HR0.out x5_1 p127 q127
                  cases e127
                  replace p127 := eq_true p127
                  replace q127 := eq_true q127
                  have p128 : 0 ≤ (x5_1 : Int) := of_decide_eq_true (by first | (with_reducible assumption) | assumption)
                  have q128 : x5_1 < (l1.length : Int) := of_decide_eq_true (by first | (with_reducible assumption) | assumption)
                  obtain ⟨ad128, e128, hx128_0⟩ := Kd.at_int HR1.out x5_1 p128 q128
                  cases e128
                  replace p128 := eq_true p128
                  replace q128 := eq_true q128
                  go_wp2
                  repeat (go_quiet (fail); try go_wp2)
                  go_roundg k1
                  case measure => have := HK1.out; omega
                  case rel => exact ⟨(wrap64 (x5_1 + 1)), (by first | rfl | (simp; done) | (simp [*]; done)), H', ⟨by have := HK1.out; omega⟩, by repeat (first | exact Drawn0.refl _ | apply Drawn0.step)⟩
              · rw [if_neg c7] at H
                have c7b0 : ((rd l0 x5_1) == (rd l1 x5_1)) = false := beq_eq_false_iff_ne.mpr c7
                have c7b1 : ((rd l0 x5_1) != (rd l1 x5_1)) = true := bne_iff_ne.mpr c7
                as_aux_lemma =>
                  obtain rfl := Option.some.inj H
                  have p127 : 0 ≤ (x5_1 : Int) := of_decide_eq_true (by first | (with_reducible assumption) | assumption)
                  have q127 : x5_1 < (l0.length : Int) := of_decide_eq_true (by first | (with_reducible assumption) | assumption)
                  obtain ⟨ad127, e127, hx127_0⟩ := Kd.at_int HR0.out x5_1 p127 q127
                  cases e127
                  replace p127 := eq_true p127
                  replace q127 := eq_true q127
                  have p128 : 0 ≤ (x5_1 : Int) := of_decide_eq_true (by first | (with_reducible assumption) | assumption)
                  have q128 : x5_1 < (l1.length : Int) := of_decide_eq_true (by first | (with_reducible assumption) | assumption)
                  obtain ⟨ad128, e128, hx128_0⟩ := Kd.at_int HR1.out x5_1 p128 q128
                  cases e128
                  replace p128 := eq_true p128
                  replace q128 := eq_true q128
                  go_wp2
                  repeat (go_quiet (fail); try go_wp2)
                  go_ret
                  exact ⟨by first | rfl | (simp; done) | (simp [*]; done), by repeat (first | exact Drawn0.refl _ | apply Drawn0.step)⟩
            · rw [if_neg c6] at H
              exact absurd H (by simp)
          · rw [if_neg c5] at H
            exact absurd H (by simp)
        · rw [if_neg c4] at H
          have c4b0 : decide (x5_1 < (l0.length : Int)) = false := decide_eq_false c4
          clear c4
          as_aux_lemma =>
            obtain rfl := Option.some.inj H
            go_wp2
            repeat (go_quiet (fail); try go_wp2)
            go_ret
            exact ⟨by first | rfl | (simp; done) | (simp [*]; done), by repeat (first | exact Drawn0.refl _ | apply Drawn0.step)⟩
  · rw [if_neg c3] at H
    have c3b0 : ((l0.length : Int) == (l1.length : Int)) = false := beq_eq_false_iff_ne.mpr c3
    have c3b1 : ((l0.length : Int) != (l1.length : Int)) = true := bne_iff_ne.mpr c3
    have c3b2 : (l0.length == l1.length) = false := by first | simpa using c3 | (simp at c3 ⊢; omega)
    as_aux_lemma =>
      obtain rfl := Option.some.inj H
      go_enter Try.func23, Try.ntmps23
      go_wp2
      repeat (go_quiet (fail); try go_wp2)
      go_ret
      exact ⟨by first | rfl | (simp; done) | (simp [*]; done), by repeat (first | exact Drawn0.refl _ | apply Drawn0.step)⟩
def ixOf {α : Type} (p : α → Bool) : List α → Int → Int
  | [], _ => -1
  | x :: t, i => if p x = true then i else ixOf p t (i + 1)
theorem ixOf_nil {α : Type} (p : α → Bool) (i : Int) : ixOf p [] i = -1 := rfl
theorem ixOf_drop {α : Type} (p : α → Bool) (xs : List α) (j : Nat) (hj : j < xs.length) : ixOf p (xs.drop j) (j : Int) = if p xs[j] = true then (j : Int) else ixOf p (xs.drop (j + 1)) ((j + 1 : Nat) : Int) := by
  rw [List.drop_eq_getElem_cons hj, ixOf]; rfl
set_option maxRecDepth 100000 in
theorem learn_behind.calls (wb : World) (gX bP B : Nat) (N : Int) (A0 : Option Addr) (c0 : Nat) (L : List (List Int)) (pl : Int → Option Int) (Q : Nat → Prop) (vC vF : Value) (cl fr : List Int) (x : Int) (w : World)
    (h : ResIn wb w gX bP B N A0 c0 L pl Q vC vF cl fr) :
    Calls Try.prog 82 #[.pointer (some ⟨gX, 0, none⟩), .int .i64 x] w fun e w' => e = .returned (.bool (pl (wrap64 (-x))).isSome) ∧ Below w.heap.size w w' := by
  obtain ⟨p0, p1, p2, p3, p4, p5⟩ := h.cells
  have q := h.look_ok (wf_wrap x)
  have huR := Try.underlying91
  clear h
  go_enter Try.func82, Try.ntmps82
  go_wp2
  go_ret
  exact ⟨rfl, Below.refl _ _⟩
set_option maxRecDepth 100000 in
theorem learn_begin_1.calls (g6 : Nat) (wb : World) (gX bP B : Nat) (N : Int) (A0 : Option Addr) (c0 : Nat) (L : List (List Int)) (pl : Int → Option Int) (Q : Nat → Prop) (vC vF : Value) (cl fr : List Int) (x : Int) (w : World)
    (h : ResIn wb w gX bP B N A0 c0 L pl Q vC vF cl fr) (h6 : w.cell? ⟨g6, 0, none⟩ = some (.pointer (some ⟨gX, 0, none⟩))) :
    Calls Try.prog 81 #[.int .i64 x, .pointer (some ⟨g6, 0, none⟩)] w fun e w' => e = .returned (.bool (pl (wrap64 (-x))).isNone) ∧ Below w.heap.size w w' := by
  have HC := K0 (learn_behind.calls wb gX bP B N A0 c0 L pl Q vC vF cl fr x w h)
  clear h
  go_enter Try.func81, Try.ntmps81
  go_wp2_with fail
  refine HC.out.mono ?_
  rintro e' w1 ⟨rfl, hb1⟩
  have HB := K0 hb1
  clear hb1 h6 HC
  go_wp2
  go_ret
  exact ⟨rfl, HB.out⟩
set_option maxRecDepth 100000 in
set_option maxHeartbeats 2000000 in
theorem slices_IndexFunc_int.calls (gf : Nat) (lb : Array Value) (eg : ∀ args w, (callFunc gf args).run Try.prog w = .ok (.enter gf args) w) (p : Int → Bool) (A : Option Addr) (c : Nat) (xs : List Int) (w : World)
    (hr : Kd.C (Kd.int .i64) w A xs.length xs) (hp : ∀ W, Below w.heap.size w W → ∀ x ∈ xs, Calls Try.prog gf (#[.int .i64 x] ++ lb) W fun e W' => e = .returned (.bool (p x)) ∧ Below W.heap.size W W') :
    Calls Try.prog 89 #[.slice A xs.length c, .func (.func gf) #[] lb] w fun e w' => e = .returned (.int .i64 (ixOf p xs 0)) ∧ Below w.heap.size w w' := by
  have HR := K0 hr
  have HP := K0 hp
  have hbig := hr.2.1
  clear hr hp
  go_enter Try.func89, Try.ntmps89
  go_wp2
  go_loopg [5, 8] xs.length (fun gg _ s8 wr => ∃ kk : Nat, s8 = .int .i64 (kk : Int) ∧ Aside0 (kk + gg = xs.length) ∧ Aside0 (Below w.heap.size w wr) ∧ Aside0 (ixOf p xs 0 = ixOf p (xs.drop kk) (kk : Int)))
  case atStart => exact ⟨0, rfl, ⟨by simp⟩, ⟨Below.refl _ _⟩, ⟨rfl⟩⟩
  case round =>
    obtain ⟨kk, rfl, hg, hb, hx⟩ := hrel
    by_cases hlt : kk < xs.length
    · obtain ⟨ad, e1, x1⟩ := Kd.at_int (Kd.C_below HR.out hb.out) (kk : Int) (by omega) (by omega)
      cases e1
      obtain ⟨y, hy⟩ : ∃ y, xs[kk] = y := ⟨_, rfl⟩
      have hrd : rd xs (kk : Int) = y := by simp [rd, hlt, hy]
      rw [hrd] at x1
      simp only [Int.toNat_natCast] at x1
      have hcall := HP.out _ hb.out y (by rw [← hy]; exact List.getElem_mem hlt)
      have hx2 := hx.out
      rw [ixOf_drop p xs kk hlt, hy] at hx2
      have HX2 := K0 hx2
      clear hx2 hx hrd hy
      have P0 : ((0 : Int) ≤ (kk : Int)) = True := eq_true (by omega)
      have P1 : ((kk : Int) < (xs.length : Int)) = True := eq_true (by omega)
      have P2 : (kk < xs.length) = True := eq_true hlt
      have hd : decide ((kk : Int) < (xs.length : Int)) = true := decide_eq_true (by omega)
      cases hq : p y with
      | true =>
        rw [hq] at hcall
        have hz := HX2.out
        rw [if_pos hq] at hz
        have HZ := K0 hz
        clear hz
        go_wp2_with fail
        refine hcall.mono ?_
        rintro e w' ⟨rfl, hb'⟩
        go_wp2
        go_ret
        exact ⟨by rw [HZ.out]; rfl, hb.out.trans (hb'.mono hb.out.size)⟩
      | false =>
        rw [hq] at hcall
        have hz := HX2.out
        rw [if_neg (by rw [hq]; decide)] at hz
        have HZ := K0 hz
        clear hz
        go_wp2_with fail
        refine hcall.mono ?_
        rintro e w' ⟨rfl, hb'⟩
        go_wp2
        go_roundg (xs.length - (kk + 1))
        case measure => have := hg.out; omega
        case rel => exact ⟨kk + 1, by simp, ⟨by omega⟩, ⟨hb.out.trans (hb'.mono hb.out.size)⟩, HZ⟩
    · have hd : decide ((kk : Int) < (xs.length : Int)) = false := decide_eq_false (by omega)
      have hz := hx.out
      rw [List.drop_of_length_le (by omega), ixOf_nil] at hz
      have HZ := K0 hz
      clear hz hx
      go_wp2
      go_ret
      exact ⟨by rw [HZ.out]; rfl, hb.out⟩
set_option maxRecDepth 100000 in
theorem slices_ContainsFunc_int.calls (gf : Nat) (lb : Array Value) (eg : ∀ args w, (callFunc gf args).run Try.prog w = .ok (.enter gf args) w) (p : Int → Bool) (A : Option Addr) (c : Nat) (xs : List Int) (w : World)
    (hr : Kd.C (Kd.int .i64) w A xs.length xs) (hp : ∀ W, Below w.heap.size w W → ∀ x ∈ xs, Calls Try.prog gf (#[.int .i64 x] ++ lb) W fun e W' => e = .returned (.bool (p x)) ∧ Below W.heap.size W W') :
    Calls Try.prog 66 #[.slice A xs.length c, .func (.func gf) #[] lb] w fun e w' => e = .returned (.bool (decide (0 ≤ ixOf p xs 0))) ∧ Below w.heap.size w w' := by
  have HC := K0 (slices_IndexFunc_int.calls gf lb eg p A c xs w hr hp)
  clear hr hp
  go_enter Try.func66, Try.ntmps66
  go_wp2_with fail
  refine HC.out.mono ?_
  rintro e w' ⟨rfl, hb'⟩
  go_wp2
  go_ret
  exact ⟨by simp, hb'⟩
set_option maxRecDepth 100000 in
set_option maxHeartbeats 2000000 in
theorem slices_Clone_int.calls (A : Option Addr) (c : Nat) (xs : List Int) (w : World) (hr : Kd.C (Kd.int .i64) w A xs.length xs) (hc : xs.length ≤ c) (hl : xs.length < 17592186044416) :
    Calls Try.prog 73 #[.slice A xs.length c] w fun e w' => ∃ v', e = .returned v' ∧ Kd.R (Kd.int .i64) 3 w' w.heap.size (fun _ => True) v' xs ∧ Below w.heap.size w w' := by
  have HR := K0 hr
  have HL := K0 hl
  cases A with
  | none =>
    have h0 : xs = [] := by
      rcases Nat.eq_zero_or_pos xs.length with h | h
      · exact List.eq_nil_of_length_eq_zero h
      · obtain ⟨ad, e, _⟩ := hr.2.2 h
        cases e
    subst h0
    clear hr hl
    have hq := fun W : World => Lib.run_eql_slice_nil (P := Try.prog) W 37 3 none 0 c 0 0 Try.underlying37
    simp only [Option.isNone_none] at hq
    go_enter Try.func73, Try.ntmps73
    go_wp2
    go_ret
    exact ⟨_, rfl, Kd.R_nil _ _ _ _ _, Below.refl _ _⟩
  | some a =>
    clear hr hl
    have hE : Kd.R (Kd.int .i64) 3 (w.alloc (.cells #[] 3)) w.heap.size (fun _ => True) (.slice (some ⟨w.heap.size, 0, none⟩) 0 0) ([] : List Int) := Kd.R_of_own (by have := own_lit w w.heap.size 3 .i64 [] (Nat.le_refl _) (by simp); simpa [encs, nums] using this) (fun _ _ => trivial)
    have HE := K0 hE
    clear hE
    have hq := fun W : World => Lib.run_eql_slice_nil (P := Try.prog) W 37 3 (some a) xs.length c 0 0 Try.underlying37
    simp only [Option.isNone_some] at hq
    go_enter Try.func73, Try.ntmps73
    go_wp2_with (at_builtin; refine Kd.R_append_row (Value.int .i64) 0 (w0 := w) (W := w.alloc (.cells #[] 3)) w.heap.size rfl (.tmp 5) (.tmp 6) 37 3 (.int .i64 0) 8 rfl Try.underlying37 (by kernel_rfl) rfl (by decide) _ [] xs _ _ _ (fun _ => True) rfl rfl (fun _ _ => trivial) HE.out (Kd.C_below HR.out (below_alloc (Below.refl _ _) _)) (below_alloc (Below.refl _ _) _) (by simp) (by have := HL.out; simp; omega) ?_; intro v1 w1 r1 hb1 hg1 hat1)
    go_ret
    exact ⟨_, rfl, (by have h := r1; rw [List.nil_append] at h; exact h), hb1⟩
set_option maxRecDepth 100000 in
theorem eng_Trail.calls (E : Eng) (B : Nat) (T : Tag) (p : EngP) (w : World) (h : EngIn w B T E p) (hl : E.tr.length < 4398046511104) :
    Calls Try.prog 34 #[.pointer (some ⟨B, 0, none⟩)] w fun e w' => ∃ v, e = .returned v ∧ Kd.R (Kd.int .i64) 3 w' w.heap.size (fun _ => True) v E.tr ∧ Below w.heap.size w w' := by
  have c3 := h.cells.2.2.2.1
  obtain ⟨A3, n3, e3⟩ := Kd.R_slice h.tr
  have hR := h.tr
  rw [e3] at c3 hR
  obtain ⟨_, h2, h3⟩ := Kd.R_reads' hR
  have HC := K0 (slices_Clone_int.calls A3 n3 E.tr w h3 h2 (by omega))
  clear h e3 hR h3
  go_enter Try.func34, Try.ntmps34
  go_wp2_with fail
  refine HC.out.mono ?_
  rintro e' w1 ⟨v1, rfl, hR1, hb1⟩
  have HR := K0 hR1
  have HB := K0 hb1
  clear hR1 hb1
  go_wp2
  go_ret
  exact ⟨_, rfl, HR.out, HB.out⟩
def Eng.push (k : Nat) (E : Eng) (l : Int) : Option (Eng × Bool) :=
  if E.br ≥ 0 then some (E, false) else (lit_Right.f k [l] E.n).bind fun e => if e ≠ 0 then some (E, false) else if E.val l ≠ 0 then some (E, false)
    else if E.tr.length < 2199023255552 ∧ E.st.length < 2199023255552 then (Eng.follow k (({ E with st := E.st ++ [(E.tr.length : Int)] } : Eng).put l (-1)) E.tr.length).bind fun E' => some (E', true) else none
theorem C_one (W : World) (l : Int) : Kd.C (Kd.int .i64) (W.alloc (.cells #[.int .i64 l] 3)) (some ⟨W.heap.size, 0, none⟩) 1 [l] :=
  ⟨rfl, by decide, fun _ => ⟨_, rfl, fun j p hp => ⟨[.int .i64 l], rfl, by
    have : p = l := by
      rcases j with _ | j
      · simpa using hp.symm
      · simp at hp
    rw [this]; rfl, fun i u hu => by
    have hj : j = 0 := by have := (List.getElem?_eq_some_iff.1 hp).1; simp at this; omega
    have hi : i = 0 := by have := (List.getElem?_eq_some_iff.1 hu).1; simp at this; omega
    subst hj; subst hi
    have := blk_cell (blk_new W (.cells #[.int .i64 l] 3)) 0
    simp at hu
    rw [← hu]
    exact this⟩⟩⟩
set_option maxRecDepth 100000 in
set_option maxHeartbeats 4000000 in
theorem eng_Push.calls (k : Nat) (E : Eng) (B : Nat) (T : Tag) (p : EngP) (l : Int) (E2 : Eng) (r : Bool) (w : World) (h : EngIn w B T E p) (hl : (Lit.int .i64 l).wf = true) (hlit : E.Lits) (hf : Eng.push k E l = some (E2, r)) :
    Calls Try.prog 33 #[.pointer (some ⟨B, 0, none⟩), .int .i64 l] w fun e w' => e = .returned (.bool r) ∧ EngPost B T p E2 w w' := by
  unfold Eng.push at hf
  have c0 := h.cells.1
  have c6 := h.cells.2.2.2.2.2.2.1
  have HE := K0 h; have HL := K0 hlit
  by_cases hb : E.br ≥ 0
  · rw [if_pos hb] at hf
    simp only [Option.some.injEq, Prod.mk.injEq] at hf
    obtain ⟨h1, h2⟩ := hf
    subst h2; have H2 := K0 h1
    have hd : decide ((0 : Int) ≤ E.br) = true := decide_eq_true hb
    clear h1 h hlit hb
    go_enter Try.func33, Try.ntmps33
    go_wp2
    go_ret
    rw [← H2.out]
    exact ⟨rfl, T, p, HE.out, Moved.refl _ _, rfl⟩
  rw [if_neg hb] at hf
  obtain ⟨e, he, hf⟩ := Option.bind_eq_some_iff.mp hf
  have hd : decide ((0 : Int) ≤ E.br) = false := decide_eq_false hb
  have hba : Below w.heap.size w (w.alloc (.cells #[.int .i64 l] 3)) := below_alloc (Below.refl _ _) _
  have HR := K0 (lit_Right.calls k (some ⟨w.heap.size, 0, none⟩) 1 [l] E.n e (w.alloc (.cells #[.int .i64 l] 3)) (C_one w l) (Nat.le_refl _) he)
  have c0a := pw_cell_below hba c0
  clear hb he
  by_cases h0 : e = 0
  case neg =>
    rw [if_pos h0] at hf
    simp only [Option.some.injEq, Prod.mk.injEq] at hf
    obtain ⟨h1, h2⟩ := hf
    subst h2; have H2 := K0 h1; have HB := K0 hba
    have q1 : (e != 0) = true := by simpa using h0
    have q2 : (e == 0) = false := by simpa using h0
    clear h1 h hlit h0 hba
    go_enter Try.func33, Try.ntmps33
    go_wp2_with fail
    refine HR.out.mono ?_
    rintro e' w1 ⟨rfl, ⟨⟨n1, rfl⟩⟩⟩
    go_wp2
    go_ret
    rw [← H2.out]
    have hB := HB.out.trans ((pw_below_drewN (Below.refl _ _) n1).mono HB.out.size)
    exact ⟨rfl, T, p, HE.out.below hB, Moved.of_below hB, rfl⟩
  subst h0
  rw [if_neg (by decide)] at hf
  have HV := K0 (fun W (hW : Below w.heap.size w W) => eng_Value.calls E B T p l W (HE.out.below hW) hl)
  rcases E.val_or l with hv | hv | hv
  · rw [hv, if_pos (by decide)] at hf
    simp only [Option.some.injEq, Prod.mk.injEq] at hf
    obtain ⟨h1, h2⟩ := hf
    subst h2; have H2 := K0 h1; have HB := K0 hba; have HVv := K0 hv; clear h1 h hlit hba hv
    go_enter Try.func33, Try.ntmps33
    go_wp2_with fail
    refine HR.out.mono ?_
    rintro e' w1 ⟨rfl, ⟨⟨n1, rfl⟩⟩⟩
    have HB1 := K0 (HB.out.trans ((pw_below_drewN (Below.refl _ _) n1).mono HB.out.size))
    go_wp2_with fail
    refine (HV.out _ HB1.out).mono ?_
    rintro e' w2 ⟨rfl, hb2⟩
    rw [HVv.out]
    have HB2 := K0 (HB1.out.trans (hb2.mono HB1.out.size))
    clear hb2
    go_wp2
    go_ret
    rw [← H2.out]
    exact ⟨rfl, T, p, HE.out.below HB2.out, Moved.of_below HB2.out, rfl⟩
  · rw [hv, if_neg (by decide)] at hf
    by_cases hbd : E.tr.length < 2199023255552 ∧ E.st.length < 2199023255552
    case neg =>
      rw [if_neg hbd] at hf; cases hf
    rw [if_pos hbd] at hf
    obtain ⟨E5, hf5, hr⟩ := Option.bind_eq_some_iff.mp hf
    simp only [Option.some.injEq, Prod.mk.injEq] at hr
    obtain ⟨h1, h2⟩ := hr
    subst h2; have H2 := K0 h1; have HB := K0 hba; have HVv := K0 hv; have HF := K0 hf5; have HBD := K0 hbd; clear h1 h hlit hba hv hf hf5 hbd
    go_enter Try.func33, Try.ntmps33
    go_wp2_with fail
    refine HR.out.mono ?_
    rintro e' w1 ⟨rfl, ⟨⟨n1, rfl⟩⟩⟩
    have HB1 := K0 (HB.out.trans ((pw_below_drewN (Below.refl _ _) n1).mono HB.out.size))
    go_wp2_with fail
    refine (HV.out _ HB1.out).mono ?_
    rintro e' wo ⟨rfl, hb2⟩
    rw [HVv.out]
    have hb3 := HB1.out.trans (hb2.mono HB1.out.size)
    have hbd := hb3.trans ((below_drew (Below.refl wo.heap.size wo)).mono hb3.size)
    have hD := HE.out.below hbd
    obtain ⟨A5, k5, e5⟩ := Kd.R_slice hD.st
    obtain ⟨A3, k3, e3⟩ := Kd.R_slice hD.tr
    have c5 := hD.cells.2.2.2.2.2.1
    have c3 := hD.cells.2.2.2.1
    have hst := hD.st
    rw [e5] at c5 hst
    rw [e3] at c3
    obtain ⟨ss, hss⟩ : ∃ ss, E.st = ss := ⟨_, rfl⟩
    rw [hss] at c5 hst
    obtain ⟨n3, hn3⟩ : ∃ n3, E.tr.length = n3 := ⟨_, rfl⟩
    rw [hn3] at c3
    have haft : ∀ w1, wo.drew.grownBy w1 (Value.slice A5 ss.length k5).ownBlock → w1.cell? ⟨B, 5, none⟩ = some (.slice A5 ss.length k5) ∧ w1.frozen? ⟨B, 5, none⟩ = false ∧ w1.cell? ⟨B, 3, none⟩ = some (.slice A3 n3 k3) := fun w1 hg1 => by
      have hv := hst.1
      have a5 := hD.after hv (tag_ne (by decide) _ _) hg1 5
      have a3 := hD.after hv (tag_ne (by decide) _ _) hg1 3
      refine ⟨?_, a5.2, ?_⟩
      · rw [a5.1]; show some p.vS = _; rw [e5, hss]
      · rw [a3.1]; show some p.vT = _; rw [e3, hn3]
    have hba : Below wo.drew.heap.size wo.drew (wo.drew.alloc (.cells #[.int .i64 (n3 : Int)] 3)) := below_alloc (Below.refl _ _) _
    have d5 := pw_cell_below hba c5
    have d3 := pw_cell_below hba c3
    have HAFT := K0 haft; have HD := K0 hD; have HST := K0 hst; have HSS := K0 hss; have HN3 := K0 hn3; have HBd := K0 hbd
    have HSL := K0 (show ss.length < 4398046511104 by have := HBD.out.2; rw [hss] at this; omega)
    have HE5 := K0 e5; clear haft hD hst hss hn3 hba hb2 hb3 hbd e5 e3 HB1 HB HR HV
    go_wp2
    refine start_ (n := 15) (S := fun w' => w'.cell? ⟨B, 5, none⟩ = some (.slice A5 ss.length k5) ∧ w'.cell? ⟨B, 3, none⟩ = some (.slice A3 n3 k3)) (ds := [14]) #[false, false, false, false, false, false, false, false, false, false, false, false, false, false, false] (by kernel_rfl) rfl rfl ⟨c5, c3⟩ (fun hHeld => ?_)
    refine pure_ (i := 0) (N := some 30) (v := ?_) (a' := ?_) #[true, false, false, false, false, false, false, false, false, false, false, false, false, false, false] rfl rfl (by kernel_rfl) (fun _ _ _ h => h) (Or.inl ⟨by rfl, ?_⟩) ?_ ?_
    rotate_left
    · intro w'
      go_simp
      with_reducible rfl
    rotate_left
    · simp only [Act.put, List.setIfInBounds_toArray, List.set_cons_zero, List.set_cons_succ, i64_w, i32_w]
      rfl
    refine pure_ (i := 1) (N := some 31) (v := ?_) (a' := ?_) #[true, true, false, false, false, false, false, false, false, false, false, false, false, false, false] rfl rfl (by kernel_rfl) (fun _ _ _ h => h) (Or.inl ⟨by rfl, ?_⟩) ?_ ?_
    rotate_left
    · intro w'
      go_simp
      with_reducible rfl
    rotate_left
    · simp only [Act.put, List.setIfInBounds_toArray, List.set_cons_zero, List.set_cons_succ, i64_w, i32_w]
      rfl
    refine pure_ (i := 2) (N := some 32) (v := ?_) (a' := ?_) #[true, true, true, false, false, false, false, false, false, false, false, false, false, false, false] rfl rfl (by kernel_rfl) (fun _ _ _ h => h) (Or.inl ⟨by rfl, ?_⟩) ?_ ?_
    rotate_left
    · intro w'
      go_simp
      with_reducible rfl
    rotate_left
    · simp only [Act.put, List.setIfInBounds_toArray, List.set_cons_zero, List.set_cons_succ, i64_w, i32_w]
      rfl
    refine pure_ (i := 3) (N := some 33) (v := ?_) (a' := ?_) #[true, true, true, true, false, false, false, false, false, false, false, false, false, false, false] rfl rfl (by kernel_rfl) (fun _ _ _ h => h) (Or.inl ⟨by rfl, ?_⟩) ?_ ?_
    rotate_left
    · intro w'
      go_simp
      with_reducible rfl
    rotate_left
    · simp only [Act.put, List.setIfInBounds_toArray, List.set_cons_zero, List.set_cons_succ, i64_w, i32_w]
      rfl
    refine pure_ (i := 5) (N := some 35) (v := ?_) (a' := ?_) #[true, true, true, true, false, true, false, false, false, false, false, false, false, false, false] rfl rfl (by kernel_rfl) (fun _ _ _ h => h) (Or.inl ⟨by rfl, ?_⟩) ?_ ?_
    rotate_left
    · intro w'
      go_simp
      with_reducible rfl
    rotate_left
    · simp only [Act.put, List.setIfInBounds_toArray, List.set_cons_zero, List.set_cons_succ, i64_w, i32_w]
      rfl
    refine pure_ (i := 6) (N := some 36) (v := ?_) (a' := ?_) #[true, true, true, true, false, true, true, false, false, false, false, false, false, false, false] rfl rfl (by kernel_rfl) (fun _ _ _ h => h) (Or.inl ⟨by rfl, ?_⟩) ?_ ?_
    rotate_left
    · intro w'
      go_simp
      with_reducible rfl
    rotate_left
    · simp only [Act.put, List.setIfInBounds_toArray, List.set_cons_zero, List.set_cons_succ, i64_w, i32_w]
      rfl
    refine pure_ (i := 7) (N := some 37) (v := ?_) (a' := ?_) #[true, true, true, true, false, true, true, true, false, false, false, false, false, false, false] rfl rfl (by kernel_rfl) (fun _ _ _ h => h) (Or.inl ⟨by rfl, ?_⟩) ?_ ?_
    rotate_left
    · intro w'
      go_simp
      with_reducible rfl
    rotate_left
    · simp only [Act.put, List.setIfInBounds_toArray, List.set_cons_zero, List.set_cons_succ, i64_w, i32_w]
      rfl
    refine take_ (i := 4) (N := some 34) (v := ?_) (a' := ?_) #[true, true, true, true, true, true, true, true, false, false, false, false, false, false, false] rfl rfl (by kernel_rfl) (fun _ _ _ h => h) (Or.inl ⟨by rfl, ?_⟩) hHeld ?_ ?_
    rotate_left
    · rintro w' ⟨s0, s1⟩
      go_simp
      with_reducible rfl
    rotate_left
    · simp only [Act.put, List.setIfInBounds_toArray, List.set_cons_zero, List.set_cons_succ, i64_w, i32_w]
      rfl
    refine take_ (i := 8) (N := some 38) (v := ?_) (a' := ?_) #[true, true, true, true, true, true, true, true, true, false, false, false, false, false, false] rfl rfl (by kernel_rfl) (fun _ _ _ h => h) (Or.inl ⟨by rfl, ?_⟩) hHeld ?_ ?_
    rotate_left
    · rintro w' ⟨s0, s1⟩
      go_simp
      with_reducible rfl
    rotate_left
    · simp only [Act.put, List.setIfInBounds_toArray, List.set_cons_zero, List.set_cons_succ, i64_w, i32_w]
      rfl
    refine pure_ (i := 9) (N := some 39) (v := ?_) (a' := ?_) #[true, true, true, true, true, true, true, true, true, true, false, false, false, false, false] rfl rfl (by kernel_rfl) (fun _ _ _ h => h) (Or.inl ⟨by rfl, ?_⟩) ?_ ?_
    rotate_left
    · intro w'
      go_simp
      with_reducible rfl
    rotate_left
    · simp only [Act.put, List.setIfInBounds_toArray, List.set_cons_zero, List.set_cons_succ, i64_w, i32_w]
      rfl
    refine one_ (i := 10) (N := some 40) #[true, true, true, true, true, true, true, true, true, true, true, false, false, false, false] rfl rfl (by kernel_rfl) (by decide) (fun K hK => ?_)
    refine value_ (w1 := ?_) (v := ?_) (by rfl) rfl ?_ ?_
    rotate_left 2
    · go_simp
      constructor
      · rfl
      rfl
    refine hK.out _ _ ⟨d5, d3⟩ (fun hHeld => ?_)
    clear hK K
    refine norm_ (a' := ?_) ?_ ?_
    rotate_left
    · show Act.put _ (some 40) _ = _
      simp only [Act.put, List.setIfInBounds_toArray, List.set_cons_zero, List.set_cons_succ, i64_w, i32_w]
      rfl
    refine one_ (i := 11) (N := some 41) #[true, true, true, true, true, true, true, true, true, true, true, true, false, false, false] rfl rfl (by kernel_rfl) (by decide) (fun K hK => ?_)
    refine Kd.R_append_step (Kd.int .i64) (w0 := wo.drew) (W := wo.drew) 0 (by rfl) (.tmp 34) (.tmp 40) 37 3 (.int .i64 0) 8 rfl Try.underlying37 (by kernel_rfl) rfl (by decide) (by decide) (.slice A5 ss.length k5) ss (n3 : Int) [.int .i64 (n3 : Int)] (fun k => T k = (5, 0) ∨ wo.drew.heap.size ≤ k) (fun _ => False) (by rfl) (by rfl) rfl (fun _ h => h.elim) (fun k hk => .inr hk) (Kd.R_mono HST.out (fun _ hk => .inl hk)) (Below.refl 0 _) (Nat.zero_le _) (by have := HSL.out; omega) ?_
    intro v1 w1 r1' hb1 hg1 hat1
    obtain ⟨A6, k6, e6⟩ := Kd.R_slice r1'
    rw [List.length_append, List.length_singleton] at e6
    subst e6
    obtain ⟨c51, f51, c31⟩ := HAFT.out w1 hg1
    refine hK.out _ _ ⟨c51, c31⟩ (fun hHeld => ?_)
    clear hK K
    refine norm_ (a' := ?_) ?_ ?_
    rotate_left
    · show Act.put _ (some 41) _ = _
      simp only [Act.put, List.setIfInBounds_toArray, List.set_cons_zero, List.set_cons_succ, i64_w, i32_w]
      rfl
    refine pure_ (i := 12) (N := some 42) (v := ?_) (a' := ?_) #[true, true, true, true, true, true, true, true, true, true, true, true, true, false, false] rfl rfl (by kernel_rfl) (fun _ _ _ h => h) (Or.inl ⟨by rfl, ?_⟩) ?_ ?_
    rotate_left
    · intro w'
      go_simp
      with_reducible rfl
    rotate_left
    · simp only [Act.put, List.setIfInBounds_toArray, List.set_cons_zero, List.set_cons_succ, i64_w, i32_w]
      rfl
    refine pure_ (i := 13) (N := some 43) (v := ?_) (a' := ?_) #[true, true, true, true, true, true, true, true, true, true, true, true, true, true, false] rfl rfl (by kernel_rfl) (fun _ _ _ h => h) (Or.inl ⟨by rfl, ?_⟩) ?_ ?_
    rotate_left
    · intro w'
      go_simp
      with_reducible rfl
    rotate_left
    · simp only [Act.put, List.setIfInBounds_toArray, List.set_cons_zero, List.set_cons_succ, i64_w, i32_w]
      rfl
    refine last_ (i := 14) (N := none) #[true, true, true, true, true, true, true, true, true, true, true, true, true, true, true] rfl rfl (by kernel_rfl) (by decide) (fun K hK => ?_)
    refine skip_ (w1 := ?_) (by rfl) rfl ?_ ?_
    rotate_left
    · go_simp
      rfl
    refine hK.out _ _ ?_
    clear hK K
    refine done_ (by kernel_rfl) ?_
    have hgw : wo.drew.grownBy w1 p.vS.ownBlock := by rw [HE5.out, HSS.out]; exact hg1
    obtain ⟨T6, E6, p6, h6, m6, hE6, hp6⟩ : ∃ T6 E6 p6, EngIn (w1.setCell ⟨B, 5, none⟩ (.slice A6 (ss.length + 1) k6)) B T6 E6 p6 ∧ Moved T T6 wo.drew (w1.setCell ⟨B, 5, none⟩ (.slice A6 (ss.length + 1) k6)) ∧ E6 = { E with st := E.st ++ [(E.tr.length : Int)] } ∧ p6.fw = p.fw := by
      obtain ⟨a1, a2⟩ := HD.out.turn_st r1' hgw
      exact ⟨_, _, _, a1, a2, by rw [HSS.out, HN3.out], rfl⟩
    obtain ⟨W6, hW6⟩ : ∃ W6, w1.setCell ⟨B, 5, none⟩ (.slice A6 (ss.length + 1) k6) = W6 := ⟨_, rfl⟩
    rw [hW6] at h6 m6 ⊢
    have HM6 := K0 ((Moved.of_below HBd.out).trans m6)
    have HCP := K0 (eng_put.calls E6 B T6 p6 l (-1) W6 h6 hl (by rw [hE6]; have := HBD.out.1; show E.tr.length < _; omega))
    have HE6 := K0 hE6; have HP6 := K0 hp6; clear hgw hW6 h6 m6 hE6 hp6 r1' hb1 hg1 hat1 c51 f51 c31 c5 c3 d5 d3
    go_wp2_with fail
    refine HCP.out.mono ?_
    rintro e' w7 ⟨rfl, T7, p7, h7, m7, f7⟩
    have HM7 := K0 (HM6.out.trans m7)
    have HF7 := K0 (f7.trans HP6.out)
    have c3 := h7.cells.2.2.2.1
    obtain ⟨A7, k7, e7⟩ := Kd.R_slice h7.tr
    rw [e7, show (E6.put l (-1)).tr.length = n3 + 1 by rw [HE6.out]; show (E.tr ++ [l]).length = _; rw [List.length_append, HN3.out]; rfl] at c3
    have HCF := K0 (eng_follow.calls k _ B T7 p7 n3 E5 w7 h7 (by rw [HE6.out]; exact HL.out) (by rw [HE6.out, ← HN3.out]; exact HF.out))
    have hnb : n3 < 2199023255552 := by rw [← HN3.out]; exact HBD.out.1
    clear e7 h7 m7 f7 HCP
    go_wp2_with fail
    refine HCF.out.mono ?_
    rintro e' w8 ⟨rfl, T8, p8, h8, m8, f8⟩
    have H8 := K0 h8
    have M8 := K0 (HM7.out.trans m8)
    have F8 := K0 (f8.trans HF7.out)
    clear h8 m8 f8 HCF c3
    go_wp2
    go_ret
    rw [← H2.out]
    exact ⟨rfl, T8, p8, H8.out, M8.out, F8.out⟩
  rw [hv, if_pos (by decide)] at hf
  simp only [Option.some.injEq, Prod.mk.injEq] at hf
  obtain ⟨h1, h2⟩ := hf
  subst h2; have H2 := K0 h1; have HB := K0 hba; have HVv := K0 hv; clear h1 h hlit hba hv
  go_enter Try.func33, Try.ntmps33
  go_wp2_with fail
  refine HR.out.mono ?_
  rintro e' w1 ⟨rfl, ⟨⟨n1, rfl⟩⟩⟩
  have HB1 := K0 (HB.out.trans ((pw_below_drewN (Below.refl _ _) n1).mono HB.out.size))
  go_wp2_with fail
  refine (HV.out _ HB1.out).mono ?_
  rintro e' w2 ⟨rfl, hb2⟩
  rw [HVv.out]
  have HB2 := K0 (HB1.out.trans (hb2.mono HB1.out.size))
  clear hb2
  go_wp2
  go_ret
  rw [← H2.out]
  exact ⟨rfl, T, p, HE.out.below HB2.out, Moved.of_below HB2.out, rfl⟩
def sequiturref21_place.l0 : Nat → Int → Int → List Int → List Int → List Int → Int → Int → Option (Int)
  | 0, _, _, _, _, _, _, _ => none
  | k + 1, x1, x5, x326000, x326001, x326002, x326003, x326004 => if x5 < (x326000.length : Int) then (if 0 ≤ x5 then (if (rd x326000 x5) = x1 then (some x5) else (sequiturref21_place.l0 k x1 (wrap64 (x5 + 1)) x326000 x326001 x326002 x326003 x326004)) else (none)) else (some (-1))
def sequiturref21_place.f (k : Nat) (l0_0 : List Int) (l0_1 : List Int) (l0_2 : List Int) (a0_3 : Int) (a0_4 : Int) (a1 : Int) : Option (Int) := sequiturref21_place.l0 k a1 0 l0_0 l0_1 l0_2 a0_3 a0_4
theorem sequiturref21_place.mono_l : ∀ k, (∀ y0 y1 y2 y3 y4 y5 y6, LeO (sequiturref21_place.l0 k y0 y1 y2 y3 y4 y5 y6) (sequiturref21_place.l0 (k + 1) y0 y1 y2 y3 y4 y5 y6))
  | 0 => fun _ _ _ _ _ _ _ r h => by simp [sequiturref21_place.l0] at h
  | k + 1 => by
    have ih0 := sequiturref21_place.mono_l k
    · intro y0 y1 y2 y3 y4 y5 y6
      unfold sequiturref21_place.l0
      repeat' first
      | (with_reducible exact ih0 _ _ _ _ _ _ _)
      | (with_reducible exact LeO.refl _)
      | (with_reducible exact LeO.none _)
      | (with_reducible refine LeO.ite ?_ ?_)
      | (with_reducible refine LeO.bind ?_ (fun _ => ?_))
      | exact ih0 _ _ _ _ _ _ _
      | exact LeO.none _
      | refine LeO.ite ?_ ?_
      | refine LeO.bind ?_ (fun _ => ?_)
theorem sequiturref21_place.mono : ∀ a0 a1 a2 a3 a4 a5 k, LeO (sequiturref21_place.f k a0 a1 a2 a3 a4 a5) (sequiturref21_place.f (k + 1) a0 a1 a2 a3 a4 a5) := by
  intro a0 a1 a2 a3 a4 a5 k
  have ih0 := sequiturref21_place.mono_l k
  unfold sequiturref21_place.f
  repeat' first
      | (with_reducible exact ih0 _ _ _ _ _ _ _)
      | (with_reducible exact LeO.refl _)
      | (with_reducible exact LeO.none _)
      | (with_reducible refine LeO.ite ?_ ?_)
      | (with_reducible refine LeO.bind ?_ (fun _ => ?_))
      | exact ih0 _ _ _ _ _ _ _
      | exact LeO.none _
      | refine LeO.ite ?_ ?_
      | refine LeO.bind ?_ (fun _ => ?_)
def sequiturref17_ahead.f (a0 : Int) (a1 : Int) : Option (Bool) := (sequiturref17_Of.f a0).bind fun t138 => ((sequiturref17_Of.f a1).bind fun t139 => (if t138 < t139 then (some true) else ((sequiturref17_Of.f a0).bind fun t140 => ((sequiturref17_Of.f a1).bind fun t141 => (if t140 = t141 then (some (decide (a0 < a1))) else (some false))))))
end Go.Proofs.Ytkmlekfmccghjaa.P
