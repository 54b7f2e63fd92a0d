import Derived.Lib.SliceRun
import Derived.Deep.RegionLaw
import Derived.Shelf.RegionOpenPlain
import Derived.Deep.DeepCutAuto
import Derived.ArgAppend
import Derived.Laws.EntriesVeiled
import Derived.Test.YtmihgbjfiigmlaaKChainChecks1
import Derived.Test.YtmihgbjfiigmlaaKChainChecks3
import Derived.Test.YtmihgbjfiigmlaaKChainChecks4
-- Printed by wip/tools/pp.py of this claim's session (over the kit's print.py); Lean checks it.
namespace Go.Proofs.Ytmihgbjfiigmlaa.P
open Go.RowKit Go.Proofs.YtmihgbjfiigmlaaW.PrintWords Go.Proofs.YtmihgbjfiigmlaaW.PrintLast Go.Proofs.YtmihgbjfiigmlaaW.PrintMore
attribute [local go_sem] max2_int min2_int max_two min_two max_three min_three max_four min_four   -- for this text's walks alone
set_option linter.unusedVariables false
set_option linter.unusedSimpArgs false

/-! ### sequiturref18_Long: function 35 -/
def sequiturref18_Long.l0 : Nat → List (List Int) → Int → Option (Bool)
  | 0, _, _ => none
  | k + 1, x0, x5 => if x5 < (x0.length : Int) then (if 0 ≤ x5 then (if ((rd_L3 x0 x5).length : Int) > 70 then (some true) else (sequiturref18_Long.l0 k x0 (wrap64 (x5 + 1)))) else (none)) else (some false)
def sequiturref18_Long.f (k : Nat) (l0 : List (List Int)) (a1 : Int) : Option (Bool) := if (l0.length : Int) > a1 then (some true) else (sequiturref18_Long.l0 k l0 0)
theorem sequiturref18_Long.mono_l : ∀ k, (∀ y0 y1, LeO (sequiturref18_Long.l0 k y0 y1) (sequiturref18_Long.l0 (k + 1) y0 y1))
  | 0 => fun _ _ r h => by simp [sequiturref18_Long.l0] at h
  | k + 1 => by
    have ih0 := sequiturref18_Long.mono_l k
    · intro y0 y1
      unfold sequiturref18_Long.l0
      repeat' first
      | (with_reducible exact ih0 _ _)
      | (with_reducible exact LeO.refl _)
      | (with_reducible exact LeO.none _)
      | (with_reducible refine LeO.ite ?_ ?_)
      | (with_reducible refine LeO.bind ?_ (fun _ => ?_))
      | exact ih0 _ _
      | exact LeO.none _
      | refine LeO.ite ?_ ?_
      | refine LeO.bind ?_ (fun _ => ?_)
theorem sequiturref18_Long.mono : ∀ a0 a1 k, LeO (sequiturref18_Long.f k a0 a1) (sequiturref18_Long.f (k + 1) a0 a1) := by
  intro a0 a1 k
  have ih0 := sequiturref18_Long.mono_l k
  unfold sequiturref18_Long.f
  repeat' first
      | (with_reducible exact ih0 _ _)
      | (with_reducible exact LeO.refl _)
      | (with_reducible exact LeO.none _)
      | (with_reducible refine LeO.ite ?_ ?_)
      | (with_reducible refine LeO.bind ?_ (fun _ => ?_))
      | exact ih0 _ _
      | exact LeO.none _
      | refine LeO.ite ?_ ?_
      | refine LeO.bind ?_ (fun _ => ?_)
set_option maxHeartbeats 8000000 in
set_option maxRecDepth 100000 in
theorem sequiturref18_Long.calls (k : Nat) (A0 : Option Addr) (c0 : Nat) (l0 : List (List Int)) (a1 : Int) (r : Bool) (w : World) (hr0 : Kd.C (Kd.slice 3 (Kd.int .i64)) w A0 l0.length l0) (hc0 : l0.length ≤ c0) (h : sequiturref18_Long.f k l0 a1 = some r) :
    Calls Try.prog 35 #[.slice A0 l0.length c0, .int .i64 a1] w fun e w' => e = .returned (.bool r) ∧ Drawn0 w w' := by
  have HR0 := Aside0.mk hr0
  have HC0 := Aside0.mk hc0
  clear hr0 hc0
  have H : (if (l0.length : Int) > a1 then (some true) else (sequiturref18_Long.l0 k l0 0)) = some r := h
  clear h
  by_cases c3 : (l0.length : Int) > a1
  · rw [if_pos c3] at H
    have c3b0 : decide (a1 < (l0.length : Int)) = true := decide_eq_true c3
    clear c3
    as_aux_lemma =>
      obtain rfl := Option.some.inj H
      go_enter Try.func35, Try.ntmps35
      go_wp2
      go_ret
      exact ⟨by first | rfl | (simp; done) | (simp [*]; done), by repeat (first | exact Drawn0.refl _ | apply Drawn0.step)⟩
  · rw [if_neg c3] at H
    have c3b0 : decide (a1 < (l0.length : Int)) = false := decide_eq_false c3
    clear c3
    have H' := Aside0.mk H
    clear H
    go_enter Try.func35, Try.ntmps35
    go_wp2
    go_loopg [5] k (fun kq v5 w' => ∃ (x5_1 : Int), v5 = .int .i64 x5_1 ∧ Aside0 (sequiturref18_Long.l0 kq l0 x5_1 = some r) ∧ Aside0 (kq ≤ k) ∧ Drawn0 w w')
    case atStart => exact ⟨(0), (by first | rfl | (simp; done) | (simp [*]; done)), H', ⟨Nat.le_refl _⟩, by repeat (first | exact Drawn0.refl _ | apply Drawn0.step)⟩
    case round =>
      clear H'
      try clear p2
      try clear c3
      try clear c3b0
      obtain ⟨x5_1, rfl, HA, HK1, ⟨m1, rfl⟩⟩ := hrel
      cases gk with
      | zero => exact absurd HA.out (by simp [sequiturref18_Long.l0])
      | succ k1 =>
        have H := HA.out
        clear HA
        simp only [sequiturref18_Long.l0] at H
        by_cases c4 : x5_1 < (l0.length : Int)
        · rw [if_pos c4] at H
          have c4b0 : decide (x5_1 < (l0.length : Int)) = true := decide_eq_true c4
          clear c4
          by_cases c5 : 0 ≤ x5_1
          · rw [if_pos c5] at H
            have c5b0 : decide (0 ≤ x5_1) = true := decide_eq_true c5
            clear c5
            by_cases c6 : ((rd_L3 l0 x5_1).length : Int) > 70
            · rw [if_pos c6] at H
              have c6b0 : decide (70 < ((rd_L3 l0 x5_1).length : Int)) = true := decide_eq_true c6
              have c6b1 : decide (70 < (rd_L3 l0 x5_1).length) = true := decide_eq_true (by omega)
              clear c6
              as_aux_lemma =>
                obtain rfl := Option.some.inj H
                have p452 : 0 ≤ (x5_1 : Int) := of_decide_eq_true (by first | (with_reducible assumption) | assumption)
                have q452 : x5_1 < (l0.length : Int) := of_decide_eq_true (by first | (with_reducible assumption) | assumption)
                obtain ⟨ad452, A452_0, c452_0, e452, hx452_0, hl452_0, hi452_0⟩ := at_L3 HR0.out x5_1 p452 q452
                cases e452
                have HR452_0 := Aside0.mk hi452_0
                have HC452_0 := Aside0.mk hl452_0
                clear hi452_0 hl452_0
                replace p452 := eq_true p452
                replace q452 := eq_true q452
                go_wp2
                go_ret
                exact ⟨by first | rfl | (simp; done) | (simp [*]; done), by repeat (first | exact Drawn0.refl _ | apply Drawn0.step)⟩
            · rw [if_neg c6] at H
              have c6b0 : decide (70 < ((rd_L3 l0 x5_1).length : Int)) = false := decide_eq_false c6
              have c6b1 : decide (70 < (rd_L3 l0 x5_1).length) = false := decide_eq_false (by omega)
              clear c6
              as_aux_lemma =>
                have H' := Aside0.mk H
                clear H
                have p452 : 0 ≤ (x5_1 : Int) := of_decide_eq_true (by first | (with_reducible assumption) | assumption)
                have q452 : x5_1 < (l0.length : Int) := of_decide_eq_true (by first | (with_reducible assumption) | assumption)
                obtain ⟨ad452, A452_0, c452_0, e452, hx452_0, hl452_0, hi452_0⟩ := at_L3 HR0.out x5_1 p452 q452
                cases e452
                have HR452_0 := Aside0.mk hi452_0
                have HC452_0 := Aside0.mk hl452_0
                clear hi452_0 hl452_0
                replace p452 := eq_true p452
                replace q452 := eq_true q452
                go_wp2
                go_roundg k1
                case measure => have := HK1.out; omega
                case rel => exact ⟨(wrap64 (x5_1 + 1)), (by first | rfl | (simp; done) | (simp [*]; done)), H', ⟨by have := HK1.out; omega⟩, by repeat (first | exact Drawn0.refl _ | apply Drawn0.step)⟩
          · rw [if_neg c5] at H
            exact absurd H (by simp)
        · rw [if_neg c4] at H
          have c4b0 : decide (x5_1 < (l0.length : Int)) = false := decide_eq_false c4
          clear c4
          as_aux_lemma =>
            obtain rfl := Option.some.inj H
            go_wp2
            go_ret
            exact ⟨by first | rfl | (simp; done) | (simp [*]; done), by repeat (first | exact Drawn0.refl _ | apply Drawn0.step)⟩

end Go.Proofs.Ytmihgbjfiigmlaa.P

-- Printed by wip/tools/pp.py of this claim's session (over the kit's print.py); Lean checks it.
namespace Go.Proofs.Ytmihgbjfiigmlaa.P
open Go.RowKit Go.Proofs.YtmihgbjfiigmlaaW.PrintWords Go.Proofs.YtmihgbjfiigmlaaW.PrintLast Go.Proofs.YtmihgbjfiigmlaaW.PrintMore
attribute [local go_sem] max2_int min2_int max_two min_two max_three min_three max_four min_four   -- for this text's walks alone
set_option linter.unusedVariables false
set_option linter.unusedSimpArgs false

/-! ### sequiturref24_Long: function 36 -/
def sequiturref24_Long.l0 : Nat → List (S43) → Int → Option (Bool)
  | 0, _, _ => none
  | k + 1, x0, x5 => if x5 < (x0.length : Int) then (if 0 ≤ x5 then (if (((rd_T43 x0 x5).f0).length : Int) > 70 then (some true) else (if (((rd_T43 x0 x5).f1).length : Int) > 40 then (some true) else (sequiturref24_Long.l0 k x0 (wrap64 (x5 + 1))))) else (none)) else (some false)
def sequiturref24_Long.f (k : Nat) (l0 : List (S43)) (a1 : Int) : Option (Bool) := if (l0.length : Int) > a1 then (some true) else (sequiturref24_Long.l0 k l0 0)
theorem sequiturref24_Long.mono_l : ∀ k, (∀ y0 y1, LeO (sequiturref24_Long.l0 k y0 y1) (sequiturref24_Long.l0 (k + 1) y0 y1))
  | 0 => fun _ _ r h => by simp [sequiturref24_Long.l0] at h
  | k + 1 => by
    have ih0 := sequiturref24_Long.mono_l k
    · intro y0 y1
      unfold sequiturref24_Long.l0
      repeat' first
      | (with_reducible exact ih0 _ _)
      | (with_reducible exact LeO.refl _)
      | (with_reducible exact LeO.none _)
      | (with_reducible refine LeO.ite ?_ ?_)
      | (with_reducible refine LeO.bind ?_ (fun _ => ?_))
      | exact ih0 _ _
      | exact LeO.none _
      | refine LeO.ite ?_ ?_
      | refine LeO.bind ?_ (fun _ => ?_)
theorem sequiturref24_Long.mono : ∀ a0 a1 k, LeO (sequiturref24_Long.f k a0 a1) (sequiturref24_Long.f (k + 1) a0 a1) := by
  intro a0 a1 k
  have ih0 := sequiturref24_Long.mono_l k
  unfold sequiturref24_Long.f
  repeat' first
      | (with_reducible exact ih0 _ _)
      | (with_reducible exact LeO.refl _)
      | (with_reducible exact LeO.none _)
      | (with_reducible refine LeO.ite ?_ ?_)
      | (with_reducible refine LeO.bind ?_ (fun _ => ?_))
      | exact ih0 _ _
      | exact LeO.none _
      | refine LeO.ite ?_ ?_
      | refine LeO.bind ?_ (fun _ => ?_)
set_option maxHeartbeats 8000000 in
set_option maxRecDepth 100000 in
theorem sequiturref24_Long.calls (k : Nat) (A0 : Option Addr) (c0 : Nat) (l0 : List (S43)) (a1 : Int) (r : Bool) (w : World) (hr0 : Kd.C k43 w A0 l0.length l0) (hc0 : l0.length ≤ c0) (h : sequiturref24_Long.f k l0 a1 = some r) :
    Calls Try.prog 36 #[.slice A0 l0.length c0, .int .i64 a1] w fun e w' => e = .returned (.bool r) ∧ Drawn0 w w' := by
  have HR0 := Aside0.mk hr0
  have HC0 := Aside0.mk hc0
  clear hr0 hc0
  have H : (if (l0.length : Int) > a1 then (some true) else (sequiturref24_Long.l0 k l0 0)) = some r := h
  clear h
  by_cases c3 : (l0.length : Int) > a1
  · rw [if_pos c3] at H
    have c3b0 : decide (a1 < (l0.length : Int)) = true := decide_eq_true c3
    clear c3
    as_aux_lemma =>
      obtain rfl := Option.some.inj H
      go_enter Try.func36, Try.ntmps36
      go_wp2
      go_ret
      exact ⟨by first | rfl | (simp; done) | (simp [*]; done), by repeat (first | exact Drawn0.refl _ | apply Drawn0.step)⟩
  · rw [if_neg c3] at H
    have c3b0 : decide (a1 < (l0.length : Int)) = false := decide_eq_false c3
    clear c3
    have H' := Aside0.mk H
    clear H
    go_enter Try.func36, Try.ntmps36
    go_wp2
    go_loopg [5] k (fun kq v5 w' => ∃ (x5_1 : Int), v5 = .int .i64 x5_1 ∧ Aside0 (sequiturref24_Long.l0 kq l0 x5_1 = some r) ∧ Aside0 (kq ≤ k) ∧ Drawn0 w w')
    case atStart => exact ⟨(0), (by first | rfl | (simp; done) | (simp [*]; done)), H', ⟨Nat.le_refl _⟩, by repeat (first | exact Drawn0.refl _ | apply Drawn0.step)⟩
    case round =>
      clear H'
      try clear p2
      try clear c3
      try clear c3b0
      obtain ⟨x5_1, rfl, HA, HK1, ⟨m1, rfl⟩⟩ := hrel
      cases gk with
      | zero => exact absurd HA.out (by simp [sequiturref24_Long.l0])
      | succ k1 =>
        have H := HA.out
        clear HA
        simp only [sequiturref24_Long.l0] at H
        by_cases c4 : x5_1 < (l0.length : Int)
        · rw [if_pos c4] at H
          have c4b0 : decide (x5_1 < (l0.length : Int)) = true := decide_eq_true c4
          clear c4
          by_cases c5 : 0 ≤ x5_1
          · rw [if_pos c5] at H
            have c5b0 : decide (0 ≤ x5_1) = true := decide_eq_true c5
            clear c5
            by_cases c6 : (((rd_T43 l0 x5_1).f0).length : Int) > 70
            · rw [if_pos c6] at H
              have c6b0 : decide (70 < (((rd_T43 l0 x5_1).f0).length : Int)) = true := decide_eq_true c6
              have c6b1 : decide (70 < ((rd_T43 l0 x5_1).f0).length) = true := decide_eq_true (by omega)
              clear c6
              as_aux_lemma =>
                obtain rfl := Option.some.inj H
                have p453 : 0 ≤ (x5_1 : Int) := of_decide_eq_true (by first | (with_reducible assumption) | assumption)
                have q453 : x5_1 < (l0.length : Int) := of_decide_eq_true (by first | (with_reducible assumption) | assumption)
                obtain ⟨ad453, A453_0, c453_0, A453_1, c453_1, e453, hx453_0, hx453_1, hl453_0, hi453_0, hl453_1, hi453_1⟩ := at_T43 HR0.out x5_1 p453 q453
                cases e453
                have HR453_0 := Aside0.mk hi453_0
                have HC453_0 := Aside0.mk hl453_0
                clear hi453_0 hl453_0
                have HR453_1 := Aside0.mk hi453_1
                have HC453_1 := Aside0.mk hl453_1
                clear hi453_1 hl453_1
                replace p453 := eq_true p453
                replace q453 := eq_true q453
                go_wp2
                go_ret
                exact ⟨by first | rfl | (simp; done) | (simp [*]; done), by repeat (first | exact Drawn0.refl _ | apply Drawn0.step)⟩
            · rw [if_neg c6] at H
              have c6b0 : decide (70 < (((rd_T43 l0 x5_1).f0).length : Int)) = false := decide_eq_false c6
              have c6b1 : decide (70 < ((rd_T43 l0 x5_1).f0).length) = false := decide_eq_false (by omega)
              clear c6
              by_cases c7 : (((rd_T43 l0 x5_1).f1).length : Int) > 40
              · rw [if_pos c7] at H
                have c7b0 : decide (40 < (((rd_T43 l0 x5_1).f1).length : Int)) = true := decide_eq_true c7
                have c7b1 : decide (40 < ((rd_T43 l0 x5_1).f1).length) = true := decide_eq_true (by omega)
                clear c7
                as_aux_lemma =>
                  obtain rfl := Option.some.inj H
                  have p453 : 0 ≤ (x5_1 : Int) := of_decide_eq_true (by first | (with_reducible assumption) | assumption)
                  have q453 : x5_1 < (l0.length : Int) := of_decide_eq_true (by first | (with_reducible assumption) | assumption)
                  obtain ⟨ad453, A453_0, c453_0, A453_1, c453_1, e453, hx453_0, hx453_1, hl453_0, hi453_0, hl453_1, hi453_1⟩ := at_T43 HR0.out x5_1 p453 q453
                  cases e453
                  have HR453_0 := Aside0.mk hi453_0
                  have HC453_0 := Aside0.mk hl453_0
                  clear hi453_0 hl453_0
                  have HR453_1 := Aside0.mk hi453_1
                  have HC453_1 := Aside0.mk hl453_1
                  clear hi453_1 hl453_1
                  replace p453 := eq_true p453
                  replace q453 := eq_true q453
                  have p454 : 0 ≤ (x5_1 : Int) := of_decide_eq_true (by first | (with_reducible assumption) | assumption)
                  have q454 : x5_1 < (l0.length : Int) := of_decide_eq_true (by first | (with_reducible assumption) | assumption)
                  obtain ⟨ad454, A454_0, c454_0, A454_1, c454_1, e454, hx454_0, hx454_1, hl454_0, hi454_0, hl454_1, hi454_1⟩ := at_T43 HR0.out x5_1 p454 q454
                  obtain rfl : ad453 = ad454 := (by injection e454)
                  have HR454_0 := Aside0.mk hi454_0
                  have HC454_0 := Aside0.mk hl454_0
                  clear hi454_0 hl454_0
                  have HR454_1 := Aside0.mk hi454_1
                  have HC454_1 := Aside0.mk hl454_1
                  clear hi454_1 hl454_1
                  replace p454 := eq_true p454
                  replace q454 := eq_true q454
                  have ea_ := Option.some.inj (hx453_0.symm.trans hx454_0)
                  injection ea_ with ea_ en_ ec_
                  subst ea_
                  subst ec_
                  clear en_
                  have ea_ := Option.some.inj (hx453_1.symm.trans hx454_1)
                  injection ea_ with ea_ en_ ec_
                  subst ea_
                  subst ec_
                  clear en_
                  go_wp2
                  go_ret
                  exact ⟨by first | rfl | (simp; done) | (simp [*]; done), by repeat (first | exact Drawn0.refl _ | apply Drawn0.step)⟩
              · rw [if_neg c7] at H
                have c7b0 : decide (40 < (((rd_T43 l0 x5_1).f1).length : Int)) = false := decide_eq_false c7
                have c7b1 : decide (40 < ((rd_T43 l0 x5_1).f1).length) = false := decide_eq_false (by omega)
                clear c7
                as_aux_lemma =>
                  have H' := Aside0.mk H
                  clear H
                  have p453 : 0 ≤ (x5_1 : Int) := of_decide_eq_true (by first | (with_reducible assumption) | assumption)
                  have q453 : x5_1 < (l0.length : Int) := of_decide_eq_true (by first | (with_reducible assumption) | assumption)
                  obtain ⟨ad453, A453_0, c453_0, A453_1, c453_1, e453, hx453_0, hx453_1, hl453_0, hi453_0, hl453_1, hi453_1⟩ := at_T43 HR0.out x5_1 p453 q453
                  cases e453
                  have HR453_0 := Aside0.mk hi453_0
                  have HC453_0 := Aside0.mk hl453_0
                  clear hi453_0 hl453_0
                  have HR453_1 := Aside0.mk hi453_1
                  have HC453_1 := Aside0.mk hl453_1
                  clear hi453_1 hl453_1
                  replace p453 := eq_true p453
                  replace q453 := eq_true q453
                  have p454 : 0 ≤ (x5_1 : Int) := of_decide_eq_true (by first | (with_reducible assumption) | assumption)
                  have q454 : x5_1 < (l0.length : Int) := of_decide_eq_true (by first | (with_reducible assumption) | assumption)
                  obtain ⟨ad454, A454_0, c454_0, A454_1, c454_1, e454, hx454_0, hx454_1, hl454_0, hi454_0, hl454_1, hi454_1⟩ := at_T43 HR0.out x5_1 p454 q454
                  obtain rfl : ad453 = ad454 := (by injection e454)
                  have HR454_0 := Aside0.mk hi454_0
                  have HC454_0 := Aside0.mk hl454_0
                  clear hi454_0 hl454_0
                  have HR454_1 := Aside0.mk hi454_1
                  have HC454_1 := Aside0.mk hl454_1
                  clear hi454_1 hl454_1
                  replace p454 := eq_true p454
                  replace q454 := eq_true q454
                  have ea_ := Option.some.inj (hx453_0.symm.trans hx454_0)
                  injection ea_ with ea_ en_ ec_
                  subst ea_
                  subst ec_
                  clear en_
                  have ea_ := Option.some.inj (hx453_1.symm.trans hx454_1)
                  injection ea_ with ea_ en_ ec_
                  subst ea_
                  subst ec_
                  clear en_
                  go_wp2
                  go_roundg k1
                  case measure => have := HK1.out; omega
                  case rel => exact ⟨(wrap64 (x5_1 + 1)), (by first | rfl | (simp; done) | (simp [*]; done)), H', ⟨by have := HK1.out; omega⟩, by repeat (first | exact Drawn0.refl _ | apply Drawn0.step)⟩
          · rw [if_neg c5] at H
            exact absurd H (by simp)
        · rw [if_neg c4] at H
          have c4b0 : decide (x5_1 < (l0.length : Int)) = false := decide_eq_false c4
          clear c4
          as_aux_lemma =>
            obtain rfl := Option.some.inj H
            go_wp2
            go_ret
            exact ⟨by first | rfl | (simp; done) | (simp [*]; done), by repeat (first | exact Drawn0.refl _ | apply Drawn0.step)⟩

end Go.Proofs.Ytmihgbjfiigmlaa.P

-- Printed by wip/tools/pp.py of this claim's session (over the kit's print.py); Lean checks it.
namespace Go.Proofs.Ytmihgbjfiigmlaa.P
open Go.RowKit Go.Proofs.YtmihgbjfiigmlaaW.PrintWords Go.Proofs.YtmihgbjfiigmlaaW.PrintLast Go.Proofs.YtmihgbjfiigmlaaW.PrintMore
attribute [local go_sem] max2_int min2_int max_two min_two max_three min_three max_four min_four   -- for this text's walks alone
set_option linter.unusedVariables false
set_option linter.unusedSimpArgs false

-- SOLO
-- IMPORTS 
/-! ### AUX ix -/
/-- Where the first one stands of which p holds; -1. -/
def ixOf {α : Type} (p : α → Bool) : List α → Int → Int
  | [], _ => -1
  | x :: t, i => if p x = true then i else ixOf p t (i + 1)
theorem ixOf_nil {α : Type} (p : α → Bool) (i : Int) : ixOf p [] i = -1 := rfl
theorem ixOf_drop {α : Type} (p : α → Bool) (xs : List α) (j : Nat) (hj : j < xs.length) : ixOf p (xs.drop j) (j : Int) = if p xs[j] = true then (j : Int) else ixOf p (xs.drop (j + 1)) ((j + 1 : Nat) : Int) := by
  rw [List.drop_eq_getElem_cons hj, ixOf]; rfl


end Go.Proofs.Ytmihgbjfiigmlaa.P

-- Printed by wip/tools/pp.py of this claim's session (over the kit's print.py); Lean checks it.
namespace Go.Proofs.Ytmihgbjfiigmlaa.P
open Go.RowKit Go.Proofs.YtmihgbjfiigmlaaW.PrintWords Go.Proofs.YtmihgbjfiigmlaaW.PrintLast Go.Proofs.YtmihgbjfiigmlaaW.PrintMore
attribute [local go_sem] max2_int min2_int max_two min_two max_three min_three max_four min_four   -- for this text's walks alone
set_option linter.unusedVariables false
set_option linter.unusedSimpArgs false

-- SOLO
-- IMPORTS Derived.Lib.SliceRun Derived.Deep.RegionLaw Derived.Shelf.RegionOpenPlain
/-! ### AUX slicesRows -/
/-- A row's head: where it lies, how long it is, its capacity. -/
abbrev Hd := Option Addr × Nat × Nat
def hdv (x : Hd) : Value := .slice x.1 x.2.1 x.2.2
/-- Rows' heads, one cell each. -/
abbrev kH : Kd Hd := Kd.scalar hdv (fun _ => rfl)
/-- The rows that lie behind heads, in a world. -/
def HdOf (W : World) (h : Hd) (x : List Int) : Prop := h.2.1 = x.length ∧ x.length ≤ h.2.2 ∧ Kd.C (Kd.int .i64) W h.1 x.length x
def HdsOf (W : World) (hs : List Hd) (xs : List (List Int)) : Prop := hs.length = xs.length ∧ ∀ (i : Nat) (h : Hd) (x : List Int), hs[i]? = some h → xs[i]? = some x → HdOf W h x
theorem HdsOf.below {W W' : World} {hs : List Hd} {xs : List (List Int)} (h : HdsOf W hs xs) (hb : Below W.heap.size W W') : HdsOf W' hs xs :=
  ⟨h.1, fun i a b ha hb' => ⟨(h.2 i a b ha hb').1, (h.2 i a b ha hb').2.1, Kd.C_below (h.2 i a b ha hb').2.2 hb⟩⟩
theorem HdsOf.join {W : World} {A : Option Addr} {n : Nat} {hs : List Hd} {xs : List (List Int)} (h : HdsOf W hs xs) (hC : Kd.C kH W A n hs) : Kd.C (Kd.slice 3 (Kd.int .i64)) W A n xs := by
  obtain ⟨h1, h2, h3⟩ := hC
  refine ⟨by rw [← h.1, h1], h2, fun h0 => ?_⟩
  obtain ⟨ad, e, hc⟩ := h3 h0
  refine ⟨ad, e, fun j p hp => ?_⟩
  have hj : j < hs.length := by rw [h.1]; exact (List.getElem?_eq_some_iff.1 hp).1
  obtain ⟨c, hcl, hK, hcc⟩ := hc j hs[j] (List.getElem?_eq_getElem hj)
  obtain ⟨a1, a2, a3⟩ := h.2 j _ _ (List.getElem?_eq_getElem hj) hp
  refine ⟨c, hcl, ⟨_, _, ?_, a2, a3⟩, hcc⟩
  rw [hK, hdv, a1]
theorem HdsOf.part {W : World} {A : Option Addr} {n : Nat} {xs : List (List Int)} (hC : Kd.C (Kd.slice 3 (Kd.int .i64)) W A n xs) : ∃ hs, HdsOf W hs xs ∧ Kd.C kH W A n hs := by
  obtain ⟨h1, h2, h3⟩ := hC
  rcases Nat.eq_zero_or_pos n with h0 | h0
  · have hx : xs = [] := List.eq_nil_of_length_eq_zero (by omega)
    subst hx
    exact ⟨[], ⟨rfl, fun i h x hi => by simp at hi⟩, ⟨by simpa using h1, h2, fun h => absurd h (by omega)⟩⟩
  · obtain ⟨ad, e, hc⟩ := h3 h0
    have hex : ∀ j : Nat, ∃ h : Hd, ∀ p, xs[j]? = some p → HdOf W h p ∧ W.cell? (ad.add (j * 1 + 0)) = some (hdv h) := by
      intro j
      by_cases hj : j < xs.length
      · obtain ⟨c, hcl, ⟨A1, c1, hcs, hle, hr⟩, hcc⟩ := hc j xs[j] (List.getElem?_eq_getElem hj)
        refine ⟨(A1, xs[j].length, c1), fun p hp => ?_⟩
        rw [List.getElem?_eq_getElem hj] at hp
        cases hp
        exact ⟨⟨rfl, hle, hr⟩, hcc 0 _ (by rw [hcs]; rfl)⟩
      · exact ⟨(none, 0, 0), fun p hp => absurd (List.getElem?_eq_some_iff.1 hp).1 hj⟩
    obtain ⟨F, hF⟩ := Classical.axiomOfChoice hex
    refine ⟨(List.range xs.length).map F, ⟨by simp, ?_⟩, by simpa using h1, h2, fun _ => ⟨ad, e, ?_⟩⟩
    · intro i h x hi hx
      have hl : i < xs.length := (List.getElem?_eq_some_iff.1 hx).1
      simp [List.getElem?_map, List.getElem?_range hl] at hi
      rw [← hi]
      exact (hF i x hx).1
    · intro j p hp
      have hl : j < xs.length := by have := (List.getElem?_eq_some_iff.1 hp).1; simpa using this
      simp [List.getElem?_map, List.getElem?_range hl] at hp
      refine ⟨[hdv p], rfl, rfl, fun i u hu => ?_⟩
      cases i with
      | zero =>
        simp only [List.getElem?_cons_zero, Option.some.injEq] at hu
        rw [← hu, ← hp]
        exact (hF j xs[j] (List.getElem?_eq_getElem hl)).2
      | succ i => simp at hu
/-- A run of stores. -/
def setL : List Hd → Nat → List Hd → List Hd
  | xs, _, [] => xs
  | xs, o, y :: t => setL (xs.set o y) (o + 1) t
theorem setL_length : ∀ (ys xs : List Hd) (o : Nat), (setL xs o ys).length = xs.length
  | [], _, _ => rfl
  | y :: t, xs, o => by rw [setL, setL_length t]; simp
theorem setL_take : ∀ (ys xs : List Hd) (o : Nat), (setL xs o ys).take o = xs.take o
  | [], _, _ => rfl
  | y :: t, xs, o => by
    have h := congrArg (List.take o) (setL_take t (xs.set o y) (o + 1))
    rw [List.take_take, List.take_take, Nat.min_eq_left (Nat.le_succ o)] at h
    rw [setL, h, List.take_set_of_le (Nat.le_refl o)]
theorem setL_mid : ∀ (ys xs : List Hd) (o : Nat), o + ys.length ≤ xs.length → (setL xs o ys).take (o + ys.length) = xs.take o ++ ys
  | [], xs, o, _ => by simp [setL]
  | y :: t, xs, o, h => by
    have ht := setL_mid t (xs.set o y) (o + 1) (by simp at h ⊢; omega)
    rw [setL, List.length_cons, show o + (t.length + 1) = o + 1 + t.length by omega, ht]
    simp only [List.length_cons] at h
    rw [List.take_add_one, List.take_set_of_le (Nat.le_refl o), List.getElem?_set_self (by omega)]
    simp
theorem R_sets {e base g n cap : Nat} {ok : Nat → Prop} : ∀ (ys xs : List Hd) (o : Nat) (W : World), Kd.R kH e W base ok (.slice (some ⟨g, 0, none⟩) n cap) xs →
    Kd.R kH e (W.setCells g o (ys.map hdv)) base ok (.slice (some ⟨g, 0, none⟩) n cap) (setL xs o ys) ∧ W.grownBy (W.setCells g o (ys.map hdv)) (some g)
  | [], xs, o, W, h => ⟨h, ⟨rfl, rfl, rfl, Nat.le_refl _, fun _ _ _ => rfl⟩⟩
  | y :: t, xs, o, W, h => by
    obtain ⟨h2, hg⟩ := Kd.R_putg h (o : Int) y
    simp only [Int.toNat_natCast] at h2 hg
    obtain ⟨h3, hg3⟩ := R_sets t (xs.set o y) (o + 1) _ h2
    exact ⟨h3, World.grownBy.trans hg hg3⟩
set_option maxRecDepth 100000 in
set_option maxHeartbeats 4000000 in
theorem slices_Delete_rows.calls (hs : List Hd) (g c i base : Nat) (ok : Nat → Prop) (w : World)
    (hR : Kd.R kH 22 w base ok (.slice (some ⟨g, 0, none⟩) hs.length c) hs) (hi : i < hs.length) (hbase : base ≤ w.heap.size) :
    Calls Try.prog 91 #[.slice (some ⟨g, 0, none⟩) hs.length c, .int .i64 (i : Int), .int .i64 ((i + 1 : Nat) : Int)] w fun e w' =>
      e = .returned (.slice (some ⟨g, 0, none⟩) (hs.length - 1) c) ∧ Kd.R kH 22 w' base ok (.slice (some ⟨g, 0, none⟩) (hs.length - 1) c) (hs.take i ++ hs.drop (i + 1)) ∧ Below base w w' ∧ (∀ k, k < w.heap.size → some k ≠ some g → w'.heap[k]? = w.heap[k]?) ∧ w.heap.size ≤ w'.heap.size := by
  obtain ⟨n, hn⟩ : ∃ n, hs.length = n := ⟨_, rfl⟩
  rw [hn] at hR hi ⊢
  obtain ⟨hn0, hnc, hrd⟩ := Kd.R_reads' hR
  have hbig := hrd.2.1
  obtain ⟨ys, hys⟩ : ∃ ys, ys = hs.drop (i + 1) := ⟨_, rfl⟩
  have hyl : ys.length = n - (i + 1) := by rw [hys, List.length_drop, hn]
  obtain ⟨news, hnews⟩ : ∃ news, news = ys.map hdv := ⟨_, rfl⟩
  have hnl : news.length = n - (i + 1) := by rw [hnews, List.length_map, hyl]
  obtain ⟨A, hA, hsrc⟩ : ∃ A : Addr, (if c = i + 1 then (some (⟨g, 0, none⟩ : Addr)) else some ⟨g, i + 1, none⟩) = some A ∧ Aside0 (∀ t u, news[t]? = some u → w.drew.cell? (A.add t) = some u) := by
    by_cases h : c = i + 1
    · refine ⟨⟨g, 0, none⟩, by simp [h], ⟨fun t u hu => ?_⟩⟩
      have h0 : news.length = 0 := by rw [hnl]; omega
      rw [List.length_eq_zero_iff.1 h0] at hu
      simp at hu
    · refine ⟨⟨g, i + 1, none⟩, by simp [h], ⟨fun t u hu => ?_⟩⟩
      have ht : t < n - (i + 1) := by
        have := (List.getElem?_eq_some_iff.1 hu).1
        rwa [hnl] at this
      rw [hnews, hys, List.getElem?_map, List.getElem?_drop] at hu
      have hlt : i + 1 + t < hs.length := by omega
      rw [List.getElem?_eq_getElem hlt] at hu
      simp only [Option.map_some, Option.some.injEq] at hu
      obtain ⟨h1, _⟩ := Kd.R_celln ((none, 0, 0) : Hd) hR ((i + 1 + t : Nat) : Int) (by omega) (by omega)
      simp only [Int.toNat_natCast, rdOf, List.getD_eq_getElem?_getD, List.getElem?_eq_getElem hlt, Option.getD_some] at h1
      rw [← hu, add_at]
      exact h1
  have s1 : Aside0 (news.length = (n - (i + 1)) * 1) := ⟨by rw [Nat.mul_one]; exact hnl⟩
  have s2 : Aside0 (∀ u ∈ news, u.oneCell' = true) := ⟨by
    intro u hu
    rw [hnews] at hu
    obtain ⟨x, _, rfl⟩ := List.mem_map.1 hu
    rfl⟩
  have s3 : Aside0 (∀ t, t < news.length → (w.drew.cell? ⟨g, 0 + i * 1 + t, none⟩).isSome = true ∧ w.drew.frozen? ⟨g, 0 + i * 1 + t, none⟩ = false) := ⟨by
    intro t ht
    rw [hnl] at ht
    obtain ⟨h1, h2⟩ := Kd.R_celln ((none, 0, 0) : Hd) hR ((i + t : Nat) : Int) (by omega) (by omega)
    simp only [Int.toNat_natCast] at h1 h2
    rw [Nat.mul_one, Nat.zero_add]
    exact ⟨by show (w.cell? _).isSome = true; rw [h1]; rfl, h2⟩⟩
  obtain ⟨W1, hW1⟩ : ∃ W1, W1 = w.drew.setCells g (0 + i * 1) news := ⟨_, rfl⟩
  have hR1 : Kd.R kH 22 W1 base ok (.slice (some ⟨g, 0, none⟩) n c) (setL hs i ys) ∧ w.drew.grownBy W1 (some g) := by
    rw [hW1, hnews, Nat.mul_one, Nat.zero_add]
    exact R_sets ys hs i w.drew (Kd.R_drew hR)
  have hcl : ∀ ty, (Builtin.clear_ #[41] ty #[.slice (some ⟨g, n - 1, none⟩) 1 (c - (n - 1))]).run Try.prog W1 = .ok (.tuple #[]) (W1.setCells g (n - 1) (List.replicate 1 (.slice none 0 0))) :=
    fun ty => Lib.run_clear_slice W1 _ _ ty _ Try.underlying41 Try.zeroValue22 rfl rfl g (n - 1) _ _ (by omega)
      (fun t ht => by obtain ⟨h1, _⟩ := Kd.R_celln ((none, 0, 0) : Hd) hR1.1 ((n - 1 + t : Nat) : Int) (by omega) (by omega); simp only [Int.toNat_natCast] at h1; rw [h1]; rfl)
      (fun t ht => by obtain ⟨_, h1⟩ := Kd.R_celln ((none, 0, 0) : Hd) hR1.1 ((n - 1 + t : Nat) : Int) (by omega) (by omega); simpa only [Int.toNat_natCast] using h1)
  have hsum : i + (n - (i + 1)) = n - 1 := by omega
  have hone : n - (n - 1) = 1 := by omega
  have mixed : Try.prog.follows .mixedOrders = true := by kernel_rfl
  have Q0 : ((0 : Int) ≤ (i : Int) + 1) = True := eq_true (by omega)
  have Q1 : ((i : Int) + 1 ≤ (n : Int)) = True := eq_true (by omega)
  have Q2 : ((i : Int) ≤ (n : Int)) = True := eq_true (by omega)
  have HS := Aside0.mk hsum
  have HW1 := Aside0.mk hW1
  have HR1 := Aside0.mk hR1
  have HH := Aside0.mk hR
  have HY := Aside0.mk hys
  have HYL := Aside0.mk hyl
  have HN := Aside0.mk hn
  have hic : i ≤ c := by omega
  have hjc : i + 1 ≤ c := by omega
  clear hW1 hR1 hR hys hnews hnl hrd hn hyl hn0
  obtain ⟨i0, hi0, hz1⟩ : ∃ i0, Try.prog.info? 22 = some i0 ∧ i0.size = 1 := by
    have hi : (Try.prog.info? 22).map (fun i => i.size) = some 1 := by kernel_rfl
    obtain ⟨i0, h1, h2⟩ := Option.map_eq_some_iff.1 hi
    exact ⟨i0, h1, h2⟩
  go_enter Try.func91, Try.ntmps91
  go_wp2_with fail
  go_region_law_o (refine step_append_room rfl (.tmp 22) (.tmp 25) 41 rfl 22 i0 1 Try.underlying41 hi0 hz1 g 0 i c (by simp [Act.eval, Act.put]) A (n - (i + 1)) (c - (i + 1)) news (by simp [Act.eval, Act.put]) s1.out hsrc.out s2.out (by omega) s3.out ?_; rw [← HW1.out])
  go_wp2
  go_ret
  obtain ⟨h2, g2⟩ := R_sets [((none, 0, 0) : Hd)] (setL hs i ys) (n - 1) W1 HR1.out.1
  have h3 := Kd.R_take h2 (m := n - 1) (by rw [setL_length, setL_length, HN.out]; omega)
  have hm := setL_mid ys hs i (by rw [HN.out, HYL.out]; omega)
  rw [HYL.out, HS.out] at hm
  rw [setL_take, hm, HY.out] at h3
  have hgA := World.grownBy.trans HR1.out.2 g2
  have hb0 : Below base w w.drew := below_drew (Below.refl _ _)
  obtain ⟨inner, ho⟩ := Kd.R_own HH.out
  refine ⟨rfl, h3, hb0.grown hgA (show base ≤ w.heap.size from hbase) (fun k e => own_base ho k e), fun k hk hne => (hgA.block k hk hne).trans rfl, ?_⟩
  exact hgA.size
set_option maxRecDepth 100000 in
set_option maxHeartbeats 2000000 in
theorem slices_IndexFunc_rows.calls (gf : Nat) (lb : Array Value) (eg : ∀ args w, (callFunc gf args).run Try.prog w = .ok (.enter gf args) w) (p : List Int → Bool) (A : Option Addr) (c : Nat) (xs : List (List Int)) (w : World)
    (hr : Kd.C (Kd.slice 3 (Kd.int .i64)) w A xs.length xs) (hp : ∀ W, Below w.heap.size w W → ∀ x ∈ xs, ∀ (A1 : Option Addr) (c1 : Nat), x.length ≤ c1 → Kd.C (Kd.int .i64) W A1 x.length x → Calls Try.prog gf (#[.slice A1 x.length c1] ++ lb) W fun e W' => e = .returned (.bool (p x)) ∧ Below W.heap.size W W') :
    Calls Try.prog 81 #[.slice A xs.length c, .func (.func gf) #[] lb] w fun e w' => e = .returned (.int .i64 (ixOf p xs 0)) ∧ Below w.heap.size w w' := by
  have HR := Aside0.mk hr
  have HP := Aside0.mk hp
  have hbig := hr.2.1
  clear hr hp
  go_enter Try.func81, Try.ntmps81
  go_wp2
  go_loopg [5, 8] xs.length (fun gg _ s8 wr => ∃ kk : Nat, s8 = .int .i64 (kk : Int) ∧ Aside0 (kk + gg = xs.length) ∧ Aside0 (Below w.heap.size w wr) ∧ Aside0 (ixOf p xs 0 = ixOf p (xs.drop kk) (kk : Int)))
  case atStart => exact ⟨0, rfl, ⟨by simp⟩, ⟨Below.refl _ _⟩, ⟨rfl⟩⟩
  case round =>
    obtain ⟨kk, rfl, hg, hb, hx⟩ := hrel
    by_cases hlt : kk < xs.length
    · obtain ⟨ad, A1, c1, e1, x1, hl1, hC1⟩ := at_L3 (Kd.C_below HR.out hb.out) (kk : Int) (by omega) (by omega)
      cases e1
      obtain ⟨y, hy⟩ : ∃ y, xs[kk] = y := ⟨_, rfl⟩
      have hrd : rd_L3 xs (kk : Int) = y := by simp [rd_L3, hlt, hy]
      rw [hrd] at x1 hl1 hC1
      simp only [Int.toNat_natCast] at x1
      have hcall := HP.out _ hb.out y (by rw [← hy]; exact List.getElem_mem hlt) A1 c1 hl1 hC1
      have hx2 := hx.out
      rw [ixOf_drop p xs kk hlt, hy] at hx2
      have HX2 := Aside0.mk hx2
      clear hx2 hx hrd hy hC1
      have P0 : ((0 : Int) ≤ (kk : Int)) = True := eq_true (by omega)
      have P1 : ((kk : Int) < (xs.length : Int)) = True := eq_true (by omega)
      have P2 : (kk < xs.length) = True := eq_true hlt
      have hd : decide ((kk : Int) < (xs.length : Int)) = true := decide_eq_true (by omega)
      cases hq : p y with
      | true =>
        rw [hq] at hcall
        have hz := HX2.out
        rw [if_pos hq] at hz
        have HZ := Aside0.mk hz
        clear hz
        go_wp2_with fail
        refine hcall.mono ?_
        rintro e w' ⟨rfl, hb'⟩
        go_wp2
        go_ret
        exact ⟨by rw [HZ.out]; rfl, hb.out.trans (hb'.mono hb.out.size)⟩
      | false =>
        rw [hq] at hcall
        have hz := HX2.out
        rw [if_neg (by rw [hq]; decide)] at hz
        have HZ := Aside0.mk hz
        clear hz
        go_wp2_with fail
        refine hcall.mono ?_
        rintro e w' ⟨rfl, hb'⟩
        go_wp2
        go_roundg (xs.length - (kk + 1))
        case measure => have := hg.out; omega
        case rel => exact ⟨kk + 1, by simp, ⟨by omega⟩, ⟨hb.out.trans (hb'.mono hb.out.size)⟩, HZ⟩
    · have hd : decide ((kk : Int) < (xs.length : Int)) = false := decide_eq_false (by omega)
      have hz := hx.out
      rw [List.drop_of_length_le (by omega), ixOf_nil] at hz
      have HZ := Aside0.mk hz
      clear hz hx
      go_wp2
      go_ret
      exact ⟨by rw [HZ.out]; rfl, hb.out⟩
set_option maxRecDepth 100000 in
set_option maxHeartbeats 2000000 in
theorem slices_Clone_rows.calls (A : Option Addr) (c : Nat) (xs : List Hd) (w : World) (hr : Kd.C kH w A xs.length xs) (hc : xs.length ≤ c) (hl : xs.length < 5864062014805) :
    Calls Try.prog 89 #[.slice A xs.length c] w fun e w' => ∃ v', e = .returned v' ∧ Kd.R kH 22 w' w.heap.size (fun _ => True) v' xs ∧ Below w.heap.size w w' := by
  have HR := Aside0.mk hr
  have HL := Aside0.mk hl
  cases A with
  | none =>
    have h0 : xs = [] := by
      rcases Nat.eq_zero_or_pos xs.length with h | h
      · exact List.eq_nil_of_length_eq_zero h
      · obtain ⟨ad, e, _⟩ := hr.2.2 h
        cases e
    subst h0
    clear hr hl
    have hq := fun W : World => Lib.run_eql_slice_nil (P := Try.prog) W 41 22 none 0 c 0 0 Try.underlying41
    simp only [Option.isNone_none] at hq
    go_enter Try.func89, Try.ntmps89
    go_wp2
    go_ret
    exact ⟨_, rfl, Kd.R_nil _ _ _ _ _, Below.refl _ _⟩
  | some a =>
    clear hr hl
    have hE : Kd.R kH 22 (w.alloc (.cells #[] 22)) w.heap.size (fun _ => True) (.slice (some ⟨w.heap.size, 0, none⟩) 0 0) ([] : List Hd) := Kd.R_of_own (by have := own_lit w w.heap.size 22 .i64 [] (Nat.le_refl _) (by simp); simpa [encs, nums] using this) (fun _ _ => trivial)
    have HE := Aside0.mk hE
    clear hE
    have hq := fun W : World => Lib.run_eql_slice_nil (P := Try.prog) W 41 22 (some a) xs.length c 0 0 Try.underlying41
    simp only [Option.isNone_some] at hq
    go_enter Try.func89, Try.ntmps89
    go_wp2_with (at_builtin; refine Kd.R_append_row hdv ((none, 0, 0) : Hd) (w0 := w) (W := w.alloc (.cells #[] 22)) w.heap.size rfl (.tmp 5) (.tmp 6) 41 22 (.slice none 0 0) 24 rfl Try.underlying41 (by kernel_rfl) rfl (by decide) _ [] xs _ _ _ (fun _ => True) rfl rfl (fun _ _ => trivial) HE.out (Kd.C_below HR.out (below_alloc (Below.refl _ _) _)) (below_alloc (Below.refl _ _) _) (by simp) (by have := HL.out; simp; omega) ?_; intro v1 w1 r1 hb1 hg1 hat1)
    go_ret
    exact ⟨_, rfl, (by have h := r1; rw [List.nil_append] at h; exact h), hb1⟩
set_option maxRecDepth 100000 in
theorem slices_ContainsFunc_rows.calls (gf : Nat) (lb : Array Value) (eg : ∀ args w, (callFunc gf args).run Try.prog w = .ok (.enter gf args) w) (p : List Int → Bool) (A : Option Addr) (c : Nat) (xs : List (List Int)) (w : World)
    (hr : Kd.C (Kd.slice 3 (Kd.int .i64)) w A xs.length xs) (hp : ∀ W, Below w.heap.size w W → ∀ x ∈ xs, ∀ (A1 : Option Addr) (c1 : Nat), x.length ≤ c1 → Kd.C (Kd.int .i64) W A1 x.length x → Calls Try.prog gf (#[.slice A1 x.length c1] ++ lb) W fun e W' => e = .returned (.bool (p x)) ∧ Below W.heap.size W W') :
    Calls Try.prog 65 #[.slice A xs.length c, .func (.func gf) #[] lb] w fun e w' => e = .returned (.bool (decide (0 ≤ ixOf p xs 0))) ∧ Below w.heap.size w w' := by
  have HC := Aside0.mk (slices_IndexFunc_rows.calls gf lb eg p A c xs w hr hp)
  clear hr hp
  go_enter Try.func65, Try.ntmps65
  go_wp2_with fail
  refine HC.out.mono ?_
  rintro e w' ⟨rfl, hb'⟩
  go_wp2
  go_ret
  exact ⟨by simp, hb'⟩
theorem HdsOf.add {W : World} {hs : List Hd} {xs : List (List Int)} {h : Hd} {x : List Int} (H : HdsOf W hs xs) (h1 : HdOf W h x) : HdsOf W (hs ++ [h]) (xs ++ [x]) := by
  refine ⟨by simp [H.1], fun i a b ha hb => ?_⟩
  rw [List.getElem?_append] at ha hb
  rw [H.1] at ha
  split at ha
  · rename_i hlt
    rw [if_pos hlt] at hb
    exact H.2 i a b ha hb
  · rename_i hlt
    rw [if_neg hlt] at hb
    have h0 : i - xs.length = 0 := by have := (List.getElem?_eq_some_iff.1 hb).1; simp at this; omega
    rw [h0] at ha hb
    simp at ha hb
    rw [← ha, ← hb]
    exact h1
theorem HdsOf.cut {W : World} {hs : List Hd} {xs : List (List Int)} (H : HdsOf W hs xs) (i : Nat) : HdsOf W (hs.take i ++ hs.drop (i + 1)) (xs.take i ++ xs.drop (i + 1)) := by
  rw [← List.eraseIdx_eq_take_drop_succ, ← List.eraseIdx_eq_take_drop_succ]
  refine ⟨by rw [List.length_eraseIdx, List.length_eraseIdx, H.1], fun j a b ha hb => ?_⟩
  rw [List.getElem?_eraseIdx] at ha hb
  split at ha
  · rename_i hlt; rw [if_pos hlt] at hb; exact H.2 j a b ha hb
  · rename_i hlt; rw [if_neg hlt] at hb; exact H.2 (j + 1) a b ha hb


end Go.Proofs.Ytmihgbjfiigmlaa.P

-- Printed by wip/tools/pp.py of this claim's session (over the kit's print.py); Lean checks it.
namespace Go.Proofs.Ytmihgbjfiigmlaa.P
open Go.RowKit Go.Proofs.YtmihgbjfiigmlaaW.PrintWords Go.Proofs.YtmihgbjfiigmlaaW.PrintLast Go.Proofs.YtmihgbjfiigmlaaW.PrintMore
attribute [local go_sem] max2_int min2_int max_two min_two max_three min_three max_four min_four   -- for this text's walks alone
set_option linter.unusedVariables false
set_option linter.unusedSimpArgs false

/-! ### cnf_Right: function 61 -/
mutual
def cnf_Right.j0 : Nat → Bool → Int → List (List Int) → Option (Int × Int)
  | 0, _, _, _ => none
  | k + 1, x14, x494000, x494001 => if x14 = true then (some ((-1), 1)) else (if (x494001.length : Int) > 4096 then (some ((-1), 2)) else (cnf_Right.l0 k x494001 (x494001.length : Int) 0 x494000 x494001))
def cnf_Right.l0 : Nat → List (List Int) → Int → Int → Int → List (List Int) → Option (Int × Int)
  | 0, _, _, _, _, _ => none
  | k + 1, x20, x21, x22, x494000, x494001 => if x22 < x21 then (if 0 ≤ x22 then (if x22 < (x20.length : Int) then ((lit_Right.f k (rd_L3 x20 x22) x494000).bind fun t495 => (if t495 = 0 then (cnf_Right.l0 k x20 x21 (wrap64 (x22 + 1)) x494000 x494001) else (some (x22, t495)))) else (none)) else (none)) else (some (0, 0))
end
def cnf_Right.f (k : Nat) (a0_0 : Int) (l0_1 : List (List Int)) : Option (Int × Int) := if a0_0 < 0 then (cnf_Right.j0 k true a0_0 l0_1) else (cnf_Right.j0 k (decide (a0_0 > 1024)) a0_0 l0_1)
theorem cnf_Right.mono_l : ∀ k, (∀ y0 y1 y2, LeO (cnf_Right.j0 k y0 y1 y2) (cnf_Right.j0 (k + 1) y0 y1 y2)) ∧ (∀ y0 y1 y2 y3 y4, LeO (cnf_Right.l0 k y0 y1 y2 y3 y4) (cnf_Right.l0 (k + 1) y0 y1 y2 y3 y4))
  | 0 => ⟨fun _ _ _ r h => by simp [cnf_Right.j0] at h, fun _ _ _ _ _ r h => by simp [cnf_Right.l0] at h⟩
  | k + 1 => by
    obtain ⟨ih0, ih1⟩ := cnf_Right.mono_l k
    refine ⟨?_, ?_⟩
    · intro y0 y1 y2
      unfold cnf_Right.j0
      repeat' first
      | (with_reducible exact ih0 _ _ _)
      | (with_reducible exact ih1 _ _ _ _ _)
      | (with_reducible exact lit_Right.mono _ _ _)
      | (with_reducible exact LeO.refl _)
      | (with_reducible exact LeO.none _)
      | (with_reducible refine LeO.ite ?_ ?_)
      | (with_reducible refine LeO.bind ?_ (fun _ => ?_))
      | exact ih0 _ _ _
      | exact ih1 _ _ _ _ _
      | exact lit_Right.mono _ _ _
      | exact LeO.none _
      | refine LeO.ite ?_ ?_
      | refine LeO.bind ?_ (fun _ => ?_)
    · intro y0 y1 y2 y3 y4
      unfold cnf_Right.l0
      repeat' first
      | (with_reducible exact ih0 _ _ _)
      | (with_reducible exact ih1 _ _ _ _ _)
      | (with_reducible exact lit_Right.mono _ _ _)
      | (with_reducible exact LeO.refl _)
      | (with_reducible exact LeO.none _)
      | (with_reducible refine LeO.ite ?_ ?_)
      | (with_reducible refine LeO.bind ?_ (fun _ => ?_))
      | exact ih0 _ _ _
      | exact ih1 _ _ _ _ _
      | exact lit_Right.mono _ _ _
      | exact LeO.none _
      | refine LeO.ite ?_ ?_
      | refine LeO.bind ?_ (fun _ => ?_)
theorem cnf_Right.mono : ∀ a0 a1 k, LeO (cnf_Right.f k a0 a1) (cnf_Right.f (k + 1) a0 a1) := by
  intro a0 a1 k
  obtain ⟨ih0, ih1⟩ := cnf_Right.mono_l k
  unfold cnf_Right.f
  repeat' first
      | (with_reducible exact ih0 _ _ _)
      | (with_reducible exact ih1 _ _ _ _ _)
      | (with_reducible exact lit_Right.mono _ _ _)
      | (with_reducible exact LeO.refl _)
      | (with_reducible exact LeO.none _)
      | (with_reducible refine LeO.ite ?_ ?_)
      | (with_reducible refine LeO.bind ?_ (fun _ => ?_))
      | exact ih0 _ _ _
      | exact ih1 _ _ _ _ _
      | exact lit_Right.mono _ _ _
      | exact LeO.none _
      | refine LeO.ite ?_ ?_
      | refine LeO.bind ?_ (fun _ => ?_)
set_option maxHeartbeats 8000000 in
set_option maxRecDepth 100000 in
theorem cnf_Right.calls (k : Nat) (a0_0 : Int) (A0_1 : Option Addr) (c0_1 : Nat) (l0_1 : List (List Int)) (r1 : Int) (r2 : Int) (w : World) (hr0_1 : Kd.C (Kd.slice 3 (Kd.int .i64)) w A0_1 l0_1.length l0_1) (hc0_1 : l0_1.length ≤ c0_1) (h : cnf_Right.f k a0_0 l0_1 = some (r1, r2)) :
    Calls Try.prog 61 #[.agg #[.int .i64 a0_0, .slice A0_1 l0_1.length c0_1]] w fun e w' => e = .returned (.tuple #[.int .i64 r1, .int .i64 r2]) ∧ Below w.heap.size w w' := by
  have hu51 := Try.underlying51
  have HR0_1 := Aside0.mk hr0_1
  have HC0_1 := Aside0.mk hc0_1
  clear hr0_1 hc0_1
  have HB := Aside0.mk (Below.refl w.heap.size w)
  have H : (if a0_0 < 0 then (cnf_Right.j0 k true a0_0 l0_1) else (cnf_Right.j0 k (decide (a0_0 > 1024)) a0_0 l0_1)) = some (r1, r2) := h
  clear h
  have HC2 := Aside0.mk H
  clear H
  go_enter Try.func61, Try.ntmps61
  go_upto_region 1 with (first | ((with_reducible refine gate_dst (N := 1) rfl ?_); refine box_event ?hg (N := 1) ?hd (cs := #[.int .i64 a0_0, .slice A0_1 l0_1.length c0_1]) (t := 51) ?hr ?_; (case hd => rfl); (case hg => rfl); (case hr => first | (go_simp; done) | (go_simp; rfl)); intro gb493 hg w3 hbox hb; have n0_ := Aside0.mk (below_step (by repeat (first | (with_reducible first | exact HB.out | apply below_alloc | apply pw_below_drewN | apply below_drew1) | exact HB.out)) hb); have n1_ := Aside0.mk (hbox); have n2_ := Aside0.mk ((by rw [hg]; exact (below_size (by repeat (first | (with_reducible first | exact HB.out | apply below_alloc | apply pw_below_drewN | apply below_drew1) | exact HB.out))) : w.heap.size ≤ gb493)); have n3_ := Aside0.mk ((by rw [hg]; exact (below_size (by repeat (first | (with_reducible first | exact HB.out | apply below_alloc | apply pw_below_drewN | apply below_drew1) | exact HB.out))) : w.heap.size ≤ gb493)); clear HB; have HB := n0_; have BK493 := n1_; have GW493 := n2_; have GE493 := n3_; clear n0_ n1_ n2_ n3_; clear hb hbox hg))
  (try simp only [Act.put, List.setIfInBounds_toArray, List.set_cons_zero, List.set_cons_succ])
  go_cut [14] (fun v14 wc => ∃ (kq : Nat) (x14_1 : Bool), v14 = .bool x14_1 ∧ Aside0 (cnf_Right.j0 kq x14_1 a0_0 l0_1 = some (r1, r2)) ∧ Aside0 (kq ≤ k) ∧ Aside0 (wc.heap[gb493]? = some (.cells #[.int .i64 a0_0, (.slice A0_1 l0_1.length c0_1)] 51 (0, 0))) ∧ Aside0 (Below w.heap.size w wc))
  case first =>
    have H := HC2.out
    clear HC2
    by_cases c4 : a0_0 < 0
    · rw [if_pos c4] at H
      have c4b0 : decide (a0_0 < 0) = true := decide_eq_true c4
      clear c4
      (first | rw [c4b0] | (simp only [i64_w, i32_w]; rw [c4b0]) | skip)
      as_aux_lemma =>
        have H' := Aside0.mk H
        clear H
        have hcz5_0 : w3.cell? ⟨gb493, 0, none⟩ = some (.int .i64 a0_0) := (blk_cell BK493.out 0).trans rfl
        have hcz5_1 : w3.cell? ⟨gb493, 1, none⟩ = some (.slice A0_1 l0_1.length c0_1) := (blk_cell BK493.out 1).trans rfl
        have hfz5_0 := blk_frozen BK493.out 0
        have hfz5_1 := blk_frozen BK493.out 1
        go_wp2
        go_meet
        case rel => exact ⟨_, (true), (by first | rfl | (simp; done) | (simp [*]; done)), H', ⟨by first | omega | exact Nat.le_refl _⟩, ⟨by (with_reducible repeat (first | refine blk_drewN ?_ _ | refine blk_drew ?_ | refine blk_alloc ?_ _)); exact BK493.out⟩, ⟨by repeat (first | (with_reducible first | exact HB.out | apply below_alloc | apply pw_below_drewN | apply below_drew1 | refine below_set ?_ GE493.out) | exact HB.out)⟩⟩
    · rw [if_neg c4] at H
      have c4b0 : decide (a0_0 < 0) = false := decide_eq_false c4
      clear c4
      (first | rw [c4b0] | (simp only [i64_w, i32_w]; rw [c4b0]) | skip)
      as_aux_lemma =>
        have H' := Aside0.mk H
        clear H
        have hcz6_0 : w3.cell? ⟨gb493, 0, none⟩ = some (.int .i64 a0_0) := (blk_cell BK493.out 0).trans rfl
        have hcz6_1 : w3.cell? ⟨gb493, 1, none⟩ = some (.slice A0_1 l0_1.length c0_1) := (blk_cell BK493.out 1).trans rfl
        have hfz6_0 := blk_frozen BK493.out 0
        have hfz6_1 := blk_frozen BK493.out 1
        go_wp2
        go_meet
        case rel => exact ⟨_, (decide (a0_0 > 1024)), (by first | rfl | (simp; done) | (simp [*]; done)), H', ⟨by first | omega | exact Nat.le_refl _⟩, ⟨by (with_reducible repeat (first | refine blk_drewN ?_ _ | refine blk_drew ?_ | refine blk_alloc ?_ _)); exact BK493.out⟩, ⟨by repeat (first | (with_reducible first | exact HB.out | apply below_alloc | apply pw_below_drewN | apply below_drew1 | refine below_set ?_ GE493.out) | exact HB.out)⟩⟩
  case rest =>
    clear HC2
    try clear p2
    try clear c4
    try clear c4b0
    try clear c6
    try clear hcz5_0
    try clear hcz5_1
    try clear hcz6_0
    try clear hcz6_1
    try clear hfz5_0
    try clear hfz5_1
    try clear hfz6_0
    try clear hfz6_1
    obtain ⟨kq, x14_1, rfl, HA, HJ1, BK493, HB⟩ := hcut
    cases kq with
    | zero => exact absurd HA.out (by simp [cnf_Right.j0])
    | succ kj1 =>
      have H := HA.out
      clear HA
      simp only [cnf_Right.j0] at H
      by_cases c7 : x14_1 = true
      · subst c7
        have H1 : (some ((-1), 1)) = some (r1, r2) := by rw [if_pos rfl] at H; exact H
        clear H
        have H := H1
        clear H1
        as_aux_lemma =>
          simp only [Option.some.injEq, Prod.mk.injEq] at H
          obtain ⟨rfl, rfl⟩ := H
          go_wp2
          go_ret2
          exact ⟨by first | rfl | (simp [errW_none, errW_some] <;> rfl) | (simp [*, errW_none, errW_some] <;> rfl), by repeat (first | (with_reducible first | exact HB.out | apply below_alloc | apply pw_below_drewN | apply below_drew1 | refine below_set ?_ GE493.out) | exact HB.out)⟩
      · replace c7 := Bool.eq_false_iff.mpr c7
        subst c7
        have H1 : (if (l0_1.length : Int) > 4096 then (some ((-1), 2)) else (cnf_Right.l0 kj1 l0_1 (l0_1.length : Int) 0 a0_0 l0_1)) = some (r1, r2) := by rw [if_neg (show ¬ (false = true) by decide)] at H; exact H
        clear H
        have H := H1
        clear H1
        by_cases c8 : (l0_1.length : Int) > 4096
        · rw [if_pos c8] at H
          have c8b0 : decide (4096 < (l0_1.length : Int)) = true := decide_eq_true c8
          have c8b1 : decide (4096 < l0_1.length) = true := decide_eq_true (by omega)
          clear c8
          as_aux_lemma =>
            simp only [Option.some.injEq, Prod.mk.injEq] at H
            obtain ⟨rfl, rfl⟩ := H
            have hcz9_0 : wc.cell? ⟨gb493, 0, none⟩ = some (.int .i64 a0_0) := (blk_cell BK493.out 0).trans rfl
            have hcz9_1 : wc.cell? ⟨gb493, 1, none⟩ = some (.slice A0_1 l0_1.length c0_1) := (blk_cell BK493.out 1).trans rfl
            have hfz9_0 := blk_frozen BK493.out 0
            have hfz9_1 := blk_frozen BK493.out 1
            go_wp2
            go_ret2
            exact ⟨by first | rfl | (simp [errW_none, errW_some] <;> rfl) | (simp [*, errW_none, errW_some] <;> rfl), by repeat (first | (with_reducible first | exact HB.out | apply below_alloc | apply pw_below_drewN | apply below_drew1 | refine below_set ?_ GE493.out) | exact HB.out)⟩
        · rw [if_neg c8] at H
          have c8b0 : decide (4096 < (l0_1.length : Int)) = false := decide_eq_false c8
          have c8b1 : decide (4096 < l0_1.length) = false := decide_eq_false (by omega)
          clear c8
          have H' := Aside0.mk H
          clear H
          have hcz10_0 : wc.cell? ⟨gb493, 0, none⟩ = some (.int .i64 a0_0) := (blk_cell BK493.out 0).trans rfl
          have hcz10_1 : wc.cell? ⟨gb493, 1, none⟩ = some (.slice A0_1 l0_1.length c0_1) := (blk_cell BK493.out 1).trans rfl
          have hfz10_0 := blk_frozen BK493.out 0
          have hfz10_1 := blk_frozen BK493.out 1
          go_wp2
          go_loopg [22] kj1 (fun kq v22 w' => ∃ (x22_2 : Int), v22 = .int .i64 x22_2 ∧ Aside0 (cnf_Right.l0 kq l0_1 (l0_1.length : Int) x22_2 a0_0 l0_1 = some (r1, r2)) ∧ Aside0 (kq ≤ kj1) ∧ Aside0 (w'.heap[gb493]? = some (.cells #[.int .i64 a0_0, (.slice A0_1 l0_1.length c0_1)] 51 (0, 0))) ∧ Aside0 (Below w.heap.size w w'))
          case atStart => exact ⟨(0), (by first | rfl | (simp; done) | (simp [*]; done)), H', ⟨Nat.le_refl _⟩, ⟨by (with_reducible repeat (first | refine blk_drewN ?_ _ | refine blk_drew ?_ | refine blk_alloc ?_ _)); exact BK493.out⟩, ⟨by repeat (first | (with_reducible first | exact HB.out | apply below_alloc | apply pw_below_drewN | apply below_drew1 | refine below_set ?_ GE493.out) | exact HB.out)⟩⟩
          case round =>
            clear H'
            try clear p2
            try clear c4
            try clear c4b0
            try clear c6
            try clear c7
            try clear c8
            try clear c8b0
            try clear c8b1
            try clear hcz10_0
            try clear hcz10_1
            try clear hcz5_0
            try clear hcz5_1
            try clear hcz6_0
            try clear hcz6_1
            try clear hcz9_0
            try clear hcz9_1
            try clear hfz10_0
            try clear hfz10_1
            try clear hfz5_0
            try clear hfz5_1
            try clear hfz6_0
            try clear hfz6_1
            try clear hfz9_0
            try clear hfz9_1
            try clear p2
            obtain ⟨x22_2, rfl, HA, HK2, BK493, HB⟩ := hrel
            cases gk with
            | zero => exact absurd HA.out (by simp [cnf_Right.l0])
            | succ k2 =>
              have H := HA.out
              clear HA
              simp only [cnf_Right.l0] at H
              by_cases c11 : x22_2 < (l0_1.length : Int)
              · rw [if_pos c11] at H
                have c11b0 : decide (x22_2 < (l0_1.length : Int)) = true := decide_eq_true c11
                clear c11
                by_cases c12 : 0 ≤ x22_2
                · rw [if_pos c12] at H
                  have c12b0 : decide (0 ≤ x22_2) = true := decide_eq_true c12
                  clear c12
                  by_cases c13 : x22_2 < (l0_1.length : Int)
                  · rw [if_pos c13] at H
                    have c13b0 : decide (x22_2 < (l0_1.length : Int)) = true := decide_eq_true c13
                    clear c13
                    replace H := Option.bind_eq_some_iff.mp H
                    obtain ⟨t495, A140, H⟩ := H
                    replace H : (if t495 = 0 then (cnf_Right.l0 k2 l0_1 (l0_1.length : Int) (wrap64 (x22_2 + 1)) a0_0 l0_1) else (some (x22_2, t495))) = some (r1, r2) := H
                    have A14 := Aside0.mk A140
                    clear A140
                    by_cases c15 : t495 = 0
                    · rw [if_pos c15] at H
                      have c15b0 : (t495 == 0) = true := beq_iff_eq.mpr c15
                      have c15b1 : (t495 != 0) = false := bne_eq_false_iff_eq.mpr c15
                      clear c15
                      as_aux_lemma =>
                        have H' := Aside0.mk H
                        clear H
                        have p494 : 0 ≤ (x22_2 : Int) := of_decide_eq_true (by first | (with_reducible assumption) | assumption)
                        have q494 : x22_2 < (l0_1.length : Int) := of_decide_eq_true (by first | (with_reducible assumption) | assumption)
                        obtain ⟨ad494, A494_0, c494_0, e494, hx494_0, hl494_0, hi494_0⟩ := at_L3 HR0_1.out x22_2 p494 q494
                        cases e494
                        replace hx494_0 := (HB.out.cell (World.block_lt_of_cell? w _ hx494_0)).trans hx494_0
                        have HR494_0 := Aside0.mk hi494_0
                        have HC494_0 := Aside0.mk hl494_0
                        clear hi494_0 hl494_0
                        replace p494 := eq_true p494
                        replace q494 := eq_true q494
                        have hcz16_0 : wr.cell? ⟨gb493, 0, none⟩ = some (.int .i64 a0_0) := (blk_cell BK493.out 0).trans rfl
                        have hcz16_1 : wr.cell? ⟨gb493, 1, none⟩ = some (.slice (some ad494) l0_1.length c0_1) := (blk_cell BK493.out 1).trans rfl
                        have hfz16_0 := blk_frozen BK493.out 0
                        have hfz16_1 := blk_frozen BK493.out 1
                        go_wp2_with (first | ((with_reducible refine gate_callee (f := 19) rfl ?_); refine goesL_ (some 30) rfl rfl Try.func19 (by kernel_rfl) rfl #[.slice A494_0 (rd_L3 l0_1 x22_2).length c494_0, .int .i64 a0_0] rfl (by (try simp only [List.map_toArray, List.map_cons, List.map_nil]); first | done | rfl | (simp only [List.length_drop, List.length_take]; rfl)) ?_; (with_reducible refine (lit_Right.calls k2 _ _ (rd_L3 l0_1 x22_2) a0_0 t495 _ ?side1 ?side2 A14.out).mono ?_); (case side1 => repeat (first | exact (Kd.C_below HR494_0.out HB.out) | (with_reducible refine Kd.C_alloc ?_ _) | (with_reducible refine Kd.C_drewN ?_ _) | (with_reducible refine Kd.C_drew ?_))); (case side2 => exact HC494_0.out); rintro e w' ⟨rfl, ⟨nd, rfl⟩⟩; refine ⟨_, rfl, ?_⟩))
                        go_roundg k2
                        case measure => have := HJ1.out; have := HK2.out; omega
                        case rel => exact ⟨(wrap64 (x22_2 + 1)), (by first | rfl | (simp; done) | (simp [*]; done)), H', ⟨by have := HJ1.out; have := HK2.out; omega⟩, ⟨by (with_reducible repeat (first | refine blk_drewN ?_ _ | refine blk_drew ?_ | refine blk_alloc ?_ _)); exact BK493.out⟩, ⟨by repeat (first | (with_reducible first | exact HB.out | apply below_alloc | apply pw_below_drewN | apply below_drew1 | refine below_set ?_ GE493.out) | exact HB.out)⟩⟩
                    · rw [if_neg c15] at H
                      have c15b0 : (t495 == 0) = false := beq_eq_false_iff_ne.mpr c15
                      have c15b1 : (t495 != 0) = true := bne_iff_ne.mpr c15
                      as_aux_lemma =>
                        simp only [Option.some.injEq, Prod.mk.injEq] at H
                        obtain ⟨rfl, rfl⟩ := H
                        have p494 : 0 ≤ (x22_2 : Int) := of_decide_eq_true (by first | (with_reducible assumption) | assumption)
                        have q494 : x22_2 < (l0_1.length : Int) := of_decide_eq_true (by first | (with_reducible assumption) | assumption)
                        obtain ⟨ad494, A494_0, c494_0, e494, hx494_0, hl494_0, hi494_0⟩ := at_L3 HR0_1.out x22_2 p494 q494
                        cases e494
                        replace hx494_0 := (HB.out.cell (World.block_lt_of_cell? w _ hx494_0)).trans hx494_0
                        have HR494_0 := Aside0.mk hi494_0
                        have HC494_0 := Aside0.mk hl494_0
                        clear hi494_0 hl494_0
                        replace p494 := eq_true p494
                        replace q494 := eq_true q494
                        have hcz17_0 : wr.cell? ⟨gb493, 0, none⟩ = some (.int .i64 a0_0) := (blk_cell BK493.out 0).trans rfl
                        have hcz17_1 : wr.cell? ⟨gb493, 1, none⟩ = some (.slice (some ad494) l0_1.length c0_1) := (blk_cell BK493.out 1).trans rfl
                        have hfz17_0 := blk_frozen BK493.out 0
                        have hfz17_1 := blk_frozen BK493.out 1
                        go_wp2_with (first | ((with_reducible refine gate_callee (f := 19) rfl ?_); refine goesL_ (some 30) rfl rfl Try.func19 (by kernel_rfl) rfl #[.slice A494_0 (rd_L3 l0_1 x22_2).length c494_0, .int .i64 a0_0] rfl (by (try simp only [List.map_toArray, List.map_cons, List.map_nil]); first | done | rfl | (simp only [List.length_drop, List.length_take]; rfl)) ?_; (with_reducible refine (lit_Right.calls k2 _ _ (rd_L3 l0_1 x22_2) a0_0 t495 _ ?side1 ?side2 A14.out).mono ?_); (case side1 => repeat (first | exact (Kd.C_below HR494_0.out HB.out) | (with_reducible refine Kd.C_alloc ?_ _) | (with_reducible refine Kd.C_drewN ?_ _) | (with_reducible refine Kd.C_drew ?_))); (case side2 => exact HC494_0.out); rintro e w' ⟨rfl, ⟨nd, rfl⟩⟩; refine ⟨_, rfl, ?_⟩))
                        go_ret2
                        exact ⟨by first | rfl | (simp [errW_none, errW_some] <;> rfl) | (simp [*, errW_none, errW_some] <;> rfl), by repeat (first | (with_reducible first | exact HB.out | apply below_alloc | apply pw_below_drewN | apply below_drew1 | refine below_set ?_ GE493.out) | exact HB.out)⟩
                  · rw [if_neg c13] at H
                    exact absurd H (by simp)
                · rw [if_neg c12] at H
                  exact absurd H (by simp)
              · rw [if_neg c11] at H
                have c11b0 : decide (x22_2 < (l0_1.length : Int)) = false := decide_eq_false c11
                clear c11
                as_aux_lemma =>
                  simp only [Option.some.injEq, Prod.mk.injEq] at H
                  obtain ⟨rfl, rfl⟩ := H
                  go_wp2
                  go_ret2
                  exact ⟨by first | rfl | (simp [errW_none, errW_some] <;> rfl) | (simp [*, errW_none, errW_some] <;> rfl), by repeat (first | (with_reducible first | exact HB.out | apply below_alloc | apply pw_below_drewN | apply below_drew1 | refine below_set ?_ GE493.out) | exact HB.out)⟩

end Go.Proofs.Ytmihgbjfiigmlaa.P

-- Printed by wip/tools/pp.py of this claim's session (over the kit's print.py); Lean checks it.
namespace Go.Proofs.Ytmihgbjfiigmlaa.P
open Go.RowKit Go.Proofs.YtmihgbjfiigmlaaW.PrintWords Go.Proofs.YtmihgbjfiigmlaaW.PrintLast Go.Proofs.YtmihgbjfiigmlaaW.PrintMore
attribute [local go_sem] max2_int min2_int max_two min_two max_three min_three max_four min_four   -- for this text's walks alone
set_option linter.unusedVariables false
set_option linter.unusedSimpArgs false

-- SOLO
-- IMPORTS Derived.Deep.DeepCutAuto Derived.ArgAppend
/-! ### chain_Check: function 39 -/
/-- An append to a full row that is not one's own: a new row of one's own. -/
theorem H_append_full {P : Program} {ops : Array Oper} {rest : List Oper} {o : Oper} {a : Act} {Q : Exit → Act → World → Prop} {w0 W : World} (base : Nat) (hgd : o.guard = none) (s x : Operand) (t e : TypeId)
    (ho : o.op = .call { callee := .builtin .append, args := #[s, x], argTypes := #[t, t] }) (ht : P.underlying t = some (.slice e)) (hinfo : (P.info? e).map (fun i => (i.zero, i.size, i.bytes)) = some (some (.slice none 0 0), 1, 24))
    (A : Option Addr) (n : Nat) (hs : List Hd) (p : Hd) (ok : Nat → Prop) (hsv : a.eval s = .slice A n n) (hx : a.eval x = .slice (some ⟨W.heap.size, 0, none⟩) 1 1) (hfresh : ∀ k, W.heap.size ≤ k → ok k)
    (HC : Kd.C kH W A n hs) (HB : Below base w0 W) (hbase : base ≤ W.heap.size) (hl : (n + 1) * 24 ≤ 140737488355328)
    (h : ∀ v1 w1, Kd.R kH e w1 base ok v1 (hs ++ [p]) → Below base w0 w1 → W.grownBy w1 none → wpList P ops Q rest (a.put o.dst v1) w1) :
    wpList P ops Q (o :: rest) a (W.alloc (.cells #[hdv p] e)) := by
  obtain ⟨i0, hi, hzz⟩ := Option.map_eq_some_iff.1 hinfo
  simp only [Prod.mk.injEq] at hzz
  obtain ⟨hz0, hz1, hz2⟩ := hzz
  have hn : hs.length = n := HC.1
  have hw : Below W.heap.size W (W.alloc (.cells #[hdv p] e)) := below_alloc (Below.refl _ _) _
  have HC2 := Kd.C_below HC hw
  refine wpList_append_grows (W.alloc (.cells #[hdv p] e)) hgd s x t ho e i0 (.slice none 0 0) 1 24 ht hi hz0 hz1 hz2 rfl (by decide) A n n (encs hdv hs) hsv (fun hA => ?_) (by simp [encs, hn]) (fun b hb j u hj => ?_) ⟨W.heap.size, 0, none⟩ 1 1 [hdv p] hx rfl
    (by simpa using World.news_of_block (cs := #[hdv p]) (t := e) (fr := (0, 0)) (heap_alloc_new W (.cells #[hdv p] e))) (fun u hu => by rw [List.mem_singleton.1 hu]; rfl) (by omega) (by simp only [maxLen]; omega) hl ?_
  · rcases Nat.eq_zero_or_pos n with h0 | h0
    · exact ⟨h0, h0⟩
    · obtain ⟨ad, e1, _⟩ := HC.2.2 h0
      rw [hA] at e1; cases e1
  · have hjl : j < n := by have := (List.getElem?_eq_some_iff.1 hj).1; simp [encs] at this; omega
    obtain ⟨ad, c, e1, hc1, hK, hcell⟩ := Kd.C_get HC2 ((none, 0, 0) : Hd) (j : Int) (by omega) (by omega)
    rw [hb] at e1
    cases e1
    have hx : hs[j]? = some (hs.getD j (none, 0, 0)) := by simp [show j < hs.length by omega]
    have hu : u = hdv (hs.getD j (none, 0, 0)) := by
      unfold encs at hj
      rw [List.getElem?_map, hx] at hj
      simpa using hj.symm
    have hK2 : c = [hdv (hs.getD ((j : Int).toNat) (none, 0, 0))] := hK
    have := hcell 0 u (by rw [hK2, Int.toNat_natCast, hu]; rfl)
    have e2 : ((j : Int).toNat * Kd.sz kH + 0) = j := by rw [Int.toNat_natCast]; show j * 1 + 0 = j; omega
    rw [e2] at this
    exact this
  · intro v1 w1 hown hg
    refine h v1 w1 ?_ ((HB.alloc hbase _).grown hg (by simp; omega) (fun k hk => by cases hk)) (World.grownBy.trans (World.grownBy_alloc W _ _) hg)
    have e1 : encs hdv (hs ++ [p]) = encs hdv hs ++ [hdv p] := by simp [encs]
    have hown2 := own_weaken hown (show base ≤ (W.alloc (.cells #[hdv p] e)).heap.size by simp; omega)
    refine Kd.R_of_own (by rw [e1, List.length_append, List.length_singleton, hn]; exact hown2) (fun k hk => hfresh k ?_)
    have := own_base hown k hk
    simp at this; omega
/-- Chains from one on: the first error and its place. -/
def chain_Check.l1 (k : Nat) (n : Int) : List S43 → Int → List (List Int) → Option (Int × Int)
  | [], _, _ => some (0, 0)
  | x :: t, i, all => (chain_Step.f k all n x.f0 x.f1).bind fun s => if s.2.2 = 0 then (if all.length + 1 < 5864062014805 then chain_Check.l1 k n t (i + 1) (all ++ [x.f0]) else none) else some (i, s.2.2)
def chain_Check.f (k : Nat) (a0_0 : Int) (l0_1 : List (List Int)) (l1 : List S43) : Option (Int × Int) :=
  (cnf_Right.f k a0_0 l0_1).bind fun b => if b.2 = 0 then (if (l1.length : Int) > 4096 then some (-1, 2) else chain_Check.l1 k a0_0 l1 0 l0_1) else some (-1, b.2)
theorem chain_Check.mono_l (k : Nat) (n : Int) : ∀ (l : List S43) (i : Int) (all : List (List Int)), LeO (chain_Check.l1 k n l i all) (chain_Check.l1 (k + 1) n l i all)
  | [], _, _ => LeO.refl _
  | x :: t, i, all => by
    rw [chain_Check.l1, chain_Check.l1]
    exact LeO.bind (chain_Step.mono _ _ _ _ _) (fun _ => LeO.ite (LeO.ite (chain_Check.mono_l k n t _ _) (LeO.refl _)) (LeO.refl _))
theorem chain_Check.mono : ∀ n l ch k, LeO (chain_Check.f k n l ch) (chain_Check.f (k + 1) n l ch) := by
  intro n l ch k
  unfold chain_Check.f
  exact LeO.bind (cnf_Right.mono _ _ _) (fun _ => LeO.ite (LeO.ite (LeO.refl _) (chain_Check.mono_l k n ch 0 l)) (LeO.refl _))
/-- The clauses so far: the given row, cut, or a row of one's own. -/
def ChainSt (w : World) (N : Nat) (wr : World) (v : Value) (hs : List Hd) : Prop :=
  (∃ A, v = .slice A N N ∧ Kd.C kH w A N hs) ∨ Kd.R kH 22 wr w.heap.size (fun _ => True) v hs
theorem ChainSt.below {w : World} {N : Nat} {W W' : World} {v : Value} {hs : List Hd} (h : ChainSt w N W v hs) (hb : Below W.heap.size W W') : ChainSt w N W' v hs :=
  h.imp id (fun h => Kd.R_below h hb)
theorem ChainSt.reads {w : World} {N : Nat} {W : World} {v : Value} {hs : List Hd} (h : ChainSt w N W v hs) (hB : Below w.heap.size w W) : ∃ A c, v = .slice A hs.length c ∧ hs.length ≤ c ∧ Kd.C kH W A hs.length hs := by
  rcases h with ⟨A, rfl, hC⟩ | hR
  · have := hC.1
    rw [this]
    exact ⟨A, N, rfl, Nat.le_refl _, Kd.C_below hC hB⟩
  · obtain ⟨A, c, rfl⟩ := Kd.R_slice hR
    obtain ⟨_, h2, h3⟩ := Kd.R_reads' hR
    exact ⟨A, c, rfl, h2, h3⟩
set_option maxRecDepth 100000 in
set_option maxHeartbeats 4000000 in
theorem chain_Check.calls (k : Nat) (a0_0 : Int) (A0_1 : Option Addr) (c0_1 : Nat) (l0_1 : List (List Int)) (A1 : Option Addr) (c1 : Nat) (l1 : List S43) (r1 r2 : Int) (w : World)
    (hr0_1 : Kd.C (Kd.slice 3 (Kd.int .i64)) w A0_1 l0_1.length l0_1) (hc0_1 : l0_1.length ≤ c0_1) (hr1 : Kd.C k43 w A1 l1.length l1) (hc1 : l1.length ≤ c1) (h : chain_Check.f k a0_0 l0_1 l1 = some (r1, r2)) :
    Calls Try.prog 39 #[.agg #[.int .i64 a0_0, .slice A0_1 l0_1.length c0_1], .slice A1 l1.length c1] w fun e w' => e = .returned (.tuple #[.int .i64 r1, .int .i64 r2]) ∧ Below w.heap.size w w' := by
  unfold chain_Check.f at h
  obtain ⟨⟨b1, b2⟩, hb, h⟩ := Option.bind_eq_some_iff.mp h
  dsimp only at h
  have hbig := hr1.2.1
  have huC := Try.underlying51
  have huL := Try.underlying43
  obtain ⟨WA, hWA⟩ : ∃ WA : World, w.alloc (.cells #[.int .i64 a0_0, .slice A0_1 l0_1.length c0_1] 51) = WA := ⟨_, rfl⟩
  obtain ⟨Z, hZ⟩ : ∃ Z : World → Prop, Z = fun W => W.heap[w.heap.size]? = some (.cells #[.int .i64 a0_0, .slice A0_1 l0_1.length c0_1] 51 (0, 0)) ∧ Below w.heap.size w W ∧ w.heap.size < W.heap.size := ⟨_, rfl⟩
  have hZA : Z WA := by
    rw [hZ, ← hWA]
    exact ⟨blk_new w _, below_alloc (Below.refl _ w) _, by simp⟩
  have hzB : ∀ {W : World}, Z W → Below w.heap.size w W := fun h => by rw [hZ] at h; exact h.2.1
  have hzS : ∀ {W : World}, Z W → w.heap.size < W.heap.size := fun h => by rw [hZ] at h; exact h.2.2
  have hzb : ∀ {W W' : World}, Z W → Below W.heap.size W W' → Z W' := fun h hb => by
    rw [hZ] at h ⊢
    exact ⟨blk_below h.1 hb, h.2.1.trans (hb.mono h.2.1.size), Nat.lt_of_lt_of_le h.2.2 hb.size⟩
  have hzc : ∀ {W : World}, Z W → W.cell? ⟨w.heap.size, 0, none⟩ = some (.int .i64 a0_0) ∧ W.cell? ⟨w.heap.size, 1, none⟩ = some (.slice A0_1 l0_1.length c0_1) := fun h => by
    rw [hZ] at h
    exact ⟨blk_cell h.1 0, blk_cell h.1 1⟩
  obtain ⟨hs, hhs, hC⟩ := HdsOf.part hr0_1
  have HHS := Aside0.mk hhs
  have HCH := Aside0.mk hC
  have HL := Aside0.mk hr1
  have HR := Aside0.mk (cnf_Right.calls k a0_0 A0_1 c0_1 l0_1 b1 b2 WA (Kd.C_below hr0_1 (hzB hZA)) hc0_1 hb)
  have H := Aside0.mk h
  have HZA := Aside0.mk hZA
  have HZd := Aside0.mk hZ
  have hbig0 := hr0_1.2.1
  obtain ⟨p0, p1⟩ := hzc hZA
  clear hr0_1 hr1 hb h hZ hZA hhs hC
  go_enter Try.func39, Try.ntmps39
  go_wp2_with fail
  refine HR.out.mono ?_
  rintro e' w1 ⟨rfl, hb1⟩
  have HZ1 := Aside0.mk (hzb HZA.out hb1)
  clear hWA p0 p1 hb1 HR HZA
  obtain ⟨p0, p1⟩ := hzc HZ1.out
  by_cases e0 : b2 = 0
  · subst e0
    have h := H.out
    rw [if_pos rfl] at h
    clear H
    by_cases e1 : (l1.length : Int) > 4096
    · rw [if_pos e1] at h
      simp only [Option.some.injEq, Prod.mk.injEq] at h
      obtain ⟨rfl, rfl⟩ := h
      have d1 : decide ((4096 : Int) < (l1.length : Int)) = true := decide_eq_true e1
      have d2 : (4096 < l1.length) = True := eq_true (by omega)
      clear e1
      go_wp2
      go_ret2
      exact ⟨rfl, hzB HZ1.out⟩
    · rw [if_neg e1] at h
      have d1 : decide ((4096 : Int) < (l1.length : Int)) = false := decide_eq_false e1
      have d2 : (4096 < l1.length) = False := eq_false (by omega)
      have H := Aside0.mk h
      have H1 := HCH.out
      clear e1 h
      have q1 : (0 : Int) ≤ (l0_1.length : Int) := by omega
      have q2 : (l0_1.length : Int) ≤ (l0_1.length : Int) := by omega
      have q3 : (l0_1.length : Int) ≤ (c0_1 : Int) := by omega
      clear H1
      go_wp2
      go_loopg [8, 9, 10, 11, 12, 13, 36] l1.length (fun gg v8 _ _ _ _ _ v36 wr => ∃ (i : Nat) (hs : List Hd) (all : List (List Int)), v36 = .int .i64 (i : Int) ∧ Aside0 (i + gg = l1.length) ∧ Aside0 (HdsOf w hs all) ∧ Aside0 (Z wr) ∧ Aside0 (ChainSt w l0_1.length wr v8 hs) ∧ Aside0 (chain_Check.l1 k a0_0 (l1.drop i) (i : Int) all = some (r1, r2)))
      case atStart => exact ⟨0, hs, l0_1, rfl, ⟨by simp⟩, HHS, HZ1, ⟨.inl ⟨_, rfl, HCH.out⟩⟩, H⟩
      case round =>
        clear HZ1 H HHS HCH q1 q2 q3 p0 p1
        obtain ⟨i, hs, all, rfl, hg, hhs, hz, hR, hx⟩ := hrel
        by_cases hlt : i < l1.length
        · obtain ⟨ad, Ax0, cx0, Ax, cx, e1, x1', x2', hlx0, hCx0', hlx, hCx'⟩ := at_T43 HL.out (i : Int) (by omega) (by omega)
          cases e1
          obtain ⟨x, hx0⟩ : ∃ x, l1[i] = x := ⟨_, rfl⟩
          have hrd : rd_T43 l1 (i : Int) = x := by simp [rd_T43, hlt, hx0]
          rw [hrd] at x1' x2' hlx0 hCx0' hlx hCx'
          have x1 := ((hzB hz.out).cell (World.block_lt_of_cell? w _ x1')).trans x1'
          have x2 := ((hzB hz.out).cell (World.block_lt_of_cell? w _ x2')).trans x2'
          have hCx := Kd.C_below hCx' (hzB hz.out)
          have hCx0 := Kd.C_below hCx0' (hzB hz.out)
          simp only [Int.toNat_natCast] at x1 x2
          have hx2 := hx.out
          rw [List.drop_eq_getElem_cons hlt, hx0] at hx2
          rw [chain_Check.l1] at hx2
          obtain ⟨xf, xl⟩ := x
          dsimp only at x1 x2 hlx hCx hCx' hlx0 hCx0 hCx0' hx2
          obtain ⟨⟨s1, s2, s3⟩, hst, hx2⟩ := Option.bind_eq_some_iff.mp hx2
          dsimp only at hx2
          have P0 : ((0 : Int) ≤ (i : Int)) = True := eq_true (by omega)
          have P1 : ((i : Int) < (l1.length : Int)) = True := eq_true (by omega)
          have P2 : (i < l1.length) = True := eq_true hlt
          have hd : decide ((i : Int) < (l1.length : Int)) = true := decide_eq_true (by omega)
          obtain ⟨W2, hW2⟩ : ∃ W2 : World, wr.alloc (.cells #[.slice Ax0 xf.length cx0, .slice Ax xl.length cx] 43) = W2 := ⟨_, rfl⟩
          have hk2 : W2.heap[wr.heap.size]? = some (.cells #[.slice Ax0 xf.length cx0, .slice Ax xl.length cx] 43 (0, 0)) := by rw [← hW2]; exact blk_new wr _
          have hb2 : Below wr.heap.size wr W2 := by rw [← hW2]; exact below_alloc (Below.refl _ _) _
          have hz2 := hzb hz.out hb2
          have hR2 := ChainSt.below hR.out hb2
          have q0 : W2.cell? ⟨wr.heap.size, 0, none⟩ = some (.slice Ax0 xf.length cx0) := blk_cell hk2 0
          have q1 : W2.cell? ⟨wr.heap.size, 1, none⟩ = some (.slice Ax xl.length cx) := blk_cell hk2 1
          obtain ⟨p0, p1⟩ := hzc hz2
          obtain ⟨A8, c8, rfl, hlc, hC8⟩ := ChainSt.reads hR2 (hzB hz2)
          have hjoin := (hhs.out.below (hzB hz2)).join hC8
          have hlen := hhs.out.1
          rw [hlen] at hjoin hlc
          have hcall := chain_Step.calls k A8 c8 all a0_0 Ax0 cx0 xf Ax cx xl s1 s2 s3 W2 hjoin hlc (Kd.C_below hCx0 hb2) hlx0 (Kd.C_below hCx hb2) hlx hst
          rw [← hlen] at hcall
          have HCALL := Aside0.mk hcall
          have HX2 := Aside0.mk hx2
          have HK2 := Aside0.mk hk2
          have HZ2 := Aside0.mk hz2
          have HR2 := Aside0.mk hR2
          have HCx0 := Aside0.mk hCx0'
          have HLx0 := Aside0.mk hlx0
          have HLEN := Aside0.mk hlen
          clear hx hx2 hx0 hrd hCx hCx0 hk2 hb2 hz2 hR2 hR hz x1' x2' hCx' hCx0' hjoin hlc hcall hst hC8 hlen
          go_wp2_with fail
          refine HCALL.out.mono ?_
          rintro e' w3 ⟨v0, rfl, _, hb3⟩
          have HZ3 := Aside0.mk (hzb HZ2.out hb3)
          have HR3 := Aside0.mk (ChainSt.below HR2.out hb3)
          have HK3 := Aside0.mk (blk_below HK2.out hb3)
          clear hb3 HCALL HR2 HK2 hW2 q0 q1 p0 p1 HZ2
          obtain ⟨p0, p1⟩ := hzc HZ3.out
          have q0 : w3.cell? ⟨wr.heap.size, 0, none⟩ = some (.slice Ax0 xf.length cx0) := blk_cell HK3.out 0
          by_cases he0 : s3 = 0
          · subst he0
            have hx3 := HX2.out
            rw [if_pos rfl] at hx3
            by_cases hcp0 : ¬ all.length + 1 < 5864062014805
            · rw [if_neg hcp0] at hx3; cases hx3
            have hcp := Decidable.not_not.1 hcp0
            rw [if_pos hcp] at hx3
            have HX5 := Aside0.mk hx3
            have HCP := Aside0.mk hcp
            clear hcp0 hcp hx3 HX2
            rcases HR3.out with ⟨Ac, eC, hC3⟩ | hR3
            · injection eC with eA eN eC2
              subst eA
              have HC3 := Aside0.mk hC3
              have HN := Aside0.mk eN
              rw [eN, eC2]
              clear hC3 eN eC2 HR3
              go_wp2_with (at_builtin; refine H_append_full (w0 := w) w.heap.size rfl (.tmp 54) (.tmp 57) 41 22 rfl Try.underlying41 (by kernel_rfl) A8 l0_1.length hs ((Ax0, xf.length, cx0) : Hd) (fun _ => True) rfl rfl (fun _ _ => trivial) (Kd.C_below HC3.out (hzB HZ3.out)) (hzB HZ3.out) (Nat.le_of_lt (hzS HZ3.out)) (by have := HCP.out; have := HLEN.out; have := HN.out; omega) ?_; intro v5 w5 r5 hb5 hg5)
              go_roundg (l1.length - (i + 1))
              case measure => have := hg.out; omega
              case rel =>
                refine ⟨i + 1, hs ++ [(Ax0, xf.length, cx0)], all ++ [xf], by simp, ⟨by have := hg.out; omega⟩, ⟨hhs.out.add ⟨rfl, HLx0.out, HCx0.out⟩⟩, ?_, ⟨.inr r5⟩, ?_⟩
                · have h := HZ3.out
                  rw [HZd.out] at h
                  exact ⟨by rw [HZd.out]; exact ⟨blk_grown h.1 hg5 (by simp), hb5, Nat.lt_of_lt_of_le h.2.2 hg5.size⟩⟩
                · have h5 := HX5.out
                  exact ⟨by rw [show ((i + 1 : Nat) : Int) = (i : Int) + 1 by omega]; exact h5⟩
            · have HR4 := Aside0.mk hR3
              have nG0 : some w.heap.size ≠ (Value.slice A8 hs.length c8).ownBlock := by
                have h := HZ3.out
                rw [HZd.out] at h
                exact Kd.R_ne hR3 h.1 (by decide)
              have nG := Aside0.mk nG0
              clear hR3 HR3 nG0
              go_wp2_with (at_builtin; refine Kd.R_append kH (w0 := w) w.heap.size rfl (.tmp 54) (.tmp 57) 41 22 (.slice none 0 0) 24 rfl Try.underlying41 (by kernel_rfl) rfl (by decide) (by decide) (.slice A8 hs.length c8) hs ((Ax0, xf.length, cx0) : Hd) [.slice Ax0 xf.length cx0] (fun _ => True) (fun _ => False) rfl rfl rfl (fun _ h => h.elim) (fun _ _ => trivial) HR4.out (hzB HZ3.out) (Nat.le_of_lt (hzS HZ3.out)) (by have := HCP.out; have := HLEN.out; omega) ?_; intro v5 w5 r5 hb5 hg5 hat5)
              go_roundg (l1.length - (i + 1))
              case measure => have := hg.out; omega
              case rel =>
                refine ⟨i + 1, hs ++ [(Ax0, xf.length, cx0)], all ++ [xf], by simp, ⟨by have := hg.out; omega⟩, ⟨hhs.out.add ⟨rfl, HLx0.out, HCx0.out⟩⟩, ?_, ⟨.inr r5⟩, ?_⟩
                · have h := HZ3.out
                  rw [HZd.out] at h
                  exact ⟨by rw [HZd.out]; exact ⟨blk_grown h.1 hg5 nG.out, hb5, Nat.lt_of_lt_of_le h.2.2 hg5.size⟩⟩
                · have h5 := HX5.out
                  exact ⟨by rw [show ((i + 1 : Nat) : Int) = (i : Int) + 1 by omega]; exact h5⟩
          · have hx3 := HX2.out
            rw [if_neg he0] at hx3
            simp only [Option.some.injEq, Prod.mk.injEq] at hx3
            obtain ⟨rfl, rfl⟩ := hx3
            have c1' : (s3 != 0) = true := by simpa using he0
            have c2' : (s3 == 0) = false := by simpa using he0
            clear HX2 he0
            go_wp2
            go_ret2
            exact ⟨rfl, hzB HZ3.out⟩
        · have hd : decide ((i : Int) < (l1.length : Int)) = false := decide_eq_false (by omega)
          have hq := hx.out
          rw [List.drop_of_length_le (by omega)] at hq
          simp only [chain_Check.l1, Option.some.injEq, Prod.mk.injEq] at hq
          obtain ⟨rfl, rfl⟩ := hq
          go_wp2
          go_ret2
          exact ⟨rfl, hzB hz.out⟩
  · have h := H.out
    rw [if_neg e0] at h
    simp only [Option.some.injEq, Prod.mk.injEq] at h
    obtain ⟨rfl, rfl⟩ := h
    have c1' : (b2 != 0) = true := by simpa using e0
    have c2' : (b2 == 0) = false := by simpa using e0
    clear e0
    go_wp2
    go_ret2
    exact ⟨rfl, hzB HZ1.out⟩


end Go.Proofs.Ytmihgbjfiigmlaa.P

-- Printed by wip/tools/pp.py of this claim's session (over the kit's print.py); Lean checks it.
namespace Go.Proofs.Ytmihgbjfiigmlaa.P
open Go.RowKit Go.Proofs.YtmihgbjfiigmlaaW.PrintWords Go.Proofs.YtmihgbjfiigmlaaW.PrintLast Go.Proofs.YtmihgbjfiigmlaaW.PrintMore
attribute [local go_sem] max2_int min2_int max_two min_two max_three min_three max_four min_four   -- for this text's walks alone
set_option linter.unusedVariables false
set_option linter.unusedSimpArgs false

-- SOLO
-- IMPORTS 
/-! ### AUX slicesChains -/
set_option maxRecDepth 100000 in
set_option maxHeartbeats 2000000 in
theorem slices_IndexFunc_chains.calls (gf : Nat) (lb : Array Value) (eg : ∀ args w, (callFunc gf args).run Try.prog w = .ok (.enter gf args) w) (p : S43 → Bool) (A : Option Addr) (c : Nat) (xs : List S43) (w : World)
    (hr : Kd.C k43 w A xs.length xs) (hp : ∀ W, Below w.heap.size w W → ∀ x ∈ xs, ∀ (A0 : Option Addr) (c0 : Nat) (A1 : Option Addr) (c1 : Nat), x.f0.length ≤ c0 → Kd.C (Kd.int .i64) W A0 x.f0.length x.f0 → x.f1.length ≤ c1 → Kd.C (Kd.int .i64) W A1 x.f1.length x.f1 → Calls Try.prog gf (#[.agg #[.slice A0 x.f0.length c0, .slice A1 x.f1.length c1]] ++ lb) W fun e W' => e = .returned (.bool (p x)) ∧ Below W.heap.size W W') :
    Calls Try.prog 82 #[.slice A xs.length c, .func (.func gf) #[] lb] w fun e w' => e = .returned (.int .i64 (ixOf p xs 0)) ∧ Below w.heap.size w w' := by
  have HR := Aside0.mk hr
  have HP := Aside0.mk hp
  have hbig := hr.2.1
  have hu64 := Try.underlying43
  clear hr hp
  go_enter Try.func82, Try.ntmps82
  go_wp2
  go_loopg [5, 8] xs.length (fun gg _ s8 wr => ∃ kk : Nat, s8 = .int .i64 (kk : Int) ∧ Aside0 (kk + gg = xs.length) ∧ Aside0 (Below w.heap.size w wr) ∧ Aside0 (ixOf p xs 0 = ixOf p (xs.drop kk) (kk : Int)))
  case atStart => exact ⟨0, rfl, ⟨by simp⟩, ⟨Below.refl _ _⟩, ⟨rfl⟩⟩
  case round =>
    obtain ⟨kk, rfl, hg, hb, hx⟩ := hrel
    by_cases hlt : kk < xs.length
    · obtain ⟨ad, A0, c0, A1, c1, e1, x1, x2, hl0, hC0, hl1, hC1⟩ := at_T43 (Kd.C_below HR.out hb.out) (kk : Int) (by omega) (by omega)
      cases e1
      obtain ⟨y, hy⟩ : ∃ y, xs[kk] = y := ⟨_, rfl⟩
      have hrd : rd_T43 xs (kk : Int) = y := by simp [rd_T43, hlt, hy]
      rw [hrd] at x1 x2 hl0 hC0 hl1 hC1
      simp only [Int.toNat_natCast] at x1 x2
      have hcall := HP.out _ hb.out y (by rw [← hy]; exact List.getElem_mem hlt) A0 c0 A1 c1 hl0 hC0 hl1 hC1
      have hx2 := hx.out
      rw [ixOf_drop p xs kk hlt, hy] at hx2
      have HX2 := Aside0.mk hx2
      clear hx2 hx hrd hy hC0 hC1
      have P0 : ((0 : Int) ≤ (kk : Int)) = True := eq_true (by omega)
      have P1 : ((kk : Int) < (xs.length : Int)) = True := eq_true (by omega)
      have P2 : (kk < xs.length) = True := eq_true hlt
      have hd : decide ((kk : Int) < (xs.length : Int)) = true := decide_eq_true (by omega)
      cases hq : p y with
      | true =>
        rw [hq] at hcall
        have hz := HX2.out
        rw [if_pos hq] at hz
        have HZ := Aside0.mk hz
        clear hz
        go_wp2_with fail
        refine hcall.mono ?_
        rintro e w' ⟨rfl, hb'⟩
        go_wp2
        go_ret
        exact ⟨by rw [HZ.out]; rfl, hb.out.trans (hb'.mono hb.out.size)⟩
      | false =>
        rw [hq] at hcall
        have hz := HX2.out
        rw [if_neg (by rw [hq]; decide)] at hz
        have HZ := Aside0.mk hz
        clear hz
        go_wp2_with fail
        refine hcall.mono ?_
        rintro e w' ⟨rfl, hb'⟩
        go_wp2
        go_roundg (xs.length - (kk + 1))
        case measure => have := hg.out; omega
        case rel => exact ⟨kk + 1, by simp, ⟨by omega⟩, ⟨hb.out.trans (hb'.mono hb.out.size)⟩, HZ⟩
    · have hd : decide ((kk : Int) < (xs.length : Int)) = false := decide_eq_false (by omega)
      have hz := hx.out
      rw [List.drop_of_length_le (by omega), ixOf_nil] at hz
      have HZ := Aside0.mk hz
      clear hz hx
      go_wp2
      go_ret
      exact ⟨by rw [HZ.out]; rfl, hb.out⟩
set_option maxRecDepth 100000 in
theorem slices_ContainsFunc_chains.calls (gf : Nat) (lb : Array Value) (eg : ∀ args w, (callFunc gf args).run Try.prog w = .ok (.enter gf args) w) (p : S43 → Bool) (A : Option Addr) (c : Nat) (xs : List S43) (w : World)
    (hr : Kd.C k43 w A xs.length xs) (hp : ∀ W, Below w.heap.size w W → ∀ x ∈ xs, ∀ (A0 : Option Addr) (c0 : Nat) (A1 : Option Addr) (c1 : Nat), x.f0.length ≤ c0 → Kd.C (Kd.int .i64) W A0 x.f0.length x.f0 → x.f1.length ≤ c1 → Kd.C (Kd.int .i64) W A1 x.f1.length x.f1 → Calls Try.prog gf (#[.agg #[.slice A0 x.f0.length c0, .slice A1 x.f1.length c1]] ++ lb) W fun e W' => e = .returned (.bool (p x)) ∧ Below W.heap.size W W') :
    Calls Try.prog 66 #[.slice A xs.length c, .func (.func gf) #[] lb] w fun e w' => e = .returned (.bool (decide (0 ≤ ixOf p xs 0))) ∧ Below w.heap.size w w' := by
  have HC := Aside0.mk (slices_IndexFunc_chains.calls gf lb eg p A c xs w hr hp)
  clear hr hp
  go_enter Try.func66, Try.ntmps66
  go_wp2_with fail
  refine HC.out.mono ?_
  rintro e w' ⟨rfl, hb'⟩
  go_wp2
  go_ret
  exact ⟨by simp, hb'⟩



end Go.Proofs.Ytmihgbjfiigmlaa.P

-- Printed by wip/tools/pp.py of this claim's session (over the kit's print.py); Lean checks it.
namespace Go.Proofs.Ytmihgbjfiigmlaa.P
open Go.RowKit Go.Proofs.YtmihgbjfiigmlaaW.PrintWords Go.Proofs.YtmihgbjfiigmlaaW.PrintLast Go.Proofs.YtmihgbjfiigmlaaW.PrintMore
attribute [local go_sem] max2_int min2_int max_two min_two max_three min_three max_four min_four   -- for this text's walks alone
set_option linter.unusedVariables false
set_option linter.unusedSimpArgs false

-- SOLO
-- IMPORTS Derived.Deep.DeepCutAuto Derived.Laws.EntriesVeiled
/-! ### chain_Refutes: function 41 -/
/-- Is a row empty? -/
def nilL (l : List Int) : Bool := (l.length : Int) == 0
/-- Does a chain give the empty clause? -/
def endsE (x : S43) : Bool := nilL x.f0
def chain_Refutes.f (k : Nat) (a0_0 : Int) (l0_1 : List (List Int)) (l1 : List S43) : Option (Int × Int) :=
  (chain_Check.f k a0_0 l0_1 l1).bind fun s => if s.2 = 0 then
    (if (decide (0 ≤ ixOf nilL l0_1 0)) = true then some (0, 0) else if (decide (0 ≤ ixOf endsE l1 0)) = true then some (0, 0) else some ((l1.length : Int), 24))
   else some s
theorem chain_Refutes.mono : ∀ n l ch k, LeO (chain_Refutes.f k n l ch) (chain_Refutes.f (k + 1) n l ch) := by
  intro n l ch k
  unfold chain_Refutes.f
  exact LeO.bind (chain_Check.mono _ _ _ _) (fun _ => LeO.refl _)
set_option maxRecDepth 100000 in
theorem chain_Refutes_1.calls (A : Option Addr) (c : Nat) (x : List Int) (W : World) (hr : Kd.C (Kd.int .i64) W A x.length x) :
    Calls Try.prog 64 #[.slice A x.length c] W fun e W' => e = .returned (.bool (nilL x)) ∧ W' = W := by
  have hb := hr.2.1
  clear hr
  go_enter Try.func64, Try.ntmps64
  go_wp2
  go_ret
  exact ⟨rfl, rfl⟩
set_option maxRecDepth 100000 in
theorem chain_Refutes_2.calls (x : S43) (A0 : Option Addr) (c0 : Nat) (A1 : Option Addr) (c1 : Nat) (B : Nat) (W : World) (hr0 : Kd.C (Kd.int .i64) W A0 x.f0.length x.f0)
    (hB : W.cell? ⟨B, 0, none⟩ = some (.func (.func 64) #[] #[])) :
    Calls Try.prog 67 #[.agg #[.slice A0 x.f0.length c0, .slice A1 x.f1.length c1], .pointer (some ⟨B, 0, none⟩)] W fun e W' => e = .returned (.bool (endsE x)) ∧ Below W.heap.size W W' := by
  obtain ⟨xf, xl⟩ := x
  dsimp only at hr0 ⊢
  have hu := Try.underlying43
  have hlt := World.block_lt_of_cell? W _ hB
  have hb1 : Below W.heap.size W (W.alloc (.cells #[.slice A0 xf.length c0, .slice A1 xl.length c1] 43)) := below_alloc (Below.refl _ _) _
  have hB2 := (hb1.cell hlt).trans hB
  have HC := Aside0.mk (chain_Refutes_1.calls A0 c0 xf _ (Kd.C_below hr0 hb1))
  have HB := Aside0.mk hb1
  clear hr0 hb1
  go_enter Try.func67, Try.ntmps67
  go_wp2_with fail
  refine HC.out.mono ?_
  rintro e w' ⟨rfl, rfl⟩
  go_wp2
  go_ret
  exact ⟨rfl, HB.out⟩
set_option maxRecDepth 100000 in
set_option maxHeartbeats 4000000 in
theorem chain_Refutes.calls (k : Nat) (a0_0 : Int) (A0_1 : Option Addr) (c0_1 : Nat) (l0_1 : List (List Int)) (A1 : Option Addr) (c1 : Nat) (l1 : List S43) (r1 r2 : Int) (w : World)
    (hr0_1 : Kd.C (Kd.slice 3 (Kd.int .i64)) w A0_1 l0_1.length l0_1) (hc0_1 : l0_1.length ≤ c0_1) (hr1 : Kd.C k43 w A1 l1.length l1) (hc1 : l1.length ≤ c1) (h : chain_Refutes.f k a0_0 l0_1 l1 = some (r1, r2)) :
    Calls Try.prog 41 #[.agg #[.int .i64 a0_0, .slice A0_1 l0_1.length c0_1], .slice A1 l1.length c1] w fun e w' => e = .returned (.tuple #[.int .i64 r1, .int .i64 r2]) ∧ Below w.heap.size w w' := by
  unfold chain_Refutes.f at h
  obtain ⟨⟨b1, b2⟩, hb, h⟩ := Option.bind_eq_some_iff.mp h
  dsimp only at h
  have hbig := hr1.2.1
  have huC := Try.underlying51
  obtain ⟨WA, hWA⟩ : ∃ WA : World, w.alloc (.cells #[.int .i64 a0_0, .slice A0_1 l0_1.length c0_1] 51) = WA := ⟨_, rfl⟩
  obtain ⟨Z, hZ⟩ : ∃ Z : World → Prop, Z = fun W => W.heap[w.heap.size]? = some (.cells #[.int .i64 a0_0, .slice A0_1 l0_1.length c0_1] 51 (0, 0)) ∧ Below w.heap.size w W ∧ w.heap.size < W.heap.size := ⟨_, rfl⟩
  have hZA : Z WA := by
    rw [hZ, ← hWA]
    exact ⟨blk_new w _, below_alloc (Below.refl _ w) _, by simp⟩
  have hzB : ∀ {W : World}, Z W → Below w.heap.size w W := fun h => by rw [hZ] at h; exact h.2.1
  have hzb : ∀ {W W' : World}, Z W → Below W.heap.size W W' → Z W' := fun h hb => by
    rw [hZ] at h ⊢
    exact ⟨blk_below h.1 hb, h.2.1.trans (hb.mono h.2.1.size), Nat.lt_of_lt_of_le h.2.2 hb.size⟩
  have hzc : ∀ {W : World}, Z W → W.cell? ⟨w.heap.size, 0, none⟩ = some (.int .i64 a0_0) ∧ W.cell? ⟨w.heap.size, 1, none⟩ = some (.slice A0_1 l0_1.length c0_1) := fun h => by
    rw [hZ] at h
    exact ⟨blk_cell h.1 0, blk_cell h.1 1⟩
  have HRC := Aside0.mk hr0_1
  have HL := Aside0.mk hr1
  have HR := Aside0.mk (chain_Check.calls k a0_0 A0_1 c0_1 l0_1 A1 c1 l1 b1 b2 WA (Kd.C_below hr0_1 (hzB hZA)) hc0_1 (Kd.C_below hr1 (hzB hZA)) hc1 hb)
  have H := Aside0.mk h
  have HZA := Aside0.mk hZA
  obtain ⟨p0, p1⟩ := hzc hZA
  clear hr0_1 hr1 hb h hZ hZA
  go_enter Try.func41, Try.ntmps41
  go_wp2_with fail
  refine HR.out.mono ?_
  rintro e' w1 ⟨rfl, hb1⟩
  have HZ1 := Aside0.mk (hzb HZA.out hb1)
  clear hWA p0 p1 hb1 HR HZA
  obtain ⟨p0, p1⟩ := hzc HZ1.out
  by_cases e0 : b2 = 0
  · subst e0
    have h := H.out
    rw [if_pos rfl] at h
    clear H
    obtain ⟨W2, hW2⟩ : ∃ W2 : World, w1.alloc (.cells #[.func (.func 64) #[] #[]] 75) = W2 := ⟨_, rfl⟩
    have hk2 : W2.heap[w1.heap.size]? = some (.cells #[.func (.func 64) #[] #[]] 75 (0, 0)) := by rw [← hW2]; exact blk_new w1 _
    have hb2 : Below w1.heap.size w1 W2 := by rw [← hW2]; exact below_alloc (Below.refl _ _) _
    have hz2 := hzb HZ1.out hb2
    have q0 : W2.cell? ⟨w1.heap.size, 0, none⟩ = some (.func (.func 64) #[] #[]) := blk_cell hk2 0
    have HK2 := Aside0.mk hk2
    have HZ2 := Aside0.mk hz2
    clear p0 p1 hk2 hb2 hz2 HZ1
    obtain ⟨p0, p1⟩ := hzc HZ2.out
    have HC := Aside0.mk (slices_ContainsFunc_rows.calls 64 #[] (enters_of Try.func64 (by kernel_rfl) rfl) nilL A0_1 c0_1 l0_1 W2 (Kd.C_below HRC.out (hzB HZ2.out)) (fun W hbW y hy Ay cy hly hCy => (chain_Refutes_1.calls Ay cy y W hCy).mono (fun e W' hh => ⟨hh.1, hh.2 ▸ Below.refl _ _⟩)))
    obtain ⟨q1, hq1⟩ : ∃ q1, decide (0 ≤ ixOf nilL l0_1 0) = q1 := ⟨_, rfl⟩
    rw [hq1] at HC h
    have H := Aside0.mk h
    clear h hq1
    go_wp2_with fail
    refine HC.out.mono ?_
    rintro e' w3 ⟨rfl, hb3⟩
    have HZ3 := Aside0.mk (hzb HZ2.out hb3)
    have HK3 := Aside0.mk (blk_below HK2.out hb3)
    clear p0 p1 q0 hb3 HC HZ2 HK2 hW2
    cases q1 with
    | true =>
      have h := H.out
      rw [if_pos rfl] at h
      simp only [Option.some.injEq, Prod.mk.injEq] at h
      obtain ⟨rfl, rfl⟩ := h
      go_wp2
      go_ret2
      exact ⟨rfl, hzB HZ3.out⟩
    | false =>
      have h := H.out
      rw [if_neg (by decide)] at h
      clear H
      have HC := Aside0.mk (slices_ContainsFunc_chains.calls 67 #[.pointer (some ⟨w1.heap.size, 0, none⟩)] (enters_of Try.func67 (by kernel_rfl) rfl) endsE A1 c1 l1 w3 (Kd.C_below HL.out (hzB HZ3.out)) (fun W hbW y hy Ay0 cy0 Ay cy hly0 hCy0 hly hCy => chain_Refutes_2.calls y Ay0 cy0 Ay cy w1.heap.size W hCy0 (by have := blk_cell (blk_below HK3.out hbW) 0; exact this)))
      obtain ⟨q2, hq2⟩ : ∃ q2, decide (0 ≤ ixOf endsE l1 0) = q2 := ⟨_, rfl⟩
      rw [hq2] at HC h
      have H := Aside0.mk h
      clear h hq2
      go_wp2_with fail
      refine HC.out.mono ?_
      rintro e' w4 ⟨rfl, hb4⟩
      have HZ4 := Aside0.mk (hzb HZ3.out hb4)
      clear hb4 HC HZ3
      cases q2 with
      | true =>
        have h := H.out
        rw [if_pos rfl] at h
        simp only [Option.some.injEq, Prod.mk.injEq] at h
        obtain ⟨rfl, rfl⟩ := h
        go_wp2
        go_ret2
        exact ⟨rfl, hzB HZ4.out⟩
      | false =>
        have h := H.out
        rw [if_neg (by decide)] at h
        simp only [Option.some.injEq, Prod.mk.injEq] at h
        obtain ⟨rfl, rfl⟩ := h
        go_wp2
        go_ret2
        exact ⟨rfl, hzB HZ4.out⟩
  · have h := H.out
    rw [if_neg e0] at h
    simp only [Option.some.injEq, Prod.mk.injEq] at h
    obtain ⟨rfl, rfl⟩ := h
    have c1' : (b2 != 0) = true := by simpa using e0
    have c2' : (b2 == 0) = false := by simpa using e0
    clear e0
    go_wp2
    go_ret2
    exact ⟨rfl, hzB HZ1.out⟩


end Go.Proofs.Ytmihgbjfiigmlaa.P

-- Printed by wip/tools/pp.py of this claim's session (over the kit's print.py); Lean checks it.
namespace Go.Proofs.Ytmihgbjfiigmlaa.P
open Go.RowKit Go.Proofs.YtmihgbjfiigmlaaW.PrintWords Go.Proofs.YtmihgbjfiigmlaaW.PrintLast Go.Proofs.YtmihgbjfiigmlaaW.PrintMore
attribute [local go_sem] max2_int min2_int max_two min_two max_three min_three max_four min_four   -- for this text's walks alone
set_option linter.unusedVariables false
set_option linter.unusedSimpArgs false

/-! ### sequiturref17_Of: function 33 -/
def sequiturref17_Of.f (a0 : Int) : Option (Int) := if a0 < 0 then (some (wrap64 (-a0))) else (some a0)
set_option maxHeartbeats 8000000 in
set_option maxRecDepth 100000 in
theorem sequiturref17_Of.calls (a0 : Int) (r : Int) (w : World) (h : sequiturref17_Of.f a0 = some r) :
    Calls Try.prog 33 #[.int .i64 a0] w fun e w' => e = .returned (.int .i64 r) ∧ Drawn0 w w' := by
  have H : (if a0 < 0 then (some (wrap64 (-a0))) else (some a0)) = some r := h
  clear h
  by_cases c2 : a0 < 0
  · rw [if_pos c2] at H
    have c2b0 : decide (a0 < 0) = true := decide_eq_true c2
    clear c2
    as_aux_lemma =>
      obtain rfl := Option.some.inj H
      go_enter Try.func33, Try.ntmps33
      go_wp2
      go_ret
      exact ⟨by first | rfl | (simp; done) | (simp [*]; done), by repeat (first | exact Drawn0.refl _ | apply Drawn0.step)⟩
  · rw [if_neg c2] at H
    have c2b0 : decide (a0 < 0) = false := decide_eq_false c2
    clear c2
    as_aux_lemma =>
      obtain rfl := Option.some.inj H
      go_enter Try.func33, Try.ntmps33
      go_wp2
      go_ret
      exact ⟨by first | rfl | (simp; done) | (simp [*]; done), by repeat (first | exact Drawn0.refl _ | apply Drawn0.step)⟩

end Go.Proofs.Ytmihgbjfiigmlaa.P

-- Printed by wip/tools/pp.py of this claim's session (over the kit's print.py); Lean checks it.
namespace Go.Proofs.Ytmihgbjfiigmlaa.P
open Go.RowKit Go.Proofs.YtmihgbjfiigmlaaW.PrintWords Go.Proofs.YtmihgbjfiigmlaaW.PrintLast Go.Proofs.YtmihgbjfiigmlaaW.PrintMore
attribute [local go_sem] max2_int min2_int max_two min_two max_three min_three max_four min_four   -- for this text's walks alone
set_option linter.unusedVariables false
set_option linter.unusedSimpArgs false

/-! ### sequiturref17_is: function 57 -/
def sequiturref17_is.f (a0 : Int) : Option (Bool) := if a0 = 0 then (some false) else (some (a0 != (-9223372036854775808)))
set_option maxHeartbeats 8000000 in
set_option maxRecDepth 100000 in
theorem sequiturref17_is.calls (a0 : Int) (r : Bool) (w : World) (h : sequiturref17_is.f a0 = some r) :
    Calls Try.prog 57 #[.int .i64 a0] w fun e w' => e = .returned (.bool r) ∧ Drawn0 w w' := by
  have H : (if a0 = 0 then (some false) else (some (a0 != (-9223372036854775808)))) = some r := h
  clear h
  by_cases c2 : a0 = 0
  · rw [if_pos c2] at H
    have c2b0 : (a0 == 0) = true := beq_iff_eq.mpr c2
    have c2b1 : (a0 != 0) = false := bne_eq_false_iff_eq.mpr c2
    clear c2
    as_aux_lemma =>
      obtain rfl := Option.some.inj H
      go_enter Try.func57, Try.ntmps57
      go_wp2
      go_ret
      exact ⟨by first | rfl | (simp; done) | (simp [*]; done), by repeat (first | exact Drawn0.refl _ | apply Drawn0.step)⟩
  · rw [if_neg c2] at H
    have c2b0 : (a0 == 0) = false := beq_eq_false_iff_ne.mpr c2
    have c2b1 : (a0 != 0) = true := bne_iff_ne.mpr c2
    as_aux_lemma =>
      obtain rfl := Option.some.inj H
      go_enter Try.func57, Try.ntmps57
      go_wp2
      go_ret
      exact ⟨by first | rfl | (simp; done) | (simp [*]; done), by repeat (first | exact Drawn0.refl _ | apply Drawn0.step)⟩

end Go.Proofs.Ytmihgbjfiigmlaa.P

-- Printed by wip/tools/pp.py of this claim's session (over the kit's print.py); Lean checks it.
namespace Go.Proofs.Ytmihgbjfiigmlaa.P
open Go.RowKit Go.Proofs.YtmihgbjfiigmlaaW.PrintWords Go.Proofs.YtmihgbjfiigmlaaW.PrintLast Go.Proofs.YtmihgbjfiigmlaaW.PrintMore
attribute [local go_sem] max2_int min2_int max_two min_two max_three min_three max_four min_four   -- for this text's walks alone
set_option linter.unusedVariables false
set_option linter.unusedSimpArgs false

/-! ### sequiturref17_Has: function 29 -/
def sequiturref17_Has.l0 : Nat → List Int → Int → Int → Option (Bool)
  | 0, _, _, _ => none
  | k + 1, x0, x1, x5 => if x5 < (x0.length : Int) then ((sequiturref17_is.f x1).bind fun t188 => (if t188 = true then (if 0 ≤ x5 then (if (rd x0 x5) = x1 then (some true) else (sequiturref17_Has.l0 k x0 x1 (wrap64 (x5 + 1)))) else (none)) else (sequiturref17_Has.l0 k x0 x1 (wrap64 (x5 + 1))))) else (some false)
def sequiturref17_Has.f (k : Nat) (l0 : List Int) (a1 : Int) : Option (Bool) := sequiturref17_Has.l0 k l0 a1 0
theorem sequiturref17_Has.mono_l : ∀ k, (∀ y0 y1 y2, LeO (sequiturref17_Has.l0 k y0 y1 y2) (sequiturref17_Has.l0 (k + 1) y0 y1 y2))
  | 0 => fun _ _ _ r h => by simp [sequiturref17_Has.l0] at h
  | k + 1 => by
    have ih0 := sequiturref17_Has.mono_l k
    · intro y0 y1 y2
      unfold sequiturref17_Has.l0
      repeat' first
      | (with_reducible exact ih0 _ _ _)
      | (with_reducible exact LeO.refl _)
      | (with_reducible exact LeO.none _)
      | (with_reducible refine LeO.ite ?_ ?_)
      | (with_reducible refine LeO.bind ?_ (fun _ => ?_))
      | exact ih0 _ _ _
      | exact LeO.none _
      | refine LeO.ite ?_ ?_
      | refine LeO.bind ?_ (fun _ => ?_)
theorem sequiturref17_Has.mono : ∀ a0 a1 k, LeO (sequiturref17_Has.f k a0 a1) (sequiturref17_Has.f (k + 1) a0 a1) := by
  intro a0 a1 k
  have ih0 := sequiturref17_Has.mono_l k
  unfold sequiturref17_Has.f
  repeat' first
      | (with_reducible exact ih0 _ _ _)
      | (with_reducible exact LeO.refl _)
      | (with_reducible exact LeO.none _)
      | (with_reducible refine LeO.ite ?_ ?_)
      | (with_reducible refine LeO.bind ?_ (fun _ => ?_))
      | exact ih0 _ _ _
      | exact LeO.none _
      | refine LeO.ite ?_ ?_
      | refine LeO.bind ?_ (fun _ => ?_)
set_option maxHeartbeats 8000000 in
set_option maxRecDepth 100000 in
theorem sequiturref17_Has.calls (k : Nat) (A0 : Option Addr) (c0 : Nat) (l0 : List Int) (a1 : Int) (r : Bool) (w : World) (hr0 : Kd.C (Kd.int .i64) w A0 l0.length l0) (hc0 : l0.length ≤ c0) (h : sequiturref17_Has.f k l0 a1 = some r) :
    Calls Try.prog 29 #[.slice A0 l0.length c0, .int .i64 a1] w fun e w' => e = .returned (.bool r) ∧ Drawn0 w w' := by
  have HR0 := Aside0.mk hr0
  have HC0 := Aside0.mk hc0
  clear hr0 hc0
  have H : (sequiturref17_Has.l0 k l0 a1 0) = some r := h
  clear h
  have H' := Aside0.mk H
  clear H
  go_enter Try.func29, Try.ntmps29
  go_wp2
  go_loopg [5] k (fun kq v5 w' => ∃ (x5_1 : Int), v5 = .int .i64 x5_1 ∧ Aside0 (sequiturref17_Has.l0 kq l0 a1 x5_1 = some r) ∧ Aside0 (kq ≤ k) ∧ Drawn0 w w')
  case atStart => exact ⟨(0), (by first | rfl | (simp; done) | (simp [*]; done)), H', ⟨Nat.le_refl _⟩, by repeat (first | exact Drawn0.refl _ | apply Drawn0.step)⟩
  case round =>
    clear H'
    try clear c2
    try clear p2
    obtain ⟨x5_1, rfl, HA, HK1, ⟨m1, rfl⟩⟩ := hrel
    cases gk with
    | zero => exact absurd HA.out (by simp [sequiturref17_Has.l0])
    | succ k1 =>
      have H := HA.out
      clear HA
      simp only [sequiturref17_Has.l0] at H
      by_cases c3 : x5_1 < (l0.length : Int)
      · rw [if_pos c3] at H
        have c3b0 : decide (x5_1 < (l0.length : Int)) = true := decide_eq_true c3
        clear c3
        replace H := Option.bind_eq_some_iff.mp H
        obtain ⟨t188, A40, H⟩ := H
        replace H : (if t188 = true then (if 0 ≤ x5_1 then (if (rd l0 x5_1) = a1 then (some true) else (sequiturref17_Has.l0 k1 l0 a1 (wrap64 (x5_1 + 1)))) else (none)) else (sequiturref17_Has.l0 k1 l0 a1 (wrap64 (x5_1 + 1)))) = some r := H
        have A4 := Aside0.mk A40
        clear A40
        by_cases c5 : t188 = true
        · subst c5
          have H1 : (if 0 ≤ x5_1 then (if (rd l0 x5_1) = a1 then (some true) else (sequiturref17_Has.l0 k1 l0 a1 (wrap64 (x5_1 + 1)))) else (none)) = some r := by rw [if_pos rfl] at H; exact H
          clear H
          have H := H1
          clear H1
          by_cases c6 : 0 ≤ x5_1
          · rw [if_pos c6] at H
            have c6b0 : decide (0 ≤ x5_1) = true := decide_eq_true c6
            clear c6
            by_cases c7 : (rd l0 x5_1) = a1
            · rw [if_pos c7] at H
              have c7b0 : ((rd l0 x5_1) == a1) = true := beq_iff_eq.mpr c7
              have c7b1 : ((rd l0 x5_1) != a1) = false := bne_eq_false_iff_eq.mpr c7
              clear c7
              as_aux_lemma =>
                obtain rfl := Option.some.inj H
                go_wp2_with (first | ((with_reducible refine gate_callee (f := 57) rfl ?_); refine goesL_ (some 13) rfl rfl Try.func57 (by kernel_rfl) rfl #[.int .i64 a1] rfl (by (try simp only [List.map_toArray, List.map_cons, List.map_nil]); first | done | rfl | (simp only [List.length_drop, List.length_take]; rfl)) ?_; (with_reducible refine (sequiturref17_is.calls a1 true _ A4.out).mono ?_); rintro e w' ⟨rfl, ⟨nd, rfl⟩⟩; refine ⟨_, rfl, ?_⟩; have p189 : 0 ≤ (x5_1 : Int) := of_decide_eq_true (by first | (with_reducible assumption) | assumption); have q189 : x5_1 < (l0.length : Int) := of_decide_eq_true (by first | (with_reducible assumption) | assumption); obtain ⟨ad189, e189, hx189_0⟩ := Kd.at_int HR0.out x5_1 p189 q189; cases e189; replace p189 := eq_true p189; replace q189 := eq_true q189))
                go_ret
                exact ⟨by first | rfl | (simp; done) | (simp [*]; done), by repeat (first | exact Drawn0.refl _ | apply Drawn0.step)⟩
            · rw [if_neg c7] at H
              have c7b0 : ((rd l0 x5_1) == a1) = false := beq_eq_false_iff_ne.mpr c7
              have c7b1 : ((rd l0 x5_1) != a1) = true := bne_iff_ne.mpr c7
              as_aux_lemma =>
                have H' := Aside0.mk H
                clear H
                go_wp2_with (first | ((with_reducible refine gate_callee (f := 57) rfl ?_); refine goesL_ (some 13) rfl rfl Try.func57 (by kernel_rfl) rfl #[.int .i64 a1] rfl (by (try simp only [List.map_toArray, List.map_cons, List.map_nil]); first | done | rfl | (simp only [List.length_drop, List.length_take]; rfl)) ?_; (with_reducible refine (sequiturref17_is.calls a1 true _ A4.out).mono ?_); rintro e w' ⟨rfl, ⟨nd, rfl⟩⟩; refine ⟨_, rfl, ?_⟩; have p189 : 0 ≤ (x5_1 : Int) := of_decide_eq_true (by first | (with_reducible assumption) | assumption); have q189 : x5_1 < (l0.length : Int) := of_decide_eq_true (by first | (with_reducible assumption) | assumption); obtain ⟨ad189, e189, hx189_0⟩ := Kd.at_int HR0.out x5_1 p189 q189; cases e189; replace p189 := eq_true p189; replace q189 := eq_true q189))
                go_roundg k1
                case measure => have := HK1.out; omega
                case rel => exact ⟨(wrap64 (x5_1 + 1)), (by first | rfl | (simp; done) | (simp [*]; done)), H', ⟨by have := HK1.out; omega⟩, by repeat (first | exact Drawn0.refl _ | apply Drawn0.step)⟩
          · rw [if_neg c6] at H
            exact absurd H (by simp)
        · replace c5 := Bool.eq_false_iff.mpr c5
          subst c5
          have H1 : (sequiturref17_Has.l0 k1 l0 a1 (wrap64 (x5_1 + 1))) = some r := by rw [if_neg (show ¬ (false = true) by decide)] at H; exact H
          clear H
          have H := H1
          clear H1
          as_aux_lemma =>
            have H' := Aside0.mk H
            clear H
            go_wp2_with (first | ((with_reducible refine gate_callee (f := 57) rfl ?_); refine goesL_ (some 13) rfl rfl Try.func57 (by kernel_rfl) rfl #[.int .i64 a1] rfl (by (try simp only [List.map_toArray, List.map_cons, List.map_nil]); first | done | rfl | (simp only [List.length_drop, List.length_take]; rfl)) ?_; (with_reducible refine (sequiturref17_is.calls a1 false _ A4.out).mono ?_); rintro e w' ⟨rfl, ⟨nd, rfl⟩⟩; refine ⟨_, rfl, ?_⟩))
            go_roundg k1
            case measure => have := HK1.out; omega
            case rel => exact ⟨(wrap64 (x5_1 + 1)), (by first | rfl | (simp; done) | (simp [*]; done)), H', ⟨by have := HK1.out; omega⟩, by repeat (first | exact Drawn0.refl _ | apply Drawn0.step)⟩
      · rw [if_neg c3] at H
        have c3b0 : decide (x5_1 < (l0.length : Int)) = false := decide_eq_false c3
        clear c3
        as_aux_lemma =>
          obtain rfl := Option.some.inj H
          go_wp2
          go_ret
          exact ⟨by first | rfl | (simp; done) | (simp [*]; done), by repeat (first | exact Drawn0.refl _ | apply Drawn0.step)⟩

end Go.Proofs.Ytmihgbjfiigmlaa.P

-- Printed by wip/tools/pp.py of this claim's session (over the kit's print.py); Lean checks it.
namespace Go.Proofs.Ytmihgbjfiigmlaa.P
open Go.RowKit Go.Proofs.YtmihgbjfiigmlaaW.PrintWords Go.Proofs.YtmihgbjfiigmlaaW.PrintLast Go.Proofs.YtmihgbjfiigmlaaW.PrintMore
attribute [local go_sem] max2_int min2_int max_two min_two max_three min_three max_four min_four   -- for this text's walks alone
set_option linter.unusedVariables false
set_option linter.unusedSimpArgs false

/-! ### sequiturref17_ahead: function 58 -/
def sequiturref17_ahead.f (a0 : Int) (a1 : Int) : Option (Bool) := (sequiturref17_Of.f a0).bind fun t190 => ((sequiturref17_Of.f a1).bind fun t191 => (if t190 < t191 then (some true) else ((sequiturref17_Of.f a0).bind fun t192 => ((sequiturref17_Of.f a1).bind fun t193 => (if t192 = t193 then (some (decide (a0 < a1))) else (some false))))))
set_option maxHeartbeats 8000000 in
set_option maxRecDepth 100000 in
theorem sequiturref17_ahead.calls (a0 : Int) (a1 : Int) (r : Bool) (w : World) (h : sequiturref17_ahead.f a0 a1 = some r) :
    Calls Try.prog 58 #[.int .i64 a0, .int .i64 a1] w fun e w' => e = .returned (.bool r) ∧ Drawn0 w w' := by
  have H : ((sequiturref17_Of.f a0).bind fun t190 => ((sequiturref17_Of.f a1).bind fun t191 => (if t190 < t191 then (some true) else ((sequiturref17_Of.f a0).bind fun t192 => ((sequiturref17_Of.f a1).bind fun t193 => (if t192 = t193 then (some (decide (a0 < a1))) else (some false))))))) = some r := h
  clear h
  replace H := Option.bind_eq_some_iff.mp H
  obtain ⟨t190, A30, H⟩ := H
  replace H : ((sequiturref17_Of.f a1).bind fun t191 => (if t190 < t191 then (some true) else ((sequiturref17_Of.f a0).bind fun t192 => ((sequiturref17_Of.f a1).bind fun t193 => (if t192 = t193 then (some (decide (a0 < a1))) else (some false)))))) = some r := H
  have A3 := Aside0.mk A30
  clear A30
  replace H := Option.bind_eq_some_iff.mp H
  obtain ⟨t191, A40, H⟩ := H
  replace H : (if t190 < t191 then (some true) else ((sequiturref17_Of.f a0).bind fun t192 => ((sequiturref17_Of.f a1).bind fun t193 => (if t192 = t193 then (some (decide (a0 < a1))) else (some false))))) = some r := H
  have A4 := Aside0.mk A40
  clear A40
  by_cases c5 : t190 < t191
  · rw [if_pos c5] at H
    have c5b0 : decide (t190 < t191) = true := decide_eq_true c5
    clear c5
    as_aux_lemma =>
      obtain rfl := Option.some.inj H
      go_enter Try.func58, Try.ntmps58
      go_wp2_with (first | ((with_reducible refine gate_callee (f := 33) rfl ?_); refine goesL_ (some 6) rfl rfl Try.func33 (by kernel_rfl) rfl #[.int .i64 a0] rfl (by (try simp only [List.map_toArray, List.map_cons, List.map_nil]); first | done | rfl | (simp only [List.length_drop, List.length_take]; rfl)) ?_; (with_reducible refine (sequiturref17_Of.calls a0 t190 _ A3.out).mono ?_); rintro e w' ⟨rfl, ⟨nd, rfl⟩⟩; refine ⟨_, rfl, ?_⟩) | ((with_reducible refine gate_callee (f := 33) rfl ?_); refine goesL_ (some 8) rfl rfl Try.func33 (by kernel_rfl) rfl #[.int .i64 a1] rfl (by (try simp only [List.map_toArray, List.map_cons, List.map_nil]); first | done | rfl | (simp only [List.length_drop, List.length_take]; rfl)) ?_; (with_reducible refine (sequiturref17_Of.calls a1 t191 _ A4.out).mono ?_); rintro e w' ⟨rfl, ⟨nd, rfl⟩⟩; refine ⟨_, rfl, ?_⟩))
      go_ret
      exact ⟨by first | rfl | (simp; done) | (simp [*]; done), by repeat (first | exact Drawn0.refl _ | apply Drawn0.step)⟩
  · rw [if_neg c5] at H
    have c5b0 : decide (t190 < t191) = false := decide_eq_false c5
    clear c5
    replace H := Option.bind_eq_some_iff.mp H
    obtain ⟨t192, A60, H⟩ := H
    replace H : ((sequiturref17_Of.f a1).bind fun t193 => (if t192 = t193 then (some (decide (a0 < a1))) else (some false))) = some r := H
    have A6 := Aside0.mk A60
    clear A60
    replace H := Option.bind_eq_some_iff.mp H
    obtain ⟨t193, A70, H⟩ := H
    replace H : (if t192 = t193 then (some (decide (a0 < a1))) else (some false)) = some r := H
    have A7 := Aside0.mk A70
    clear A70
    by_cases c8 : t192 = t193
    · rw [if_pos c8] at H
      have c8b0 : (t192 == t193) = true := beq_iff_eq.mpr c8
      have c8b1 : (t192 != t193) = false := bne_eq_false_iff_eq.mpr c8
      clear c8
      as_aux_lemma =>
        obtain rfl := Option.some.inj H
        go_enter Try.func58, Try.ntmps58
        go_wp2_with (first | ((with_reducible refine gate_callee (f := 33) rfl ?_); refine goesL_ (some 6) rfl rfl Try.func33 (by kernel_rfl) rfl #[.int .i64 a0] rfl (by (try simp only [List.map_toArray, List.map_cons, List.map_nil]); first | done | rfl | (simp only [List.length_drop, List.length_take]; rfl)) ?_; (with_reducible refine (sequiturref17_Of.calls a0 t190 _ A3.out).mono ?_); rintro e w' ⟨rfl, ⟨nd, rfl⟩⟩; refine ⟨_, rfl, ?_⟩) | ((with_reducible refine gate_callee (f := 33) rfl ?_); refine goesL_ (some 8) rfl rfl Try.func33 (by kernel_rfl) rfl #[.int .i64 a1] rfl (by (try simp only [List.map_toArray, List.map_cons, List.map_nil]); first | done | rfl | (simp only [List.length_drop, List.length_take]; rfl)) ?_; (with_reducible refine (sequiturref17_Of.calls a1 t191 _ A4.out).mono ?_); rintro e w' ⟨rfl, ⟨nd, rfl⟩⟩; refine ⟨_, rfl, ?_⟩) | (go_at_call 33; (with_reducible refine (sequiturref17_Of.calls a0 t192 _ A6.out).mono ?_); rintro e w' ⟨rfl, ⟨nd, rfl⟩⟩) | (go_at_call 33; (with_reducible refine (sequiturref17_Of.calls a1 t193 _ A7.out).mono ?_); rintro e w' ⟨rfl, ⟨nd, rfl⟩⟩))
        go_ret
        exact ⟨by first | rfl | (simp; done) | (simp [*]; done), by repeat (first | exact Drawn0.refl _ | apply Drawn0.step)⟩
    · rw [if_neg c8] at H
      have c8b0 : (t192 == t193) = false := beq_eq_false_iff_ne.mpr c8
      have c8b1 : (t192 != t193) = true := bne_iff_ne.mpr c8
      as_aux_lemma =>
        obtain rfl := Option.some.inj H
        go_enter Try.func58, Try.ntmps58
        go_wp2_with (first | ((with_reducible refine gate_callee (f := 33) rfl ?_); refine goesL_ (some 6) rfl rfl Try.func33 (by kernel_rfl) rfl #[.int .i64 a0] rfl (by (try simp only [List.map_toArray, List.map_cons, List.map_nil]); first | done | rfl | (simp only [List.length_drop, List.length_take]; rfl)) ?_; (with_reducible refine (sequiturref17_Of.calls a0 t190 _ A3.out).mono ?_); rintro e w' ⟨rfl, ⟨nd, rfl⟩⟩; refine ⟨_, rfl, ?_⟩) | ((with_reducible refine gate_callee (f := 33) rfl ?_); refine goesL_ (some 8) rfl rfl Try.func33 (by kernel_rfl) rfl #[.int .i64 a1] rfl (by (try simp only [List.map_toArray, List.map_cons, List.map_nil]); first | done | rfl | (simp only [List.length_drop, List.length_take]; rfl)) ?_; (with_reducible refine (sequiturref17_Of.calls a1 t191 _ A4.out).mono ?_); rintro e w' ⟨rfl, ⟨nd, rfl⟩⟩; refine ⟨_, rfl, ?_⟩) | (go_at_call 33; (with_reducible refine (sequiturref17_Of.calls a0 t192 _ A6.out).mono ?_); rintro e w' ⟨rfl, ⟨nd, rfl⟩⟩) | (go_at_call 33; (with_reducible refine (sequiturref17_Of.calls a1 t193 _ A7.out).mono ?_); rintro e w' ⟨rfl, ⟨nd, rfl⟩⟩))
        go_ret
        exact ⟨by first | rfl | (simp; done) | (simp [*]; done), by repeat (first | exact Drawn0.refl _ | apply Drawn0.step)⟩

end Go.Proofs.Ytmihgbjfiigmlaa.P
