import Derived.Lib.SliceRun
import Derived.Deep.RegionLaw
import Derived.Shelf.RegionOpenPlain
import Derived.StillTailTactics
import Derived.Test.YtaibnbhgjnddnaaKSolveOnce1
-- Printed by wip/tools/pp.py of this claim's session (over the kit's print.py); Lean checks it.
namespace Go.Proofs.Ytaibnbhgjnddnaa.P
open Go.RowKit Go.Proofs.YtaibnbhgjnddnaaW.PrintWords Go.Proofs.YtaibnbhgjnddnaaW.PrintLast Go.Proofs.YtaibnbhgjnddnaaW.PrintMore
attribute [local go_sem] max2_int min2_int max_two min_two max_three min_three max_four min_four   -- for this text's walks alone
set_option linter.unusedVariables false
set_option linter.unusedSimpArgs false

-- SOLO
-- IMPORTS Derived.Lib.SliceRun Derived.Deep.RegionLaw Derived.Shelf.RegionOpenPlain
/-! ### AUX slicesCloneRows -/
set_option maxRecDepth 100000 in
set_option maxHeartbeats 2000000 in
theorem slices_Clone_rows.calls (A : Option Addr) (c : Nat) (xs : List Hd) (w : World) (hr : Kd.C kH w A xs.length xs) (hc : xs.length ≤ c) (hl : xs.length < 5864062014805) :
    Calls Try.prog 26 #[.slice A xs.length c] w fun e w' => ∃ v', e = .returned v' ∧ Kd.R kH 25 w' w.heap.size (fun _ => True) v' xs ∧ Below w.heap.size w w' := by
  have HR := Aside0.mk hr
  have HL := Aside0.mk hl
  cases A with
  | none =>
    have h0 : xs = [] := by
      rcases Nat.eq_zero_or_pos xs.length with h | h
      · exact List.eq_nil_of_length_eq_zero h
      · obtain ⟨ad, e, _⟩ := hr.2.2 h
        cases e
    subst h0
    clear hr hl
    have hq := fun W : World => Lib.run_eql_slice_nil (P := Try.prog) W 22 25 none 0 c 0 0 Try.underlying22
    simp only [Option.isNone_none] at hq
    go_enter Try.func26, Try.ntmps26
    go_wp2
    go_ret
    exact ⟨_, rfl, Kd.R_nil _ _ _ _ _, Below.refl _ _⟩
  | some a =>
    clear hr hl
    have hE : Kd.R kH 25 (w.alloc (.cells #[] 25)) w.heap.size (fun _ => True) (.slice (some ⟨w.heap.size, 0, none⟩) 0 0) ([] : List Hd) := Kd.R_of_own (by have := own_lit w w.heap.size 25 .i64 [] (Nat.le_refl _) (by simp); simpa [encs, nums] using this) (fun _ _ => trivial)
    have HE := Aside0.mk hE
    clear hE
    have hq := fun W : World => Lib.run_eql_slice_nil (P := Try.prog) W 22 25 (some a) xs.length c 0 0 Try.underlying22
    simp only [Option.isNone_some] at hq
    go_enter Try.func26, Try.ntmps26
    go_wp2_with (at_builtin; refine Kd.R_append_row hdv ((none, 0, 0) : Hd) (w0 := w) (W := w.alloc (.cells #[] 25)) w.heap.size rfl (.tmp 5) (.tmp 6) 22 25 (.slice none 0 0) 24 rfl Try.underlying22 (by kernel_rfl) rfl (by decide) _ [] xs _ _ _ (fun _ => True) rfl rfl (fun _ _ => trivial) HE.out (Kd.C_below HR.out (below_alloc (Below.refl _ _) _)) (below_alloc (Below.refl _ _) _) (by simp) (by have := HL.out; simp; omega) ?_; intro v1 w1 r1 hb1 hg1 hat1)
    go_ret
    exact ⟨_, rfl, (by have h := r1; rw [List.nil_append] at h; exact h), hb1⟩


end Go.Proofs.Ytaibnbhgjnddnaa.P

-- Printed by wip/tools/pp.py of this claim's session (over the kit's print.py); Lean checks it.
namespace Go.Proofs.Ytaibnbhgjnddnaa.P
open Go.RowKit Go.Proofs.YtaibnbhgjnddnaaW.PrintWords Go.Proofs.YtaibnbhgjnddnaaW.PrintLast Go.Proofs.YtaibnbhgjnddnaaW.PrintMore
attribute [local go_sem] max2_int min2_int max_two min_two max_three min_three max_four min_four   -- for this text's walks alone
set_option linter.unusedVariables false
set_option linter.unusedSimpArgs false

/-! ### lit_is: function 33 -/
def lit_is.f (a0 : Int) : Option (Bool) := if a0 = 0 then (some false) else (some (a0 != (-9223372036854775808)))
set_option maxHeartbeats 8000000 in
set_option maxRecDepth 100000 in
theorem lit_is.calls (a0 : Int) (r : Bool) (w : World) (h : lit_is.f a0 = some r) :
    Calls Try.prog 33 #[.int .i64 a0] w fun e w' => e = .returned (.bool r) ∧ Drawn0 w w' := by
  have H : (if a0 = 0 then (some false) else (some (a0 != (-9223372036854775808)))) = some r := h
  clear h
  by_cases c2 : a0 = 0
  · rw [if_pos c2] at H
    have c2b0 : (a0 == 0) = true := beq_iff_eq.mpr c2
    have c2b1 : (a0 != 0) = false := bne_eq_false_iff_eq.mpr c2
    clear c2
    as_aux_lemma =>
      obtain rfl := Option.some.inj H
      go_enter Try.func33, Try.ntmps33
      go_wp2
      go_ret
      exact ⟨by first | rfl | (simp; done) | (simp [*]; done), by repeat (first | exact Drawn0.refl _ | apply Drawn0.step)⟩
  · rw [if_neg c2] at H
    have c2b0 : (a0 == 0) = false := beq_eq_false_iff_ne.mpr c2
    have c2b1 : (a0 != 0) = true := bne_iff_ne.mpr c2
    as_aux_lemma =>
      obtain rfl := Option.some.inj H
      go_enter Try.func33, Try.ntmps33
      go_wp2
      go_ret
      exact ⟨by first | rfl | (simp; done) | (simp [*]; done), by repeat (first | exact Drawn0.refl _ | apply Drawn0.step)⟩

end Go.Proofs.Ytaibnbhgjnddnaa.P

-- Printed by wip/tools/pp.py of this claim's session (over the kit's print.py); Lean checks it.
namespace Go.Proofs.Ytaibnbhgjnddnaa.P
open Go.RowKit Go.Proofs.YtaibnbhgjnddnaaW.PrintWords Go.Proofs.YtaibnbhgjnddnaaW.PrintLast Go.Proofs.YtaibnbhgjnddnaaW.PrintMore
attribute [local go_sem] max2_int min2_int max_two min_two max_three min_three max_four min_four   -- for this text's walks alone
set_option linter.unusedVariables false
set_option linter.unusedSimpArgs false

-- SOLO
-- IMPORTS 
/-! ### lit_variable: function 34 -/
def lit_variable.f (a0 : Int) : Option (Int) := some (mx a0 (wrap64 (-a0)))
set_option maxHeartbeats 8000000 in
set_option maxRecDepth 100000 in
theorem lit_variable.calls (a0 : Int) (r : Int) (w : World) (h : lit_variable.f a0 = some r) :
    Calls Try.prog 34 #[.int .i64 a0] w fun e w' => e = .returned (.int .i64 r) ∧ Drawn0 w w' := by
  obtain rfl := Option.some.inj h
  clear h
  go_enter Try.func34, Try.ntmps34
  go_wp2
  · have h : a0 < wrap64 (-a0) := by assumption
    rw [show mx a0 (wrap64 (-a0)) = wrap64 (-a0) from if_pos h]
    go_ret
    exact ⟨rfl, Drawn0.refl _⟩
  · have h : wrap64 (-a0) ≤ a0 := by assumption
    rw [show mx a0 (wrap64 (-a0)) = a0 from if_neg (by omega)]
    go_ret
    exact ⟨rfl, Drawn0.refl _⟩


end Go.Proofs.Ytaibnbhgjnddnaa.P

-- Printed by wip/tools/pp.py of this claim's session (over the kit's print.py); Lean checks it.
namespace Go.Proofs.Ytaibnbhgjnddnaa.P
open Go.RowKit Go.Proofs.YtaibnbhgjnddnaaW.PrintWords Go.Proofs.YtaibnbhgjnddnaaW.PrintLast Go.Proofs.YtaibnbhgjnddnaaW.PrintMore
attribute [local go_sem] max2_int min2_int max_two min_two max_three min_three max_four min_four   -- for this text's walks alone
set_option linter.unusedVariables false
set_option linter.unusedSimpArgs false

/-! ### lit_Right: function 24 -/
def lit_Right.l0 : Nat → Int → List Int → Int → Int → Option (Int)
  | 0, _, _, _, _ => none
  | k + 1, x1, x10, x11, x12 => if x12 < x11 then (if 0 ≤ x12 then (if x12 < (x10.length : Int) then ((lit_is.f (rd x10 x12)).bind fun t112 => (if t112 = true then ((lit_variable.f (rd x10 x12)).bind fun t113 => (if t113 > x1 then (some 1) else (lit_Right.l0 k x1 x10 x11 (wrap64 (x12 + 1))))) else (some 1))) else (none)) else (none)) else (some 0)
def lit_Right.f (k : Nat) (l0 : List Int) (a1 : Int) : Option (Int) := if (l0.length : Int) > 64 then (some 2) else (lit_Right.l0 k a1 l0 (l0.length : Int) 0)
theorem lit_Right.mono_l : ∀ k, (∀ y0 y1 y2 y3, LeO (lit_Right.l0 k y0 y1 y2 y3) (lit_Right.l0 (k + 1) y0 y1 y2 y3))
  | 0 => fun _ _ _ _ r h => by simp [lit_Right.l0] at h
  | k + 1 => by
    have ih0 := lit_Right.mono_l k
    · intro y0 y1 y2 y3
      unfold lit_Right.l0
      repeat' first
      | (with_reducible exact ih0 _ _ _ _)
      | (with_reducible exact LeO.refl _)
      | (with_reducible exact LeO.none _)
      | (with_reducible refine LeO.ite ?_ ?_)
      | (with_reducible refine LeO.bind ?_ (fun _ => ?_))
      | exact ih0 _ _ _ _
      | exact LeO.none _
      | refine LeO.ite ?_ ?_
      | refine LeO.bind ?_ (fun _ => ?_)
theorem lit_Right.mono : ∀ a0 a1 k, LeO (lit_Right.f k a0 a1) (lit_Right.f (k + 1) a0 a1) := by
  intro a0 a1 k
  have ih0 := lit_Right.mono_l k
  unfold lit_Right.f
  repeat' first
      | (with_reducible exact ih0 _ _ _ _)
      | (with_reducible exact LeO.refl _)
      | (with_reducible exact LeO.none _)
      | (with_reducible refine LeO.ite ?_ ?_)
      | (with_reducible refine LeO.bind ?_ (fun _ => ?_))
      | exact ih0 _ _ _ _
      | exact LeO.none _
      | refine LeO.ite ?_ ?_
      | refine LeO.bind ?_ (fun _ => ?_)
set_option maxHeartbeats 8000000 in
set_option maxRecDepth 100000 in
theorem lit_Right.calls (k : Nat) (A0 : Option Addr) (c0 : Nat) (l0 : List Int) (a1 : Int) (r : Int) (w : World) (hr0 : Kd.C (Kd.int .i64) w A0 l0.length l0) (hc0 : l0.length ≤ c0) (h : lit_Right.f k l0 a1 = some r) :
    Calls Try.prog 24 #[.slice A0 l0.length c0, .int .i64 a1] w fun e w' => e = .returned (.int .i64 r) ∧ Drawn0 w w' := by
  have HR0 := Aside0.mk hr0
  have HC0 := Aside0.mk hc0
  clear hr0 hc0
  have H : (if (l0.length : Int) > 64 then (some 2) else (lit_Right.l0 k a1 l0 (l0.length : Int) 0)) = some r := h
  clear h
  by_cases c3 : (l0.length : Int) > 64
  · rw [if_pos c3] at H
    have c3b0 : decide (64 < (l0.length : Int)) = true := decide_eq_true c3
    have c3b1 : decide (64 < l0.length) = true := decide_eq_true (by omega)
    clear c3
    as_aux_lemma =>
      obtain rfl := Option.some.inj H
      go_enter Try.func24, Try.ntmps24
      go_wp2
      go_ret
      exact ⟨by first | rfl | (simp; done) | (simp [*]; done), by repeat (first | exact Drawn0.refl _ | apply Drawn0.step)⟩
  · rw [if_neg c3] at H
    have c3b0 : decide (64 < (l0.length : Int)) = false := decide_eq_false c3
    have c3b1 : decide (64 < l0.length) = false := decide_eq_false (by omega)
    clear c3
    have H' := Aside0.mk H
    clear H
    go_enter Try.func24, Try.ntmps24
    go_wp2
    go_loopg [12] k (fun kq v12 w' => ∃ (x12_1 : Int), v12 = .int .i64 x12_1 ∧ Aside0 (lit_Right.l0 kq a1 l0 (l0.length : Int) x12_1 = some r) ∧ Aside0 (kq ≤ k) ∧ Drawn0 w w')
    case atStart => exact ⟨(0), (by first | rfl | (simp; done) | (simp [*]; done)), H', ⟨Nat.le_refl _⟩, by repeat (first | exact Drawn0.refl _ | apply Drawn0.step)⟩
    case round =>
      clear H'
      try clear c2
      try clear p2
      try clear c3
      try clear c3b0
      try clear c3b1
      obtain ⟨x12_1, rfl, HA, HK1, ⟨m1, rfl⟩⟩ := hrel
      cases gk with
      | zero => exact absurd HA.out (by simp [lit_Right.l0])
      | succ k1 =>
        have H := HA.out
        clear HA
        simp only [lit_Right.l0] at H
        by_cases c4 : x12_1 < (l0.length : Int)
        · rw [if_pos c4] at H
          have c4b0 : decide (x12_1 < (l0.length : Int)) = true := decide_eq_true c4
          clear c4
          by_cases c5 : 0 ≤ x12_1
          · rw [if_pos c5] at H
            have c5b0 : decide (0 ≤ x12_1) = true := decide_eq_true c5
            clear c5
            by_cases c6 : x12_1 < (l0.length : Int)
            · rw [if_pos c6] at H
              have c6b0 : decide (x12_1 < (l0.length : Int)) = true := decide_eq_true c6
              clear c6
              replace H := Option.bind_eq_some_iff.mp H
              obtain ⟨t112, A70, H⟩ := H
              replace H : (if t112 = true then ((lit_variable.f (rd l0 x12_1)).bind fun t113 => (if t113 > a1 then (some 1) else (lit_Right.l0 k1 a1 l0 (l0.length : Int) (wrap64 (x12_1 + 1))))) else (some 1)) = some r := H
              have A7 := Aside0.mk A70
              clear A70
              by_cases c8 : t112 = true
              · subst c8
                have H1 : ((lit_variable.f (rd l0 x12_1)).bind fun t113 => (if t113 > a1 then (some 1) else (lit_Right.l0 k1 a1 l0 (l0.length : Int) (wrap64 (x12_1 + 1))))) = some r := by rw [if_pos rfl] at H; exact H
                clear H
                have H := H1
                clear H1
                replace H := Option.bind_eq_some_iff.mp H
                obtain ⟨t113, A90, H⟩ := H
                replace H : (if t113 > a1 then (some 1) else (lit_Right.l0 k1 a1 l0 (l0.length : Int) (wrap64 (x12_1 + 1)))) = some r := H
                have A9 := Aside0.mk A90
                clear A90
                by_cases c10 : t113 > a1
                · rw [if_pos c10] at H
                  have c10b0 : decide (a1 < t113) = true := decide_eq_true c10
                  clear c10
                  as_aux_lemma =>
                    obtain rfl := Option.some.inj H
                    have p111 : 0 ≤ (x12_1 : Int) := of_decide_eq_true (by first | (with_reducible assumption) | assumption)
                    have q111 : x12_1 < (l0.length : Int) := of_decide_eq_true (by first | (with_reducible assumption) | assumption)
                    obtain ⟨ad111, e111, hx111_0⟩ := Kd.at_int HR0.out x12_1 p111 q111
                    cases e111
                    replace p111 := eq_true p111
                    replace q111 := eq_true q111
                    go_wp2_with (first | ((with_reducible refine gate_callee (f := 33) rfl ?_); refine goesL_ (some 17) rfl rfl Try.func33 (by kernel_rfl) rfl #[.int .i64 (rd l0 x12_1)] rfl (by (try simp only [List.map_toArray, List.map_cons, List.map_nil]); first | done | rfl | (simp only [List.length_drop, List.length_take]; rfl)) ?_; (with_reducible refine (lit_is.calls (rd l0 x12_1) true _ A7.out).mono ?_); rintro e w' ⟨rfl, ⟨nd, rfl⟩⟩; refine ⟨_, rfl, ?_⟩) | (go_at_call 34; (with_reducible refine (lit_variable.calls (rd l0 x12_1) t113 _ A9.out).mono ?_); rintro e w' ⟨rfl, ⟨nd, rfl⟩⟩))
                    go_ret
                    exact ⟨by first | rfl | (simp; done) | (simp [*]; done), by repeat (first | exact Drawn0.refl _ | apply Drawn0.step)⟩
                · rw [if_neg c10] at H
                  have c10b0 : decide (a1 < t113) = false := decide_eq_false c10
                  clear c10
                  as_aux_lemma =>
                    have H' := Aside0.mk H
                    clear H
                    have p111 : 0 ≤ (x12_1 : Int) := of_decide_eq_true (by first | (with_reducible assumption) | assumption)
                    have q111 : x12_1 < (l0.length : Int) := of_decide_eq_true (by first | (with_reducible assumption) | assumption)
                    obtain ⟨ad111, e111, hx111_0⟩ := Kd.at_int HR0.out x12_1 p111 q111
                    cases e111
                    replace p111 := eq_true p111
                    replace q111 := eq_true q111
                    go_wp2_with (first | ((with_reducible refine gate_callee (f := 33) rfl ?_); refine goesL_ (some 17) rfl rfl Try.func33 (by kernel_rfl) rfl #[.int .i64 (rd l0 x12_1)] rfl (by (try simp only [List.map_toArray, List.map_cons, List.map_nil]); first | done | rfl | (simp only [List.length_drop, List.length_take]; rfl)) ?_; (with_reducible refine (lit_is.calls (rd l0 x12_1) true _ A7.out).mono ?_); rintro e w' ⟨rfl, ⟨nd, rfl⟩⟩; refine ⟨_, rfl, ?_⟩) | (go_at_call 34; (with_reducible refine (lit_variable.calls (rd l0 x12_1) t113 _ A9.out).mono ?_); rintro e w' ⟨rfl, ⟨nd, rfl⟩⟩))
                    go_roundg k1
                    case measure => have := HK1.out; omega
                    case rel => exact ⟨(wrap64 (x12_1 + 1)), (by first | rfl | (simp; done) | (simp [*]; done)), H', ⟨by have := HK1.out; omega⟩, by repeat (first | exact Drawn0.refl _ | apply Drawn0.step)⟩
              · replace c8 := Bool.eq_false_iff.mpr c8
                subst c8
                have H1 : (some 1) = some r := by rw [if_neg (show ¬ (false = true) by decide)] at H; exact H
                clear H
                have H := H1
                clear H1
                as_aux_lemma =>
                  obtain rfl := Option.some.inj H
                  have p111 : 0 ≤ (x12_1 : Int) := of_decide_eq_true (by first | (with_reducible assumption) | assumption)
                  have q111 : x12_1 < (l0.length : Int) := of_decide_eq_true (by first | (with_reducible assumption) | assumption)
                  obtain ⟨ad111, e111, hx111_0⟩ := Kd.at_int HR0.out x12_1 p111 q111
                  cases e111
                  replace p111 := eq_true p111
                  replace q111 := eq_true q111
                  go_wp2_with (first | ((with_reducible refine gate_callee (f := 33) rfl ?_); refine goesL_ (some 17) rfl rfl Try.func33 (by kernel_rfl) rfl #[.int .i64 (rd l0 x12_1)] rfl (by (try simp only [List.map_toArray, List.map_cons, List.map_nil]); first | done | rfl | (simp only [List.length_drop, List.length_take]; rfl)) ?_; (with_reducible refine (lit_is.calls (rd l0 x12_1) false _ A7.out).mono ?_); rintro e w' ⟨rfl, ⟨nd, rfl⟩⟩; refine ⟨_, rfl, ?_⟩))
                  go_ret
                  exact ⟨by first | rfl | (simp; done) | (simp [*]; done), by repeat (first | exact Drawn0.refl _ | apply Drawn0.step)⟩
            · rw [if_neg c6] at H
              exact absurd H (by simp)
          · rw [if_neg c5] at H
            exact absurd H (by simp)
        · rw [if_neg c4] at H
          have c4b0 : decide (x12_1 < (l0.length : Int)) = false := decide_eq_false c4
          clear c4
          as_aux_lemma =>
            obtain rfl := Option.some.inj H
            go_wp2
            go_ret
            exact ⟨by first | rfl | (simp; done) | (simp [*]; done), by repeat (first | exact Drawn0.refl _ | apply Drawn0.step)⟩

end Go.Proofs.Ytaibnbhgjnddnaa.P

-- Printed by wip/tools/pp.py of this claim's session (over the kit's print.py); Lean checks it.
namespace Go.Proofs.Ytaibnbhgjnddnaa.P
open Go.RowKit Go.Proofs.YtaibnbhgjnddnaaW.PrintWords Go.Proofs.YtaibnbhgjnddnaaW.PrintLast Go.Proofs.YtaibnbhgjnddnaaW.PrintMore
attribute [local go_sem] max2_int min2_int max_two min_two max_three min_three max_four min_four   -- for this text's walks alone
set_option linter.unusedVariables false
set_option linter.unusedSimpArgs false

/-! ### cnf_Right: function 23 -/
mutual
def cnf_Right.j0 : Nat → Bool → Int → List (List Int) → Option (Int × Int)
  | 0, _, _, _ => none
  | k + 1, x14, x115000, x115001 => if x14 = true then (some ((-1), 1)) else (if (x115001.length : Int) > 4096 then (some ((-1), 2)) else (cnf_Right.l0 k x115001 (x115001.length : Int) 0 x115000 x115001))
def cnf_Right.l0 : Nat → List (List Int) → Int → Int → Int → List (List Int) → Option (Int × Int)
  | 0, _, _, _, _, _ => none
  | k + 1, x20, x21, x22, x115000, x115001 => if x22 < x21 then (if 0 ≤ x22 then (if x22 < (x20.length : Int) then ((lit_Right.f k (rd_L3 x20 x22) x115000).bind fun t116 => (if t116 = 0 then (cnf_Right.l0 k x20 x21 (wrap64 (x22 + 1)) x115000 x115001) else (some (x22, t116)))) else (none)) else (none)) else (some (0, 0))
end
def cnf_Right.f (k : Nat) (a0_0 : Int) (l0_1 : List (List Int)) : Option (Int × Int) := if a0_0 < 0 then (cnf_Right.j0 k true a0_0 l0_1) else (cnf_Right.j0 k (decide (a0_0 > 1024)) a0_0 l0_1)
theorem cnf_Right.mono_l : ∀ k, (∀ y0 y1 y2, LeO (cnf_Right.j0 k y0 y1 y2) (cnf_Right.j0 (k + 1) y0 y1 y2)) ∧ (∀ y0 y1 y2 y3 y4, LeO (cnf_Right.l0 k y0 y1 y2 y3 y4) (cnf_Right.l0 (k + 1) y0 y1 y2 y3 y4))
  | 0 => ⟨fun _ _ _ r h => by simp [cnf_Right.j0] at h, fun _ _ _ _ _ r h => by simp [cnf_Right.l0] at h⟩
  | k + 1 => by
    obtain ⟨ih0, ih1⟩ := cnf_Right.mono_l k
    refine ⟨?_, ?_⟩
    · intro y0 y1 y2
      unfold cnf_Right.j0
      repeat' first
      | (with_reducible exact ih0 _ _ _)
      | (with_reducible exact ih1 _ _ _ _ _)
      | (with_reducible exact lit_Right.mono _ _ _)
      | (with_reducible exact LeO.refl _)
      | (with_reducible exact LeO.none _)
      | (with_reducible refine LeO.ite ?_ ?_)
      | (with_reducible refine LeO.bind ?_ (fun _ => ?_))
      | exact ih0 _ _ _
      | exact ih1 _ _ _ _ _
      | exact lit_Right.mono _ _ _
      | exact LeO.none _
      | refine LeO.ite ?_ ?_
      | refine LeO.bind ?_ (fun _ => ?_)
    · intro y0 y1 y2 y3 y4
      unfold cnf_Right.l0
      repeat' first
      | (with_reducible exact ih0 _ _ _)
      | (with_reducible exact ih1 _ _ _ _ _)
      | (with_reducible exact lit_Right.mono _ _ _)
      | (with_reducible exact LeO.refl _)
      | (with_reducible exact LeO.none _)
      | (with_reducible refine LeO.ite ?_ ?_)
      | (with_reducible refine LeO.bind ?_ (fun _ => ?_))
      | exact ih0 _ _ _
      | exact ih1 _ _ _ _ _
      | exact lit_Right.mono _ _ _
      | exact LeO.none _
      | refine LeO.ite ?_ ?_
      | refine LeO.bind ?_ (fun _ => ?_)
theorem cnf_Right.mono : ∀ a0 a1 k, LeO (cnf_Right.f k a0 a1) (cnf_Right.f (k + 1) a0 a1) := by
  intro a0 a1 k
  obtain ⟨ih0, ih1⟩ := cnf_Right.mono_l k
  unfold cnf_Right.f
  repeat' first
      | (with_reducible exact ih0 _ _ _)
      | (with_reducible exact ih1 _ _ _ _ _)
      | (with_reducible exact lit_Right.mono _ _ _)
      | (with_reducible exact LeO.refl _)
      | (with_reducible exact LeO.none _)
      | (with_reducible refine LeO.ite ?_ ?_)
      | (with_reducible refine LeO.bind ?_ (fun _ => ?_))
      | exact ih0 _ _ _
      | exact ih1 _ _ _ _ _
      | exact lit_Right.mono _ _ _
      | exact LeO.none _
      | refine LeO.ite ?_ ?_
      | refine LeO.bind ?_ (fun _ => ?_)
set_option maxHeartbeats 8000000 in
set_option maxRecDepth 100000 in
theorem cnf_Right.calls (k : Nat) (a0_0 : Int) (A0_1 : Option Addr) (c0_1 : Nat) (l0_1 : List (List Int)) (r1 : Int) (r2 : Int) (w : World) (hr0_1 : Kd.C (Kd.slice 3 (Kd.int .i64)) w A0_1 l0_1.length l0_1) (hc0_1 : l0_1.length ≤ c0_1) (h : cnf_Right.f k a0_0 l0_1 = some (r1, r2)) :
    Calls Try.prog 23 #[.agg #[.int .i64 a0_0, .slice A0_1 l0_1.length c0_1]] w fun e w' => e = .returned (.tuple #[.int .i64 r1, .int .i64 r2]) ∧ Below w.heap.size w w' := by
  have hu24 := Try.underlying24
  have HR0_1 := Aside0.mk hr0_1
  have HC0_1 := Aside0.mk hc0_1
  clear hr0_1 hc0_1
  have HB := Aside0.mk (Below.refl w.heap.size w)
  have H : (if a0_0 < 0 then (cnf_Right.j0 k true a0_0 l0_1) else (cnf_Right.j0 k (decide (a0_0 > 1024)) a0_0 l0_1)) = some (r1, r2) := h
  clear h
  have HC2 := Aside0.mk H
  clear H
  go_enter Try.func23, Try.ntmps23
  go_upto_region 1 with (first | ((with_reducible refine gate_dst (N := 1) rfl ?_); refine box_event ?hg (N := 1) ?hd (cs := #[.int .i64 a0_0, .slice A0_1 l0_1.length c0_1]) (t := 24) ?hr ?_; (case hd => rfl); (case hg => rfl); (case hr => first | (go_simp; done) | (go_simp; rfl)); intro gb114 hg w3 hbox hb; have n0_ := Aside0.mk (below_step (by repeat (first | (with_reducible first | exact HB.out | apply below_alloc | apply pw_below_drewN | apply below_drew1) | exact HB.out)) hb); have n1_ := Aside0.mk (hbox); have n2_ := Aside0.mk ((by rw [hg]; exact (below_size (by repeat (first | (with_reducible first | exact HB.out | apply below_alloc | apply pw_below_drewN | apply below_drew1) | exact HB.out))) : w.heap.size ≤ gb114)); have n3_ := Aside0.mk ((by rw [hg]; exact (below_size (by repeat (first | (with_reducible first | exact HB.out | apply below_alloc | apply pw_below_drewN | apply below_drew1) | exact HB.out))) : w.heap.size ≤ gb114)); clear HB; have HB := n0_; have BK114 := n1_; have GW114 := n2_; have GE114 := n3_; clear n0_ n1_ n2_ n3_; clear hb hbox hg))
  (try simp only [Act.put, List.setIfInBounds_toArray, List.set_cons_zero, List.set_cons_succ])
  go_cut [14] (fun v14 wc => ∃ (kq : Nat) (x14_1 : Bool), v14 = .bool x14_1 ∧ Aside0 (cnf_Right.j0 kq x14_1 a0_0 l0_1 = some (r1, r2)) ∧ Aside0 (kq ≤ k) ∧ Aside0 (wc.heap[gb114]? = some (.cells #[.int .i64 a0_0, (.slice A0_1 l0_1.length c0_1)] 24 (0, 0))) ∧ Aside0 (Below w.heap.size w wc))
  case first =>
    have H := HC2.out
    clear HC2
    by_cases c4 : a0_0 < 0
    · rw [if_pos c4] at H
      have c4b0 : decide (a0_0 < 0) = true := decide_eq_true c4
      clear c4
      (first | rw [c4b0] | (simp only [i64_w, i32_w]; rw [c4b0]) | skip)
      as_aux_lemma =>
        have H' := Aside0.mk H
        clear H
        have hcz5_0 : w3.cell? ⟨gb114, 0, none⟩ = some (.int .i64 a0_0) := (blk_cell BK114.out 0).trans rfl
        have hcz5_1 : w3.cell? ⟨gb114, 1, none⟩ = some (.slice A0_1 l0_1.length c0_1) := (blk_cell BK114.out 1).trans rfl
        have hfz5_0 := blk_frozen BK114.out 0
        have hfz5_1 := blk_frozen BK114.out 1
        go_wp2
        go_meet
        case rel => exact ⟨_, (true), (by first | rfl | (simp; done) | (simp [*]; done)), H', ⟨by first | omega | exact Nat.le_refl _⟩, ⟨by (with_reducible repeat (first | refine blk_drewN ?_ _ | refine blk_drew ?_ | refine blk_alloc ?_ _)); exact BK114.out⟩, ⟨by repeat (first | (with_reducible first | exact HB.out | apply below_alloc | apply pw_below_drewN | apply below_drew1 | refine below_set ?_ GE114.out) | exact HB.out)⟩⟩
    · rw [if_neg c4] at H
      have c4b0 : decide (a0_0 < 0) = false := decide_eq_false c4
      clear c4
      (first | rw [c4b0] | (simp only [i64_w, i32_w]; rw [c4b0]) | skip)
      as_aux_lemma =>
        have H' := Aside0.mk H
        clear H
        have hcz6_0 : w3.cell? ⟨gb114, 0, none⟩ = some (.int .i64 a0_0) := (blk_cell BK114.out 0).trans rfl
        have hcz6_1 : w3.cell? ⟨gb114, 1, none⟩ = some (.slice A0_1 l0_1.length c0_1) := (blk_cell BK114.out 1).trans rfl
        have hfz6_0 := blk_frozen BK114.out 0
        have hfz6_1 := blk_frozen BK114.out 1
        go_wp2
        go_meet
        case rel => exact ⟨_, (decide (a0_0 > 1024)), (by first | rfl | (simp; done) | (simp [*]; done)), H', ⟨by first | omega | exact Nat.le_refl _⟩, ⟨by (with_reducible repeat (first | refine blk_drewN ?_ _ | refine blk_drew ?_ | refine blk_alloc ?_ _)); exact BK114.out⟩, ⟨by repeat (first | (with_reducible first | exact HB.out | apply below_alloc | apply pw_below_drewN | apply below_drew1 | refine below_set ?_ GE114.out) | exact HB.out)⟩⟩
  case rest =>
    clear HC2
    try clear c2
    try clear p2
    try clear c4
    try clear c4b0
    try clear hcz5_0
    try clear hcz5_1
    try clear hcz6_0
    try clear hcz6_1
    try clear hfz5_0
    try clear hfz5_1
    try clear hfz6_0
    try clear hfz6_1
    obtain ⟨kq, x14_1, rfl, HA, HJ1, BK114, HB⟩ := hcut
    cases kq with
    | zero => exact absurd HA.out (by simp [cnf_Right.j0])
    | succ kj1 =>
      have H := HA.out
      clear HA
      simp only [cnf_Right.j0] at H
      by_cases c7 : x14_1 = true
      · subst c7
        have H1 : (some ((-1), 1)) = some (r1, r2) := by rw [if_pos rfl] at H; exact H
        clear H
        have H := H1
        clear H1
        as_aux_lemma =>
          simp only [Option.some.injEq, Prod.mk.injEq] at H
          obtain ⟨rfl, rfl⟩ := H
          go_wp2
          go_ret2
          exact ⟨by first | rfl | (simp [errW_none, errW_some] <;> rfl) | (simp [*, errW_none, errW_some] <;> rfl), by repeat (first | (with_reducible first | exact HB.out | apply below_alloc | apply pw_below_drewN | apply below_drew1 | refine below_set ?_ GE114.out) | exact HB.out)⟩
      · replace c7 := Bool.eq_false_iff.mpr c7
        subst c7
        have H1 : (if (l0_1.length : Int) > 4096 then (some ((-1), 2)) else (cnf_Right.l0 kj1 l0_1 (l0_1.length : Int) 0 a0_0 l0_1)) = some (r1, r2) := by rw [if_neg (show ¬ (false = true) by decide)] at H; exact H
        clear H
        have H := H1
        clear H1
        by_cases c8 : (l0_1.length : Int) > 4096
        · rw [if_pos c8] at H
          have c8b0 : decide (4096 < (l0_1.length : Int)) = true := decide_eq_true c8
          have c8b1 : decide (4096 < l0_1.length) = true := decide_eq_true (by omega)
          clear c8
          as_aux_lemma =>
            simp only [Option.some.injEq, Prod.mk.injEq] at H
            obtain ⟨rfl, rfl⟩ := H
            have hcz9_0 : wc.cell? ⟨gb114, 0, none⟩ = some (.int .i64 a0_0) := (blk_cell BK114.out 0).trans rfl
            have hcz9_1 : wc.cell? ⟨gb114, 1, none⟩ = some (.slice A0_1 l0_1.length c0_1) := (blk_cell BK114.out 1).trans rfl
            have hfz9_0 := blk_frozen BK114.out 0
            have hfz9_1 := blk_frozen BK114.out 1
            go_wp2
            go_ret2
            exact ⟨by first | rfl | (simp [errW_none, errW_some] <;> rfl) | (simp [*, errW_none, errW_some] <;> rfl), by repeat (first | (with_reducible first | exact HB.out | apply below_alloc | apply pw_below_drewN | apply below_drew1 | refine below_set ?_ GE114.out) | exact HB.out)⟩
        · rw [if_neg c8] at H
          have c8b0 : decide (4096 < (l0_1.length : Int)) = false := decide_eq_false c8
          have c8b1 : decide (4096 < l0_1.length) = false := decide_eq_false (by omega)
          clear c8
          have H' := Aside0.mk H
          clear H
          have hcz10_0 : wc.cell? ⟨gb114, 0, none⟩ = some (.int .i64 a0_0) := (blk_cell BK114.out 0).trans rfl
          have hcz10_1 : wc.cell? ⟨gb114, 1, none⟩ = some (.slice A0_1 l0_1.length c0_1) := (blk_cell BK114.out 1).trans rfl
          have hfz10_0 := blk_frozen BK114.out 0
          have hfz10_1 := blk_frozen BK114.out 1
          go_wp2
          go_loopg [22] kj1 (fun kq v22 w' => ∃ (x22_2 : Int), v22 = .int .i64 x22_2 ∧ Aside0 (cnf_Right.l0 kq l0_1 (l0_1.length : Int) x22_2 a0_0 l0_1 = some (r1, r2)) ∧ Aside0 (kq ≤ kj1) ∧ Aside0 (w'.heap[gb114]? = some (.cells #[.int .i64 a0_0, (.slice A0_1 l0_1.length c0_1)] 24 (0, 0))) ∧ Aside0 (Below w.heap.size w w'))
          case atStart => exact ⟨(0), (by first | rfl | (simp; done) | (simp [*]; done)), H', ⟨Nat.le_refl _⟩, ⟨by (with_reducible repeat (first | refine blk_drewN ?_ _ | refine blk_drew ?_ | refine blk_alloc ?_ _)); exact BK114.out⟩, ⟨by repeat (first | (with_reducible first | exact HB.out | apply below_alloc | apply pw_below_drewN | apply below_drew1 | refine below_set ?_ GE114.out) | exact HB.out)⟩⟩
          case round =>
            clear H'
            try clear c2
            try clear p2
            try clear c4
            try clear c4b0
            try clear c7
            try clear c8
            try clear c8b0
            try clear c8b1
            try clear hcz10_0
            try clear hcz10_1
            try clear hcz5_0
            try clear hcz5_1
            try clear hcz6_0
            try clear hcz6_1
            try clear hcz9_0
            try clear hcz9_1
            try clear hfz10_0
            try clear hfz10_1
            try clear hfz5_0
            try clear hfz5_1
            try clear hfz6_0
            try clear hfz6_1
            try clear hfz9_0
            try clear hfz9_1
            try clear p2
            obtain ⟨x22_2, rfl, HA, HK2, BK114, HB⟩ := hrel
            cases gk with
            | zero => exact absurd HA.out (by simp [cnf_Right.l0])
            | succ k2 =>
              have H := HA.out
              clear HA
              simp only [cnf_Right.l0] at H
              by_cases c11 : x22_2 < (l0_1.length : Int)
              · rw [if_pos c11] at H
                have c11b0 : decide (x22_2 < (l0_1.length : Int)) = true := decide_eq_true c11
                clear c11
                by_cases c12 : 0 ≤ x22_2
                · rw [if_pos c12] at H
                  have c12b0 : decide (0 ≤ x22_2) = true := decide_eq_true c12
                  clear c12
                  by_cases c13 : x22_2 < (l0_1.length : Int)
                  · rw [if_pos c13] at H
                    have c13b0 : decide (x22_2 < (l0_1.length : Int)) = true := decide_eq_true c13
                    clear c13
                    replace H := Option.bind_eq_some_iff.mp H
                    obtain ⟨t116, A140, H⟩ := H
                    replace H : (if t116 = 0 then (cnf_Right.l0 k2 l0_1 (l0_1.length : Int) (wrap64 (x22_2 + 1)) a0_0 l0_1) else (some (x22_2, t116))) = some (r1, r2) := H
                    have A14 := Aside0.mk A140
                    clear A140
                    by_cases c15 : t116 = 0
                    · rw [if_pos c15] at H
                      have c15b0 : (t116 == 0) = true := beq_iff_eq.mpr c15
                      have c15b1 : (t116 != 0) = false := bne_eq_false_iff_eq.mpr c15
                      clear c15
                      as_aux_lemma =>
                        have H' := Aside0.mk H
                        clear H
                        have p115 : 0 ≤ (x22_2 : Int) := of_decide_eq_true (by first | (with_reducible assumption) | assumption)
                        have q115 : x22_2 < (l0_1.length : Int) := of_decide_eq_true (by first | (with_reducible assumption) | assumption)
                        obtain ⟨ad115, A115_0, c115_0, e115, hx115_0, hl115_0, hi115_0⟩ := at_L3 HR0_1.out x22_2 p115 q115
                        cases e115
                        replace hx115_0 := (HB.out.cell (World.block_lt_of_cell? w _ hx115_0)).trans hx115_0
                        have HR115_0 := Aside0.mk hi115_0
                        have HC115_0 := Aside0.mk hl115_0
                        clear hi115_0 hl115_0
                        replace p115 := eq_true p115
                        replace q115 := eq_true q115
                        have hcz16_0 : wr.cell? ⟨gb114, 0, none⟩ = some (.int .i64 a0_0) := (blk_cell BK114.out 0).trans rfl
                        have hcz16_1 : wr.cell? ⟨gb114, 1, none⟩ = some (.slice (some ad115) l0_1.length c0_1) := (blk_cell BK114.out 1).trans rfl
                        have hfz16_0 := blk_frozen BK114.out 0
                        have hfz16_1 := blk_frozen BK114.out 1
                        go_wp2_with (first | ((with_reducible refine gate_callee (f := 24) rfl ?_); refine goesL_ (some 30) rfl rfl Try.func24 (by kernel_rfl) rfl #[.slice A115_0 (rd_L3 l0_1 x22_2).length c115_0, .int .i64 a0_0] rfl (by (try simp only [List.map_toArray, List.map_cons, List.map_nil]); first | done | rfl | (simp only [List.length_drop, List.length_take]; rfl)) ?_; (with_reducible refine (lit_Right.calls k2 _ _ (rd_L3 l0_1 x22_2) a0_0 t116 _ ?side1 ?side2 A14.out).mono ?_); (case side1 => repeat (first | exact (Kd.C_below HR115_0.out HB.out) | (with_reducible refine Kd.C_alloc ?_ _) | (with_reducible refine Kd.C_drewN ?_ _) | (with_reducible refine Kd.C_drew ?_))); (case side2 => exact HC115_0.out); rintro e w' ⟨rfl, ⟨nd, rfl⟩⟩; refine ⟨_, rfl, ?_⟩))
                        go_roundg k2
                        case measure => have := HJ1.out; have := HK2.out; omega
                        case rel => exact ⟨(wrap64 (x22_2 + 1)), (by first | rfl | (simp; done) | (simp [*]; done)), H', ⟨by have := HJ1.out; have := HK2.out; omega⟩, ⟨by (with_reducible repeat (first | refine blk_drewN ?_ _ | refine blk_drew ?_ | refine blk_alloc ?_ _)); exact BK114.out⟩, ⟨by repeat (first | (with_reducible first | exact HB.out | apply below_alloc | apply pw_below_drewN | apply below_drew1 | refine below_set ?_ GE114.out) | exact HB.out)⟩⟩
                    · rw [if_neg c15] at H
                      have c15b0 : (t116 == 0) = false := beq_eq_false_iff_ne.mpr c15
                      have c15b1 : (t116 != 0) = true := bne_iff_ne.mpr c15
                      as_aux_lemma =>
                        simp only [Option.some.injEq, Prod.mk.injEq] at H
                        obtain ⟨rfl, rfl⟩ := H
                        have p115 : 0 ≤ (x22_2 : Int) := of_decide_eq_true (by first | (with_reducible assumption) | assumption)
                        have q115 : x22_2 < (l0_1.length : Int) := of_decide_eq_true (by first | (with_reducible assumption) | assumption)
                        obtain ⟨ad115, A115_0, c115_0, e115, hx115_0, hl115_0, hi115_0⟩ := at_L3 HR0_1.out x22_2 p115 q115
                        cases e115
                        replace hx115_0 := (HB.out.cell (World.block_lt_of_cell? w _ hx115_0)).trans hx115_0
                        have HR115_0 := Aside0.mk hi115_0
                        have HC115_0 := Aside0.mk hl115_0
                        clear hi115_0 hl115_0
                        replace p115 := eq_true p115
                        replace q115 := eq_true q115
                        have hcz17_0 : wr.cell? ⟨gb114, 0, none⟩ = some (.int .i64 a0_0) := (blk_cell BK114.out 0).trans rfl
                        have hcz17_1 : wr.cell? ⟨gb114, 1, none⟩ = some (.slice (some ad115) l0_1.length c0_1) := (blk_cell BK114.out 1).trans rfl
                        have hfz17_0 := blk_frozen BK114.out 0
                        have hfz17_1 := blk_frozen BK114.out 1
                        go_wp2_with (first | ((with_reducible refine gate_callee (f := 24) rfl ?_); refine goesL_ (some 30) rfl rfl Try.func24 (by kernel_rfl) rfl #[.slice A115_0 (rd_L3 l0_1 x22_2).length c115_0, .int .i64 a0_0] rfl (by (try simp only [List.map_toArray, List.map_cons, List.map_nil]); first | done | rfl | (simp only [List.length_drop, List.length_take]; rfl)) ?_; (with_reducible refine (lit_Right.calls k2 _ _ (rd_L3 l0_1 x22_2) a0_0 t116 _ ?side1 ?side2 A14.out).mono ?_); (case side1 => repeat (first | exact (Kd.C_below HR115_0.out HB.out) | (with_reducible refine Kd.C_alloc ?_ _) | (with_reducible refine Kd.C_drewN ?_ _) | (with_reducible refine Kd.C_drew ?_))); (case side2 => exact HC115_0.out); rintro e w' ⟨rfl, ⟨nd, rfl⟩⟩; refine ⟨_, rfl, ?_⟩))
                        go_ret2
                        exact ⟨by first | rfl | (simp [errW_none, errW_some] <;> rfl) | (simp [*, errW_none, errW_some] <;> rfl), by repeat (first | (with_reducible first | exact HB.out | apply below_alloc | apply pw_below_drewN | apply below_drew1 | refine below_set ?_ GE114.out) | exact HB.out)⟩
                  · rw [if_neg c13] at H
                    exact absurd H (by simp)
                · rw [if_neg c12] at H
                  exact absurd H (by simp)
              · rw [if_neg c11] at H
                have c11b0 : decide (x22_2 < (l0_1.length : Int)) = false := decide_eq_false c11
                clear c11
                as_aux_lemma =>
                  simp only [Option.some.injEq, Prod.mk.injEq] at H
                  obtain ⟨rfl, rfl⟩ := H
                  go_wp2
                  go_ret2
                  exact ⟨by first | rfl | (simp [errW_none, errW_some] <;> rfl) | (simp [*, errW_none, errW_some] <;> rfl), by repeat (first | (with_reducible first | exact HB.out | apply below_alloc | apply pw_below_drewN | apply below_drew1 | refine below_set ?_ GE114.out) | exact HB.out)⟩

end Go.Proofs.Ytaibnbhgjnddnaa.P

-- Printed by wip/tools/pp.py of this claim's session (over the kit's print.py); Lean checks it.
namespace Go.Proofs.Ytaibnbhgjnddnaa.P
open Go.RowKit Go.Proofs.YtaibnbhgjnddnaaW.PrintWords Go.Proofs.YtaibnbhgjnddnaaW.PrintLast Go.Proofs.YtaibnbhgjnddnaaW.PrintMore
attribute [local go_sem] max2_int min2_int max_two min_two max_three min_three max_four min_four   -- for this text's walks alone
set_option linter.unusedVariables false
set_option linter.unusedSimpArgs false

-- SOLO
-- IMPORTS Derived.Test.YtaibnbhgjnddnaaPxAunitEng
/-! ### unit_Engine_Value: function 54 -/
/-- A literal's value. -/
def Eng.val (E : Eng) (l : Int) : Int := if (E.ms l).isSome = true then 1 else if (E.ms (wrap64 (-l))).isSome = true then -1 else 0
theorem wf_wrap (l : Int) : (Lit.int .i64 (wrap64 (-l))).wf = true := by
  have a : IntKind.i64.min = -9223372036854775808 := by decide
  have b : IntKind.i64.max = 9223372036854775807 := by decide
  unfold Lit.wf wrap64
  rw [Bool.and_eq_true, decide_eq_true_eq, decide_eq_true_eq]
  omega
theorem zero_mark (W : World) : (zeroValue 96).run Try.prog W = .ok (.agg #[.int .i64 0, .int .i64 0]) W := by kernel_rfl
/-- What a look-up of a mark tells. -/
theorem EngIn.look {w : World} {B : Nat} {T : Tag} {E : Eng} {p : EngP} (h : EngIn w B T E p) {W : World} (hb : Below w.heap.size w W) {x : Int} (hx : (Lit.int .i64 x).wf = true) :
    (Instr.lookup 68 (.map (some p.bm)) (.int .i64 x) true).run Try.prog W = .ok (.tuple #[.agg #[.int .i64 ((E.ms x).getD (0, 0)).1, .int .i64 ((E.ms x).getD (0, 0)).2], .bool (E.ms x).isSome]) W := by
  have := (h.below hb).ms.look_ok Try.underlying3 Try.underlying68 (zero_mark W) hx
  rw [this]
  unfold mkV
  cases E.ms x <;> rfl
set_option maxRecDepth 100000 in
set_option maxHeartbeats 1000000 in
theorem eng_Value.calls (E : Eng) (B : Nat) (T : Tag) (p : EngP) (l : Int) (w : World) (h : EngIn w B T E p) (hl : (Lit.int .i64 l).wf = true) :
    Calls Try.prog 54 #[.pointer (some ⟨B, 0, none⟩), .int .i64 l] w fun e w' => e = .returned (.int .i64 (E.val l)) ∧ Below w.heap.size w w' := by
  have q1 := h.look (Below.refl _ w) hl
  have c4 := h.cells.2.2.2.2.1
  obtain ⟨m1, hm1⟩ : ∃ m, (E.ms l).getD (0, 0) = m := ⟨_, rfl⟩
  obtain ⟨m2, hm2⟩ : ∃ m, (E.ms (wrap64 (-l))).getD (0, 0) = m := ⟨_, rfl⟩
  have hb2 : Below w.heap.size w (w.alloc (.cells #[.int .i64 m1.1, .int .i64 m1.2] 96)) := below_alloc (Below.refl _ _) _
  have q2 := h.look hb2 (wf_wrap l)
  have c42 := (h.below hb2).cells.2.2.2.2.1
  have hu := Try.underlying96
  have P6 : IntKind.i64.wrap (-l) = wrap64 (-l) := Go.IntWalk.i64_left _
  rw [hm1] at q1
  rw [hm2] at q2
  unfold Eng.val
  obtain ⟨b1, e1⟩ : ∃ b, (E.ms l).isSome = b := ⟨_, rfl⟩
  obtain ⟨b2, e2⟩ : ∃ b, (E.ms (wrap64 (-l))).isSome = b := ⟨_, rfl⟩
  rw [e1] at q1 ⊢
  rw [e2] at q2 ⊢
  clear hm1 hm2 e1 e2
  cases b1 with
  | true =>
    go_enter Try.func54, Try.ntmps54
    go_wp2
    go_ret
    exact ⟨rfl, by first | exact hb2 | (repeat (first | exact Below.refl _ _ | apply below_alloc))⟩
  | false =>
    cases b2 with
    | true =>
      go_enter Try.func54, Try.ntmps54
      go_wp2
      go_ret
      exact ⟨rfl, by repeat (first | exact Below.refl _ _ | apply below_alloc)⟩
    | false =>
      go_enter Try.func54, Try.ntmps54
      go_wp2
      go_ret
      exact ⟨rfl, by repeat (first | exact Below.refl _ _ | apply below_alloc)⟩
set_option maxRecDepth 100000 in
theorem eng_Value.nobody (l : Int) (w : World) : Calls Try.prog 54 #[.pointer none, .int .i64 l] w fun e w' => e = .returned (.int .i64 0) ∧ w' = w := by
  go_enter Try.func54, Try.ntmps54
  go_wp2
  go_ret
  exact ⟨rfl, rfl⟩


end Go.Proofs.Ytaibnbhgjnddnaa.P

-- Printed by wip/tools/pp.py of this claim's session (over the kit's print.py); Lean checks it.
namespace Go.Proofs.Ytaibnbhgjnddnaa.P
open Go.RowKit Go.Proofs.YtaibnbhgjnddnaaW.PrintWords Go.Proofs.YtaibnbhgjnddnaaW.PrintLast Go.Proofs.YtaibnbhgjnddnaaW.PrintMore
attribute [local go_sem] max2_int min2_int max_two min_two max_three min_three max_four min_four   -- for this text's walks alone
set_option linter.unusedVariables false
set_option linter.unusedSimpArgs false

-- SOLO
-- IMPORTS Derived.Test.YtaibnbhgjnddnaaPxAunitEng Derived.StillTailTactics
/-! ### unit_Engine_put: function 66 -/
/-- A literal behind the trail. -/
def Eng.put (E : Eng) (l why : Int) : Eng := { E with tr := E.tr ++ [l], ms := fun x => if x = l then some ((E.st.length : Int), why) else E.ms x }
theorem mkV_set (f : Int → Option (Int × Int)) (l a b : Int) (x : Int) : setI (mkV f) l (some (.agg #[.int .i64 a, .int .i64 b])) x = mkV (fun x => if x = l then some (a, b) else f x) x := by
  unfold setI mkV
  by_cases h : x = l
  · simp only [if_pos h]; rfl
  · simp only [if_neg h]
theorem drewE (w : World) : ({ w with drawn := w.drawn + 1 } : World) = w.drew := rfl
set_option maxRecDepth 100000 in
set_option maxHeartbeats 1000000 in
theorem eng_put.calls (E : Eng) (B : Nat) (T : Tag) (p : EngP) (l why : Int) (w : World) (h : EngIn w B T E p) (hl : (Lit.int .i64 l).wf = true) (hlen : E.tr.length < 4398046511104) :
    Calls Try.prog 66 #[.pointer (some ⟨B, 0, none⟩), .int .i64 l, .int .i64 why] w fun e w' => e = .returned (.tuple #[]) ∧ EngPost B T p (E.put l why) w w' := by
  have c3 := h.cells.2.2.2.1
  have f3 := h.cells.2.2.2.2.2.2.2 3
  have HE := Aside0.mk h
  have HLN := Aside0.mk hlen
  clear h hlen
  go_enter Try.func66, Try.ntmps66
  go_wp2_with (at_builtin; refine Kd.R_append (Kd.int .i64) (w0 := w) 0 rfl (.tmp 10) (.tmp 12) 25 3 (.int .i64 0) 8 rfl Try.underlying25 (by kernel_rfl) rfl (by decide) (by decide) p.vT E.tr l [.int .i64 l] (fun k => T k = (4, 0) ∨ w.heap.size ≤ k) (fun _ => False) rfl rfl rfl (fun _ h => h.elim) (fun k hk => .inr hk) (Kd.R_mono HE.out.tr (fun _ hk => .inl hk)) (Below.refl 0 _) (Nat.zero_le _) (by have := HLN.out; omega) ?_; intro v1 w1 r1 hb1 hg1 hat1; obtain ⟨A1, k1, e1⟩ := Kd.R_slice r1; rw [List.length_append, List.length_singleton] at e1; subst e1; obtain ⟨c31, f31⟩ : w1.cell? ⟨B, 3, none⟩ = some p.vT ∧ w1.frozen? ⟨B, 3, none⟩ = false := HE.out.after HE.out.tr.1 (by decide) hg1 3)
  obtain ⟨T1, E1, p1, h1, m1, hE1, hf1⟩ : ∃ T1 E1 p1, EngIn (w1.setCell ⟨B, 3, none⟩ (.slice A1 (E.tr.length + 1) k1)) B T1 E1 p1 ∧ Moved T T1 w (w1.setCell ⟨B, 3, none⟩ (.slice A1 (E.tr.length + 1) k1)) ∧ E1 = { E with tr := E.tr ++ [l] } ∧ p1.fw = p.fw := by
    obtain ⟨a1, a2⟩ := HE.out.turn_tr r1 hg1 (fun x hx => List.mem_append.2 (.inl (HE.out.mst x hx)))
    exact ⟨_, _, _, a1, a2, rfl, rfl⟩
  clear hb1 r1 hg1 hat1 c3 f3 c31 f31
  obtain ⟨W1, hW1⟩ : ∃ W1, w1.setCell ⟨B, 3, none⟩ (.slice A1 (E.tr.length + 1) k1) = W1 := ⟨_, rfl⟩
  rw [hW1] at h1 m1 ⊢
  have HE1 := Aside0.mk hE1
  have HF1 := Aside0.mk hf1
  have HD := Aside0.mk (h1.below (below_drew (Below.refl _ W1)))
  have HM := Aside0.mk (m1.trans (Moved.of_below (below_drew (Below.refl _ W1))))
  clear hW1 h1 m1 hE1 hf1
  have c4 := HD.out.cells.2.2.2.2.1
  obtain ⟨A5, n5, e5⟩ := Kd.R_slice HD.out.st
  have c5 := HD.out.cells.2.2.2.2.2.1
  rw [e5] at c5
  clear e5
  go_still_tail 12, (by kernel_rfl)
  refine wpList_store_I rfl (.tmp 19) (.tmp 20) (.tmp 27) 68 rfl 3 96 Try.underlying3 Try.underlying68 p1.bm (mkV E1.ms) rfl HD.out.ms l (.agg #[.int .i64 (E1.st.length : Int), .int .i64 why]) rfl rfl hl E1.tr (fun x hx => HD.out.mst x (by unfold mkV at hx; simpa using hx)) ?_ ?_
  · rw [HE1.out]
    have := HLN.out
    simp; omega
  · intro w2 hM2 hg2
    obtain ⟨h2, m2⟩ := HD.out.turn_ms (hM2.congr (mkV_set _ _ _ _)) hg2 (fun x hx => by
      by_cases e : x = l
      · rw [e, HE1.out]; simp
      · simp only [if_neg e] at hx
        exact HD.out.mst x hx)
    have H2 := Aside0.mk h2
    have M2 := Aside0.mk (HM.out.trans m2)
    clear h2 m2 hM2 hg2
    go_wp2
    go_end0
    refine ⟨rfl, T1, p1, ?_, M2.out, HF1.out⟩
    have h := H2.out
    rw [HE1.out] at h
    exact h


end Go.Proofs.Ytaibnbhgjnddnaa.P

-- Printed by wip/tools/pp.py of this claim's session (over the kit's print.py); Lean checks it.
namespace Go.Proofs.Ytaibnbhgjnddnaa.P
open Go.RowKit Go.Proofs.YtaibnbhgjnddnaaW.PrintWords Go.Proofs.YtaibnbhgjnddnaaW.PrintLast Go.Proofs.YtaibnbhgjnddnaaW.PrintMore
attribute [local go_sem] max2_int min2_int max_two min_two max_three min_three max_four min_four   -- for this text's walks alone
set_option linter.unusedVariables false
set_option linter.unusedSimpArgs false

-- SOLO
-- IMPORTS Derived.Test.YtaibnbhgjnddnaaPxAunitEng
/-! ### unit_Engine_look: function 52 -/
/-- A clause looked at: its open literal; nothing, if it holds, or has two. -/
def scanU (E : Eng) : List Int → Int → Option Int
  | [], o => some o
  | l :: t, o => if E.val l > 0 then none else if E.val l = 0 then (if o = 0 then scanU E t l else none) else scanU E t o
def Eng.look (E : Eng) (n : Nat) : Eng := match scanU E (E.cls.getD n []) 0 with
  | none => E
  | some o => if o = 0 then { E with br := (n : Int) } else E.put o (n : Int)
theorem Eng.val_or (E : Eng) (l : Int) : E.val l = 1 ∨ E.val l = 0 ∨ E.val l = -1 := by
  unfold Eng.val
  split
  · exact .inl rfl
  · split
    · exact .inr (.inr rfl)
    · exact .inr (.inl rfl)
/-- A clause's row, in the engine. -/
theorem EngIn.row {w : World} {B : Nat} {T : Tag} {E : Eng} {p : EngP} (h : EngIn w B T E p) (n : Nat) (hn : n < E.cls.length) : ∃ ad k A c, p.vC = .slice (some ad) E.cls.length k ∧ w.cell? (ad.add n) = some (.slice A E.cls[n].length c) ∧ Kd.C (Kd.int .i64) w A E.cls[n].length E.cls[n] := by
  obtain ⟨A0, k, e0⟩ := Kd.R_slice h.cls
  have hC := h.cls
  rw [e0] at hC
  obtain ⟨_, _, h3⟩ := Kd.R_reads' hC
  obtain ⟨ad, c, e1, hc1, hK, hcell⟩ := Kd.C_get h3 ((none, 0, 0) : Hd) (n : Int) (by omega) (by rw [h.len]; omega)
  have hx : p.hs[n]? = some (p.hs.getD n (none, 0, 0)) := by simp [show n < p.hs.length by rw [h.len]; exact hn]
  have hr := h.rows n _ _ hx (List.getElem?_eq_getElem hn)
  obtain ⟨A, c2, e2⟩ := Kd.R_slice hr
  have hr2 := hr
  rw [e2] at hr2
  have hK2 : c = [hdv (p.hs.getD ((n : Int).toNat) (none, 0, 0))] := hK
  refine ⟨ad, k, A, c2, by rw [e0, e1, h.len], ?_, (Kd.R_reads' hr2).2.2⟩
  have := hcell 0 _ (by rw [hK2, Int.toNat_natCast, e2]; rfl)
  rw [show ((n : Int).toNat * Kd.sz kH + 0) = n by rw [Int.toNat_natCast]; show n * 1 + 0 = n; omega] at this
  exact this
set_option maxRecDepth 100000 in
set_option maxHeartbeats 2000000 in
theorem eng_look.calls (E : Eng) (B : Nat) (T : Tag) (p : EngP) (n : Nat) (w : World) (h : EngIn w B T E p) (hn : n < E.cls.length) (hlit : ∀ x ∈ E.cls[n], (Lit.int .i64 x).wf = true) (hlen : E.tr.length < 4398046511104) :
    Calls Try.prog 52 #[.pointer (some ⟨B, 0, none⟩), .int .i64 (n : Int)] w fun e w' => e = .returned (.tuple #[]) ∧ EngPost B T p (E.look n) w w' := by
  obtain ⟨ad, k, A, c, e0, cr, hC⟩ := h.row n hn
  have c1 := h.cells.2.1
  rw [e0] at c1
  have hlk : E.look n = match scanU E E.cls[n] 0 with | none => E | some o => if o = 0 then { E with br := (n : Int) } else E.put o (n : Int) := by
    unfold Eng.look
    rw [List.getD_eq_getElem?_getD, List.getElem?_eq_getElem hn, Option.getD_some]
  obtain ⟨cl, hcl⟩ : ∃ cl, E.cls[n] = cl := ⟨_, rfl⟩
  rw [hcl] at cr hC hlk hlit
  obtain ⟨E2, hE2⟩ : ∃ E2, E.look n = E2 := ⟨_, rfl⟩
  rw [hE2] at hlk ⊢
  have hbig := hC.2.1
  have hcb : (E.cls.length : Int) ≤ 9223372036854775807 := by have := (Kd.R_reads' (e0 ▸ h.cls)).2.2.2.1; rw [h.len] at this; omega
  have HE := Aside0.mk h
  have HC := Aside0.mk hC
  have HK := Aside0.mk hlk
  have HL := Aside0.mk hlit
  have HLN := Aside0.mk hlen
  have p0 : ((0 : Int) ≤ (n : Int)) = True := eq_true (by omega)
  have p1 : ((n : Int) < (E.cls.length : Int)) = True := eq_true (by omega)
  have p2 : (n < E.cls.length) = True := eq_true hn
  clear h hC hlk hlit hlen hcl hE2 e0
  go_enter Try.func52, Try.ntmps52
  go_wp2
  go_loopg [4, 6, 7, 16, 23, 26, 33] cl.length (fun gg v4 _ _ v16 _ _ _ wr => ∃ (o : Int) (j : Nat), v4 = .int .i64 o ∧ v16 = .int .i64 (j : Int) ∧ Aside0 (j + gg = cl.length) ∧ Aside0 (Below w.heap.size w wr) ∧ Aside0 (scanU E cl 0 = scanU E (cl.drop j) o) ∧ Aside0 (o = 0 ∨ o ∈ cl))
  case atStart => exact ⟨0, 0, rfl, rfl, ⟨by simp⟩, ⟨Below.refl _ _⟩, ⟨rfl⟩, ⟨.inl rfl⟩⟩
  case round =>
    clear c1 cr
    obtain ⟨o, j, rfl, rfl, hg, hB, hS, hO⟩ := hrel
    by_cases hlt : j < cl.length
    · obtain ⟨ad2, e1, x1⟩ := Kd.at_int (Kd.C_below HC.out hB.out) (j : Int) (by omega) (by omega)
      cases e1
      obtain ⟨y, hy⟩ : ∃ y, cl[j] = y := ⟨_, rfl⟩
      have hrd : rd cl (j : Int) = y := by simp [rd, hlt, hy]
      rw [hrd] at x1
      simp only [Int.toNat_natCast] at x1
      have hmem : y ∈ cl := by rw [← hy]; exact List.getElem_mem hlt
      have hS2 := hS.out
      rw [List.drop_eq_getElem_cons hlt, hy, scanU] at hS2
      have hcall := eng_Value.calls E B T p y wr (HE.out.below hB.out) (HL.out y hmem)
      have HY := Aside0.mk hmem
      have P0 : ((0 : Int) ≤ (j : Int)) = True := eq_true (by omega)
      have P1 : ((j : Int) < (cl.length : Int)) = True := eq_true (by omega)
      have P2 : (j < cl.length) = True := eq_true hlt
      have hd : decide ((j : Int) < (cl.length : Int)) = true := decide_eq_true (by omega)
      rcases E.val_or y with hv | hv | hv
      · rw [hv] at hcall hS2
        rw [if_pos (by decide)] at hS2
        have HCALL := Aside0.mk hcall
        have HS2 := Aside0.mk hS2
        clear hS hS2 hcall hv hy hrd hmem
        go_wp2_with fail
        refine HCALL.out.mono ?_
        rintro e' w1 ⟨rfl, hb1⟩
        have HB1 := Aside0.mk (hB.out.trans (hb1.mono hB.out.size))
        clear hb1 HCALL
        go_wp2
        try simp only [Exit.inBlock, Exit.then]
        refine bodyPost_ret (results_none rfl _ _ _) rfl ?_
        refine ⟨rfl, T, p, ?_, Moved.of_below HB1.out, rfl⟩
        rw [HK.out, HS2.out]
        exact HE.out.below HB1.out
      · rw [hv] at hcall hS2
        rw [if_neg (by decide), if_pos rfl] at hS2
        have HCALL := Aside0.mk hcall
        have HS2 := Aside0.mk hS2
        clear hS hS2 hcall hv hy hrd hmem
        by_cases ho : o = 0
        · subst ho
          have hS3 := HS2.out
          rw [if_pos rfl] at hS3
          have HS3 := Aside0.mk hS3
          clear hS3 HS2
          go_wp2_with fail
          refine HCALL.out.mono ?_
          rintro e' w1 ⟨rfl, hb1⟩
          have HB1 := Aside0.mk (hB.out.trans (hb1.mono hB.out.size))
          clear hb1 HCALL
          go_wp2
          go_roundg (cl.length - (j + 1))
          case measure => have := hg.out; omega
          case rel => exact ⟨y, j + 1, rfl, by simp, ⟨by have := hg.out; omega⟩, HB1, HS3, ⟨.inr HY.out⟩⟩
        · have hS3 := HS2.out
          rw [if_neg ho] at hS3
          have HS3 := Aside0.mk hS3
          have c1' : (o != 0) = true := by simpa using ho
          have c2' : (o == 0) = false := by simpa using ho
          clear hS3 HS2 ho
          go_wp2_with fail
          refine HCALL.out.mono ?_
          rintro e' w1 ⟨rfl, hb1⟩
          have HB1 := Aside0.mk (hB.out.trans (hb1.mono hB.out.size))
          clear hb1 HCALL
          go_wp2
          try simp only [Exit.inBlock, Exit.then]
          refine bodyPost_ret (results_none rfl _ _ _) rfl ?_
          refine ⟨rfl, T, p, ?_, Moved.of_below HB1.out, rfl⟩
          rw [HK.out, HS3.out]
          exact HE.out.below HB1.out
      · rw [hv] at hcall hS2
        rw [if_neg (by decide), if_neg (by decide)] at hS2
        have HCALL := Aside0.mk hcall
        have HS2 := Aside0.mk hS2
        clear hS hS2 hcall hv hy hrd hmem
        go_wp2_with fail
        refine HCALL.out.mono ?_
        rintro e' w1 ⟨rfl, hb1⟩
        have HB1 := Aside0.mk (hB.out.trans (hb1.mono hB.out.size))
        clear hb1 HCALL
        go_wp2
        go_roundg (cl.length - (j + 1))
        case measure => have := hg.out; omega
        case rel => exact ⟨o, j + 1, rfl, by simp, ⟨by have := hg.out; omega⟩, HB1, HS2, hO⟩
    · have hd : decide ((j : Int) < (cl.length : Int)) = false := decide_eq_false (by omega)
      have hS2 := hS.out
      rw [List.drop_of_length_le (by omega), scanU] at hS2
      have hk := HK.out
      rw [hS2] at hk
      simp only at hk
      have HB := Aside0.mk hB.out
      by_cases ho : o = 0
      · subst ho
        rw [if_pos rfl] at hk
        have hE := HE.out.below HB.out
        obtain ⟨h2, m2⟩ := hE.turn_br (n : Int)
        have H2 := Aside0.mk h2
        have M2 := Aside0.mk ((Moved.of_below HB.out).trans m2)
        have HK2 := Aside0.mk hk
        have c6 := hE.cells.2.2.2.2.2.2.1
        have f6 := hE.cells.2.2.2.2.2.2.2 6
        clear hk h2 m2 hE hS hS2 HK
        go_wp2
        try simp only [Exit.inBlock, Exit.then]
        refine bodyPost_ret (results_none rfl _ _ _) rfl ?_
        refine ⟨rfl, T, p, ?_, M2.out, rfl⟩
        rw [HK2.out]
        exact H2.out
      · rw [if_neg ho] at hk
        have HK2 := Aside0.mk hk
        have c1' : (o != 0) = true := by simpa using ho
        have c2' : (o == 0) = false := by simpa using ho
        have HCALL := Aside0.mk (eng_put.calls E B T p o (n : Int) wr (HE.out.below HB.out) (HL.out o (hO.out.resolve_left ho)) HLN.out)
        clear hk hS hS2 HK ho
        go_wp2_with fail
        refine HCALL.out.mono ?_
        rintro e' w1 ⟨rfl, T2, p2, h2, m2, hf2⟩
        have H2 := Aside0.mk h2
        have M2 := Aside0.mk ((Moved.of_below HB.out).trans m2)
        have HF2 := Aside0.mk hf2
        clear h2 m2 hf2 HCALL
        go_wp2
        go_end0
        refine ⟨rfl, T2, p2, ?_, M2.out, HF2.out⟩
        rw [HK2.out]
        exact H2.out


end Go.Proofs.Ytaibnbhgjnddnaa.P

-- Printed by wip/tools/pp.py of this claim's session (over the kit's print.py); Lean checks it.
namespace Go.Proofs.Ytaibnbhgjnddnaa.P
open Go.RowKit Go.Proofs.YtaibnbhgjnddnaaW.PrintWords Go.Proofs.YtaibnbhgjnddnaaW.PrintLast Go.Proofs.YtaibnbhgjnddnaaW.PrintMore
attribute [local go_sem] max2_int min2_int max_two min_two max_three min_three max_four min_four   -- for this text's walks alone
set_option linter.unusedVariables false
set_option linter.unusedSimpArgs false

-- SOLO
-- IMPORTS Derived.Test.YtaibnbhgjnddnaaPxAunitEng Derived.StillTailTactics
/-! ### unit_Engine_follow: function 53 -/
/-- Clauses looked at, one behind the other; true: something is broken. -/
def Eng.looks : List Int → Eng → Option (Eng × Bool)
  | [], E => some (E, false)
  | n :: t, E => if E.br ≥ 0 then some (E, true) else if 0 ≤ n ∧ n.toNat < E.cls.length ∧ E.tr.length < 4398046511104 then Eng.looks t (E.look n.toNat) else none
/-- It goes on from a place of the trail. -/
def Eng.follow : Nat → Eng → Nat → Option Eng
  | 0, _, _ => none
  | k + 1, E, i => if i < E.tr.length then (Eng.looks (E.wt (wrap64 (-(rd E.tr (i : Int))))) E).bind fun r => if r.2 = true then some r.1 else Eng.follow k r.1 (i + 1) else some E
theorem Eng.look_cls (E : Eng) (n : Nat) : (E.look n).cls = E.cls ∧ (E.look n).wt = E.wt ∧ (E.look n).ws = E.ws ∧ (E.look n).n = E.n ∧ (E.look n).st = E.st := by
  unfold Eng.look
  split
  · exact ⟨rfl, rfl, rfl, rfl, rfl⟩
  · split
    · exact ⟨rfl, rfl, rfl, rfl, rfl⟩
    · exact ⟨rfl, rfl, rfl, rfl, rfl⟩
/-- All clauses' literals are whole numbers of 64 bits. -/
theorem zero_row (W : World) : (zeroValue 25).run Try.prog W = .ok (.slice none 0 0) W := by kernel_rfl
set_option maxRecDepth 100000 in
set_option maxHeartbeats 4000000 in
theorem eng_follow.calls (k : Nat) (E : Eng) (B : Nat) (T : Tag) (p : EngP) (i : Nat) (E2 : Eng) (w : World) (h : EngIn w B T E p) (hlit : E.Lits) (hf : Eng.follow k E i = some E2) :
    Calls Try.prog 53 #[.pointer (some ⟨B, 0, none⟩), .int .i64 (i : Int)] w fun e w' => e = .returned (.tuple #[]) ∧ EngPost B T p E2 w w' := by
  have HE := Aside0.mk h
  have HL := Aside0.mk hlit
  have HF := Aside0.mk hf
  clear h hlit hf
  go_enter Try.func53, Try.ntmps53
  go_wp2
  go_loopg [1, 5, 29] k (fun gg v1 _ _ wr => ∃ (i : Nat) (E1 : Eng) (T1 : Tag) (p1 : EngP), v1 = .int .i64 (i : Int) ∧ Aside0 (EngIn wr B T1 E1 p1) ∧ Aside0 (Moved T T1 w wr) ∧ Aside0 (p1.fw = p.fw) ∧ Aside0 (E1.Lits) ∧ Aside0 (Eng.follow gg E1 i = some E2) ∧ Aside0 (gg ≤ k))
  case atStart => exact ⟨i, E, T, p, rfl, HE, ⟨Moved.refl _ _⟩, ⟨rfl⟩, HL, HF, ⟨Nat.le_refl _⟩⟩
  case round =>
    clear HE HL HF
    obtain ⟨i, E1, T1, p1, rfl, HE, HM, HP, HL, HF, HG⟩ := hrel
    obtain ⟨wo, rfl⟩ : ∃ wo : World, wo = wr := ⟨_, rfl⟩
    cases gk with
    | zero => exact absurd HF.out (by simp [Eng.follow])
    | succ k1 =>
      have hF := HF.out
      rw [Eng.follow] at hF
      clear HF
      have c3 := HE.out.cells.2.2.2.1
      obtain ⟨A3, n3, e3⟩ := Kd.R_slice HE.out.tr
      have hR3 := HE.out.tr
      rw [e3] at c3 hR3
      obtain ⟨_, _, hC3⟩ := Kd.R_reads' hR3
      have hbig := hC3.2.1
      by_cases hlt : i < E1.tr.length
      · rw [if_pos hlt] at hF
        obtain ⟨ad, e1, x1⟩ := Kd.at_int (Kd.C_below hC3 (below_drew (Below.refl _ wo))) (i : Int) (by omega) (by omega)
        cases e1
        simp only [Int.toNat_natCast] at x1
        obtain ⟨y, hy⟩ : ∃ y, rd E1.tr (i : Int) = y := ⟨_, rfl⟩
        rw [hy] at x1 hF
        obtain ⟨⟨E3, b3⟩, hlk, hF⟩ := Option.bind_eq_some_iff.mp hF
        dsimp only at hF
        have hD := HE.out.below (below_drew (Below.refl _ wo))
        have q1 := hD.wt.look Try.underlying3 Try.underlying67 (zero_row _) (wf_wrap y)
        obtain ⟨x, hx⟩ : ∃ x, wrap64 (-y) = x := ⟨_, rfl⟩
        have P6 : IntKind.i64.wrap (-y) = wrap64 (-y) := Go.IntWalk.i64_left _
        rw [hx] at q1 hlk P6
        have hg := HE.out.grp x
        obtain ⟨Ag, ng, eg⟩ := Kd.R_slice hg
        rw [eg] at q1
        have d2 := hD.cells.2.2.1
        have d3 : wo.drew.cell? ⟨B, 3, none⟩ = some (.slice (some ad) E1.tr.length n3) := by rw [hD.cells.2.2.2.1, e3]
        have P0 : ((0 : Int) ≤ (i : Int)) = True := eq_true (by omega)
        have P1 : ((i : Int) < (E1.tr.length : Int)) = True := eq_true (by omega)
        have P2 : (i < E1.tr.length) = True := eq_true hlt
        have hd : decide ((i : Int) < (E1.tr.length : Int)) = true := decide_eq_true (by omega)
        have HEG := Aside0.mk eg
        have HLK := Aside0.mk hlk
        have HF := Aside0.mk hF
        have HD := Aside0.mk hD
        obtain ⟨N3, hN3⟩ : ∃ N3, E1.tr.length = N3 := ⟨_, rfl⟩
        obtain ⟨ws, hws⟩ : ∃ ws, E1.wt x = ws := ⟨_, rfl⟩
        rw [hws] at HLK HEG q1
        have HWS := Aside0.mk hws
        have hwb : ws.length ≤ 9223372036854775807 := by rw [← hws]; have := hg; rw [eg] at this; exact (Kd.R_reads' this).2.2.2.1
        clear e3 hR3 hC3 hy hx hg eg hlk hF hD hN3 hws
        go_wp2
        go_still (by kernel_rfl)
        go_wp2
        have HB0 := Aside0.mk (Moved.of_below (T := T1) (below_drew (Below.refl wo.heap.size wo)))
        clear q1 d2 d3 c3 x1 P6
        go_loopg [5, 29] ws.length (fun gg _ v29 wr => ∃ (j : Nat) (E4 : Eng) (T4 : Tag) (p4 : EngP), v29 = .int .i64 (j : Int) ∧ Aside0 (j + gg = ws.length) ∧ Aside0 (EngIn wr B T4 E4 p4) ∧ Aside0 (Moved T T4 w wr) ∧ Aside0 (p4.fw = p.fw) ∧ Aside0 (E4.Lits ∧ E4.wt x = ws) ∧ Aside0 (Eng.looks (ws.drop j) E4 = some (E3, b3)))
        case atStart => exact ⟨0, E1, T1, p1, rfl, ⟨by simp⟩, HD, ⟨HM.out.trans HB0.out⟩, HP, ⟨HL.out, HWS.out⟩, HLK⟩
        case round =>
          clear HD HLK HWS HB0 HE HM HL
          obtain ⟨j, E4, T4, p4, rfl, hg, HE, HM, HP4, HL, HLK⟩ := hrel
          by_cases hjl : j < ws.length
          · have hgr := HE.out.grp x
            rw [HL.out.2, HP4.out, ← HP.out, HEG.out] at hgr
            obtain ⟨ad2, e1, x1⟩ := Kd.at_int (Kd.R_reads' hgr).2.2 (j : Int) (by omega) (by omega)
            cases e1
            obtain ⟨y, hy⟩ : ∃ y, ws[j] = y := ⟨_, rfl⟩
            have hrd : rd ws (j : Int) = y := by simp [rd, hjl, hy]
            rw [hrd] at x1
            simp only [Int.toNat_natCast] at x1
            have hlk := HLK.out
            rw [List.drop_eq_getElem_cons hjl, hy, Eng.looks] at hlk
            have c6 := HE.out.cells.2.2.2.2.2.2.1
            have P3 : ((0 : Int) ≤ (j : Int)) = True := eq_true (by omega)
            have P4 : ((j : Int) < (ws.length : Int)) = True := eq_true (by omega)
            have P5 : (j < ws.length) = True := eq_true hjl
            have hd2 : decide ((j : Int) < (ws.length : Int)) = true := decide_eq_true (by omega)
            by_cases hbr : E4.br ≥ 0
            · rw [if_pos hbr] at hlk
              simp only [Option.some.injEq, Prod.mk.injEq] at hlk
              obtain ⟨h1, h2⟩ := hlk
              have hF := HF.out
              rw [← h2, if_pos rfl, ← h1] at hF
              have HE2 := Aside0.mk (Option.some.inj hF)
              have hd3 : decide ((0 : Int) ≤ E4.br) = true := decide_eq_true hbr
              clear h1 h2 hF hbr hrd hy hgr HLK
              go_wp2
              try simp only [Exit.inBlock, Exit.then]
              refine bodyPost_ret (results_none rfl _ _ _) rfl ?_
              rw [← HE2.out]
              exact ⟨rfl, T4, p4, HE.out, HM.out, HP4.out⟩
            · rw [if_neg hbr] at hlk
              by_cases hcond : 0 ≤ y ∧ y.toNat < E4.cls.length ∧ E4.tr.length < 4398046511104
              · rw [if_pos hcond] at hlk
                obtain ⟨hy0, hy1, hy2⟩ := hcond
                obtain ⟨m, rfl⟩ := Int.eq_ofNat_of_zero_le hy0
                rw [Int.toNat_natCast] at hy1 hlk
                have hd3 : decide ((0 : Int) ≤ E4.br) = false := decide_eq_false hbr
                have HCALL := Aside0.mk (eng_look.calls E4 B T4 p4 m wr HE.out hy1 (HL.out.1 _ (List.getElem_mem hy1)) hy2)
                have HLK2 := Aside0.mk hlk
                clear hlk hbr hrd hy hgr HLK hy0 hy1 hy2
                go_wp2_with fail
                refine HCALL.out.mono ?_
                rintro e' w5 ⟨rfl, T5, p5, h5, m5, f5⟩
                have H5 := Aside0.mk h5
                have M5 := Aside0.mk (HM.out.trans m5)
                have F5 := Aside0.mk (f5.trans HP4.out)
                obtain ⟨l1, l2, _⟩ := E4.look_cls m
                have L5 : Aside0 ((E4.look m).Lits ∧ (E4.look m).wt x = ws) := ⟨by unfold Eng.Lits; rw [l1]; exact HL.out.1, by rw [l2]; exact HL.out.2⟩
                clear h5 m5 f5 l1 l2 HCALL
                go_wp2
                go_roundg (ws.length - (j + 1))
                case measure => have := hg.out; omega
                case rel => exact ⟨j + 1, E4.look m, T5, p5, by simp, ⟨by have := hg.out; omega⟩, H5, M5, F5, L5, HLK2⟩
              · rw [if_neg hcond] at hlk; cases hlk
          · have hd2 : decide ((j : Int) < (ws.length : Int)) = false := decide_eq_false (by omega)
            have P5 : (j < ws.length) = False := eq_false hjl
            have hlk := HLK.out
            rw [List.drop_of_length_le (by omega), Eng.looks] at hlk
            simp only [Option.some.injEq, Prod.mk.injEq] at hlk
            obtain ⟨h1, h2⟩ := hlk
            have hF := HF.out
            rw [← h2, if_neg (by decide), ← h1] at hF
            have HF2 := Aside0.mk hF
            clear h1 h2 hF HLK
            go_wp2
            go_roundg k1
            case measure => have := HG.out; omega
            case rel => exact ⟨i + 1, E4, T4, p4, by simp, HE, HM, HP4, ⟨HL.out.1⟩, HF2, ⟨by have := HG.out; omega⟩⟩
      · rw [if_neg hlt] at hF
        have HE2 := Aside0.mk (Option.some.inj hF)
        have hd : decide ((i : Int) < (E1.tr.length : Int)) = false := decide_eq_false (by omega)
        have P2 : (i < E1.tr.length) = False := eq_false hlt
        clear e3 hR3 hC3 hF
        go_wp2
        go_end0
        rw [← HE2.out]
        exact ⟨rfl, T1, p1, HE.out, HM.out, HP.out⟩


end Go.Proofs.Ytaibnbhgjnddnaa.P

-- Printed by wip/tools/pp.py of this claim's session (over the kit's print.py); Lean checks it.
namespace Go.Proofs.Ytaibnbhgjnddnaa.P
open Go.RowKit Go.Proofs.YtaibnbhgjnddnaaW.PrintWords Go.Proofs.YtaibnbhgjnddnaaW.PrintLast Go.Proofs.YtaibnbhgjnddnaaW.PrintMore
attribute [local go_sem] max2_int min2_int max_two min_two max_three min_three max_four min_four   -- for this text's walks alone
set_option linter.unusedVariables false
set_option linter.unusedSimpArgs false

-- SOLO
-- IMPORTS Derived.Test.YtaibnbhgjnddnaaPxAunitEng
/-! ### unit_Engine_settle: function 36 -/
/-- Clauses looked at from one on, as long as nothing is broken. -/
def Eng.scan : Nat → Nat → Eng → Option Eng
  | 0, _, E => some E
  | m + 1, n, E => if E.br < 0 then (if E.tr.length < 4398046511104 then Eng.scan m (n + 1) (E.look n) else none) else some E
/-- It goes on, all clauses looked at first. -/
def Eng.settle (k : Nat) (E : Eng) : Option Eng := (Eng.scan E.cls.length 0 E).bind fun E' => Eng.follow k E' E.tr.length
set_option maxRecDepth 100000 in
set_option maxHeartbeats 4000000 in
theorem eng_settle.calls (k : Nat) (E : Eng) (B : Nat) (T : Tag) (p : EngP) (E2 : Eng) (w : World) (h : EngIn w B T E p) (hlit : E.Lits) (hf : Eng.settle k E = some E2) :
    Calls Try.prog 36 #[.pointer (some ⟨B, 0, none⟩)] w fun e w' => e = .returned (.tuple #[]) ∧ EngPost B T p E2 w w' := by
  unfold Eng.settle at hf
  obtain ⟨E3, hsc, hf⟩ := Option.bind_eq_some_iff.mp hf
  have c3 := h.cells.2.2.2.1
  obtain ⟨A3, n3, e3⟩ := Kd.R_slice h.tr
  rw [e3] at c3
  obtain ⟨N, hN⟩ : ∃ N, E.cls.length = N := ⟨_, rfl⟩
  rw [hN] at hsc
  have HE := Aside0.mk h
  have HL := Aside0.mk hlit
  have HF := Aside0.mk hf
  have HS := Aside0.mk hsc
  have HN := Aside0.mk hN
  have hNb : N ≤ 9223372036854775807 := by obtain ⟨A1, k1, e1⟩ := Kd.R_slice h.cls; have := h.cls; rw [e1] at this; have := (Kd.R_reads' this).2.2.2.1; rw [← hN, ← h.len]; exact this
  obtain ⟨tl, htl⟩ : ∃ tl, E.tr.length = tl := ⟨_, rfl⟩
  rw [htl] at c3 HF
  clear h hlit hf hsc hN e3 htl
  go_enter Try.func36, Try.ntmps36
  go_wp2
  go_loopg [3] N (fun gg v3 wr => ∃ (n : Nat) (E1 : Eng) (T1 : Tag) (p1 : EngP), v3 = .int .i64 (n : Int) ∧ Aside0 (n + gg = N) ∧ Aside0 (EngIn wr B T1 E1 p1) ∧ Aside0 (Moved T T1 w wr) ∧ Aside0 (p1.fw = p.fw) ∧ Aside0 (E1.Lits) ∧ Aside0 (E1.cls.length = N) ∧ Aside0 (Eng.scan gg n E1 = some E3))
  case atStart => exact ⟨0, E, T, p, rfl, ⟨by simp⟩, HE, ⟨Moved.refl _ _⟩, ⟨rfl⟩, HL, HN, HS⟩
  case round =>
    clear HE HL HS HN c3
    obtain ⟨n, E1, T1, p1, rfl, hg, HE, HM, HP, HL, HN, HS⟩ := hrel
    have c1 := HE.out.cells.2.1
    have c6 := HE.out.cells.2.2.2.2.2.2.1
    obtain ⟨A1, k1, e1⟩ := Kd.R_slice HE.out.cls
    rw [e1, HE.out.len, HN.out] at c1
    have fin : ∀ {E4 : Eng} {T4 : Tag} {p4 : EngP} {W4 : World}, EngIn W4 B T4 E4 p4 → E4 = E3 → E4.Lits → Calls Try.prog 53 #[.pointer (some ⟨B, 0, none⟩), .int .i64 (tl : Int)] W4 fun e w' => e = .returned (.tuple #[]) ∧ EngPost B T4 p4 E2 W4 w' := fun h4 e4 l4 => eng_follow.calls k _ B _ _ tl E2 _ h4 l4 (by rw [e4]; exact HF.out)
    by_cases hlt : n < N
    · obtain ⟨m, hm⟩ : ∃ m, gk = m + 1 := ⟨gk - 1, by have := hg.out; omega⟩
      have hs := HS.out
      rw [hm, Eng.scan] at hs
      have P0 : ((n : Int) < (N : Int)) = True := eq_true (by omega)
      have P2 : (n < N) = True := eq_true hlt
      have hd : decide ((n : Int) < (N : Int)) = true := decide_eq_true (by omega)
      by_cases hb : E1.br < 0
      · rw [if_pos hb] at hs
        by_cases hl : E1.tr.length < 4398046511104
        · rw [if_pos hl] at hs
          have hnl : n < E1.cls.length := by rw [HN.out]; exact hlt
          have HCALL := Aside0.mk (eng_look.calls E1 B T1 p1 n wr HE.out hnl (HL.out _ (List.getElem_mem hnl)) hl)
          have HS2 := Aside0.mk hs
          have HM1 := Aside0.mk hm
          have hd2 : decide (E1.br < 0) = true := decide_eq_true hb
          clear hs hb hl hnl e1 fin hm HS
          go_wp2_with fail
          refine HCALL.out.mono ?_
          rintro e' w5 ⟨rfl, T5, p5, h5, m5, f5⟩
          have H5 := Aside0.mk h5
          have M5 := Aside0.mk (HM.out.trans m5)
          have F5 := Aside0.mk (f5.trans HP.out)
          obtain ⟨l1, l2, _⟩ := E1.look_cls n
          have L5 : Aside0 (E1.look n).Lits := ⟨by unfold Eng.Lits; rw [l1]; exact HL.out⟩
          have N5 : Aside0 ((E1.look n).cls.length = N) := ⟨by rw [l1]; exact HN.out⟩
          clear h5 m5 f5 l1 l2 HCALL
          go_wp2
          go_roundg m
          case measure => have := HM1.out; omega
          case rel => exact ⟨n + 1, E1.look n, T5, p5, by simp, ⟨by have := hg.out; have := HM1.out; omega⟩, H5, M5, F5, L5, N5, HS2⟩
        · rw [if_neg hl] at hs; cases hs
      · rw [if_neg hb] at hs
        have HCALL := Aside0.mk (fin HE.out (Option.some.inj hs) HL.out)
        have hd2 : decide (E1.br < 0) = false := decide_eq_false hb
        clear hs hb e1 fin hm HS
        go_wp2_with fail
        refine HCALL.out.mono ?_
        rintro e' w5 ⟨rfl, T5, p5, h5, m5, f5⟩
        have H5 := Aside0.mk h5
        have M5 := Aside0.mk (HM.out.trans m5)
        have F5 := Aside0.mk (f5.trans HP.out)
        clear h5 m5 f5 HCALL
        go_wp2
        go_end0
        exact ⟨rfl, T5, p5, H5.out, M5.out, F5.out⟩
    · have hs := HS.out
      have hm : gk = 0 := by have := hg.out; omega
      rw [hm, Eng.scan] at hs
      have HCALL := Aside0.mk (fin HE.out (Option.some.inj hs) HL.out)
      have hd : decide ((n : Int) < (N : Int)) = false := decide_eq_false (by omega)
      have P2 : (n < N) = False := eq_false hlt
      clear hs e1 fin hm HS
      go_wp2_with fail
      refine HCALL.out.mono ?_
      rintro e' w5 ⟨rfl, T5, p5, h5, m5, f5⟩
      have H5 := Aside0.mk h5
      have M5 := Aside0.mk (HM.out.trans m5)
      have F5 := Aside0.mk (f5.trans HP.out)
      clear h5 m5 f5 HCALL
      go_wp2
      go_end0
      exact ⟨rfl, T5, p5, H5.out, M5.out, F5.out⟩


end Go.Proofs.Ytaibnbhgjnddnaa.P

-- Printed by wip/tools/pp.py of this claim's session (over the kit's print.py); Lean checks it.
namespace Go.Proofs.Ytaibnbhgjnddnaa.P
open Go.RowKit Go.Proofs.YtaibnbhgjnddnaaW.PrintWords Go.Proofs.YtaibnbhgjnddnaaW.PrintLast Go.Proofs.YtaibnbhgjnddnaaW.PrintMore
attribute [local go_sem] max2_int min2_int max_two min_two max_three min_three max_four min_four   -- for this text's walks alone
set_option linter.unusedVariables false
set_option linter.unusedSimpArgs false

/-! ### solve_opposites: function 45 -/
def solve_opposites.l0 : Nat → List Int → List Int → Int → Int → Option (List Int)
  | 0, _, _, _, _ => none
  | k + 1, x3, x6, x7, x8 => if x8 < x7 then (if 0 ≤ x8 then (if x8 < (x6.length : Int) then (if x3.length < 17592186044416 then (solve_opposites.l0 k (x3 ++ [wrap64 (-(rd x6 x8))]) x6 x7 (wrap64 (x8 + 1))) else (none)) else (none)) else (none)) else (some x3)
def solve_opposites.f (k : Nat) (l0 : List Int) : Option (List Int) := solve_opposites.l0 k ([] : List Int) l0 (l0.length : Int) 0
theorem solve_opposites.mono_l : ∀ k, (∀ y0 y1 y2 y3, LeO (solve_opposites.l0 k y0 y1 y2 y3) (solve_opposites.l0 (k + 1) y0 y1 y2 y3))
  | 0 => fun _ _ _ _ r h => by simp [solve_opposites.l0] at h
  | k + 1 => by
    have ih0 := solve_opposites.mono_l k
    · intro y0 y1 y2 y3
      unfold solve_opposites.l0
      repeat' first
      | (with_reducible exact ih0 _ _ _ _)
      | (with_reducible exact LeO.refl _)
      | (with_reducible exact LeO.none _)
      | (with_reducible refine LeO.ite ?_ ?_)
      | (with_reducible refine LeO.bind ?_ (fun _ => ?_))
      | exact ih0 _ _ _ _
      | exact LeO.none _
      | refine LeO.ite ?_ ?_
      | refine LeO.bind ?_ (fun _ => ?_)
theorem solve_opposites.mono : ∀ a0 k, LeO (solve_opposites.f k a0) (solve_opposites.f (k + 1) a0) := by
  intro a0 k
  have ih0 := solve_opposites.mono_l k
  unfold solve_opposites.f
  repeat' first
      | (with_reducible exact ih0 _ _ _ _)
      | (with_reducible exact LeO.refl _)
      | (with_reducible exact LeO.none _)
      | (with_reducible refine LeO.ite ?_ ?_)
      | (with_reducible refine LeO.bind ?_ (fun _ => ?_))
      | exact ih0 _ _ _ _
      | exact LeO.none _
      | refine LeO.ite ?_ ?_
      | refine LeO.bind ?_ (fun _ => ?_)
set_option maxHeartbeats 8000000 in
set_option maxRecDepth 100000 in
theorem solve_opposites.calls (k : Nat) (A0 : Option Addr) (c0 : Nat) (l0 : List Int) (r : List Int) (w : World) (hr0 : Kd.C (Kd.int .i64) w A0 l0.length l0) (hc0 : l0.length ≤ c0) (h : solve_opposites.f k l0 = some r) :
    Calls Try.prog 45 #[.slice A0 l0.length c0] w fun e w' => ∃ v0_ : Value, e = .returned (v0_) ∧ Kd.R (Kd.int .i64) 3 w' w.heap.size (fun _ => True) v0_ r ∧ Below w.heap.size w w' := by
  have HR0 := Aside0.mk hr0
  have HC0 := Aside0.mk hc0
  clear hr0 hc0
  have HB := Aside0.mk (Below.refl w.heap.size w)
  have H : (solve_opposites.l0 k ([] : List Int) l0 (l0.length : Int) 0) = some r := h
  clear h
  have H' := Aside0.mk H
  clear H
  go_enter Try.func45, Try.ntmps45
  go_wp2
  go_loopg [3, 8] k (fun kq v3 v8 w' => ∃ (x3_1 : List Int) (x8_1 : Int), v8 = .int .i64 x8_1 ∧ Aside0 (solve_opposites.l0 kq x3_1 l0 (l0.length : Int) x8_1 = some r) ∧ Aside0 (kq ≤ k) ∧ Aside0 (Kd.R (Kd.int .i64) 3 w' w.heap.size (fun _ => True) v3 x3_1) ∧ Aside0 (Below w.heap.size w w'))
  case atStart => exact ⟨(([] : List Int)), (0), (by first | rfl | (simp; done) | (simp [*]; done)), H', ⟨Nat.le_refl _⟩, ⟨by first | exact Kd.R_nil _ _ _ _ _ | exact Kd.N_nil _ _ _ _ _ | exact Kd.V_nil _ _ _ _ _ | exact Kd.Q_nil _ _ _ _ _ | exact Kd.S_nil _ _ _ _ _⟩, ⟨by repeat (first | (with_reducible first | exact HB.out | apply below_alloc | apply pw_below_drewN | apply below_drew1) | exact HB.out)⟩⟩
  case round =>
    clear H'
    obtain ⟨x3_1, x8_1, rfl, HA, HK1, HO_3, HB⟩ := hrel
    cases gk with
    | zero => exact absurd HA.out (by simp [solve_opposites.l0])
    | succ k1 =>
      have H := HA.out
      clear HA
      simp only [solve_opposites.l0] at H
      by_cases c2 : x8_1 < (l0.length : Int)
      · rw [if_pos c2] at H
        have c2b0 : decide (x8_1 < (l0.length : Int)) = true := decide_eq_true c2
        clear c2
        by_cases c3 : 0 ≤ x8_1
        · rw [if_pos c3] at H
          have c3b0 : decide (0 ≤ x8_1) = true := decide_eq_true c3
          clear c3
          by_cases c4 : x8_1 < (l0.length : Int)
          · rw [if_pos c4] at H
            have c4b0 : decide (x8_1 < (l0.length : Int)) = true := decide_eq_true c4
            clear c4
            by_cases c5 : x3_1.length < 17592186044416
            · rw [if_pos c5] at H
              have LMc5 := Aside0.mk c5
              clear c5
              obtain ⟨y134, hy134⟩ : ∃ y_ : List Int, y_ = (x3_1 ++ [wrap64 (-(rd l0 x8_1))]) := ⟨_, rfl⟩
              replace H : (solve_opposites.l0 k1 y134 l0 (l0.length : Int) (wrap64 (x8_1 + 1))) = some r := by first | (rw [hy134]; with_reducible exact H) | (have H2_ := (Option.bind_some _ _).symm.trans H; rw [hy134]; with_reducible exact H2_) | (have H2_ := (Option.bind_some _ _).symm.trans H; with_reducible exact H2_) | with_reducible exact H | (rw [hy134]; exact H) | exact H
              have Ny134 := Aside0.mk hy134
              clear hy134
              as_aux_lemma =>
                have H' := Aside0.mk H
                clear H
                have p133 : 0 ≤ (x8_1 : Int) := of_decide_eq_true (by first | (with_reducible assumption) | assumption)
                have q133 : x8_1 < (l0.length : Int) := of_decide_eq_true (by first | (with_reducible assumption) | assumption)
                obtain ⟨ad133, e133, hx133_0⟩ := Kd.at_int HR0.out x8_1 p133 q133
                cases e133
                replace hx133_0 := (HB.out.cell (World.block_lt_of_cell? w _ hx133_0)).trans hx133_0
                replace p133 := eq_true p133
                replace q133 := eq_true q133
                go_wp2_with (first | ((with_reducible refine gate_builtin (b := .append) (xs := #[.tmp 12, .tmp 15]) rfl ?_); at_builtin; refine Kd.R_append (Kd.int .i64) (w0 := w) w.heap.size rfl (.tmp 12) (.tmp 15) 25 3 (.int .i64 0) 8 rfl Try.underlying25 info3 rfl (by decide) (by omega) u3 x3_1 (wrap64 (-(rd l0 x8_1))) [.int .i64 (wrap64 (-(rd l0 x8_1)))] (fun _ => True) (fun _ => False) rfl rfl ?aP (fun _ hk => hk.elim) ?aF ?aO ?aB ?aS ?aL ?_; (case aP => exact rfl); (case aB => exact (by repeat (first | (with_reducible first | exact HB.out | apply below_alloc | apply pw_below_drewN | apply below_drew1) | exact HB.out))); (case aF => exact (fun _ _ => trivial)); (case aO => exact (by (with_reducible repeat (first | apply Kd.R_alloc | apply Kd.R_drewN | apply Kd.R_drew)); exact HO_3.out)); (case aS => exact (below_size (by repeat (first | (with_reducible first | exact HB.out | apply below_alloc | apply pw_below_drewN | apply below_drew1) | exact HB.out)))); (case aL => have := LMc5.out; omega); intro v135 w6 ho hb hg hat; rw [← Ny134.out] at ho; have n0_ := Aside0.mk (hb); have n1_ := Aside0.mk (ho); clear HB; clear HO_3; have HB := n0_; have HO136 := n1_; clear n0_ n1_; clear ho hb hg hat))
                go_roundg k1
                case measure => have := HK1.out; omega
                case rel => exact ⟨(y134), (wrap64 (x8_1 + 1)), (by first | rfl | (simp; done) | (simp [*]; done)), H', ⟨by have := HK1.out; omega⟩, ⟨by (with_reducible repeat (first | apply Kd.R_alloc | apply Kd.R_drewN | apply Kd.R_drew)); exact HO136.out⟩, ⟨by repeat (first | (with_reducible first | exact HB.out | apply below_alloc | apply pw_below_drewN | apply below_drew1) | exact HB.out)⟩⟩
            · rw [if_neg c5] at H
              exact absurd H (by simp)
          · rw [if_neg c4] at H
            exact absurd H (by simp)
        · rw [if_neg c3] at H
          exact absurd H (by simp)
      · rw [if_neg c2] at H
        have c2b0 : decide (x8_1 < (l0.length : Int)) = false := decide_eq_false c2
        clear c2
        as_aux_lemma =>
          obtain rfl := Option.some.inj H
          go_wp2
          go_ret
          exact ⟨_, by first | rfl | (simp [errW_none, errW_some] <;> rfl) | (simp [*, errW_none, errW_some] <;> rfl), by (with_reducible repeat (first | apply Kd.R_alloc | apply Kd.R_drewN | apply Kd.R_drew)); exact HO_3.out, by repeat (first | (with_reducible first | exact HB.out | apply below_alloc | apply pw_below_drewN | apply below_drew1) | exact HB.out)⟩

end Go.Proofs.Ytaibnbhgjnddnaa.P

-- Printed by wip/tools/pp.py of this claim's session (over the kit's print.py); Lean checks it.
namespace Go.Proofs.Ytaibnbhgjnddnaa.P
open Go.RowKit Go.Proofs.YtaibnbhgjnddnaaW.PrintWords Go.Proofs.YtaibnbhgjnddnaaW.PrintLast Go.Proofs.YtaibnbhgjnddnaaW.PrintMore
attribute [local go_sem] max2_int min2_int max_two min_two max_three min_three max_four min_four   -- for this text's walks alone
set_option linter.unusedVariables false
set_option linter.unusedSimpArgs false

/-! ### slices_Index_int_int: function 79 -/
def slices_Index_int_int.l0 : Nat → List Int → Int → Int → Int → Option (Int)
  | 0, _, _, _, _ => none
  | k + 1, x0, x1, x7, x8 => if x8 < x7 then (if 0 ≤ x8 then (if x8 < (x0.length : Int) then (if x1 = (rd x0 x8) then (some x8) else (slices_Index_int_int.l0 k x0 x1 x7 (wrap64 (x8 + 1)))) else (none)) else (none)) else (some (-1))
def slices_Index_int_int.f (k : Nat) (l0 : List Int) (a1 : Int) : Option (Int) := slices_Index_int_int.l0 k l0 a1 (l0.length : Int) 0
theorem slices_Index_int_int.mono_l : ∀ k, (∀ y0 y1 y2 y3, LeO (slices_Index_int_int.l0 k y0 y1 y2 y3) (slices_Index_int_int.l0 (k + 1) y0 y1 y2 y3))
  | 0 => fun _ _ _ _ r h => by simp [slices_Index_int_int.l0] at h
  | k + 1 => by
    have ih0 := slices_Index_int_int.mono_l k
    · intro y0 y1 y2 y3
      unfold slices_Index_int_int.l0
      repeat' first
      | (with_reducible exact ih0 _ _ _ _)
      | (with_reducible exact LeO.refl _)
      | (with_reducible exact LeO.none _)
      | (with_reducible refine LeO.ite ?_ ?_)
      | (with_reducible refine LeO.bind ?_ (fun _ => ?_))
      | exact ih0 _ _ _ _
      | exact LeO.none _
      | refine LeO.ite ?_ ?_
      | refine LeO.bind ?_ (fun _ => ?_)
theorem slices_Index_int_int.mono : ∀ a0 a1 k, LeO (slices_Index_int_int.f k a0 a1) (slices_Index_int_int.f (k + 1) a0 a1) := by
  intro a0 a1 k
  have ih0 := slices_Index_int_int.mono_l k
  unfold slices_Index_int_int.f
  repeat' first
      | (with_reducible exact ih0 _ _ _ _)
      | (with_reducible exact LeO.refl _)
      | (with_reducible exact LeO.none _)
      | (with_reducible refine LeO.ite ?_ ?_)
      | (with_reducible refine LeO.bind ?_ (fun _ => ?_))
      | exact ih0 _ _ _ _
      | exact LeO.none _
      | refine LeO.ite ?_ ?_
      | refine LeO.bind ?_ (fun _ => ?_)
set_option maxHeartbeats 8000000 in
set_option maxRecDepth 100000 in
theorem slices_Index_int_int.calls (k : Nat) (A0 : Option Addr) (c0 : Nat) (l0 : List Int) (a1 : Int) (r : Int) (w : World) (hr0 : Kd.C (Kd.int .i64) w A0 l0.length l0) (hc0 : l0.length ≤ c0) (h : slices_Index_int_int.f k l0 a1 = some r) :
    Calls Try.prog 79 #[.slice A0 l0.length c0, .int .i64 a1] w fun e w' => e = .returned (.int .i64 r) ∧ Drawn0 w w' := by
  have HR0 := Aside0.mk hr0
  have HC0 := Aside0.mk hc0
  clear hr0 hc0
  have H : (slices_Index_int_int.l0 k l0 a1 (l0.length : Int) 0) = some r := h
  clear h
  have H' := Aside0.mk H
  clear H
  go_enter Try.func79, Try.ntmps79
  go_wp2
  go_loopg [8] k (fun kq v8 w' => ∃ (x8_1 : Int), v8 = .int .i64 x8_1 ∧ Aside0 (slices_Index_int_int.l0 kq l0 a1 (l0.length : Int) x8_1 = some r) ∧ Aside0 (kq ≤ k) ∧ Drawn0 w w')
  case atStart => exact ⟨(0), (by first | rfl | (simp; done) | (simp [*]; done)), H', ⟨Nat.le_refl _⟩, by repeat (first | exact Drawn0.refl _ | apply Drawn0.step)⟩
  case round =>
    clear H'
    try clear p2
    obtain ⟨x8_1, rfl, HA, HK1, ⟨m1, rfl⟩⟩ := hrel
    cases gk with
    | zero => exact absurd HA.out (by simp [slices_Index_int_int.l0])
    | succ k1 =>
      have H := HA.out
      clear HA
      simp only [slices_Index_int_int.l0] at H
      by_cases c3 : x8_1 < (l0.length : Int)
      · rw [if_pos c3] at H
        have c3b0 : decide (x8_1 < (l0.length : Int)) = true := decide_eq_true c3
        clear c3
        by_cases c4 : 0 ≤ x8_1
        · rw [if_pos c4] at H
          have c4b0 : decide (0 ≤ x8_1) = true := decide_eq_true c4
          clear c4
          by_cases c5 : x8_1 < (l0.length : Int)
          · rw [if_pos c5] at H
            have c5b0 : decide (x8_1 < (l0.length : Int)) = true := decide_eq_true c5
            clear c5
            by_cases c6 : a1 = (rd l0 x8_1)
            · rw [if_pos c6] at H
              have c6b0 : (a1 == (rd l0 x8_1)) = true := beq_iff_eq.mpr c6
              have c6b1 : (a1 != (rd l0 x8_1)) = false := bne_eq_false_iff_eq.mpr c6
              clear c6
              as_aux_lemma =>
                obtain rfl := Option.some.inj H
                have p137 : 0 ≤ (x8_1 : Int) := of_decide_eq_true (by first | (with_reducible assumption) | assumption)
                have q137 : x8_1 < (l0.length : Int) := of_decide_eq_true (by first | (with_reducible assumption) | assumption)
                obtain ⟨ad137, e137, hx137_0⟩ := Kd.at_int HR0.out x8_1 p137 q137
                cases e137
                replace p137 := eq_true p137
                replace q137 := eq_true q137
                go_wp2
                go_ret
                exact ⟨by first | rfl | (simp; done) | (simp [*]; done), by repeat (first | exact Drawn0.refl _ | apply Drawn0.step)⟩
            · rw [if_neg c6] at H
              have c6b0 : (a1 == (rd l0 x8_1)) = false := beq_eq_false_iff_ne.mpr c6
              have c6b1 : (a1 != (rd l0 x8_1)) = true := bne_iff_ne.mpr c6
              as_aux_lemma =>
                have H' := Aside0.mk H
                clear H
                have p137 : 0 ≤ (x8_1 : Int) := of_decide_eq_true (by first | (with_reducible assumption) | assumption)
                have q137 : x8_1 < (l0.length : Int) := of_decide_eq_true (by first | (with_reducible assumption) | assumption)
                obtain ⟨ad137, e137, hx137_0⟩ := Kd.at_int HR0.out x8_1 p137 q137
                cases e137
                replace p137 := eq_true p137
                replace q137 := eq_true q137
                go_wp2
                go_roundg k1
                case measure => have := HK1.out; omega
                case rel => exact ⟨(wrap64 (x8_1 + 1)), (by first | rfl | (simp; done) | (simp [*]; done)), H', ⟨by have := HK1.out; omega⟩, by repeat (first | exact Drawn0.refl _ | apply Drawn0.step)⟩
          · rw [if_neg c5] at H
            exact absurd H (by simp)
        · rw [if_neg c4] at H
          exact absurd H (by simp)
      · rw [if_neg c3] at H
        have c3b0 : decide (x8_1 < (l0.length : Int)) = false := decide_eq_false c3
        clear c3
        as_aux_lemma =>
          obtain rfl := Option.some.inj H
          go_wp2
          go_ret
          exact ⟨by first | rfl | (simp; done) | (simp [*]; done), by repeat (first | exact Drawn0.refl _ | apply Drawn0.step)⟩

end Go.Proofs.Ytaibnbhgjnddnaa.P

-- Printed by wip/tools/pp.py of this claim's session (over the kit's print.py); Lean checks it.
namespace Go.Proofs.Ytaibnbhgjnddnaa.P
open Go.RowKit Go.Proofs.YtaibnbhgjnddnaaW.PrintWords Go.Proofs.YtaibnbhgjnddnaaW.PrintLast Go.Proofs.YtaibnbhgjnddnaaW.PrintMore
attribute [local go_sem] max2_int min2_int max_two min_two max_three min_three max_four min_four   -- for this text's walks alone
set_option linter.unusedVariables false
set_option linter.unusedSimpArgs false

/-! ### slices_Contains_int_int: function 59 -/
def slices_Contains_int_int.f (k : Nat) (l0 : List Int) (a1 : Int) : Option (Bool) := (slices_Index_int_int.f k l0 a1).bind fun t138 => (some (decide (t138 ≥ 0)))
theorem slices_Contains_int_int.mono : ∀ a0 a1 k, LeO (slices_Contains_int_int.f k a0 a1) (slices_Contains_int_int.f (k + 1) a0 a1) := by
  intro a0 a1 k
  unfold slices_Contains_int_int.f
  repeat' first
      | (with_reducible exact slices_Index_int_int.mono _ _ _)
      | (with_reducible exact LeO.refl _)
      | (with_reducible exact LeO.none _)
      | (with_reducible refine LeO.ite ?_ ?_)
      | (with_reducible refine LeO.bind ?_ (fun _ => ?_))
      | exact slices_Index_int_int.mono _ _ _
      | exact LeO.none _
      | refine LeO.ite ?_ ?_
      | refine LeO.bind ?_ (fun _ => ?_)
set_option maxHeartbeats 8000000 in
set_option maxRecDepth 100000 in
theorem slices_Contains_int_int.calls (k : Nat) (A0 : Option Addr) (c0 : Nat) (l0 : List Int) (a1 : Int) (r : Bool) (w : World) (hr0 : Kd.C (Kd.int .i64) w A0 l0.length l0) (hc0 : l0.length ≤ c0) (h : slices_Contains_int_int.f k l0 a1 = some r) :
    Calls Try.prog 59 #[.slice A0 l0.length c0, .int .i64 a1] w fun e w' => e = .returned (.bool r) ∧ Drawn0 w w' := by
  have HR0 := Aside0.mk hr0
  have HC0 := Aside0.mk hc0
  clear hr0 hc0
  have H : ((slices_Index_int_int.f k l0 a1).bind fun t138 => (some (decide (t138 ≥ 0)))) = some r := h
  clear h
  replace H := Option.bind_eq_some_iff.mp H
  obtain ⟨t138, A30, H⟩ := H
  replace H : (some (decide (t138 ≥ 0))) = some r := H
  have A3 := Aside0.mk A30
  clear A30
  as_aux_lemma =>
    obtain rfl := Option.some.inj H
    go_enter Try.func59, Try.ntmps59
    go_wp2_with (first | ((with_reducible refine gate_callee (f := 79) rfl ?_); refine goesL_ (some 7) rfl rfl Try.func79 (by kernel_rfl) rfl #[.slice A0 l0.length c0, .int .i64 a1] rfl (by (try simp only [List.map_toArray, List.map_cons, List.map_nil]); first | done | rfl | (simp only [List.length_drop, List.length_take]; rfl)) ?_; (with_reducible refine (slices_Index_int_int.calls k _ _ l0 a1 t138 _ ?side1 ?side2 A3.out).mono ?_); (case side1 => repeat (first | exact HR0.out | (with_reducible refine Kd.C_alloc ?_ _) | (with_reducible refine Kd.C_drewN ?_ _) | (with_reducible refine Kd.C_drew ?_))); (case side2 => exact HC0.out); rintro e w' ⟨rfl, ⟨nd, rfl⟩⟩; refine ⟨_, rfl, ?_⟩))
    go_ret
    exact ⟨by first | rfl | (simp; done) | (simp [*]; done), by repeat (first | exact Drawn0.refl _ | apply Drawn0.step)⟩

end Go.Proofs.Ytaibnbhgjnddnaa.P

-- Printed by wip/tools/pp.py of this claim's session (over the kit's print.py); Lean checks it.
namespace Go.Proofs.Ytaibnbhgjnddnaa.P
open Go.RowKit Go.Proofs.YtaibnbhgjnddnaaW.PrintWords Go.Proofs.YtaibnbhgjnddnaaW.PrintLast Go.Proofs.YtaibnbhgjnddnaaW.PrintMore
attribute [local go_sem] max2_int min2_int max_two min_two max_three min_three max_four min_four   -- for this text's walks alone
set_option linter.unusedVariables false
set_option linter.unusedSimpArgs false

-- SOLO
-- IMPORTS Derived.Test.YtaibnbhgjnddnaaPxAsolveS
/-! ### solve_solver_put: function 60 -/
set_option maxRecDepth 100000 in
set_option maxHeartbeats 4000000 in
theorem sol_put.full {w0 w : World} {S B : Nat} {T : Tag} {U : Col} {Z : Sol} {p : EngP} {q : SolP} (h0 : SolIn w0 w S B T U Z p q) (v : Value) (hl : 4096 ≤ Z.log.length) :
    Calls Try.prog 60 #[.pointer (some ⟨S, 0, none⟩), v] w fun e w' => e = .returned (.int .i64 2) ∧ w' = w := by
  obtain ⟨AL, kL, eL⟩ := Kd.N_slice h0.log
  have c4 := h0.cells.2.2.2.2.1
  rw [eL] at c4
  have d : decide ((4096 : Int) ≤ (Z.log.length : Int)) = true := decide_eq_true (by omega)
  clear h0 eL
  have d2 : (4096 ≤ Z.log.length) = True := eq_true hl
  go_enter Try.func60, Try.ntmps60
  go_wp2
  go_ret
  exact ⟨rfl, rfl⟩
set_option maxRecDepth 100000 in
set_option maxHeartbeats 4000000 in
theorem sol_put.calls {w0 w : World} {S B : Nat} {T : Tag} {U : Col} {Z : Sol} {p : EngP} {q : SolP} (h0 : SolIn w0 w S B T U Z p q) (A : Option Addr) (c : Nat) (cl : List Int) (hc : cl.length ≤ c) (hF : Kd.F (Kd.int .i64) w (fun k => T k = (0, 0) ∧ U k = 4) A cl.length cl) (hl : Z.log.length < 4096) :
    Calls Try.prog 60 #[.pointer (some ⟨S, 0, none⟩), .slice A cl.length c] w fun e w' => e = .returned (.int .i64 0) ∧ PutPost w0 S B T U { Z with log := Z.log ++ [⟨false, cl⟩] } w w' := by
  obtain ⟨AL, kL, eL⟩ := Kd.N_slice h0.log
  have c4 := h0.cells.2.2.2.2.1
  have f4 := h0.cells.2.2.2.2.2.2.2 4
  have hN := h0.log
  rw [eL] at c4 hN
  have d : decide ((4096 : Int) ≤ (Z.log.length : Int)) = false := decide_eq_false (by omega)
  have d2 : (4096 ≤ Z.log.length) = False := eq_false (by omega)
  have HS := Aside0.mk h0
  have HN := Aside0.mk hN
  have HE := Aside0.mk eL
  have HL := Aside0.mk hl
  have hu64 := Try.underlying64
  have HFK := Aside0.mk (k64_mkF w (fun k => T k = (0, 0) ∧ U k = 4) ⟨false, cl⟩ (A1 := A) (c1 := c) hc hF)
  clear h0 eL hN hl hF hc
  go_enter Try.func60, Try.ntmps60
  have hS3 : some S ≠ (Value.slice AL Z.log.length kL).ownBlock := fun e => by have := HS.out.uL S (by rw [HE.out]; exact e.symm); rw [HS.out.uS] at this; cases this
  have hfar : ∀ k, T k = (0, 0) ∧ U k = 4 → some k ≠ (Value.slice AL Z.log.length kL).ownBlock := fun k hk e => by
    have hu := HS.out.uL k (by rw [HE.out]; exact e.symm)
    have h4 := hk.2
    rw [hu] at h4; cases h4
  have HFAR := Aside0.mk hfar
  have HS3 := Aside0.mk hS3
  clear hfar hS3
  go_wp2_with (at_builtin; refine Kd.N_append k64 (w0 := w) (W := w) 0 rfl (.tmp 15) (.tmp 18) 31 64 (.agg #[.bool false, .slice none 0 0]) 32 rfl Try.underlying31 (by kernel_rfl) rfl (by decide) (by decide) (.slice AL Z.log.length kL) Z.log ⟨false, cl⟩ [.bool false, .slice A cl.length c] (fun k => (T k = (0, 0) ∧ U k = 2 ∨ T k = (0, 0) ∧ U k = 4) ∨ w.heap.size ≤ k) (fun k => T k = (0, 0) ∧ U k = 4) rfl rfl HFK.out (fun k hk => ⟨.inl (.inr hk), HFAR.out k hk⟩) (fun k hk => .inr hk) (Kd.N_mono HN.out (fun _ hk => .inl hk)) (Below.refl _ _) (Nat.zero_le _) (by have := HL.out; omega) ?_; intro v1 w1 r1 hb1 hg1 hat1; obtain ⟨A1, k1, e1⟩ := Kd.N_slice r1; subst e1; have H1 := Aside0.mk (HS.out.turn_log r1 (by rw [HE.out]; exact hg1) (by rw [HE.out]; exact hat1)); have c41 := (blk_cell (blk_grown HS.out.blk hg1 HS3.out) 4); have f41 := (blk_frozen (blk_grown HS.out.blk hg1 HS3.out) 4); replace c41 := c41.trans (show _ = some q.vL from rfl); rw [HE.out] at c41; clear r1 hb1 hg1 hat1)
  go_ret
  have h := H1.out
  simp only [List.length_append, List.length_singleton] at h
  exact ⟨rfl, _, _, _, _, h⟩


end Go.Proofs.Ytaibnbhgjnddnaa.P

-- Printed by wip/tools/pp.py of this claim's session (over the kit's print.py); Lean checks it.
namespace Go.Proofs.Ytaibnbhgjnddnaa.P
open Go.RowKit Go.Proofs.YtaibnbhgjnddnaaW.PrintWords Go.Proofs.YtaibnbhgjnddnaaW.PrintLast Go.Proofs.YtaibnbhgjnddnaaW.PrintMore
attribute [local go_sem] max2_int min2_int max_two min_two max_three min_three max_four min_four   -- for this text's walks alone
set_option linter.unusedVariables false
set_option linter.unusedSimpArgs false

-- SOLO
-- IMPORTS Derived.Test.YtaibnbhgjnddnaaPxAsolveS
/-! ### solve_solver_next: function 38 -/
/-- The first assumption that is not true. -/
def nextA (E : Eng) : List Int → Option (Int × Bool)
  | [] => none
  | l :: t => if E.val l = 0 then some (l, true) else if E.val l = -1 then some (l, false) else nextA E t
/-- The first open variable from v on, of m. -/
def nextV (E : Eng) : Nat → Int → Int
  | 0, _ => 0
  | m + 1, v => if E.val v = 0 then v else nextV E m (v + 1)
def Sol.next (Z : Sol) : Int × Bool := match nextA Z.E Z.asm with
  | some r => r
  | none => (nextV Z.E Z.n.toNat 1, true)
set_option maxRecDepth 100000 in
set_option maxHeartbeats 4000000 in
theorem sol_next.calls {w0 w : World} {S B : Nat} {T : Tag} {U : Col} {Z : Sol} {p : EngP} {q : SolP} (h : SolIn w0 w S B T U Z p q) (hl : ∀ l ∈ Z.asm, (Lit.int .i64 l).wf = true) (hn : 0 ≤ Z.n ∧ Z.n ≤ 1024) :
    Calls Try.prog 38 #[.pointer (some ⟨S, 0, none⟩)] w fun e w' => e = .returned (.tuple #[.int .i64 Z.next.1, .bool Z.next.2]) ∧ Below w.heap.size w w' := by
  have HS := Aside0.mk h
  have HL := Aside0.mk hl
  have HN := Aside0.mk hn
  have c0 := h.cells.1
  have c3 := h.cells.2.2.2.1
  have hbig := (Kd.F_now h.asm).2.1
  clear h hl hn
  obtain ⟨aA, haA⟩ : ∃ a, q.aA = a := ⟨_, rfl⟩
  obtain ⟨cA, hcA⟩ : ∃ a, q.cA = a := ⟨_, rfl⟩
  obtain ⟨l1, hl1⟩ : ∃ a, Z.asm = a := ⟨_, rfl⟩
  rw [haA, hcA, hl1] at c3
  rw [hl1] at hbig
  have HA := Aside0.mk (show Kd.C (Kd.int .i64) w aA l1.length l1 by have := Kd.F_now HS.out.asm; rw [haA, hl1] at this; exact this)
  have HN0 := Aside0.mk (show (match nextA Z.E l1 with | some r => r | none => (nextV Z.E Z.n.toNat 1, true)) = Z.next by unfold Sol.next; rw [hl1])
  rw [hl1] at HL
  clear haA hcA hl1
  go_enter Try.func38, Try.ntmps38
  go_wp2
  go_loopg [12] l1.length (fun gg v12 wr => ∃ (j : Nat), v12 = .int .i64 (j : Int) ∧ Aside0 (j + gg = l1.length) ∧ Aside0 (Below w.heap.size w wr) ∧ Aside0 ((match nextA Z.E (l1.drop j) with | some r => r | none => (nextV Z.E Z.n.toNat 1, true)) = Z.next))
  case atStart => exact ⟨0, rfl, ⟨by simp⟩, ⟨Below.refl _ _⟩, HN0⟩
  case round =>
    clear HN0
    obtain ⟨j, rfl, hg, HB, HNX⟩ := hrel
    by_cases hlt : j < l1.length
    · obtain ⟨ad2, e2, x2⟩ := Kd.at_int (Kd.C_below HA.out HB.out) (j : Int) (by omega) (by omega)
      cases e2
      obtain ⟨y, hy⟩ : ∃ y, l1[j] = y := ⟨_, rfl⟩
      have hrd : rd l1 (j : Int) = y := by simp [rd, hlt, hy]
      rw [hrd] at x2
      simp only [Int.toNat_natCast] at x2
      have hnx := HNX.out
      rw [List.drop_eq_getElem_cons hlt, hy, nextA] at hnx
      have Q0 : ((0 : Int) ≤ (j : Int)) = True := eq_true (by omega)
      have Q1 : ((j : Int) < (l1.length : Int)) = True := eq_true (by omega)
      have Q2 : (j < l1.length) = True := eq_true hlt
      have hd2 : decide ((j : Int) < (l1.length : Int)) = true := decide_eq_true (by omega)
      have c0r := pw_cell_below HB.out c0
      have HV := Aside0.mk (eng_Value.calls Z.E B T p y wr (HS.out.below HB.out).e (HL.out y (by rw [← hy]; exact List.getElem_mem hlt)))
      have HNX2 := Aside0.mk hnx
      clear hy hrd hnx HNX
      go_wp2_with fail
      refine HV.out.mono ?_
      rintro e' w1 ⟨rfl, hb⟩
      have HB1 := Aside0.mk (below_step HB.out hb)
      clear hb HB HV
      by_cases hv0 : Z.E.val y = 0
      · have q0 : (Z.E.val y == 0) = true := beq_iff_eq.2 hv0
        have hnx := HNX2.out
        rw [if_pos hv0] at hnx
        have e1 : Z.next.1 = y := by rw [← hnx]
        have e2 : Z.next.2 = true := by rw [← hnx]
        clear hnx HNX2 hv0
        go_wp2
        go_ret2
        exact ⟨by rw [e1, e2]; rfl, HB1.out⟩
      · have q0 : (Z.E.val y == 0) = false := beq_eq_false_iff_ne.2 hv0
        by_cases hv1 : Z.E.val y = -1
        · have q1 : (Z.E.val y == -1) = true := beq_iff_eq.2 hv1
          have hnx := HNX2.out
          rw [if_neg hv0, if_pos hv1] at hnx
          have e1 : Z.next.1 = y := by rw [← hnx]
          have e2 : Z.next.2 = false := by rw [← hnx]
          clear hnx HNX2 hv0 hv1
          go_wp2
          go_ret2
          exact ⟨by rw [e1, e2]; rfl, HB1.out⟩
        · have q1 : (Z.E.val y == -1) = false := beq_eq_false_iff_ne.2 hv1
          have hnx := HNX2.out
          rw [if_neg hv0, if_neg hv1] at hnx
          have HNX3 := Aside0.mk hnx
          clear hnx HNX2 hv0 hv1
          go_wp2
          go_roundg (l1.length - (j + 1))
          case measure => have := hg.out; omega
          case rel => exact ⟨j + 1, by simp, ⟨by have := hg.out; omega⟩, HB1, HNX3⟩
    · have hd2 : decide ((j : Int) < (l1.length : Int)) = false := decide_eq_false (by omega)
      have Q2 : (j < l1.length) = False := eq_false hlt
      have hnx := HNX.out
      rw [List.drop_of_length_le (by omega)] at hnx
      have HNX2 := Aside0.mk (show (nextV Z.E Z.n.toNat 1, true) = Z.next from hnx)
      have e2 : Z.next.2 = true := by rw [← HNX2.out]
      clear hnx HNX
      go_wp2
      go_loopg [6] Z.n.toNat (fun gg v6 wr => ∃ (v : Nat), v6 = .int .i64 ((v : Int) + 1) ∧ Aside0 (v + gg = Z.n.toNat) ∧ Aside0 (Below w.heap.size w wr) ∧ Aside0 (nextV Z.E (Z.n.toNat - v) ((v : Int) + 1) = Z.next.1))
      case atStart => exact ⟨0, rfl, ⟨by simp⟩, HB, ⟨by rw [← HNX2.out]; rfl⟩⟩
      case round =>
        clear HB HNX2
        obtain ⟨v, rfl, hg2, HB, HNV⟩ := hrel
        have c0r := pw_cell_below HB.out c0
        have c1r := pw_cell_below HB.out HS.out.cells.2.1
        by_cases hlt2 : (v : Int) + 1 ≤ Z.n
        · have hd3 : decide ((v : Int) + 1 ≤ Z.n) = true := decide_eq_true hlt2
          have hwf : (Lit.int .i64 ((v : Int) + 1)).wf = true := by
            have a : IntKind.i64.min = -9223372036854775808 := by decide
            have b : IntKind.i64.max = 9223372036854775807 := by decide
            have := HN.out
            unfold Lit.wf
            rw [Bool.and_eq_true, decide_eq_true_eq, decide_eq_true_eq]
            omega
          have HV := Aside0.mk (eng_Value.calls Z.E B T p ((v : Int) + 1) _ (HS.out.below HB.out).e hwf)
          have PW : wrap64 ((v : Int) + 1 + 1) = ((v + 1 : Nat) : Int) + 1 := by have := HN.out; unfold wrap64; omega
          obtain ⟨g2, hgg⟩ : ∃ g2, Z.n.toNat - v = g2 + 1 := ⟨Z.n.toNat - v - 1, by omega⟩
          have hnv := HNV.out
          rw [hgg, nextV] at hnv
          have HNV2 := Aside0.mk hnv
          have HGK := Aside0.mk hgg
          clear hwf hlt2 hnv HNV hgg
          go_wp2_with fail
          refine HV.out.mono ?_
          rintro e' w1 ⟨rfl, hb⟩
          have HB1 := Aside0.mk (below_step HB.out hb)
          clear hb HB HV
          by_cases hv0 : Z.E.val ((v : Int) + 1) = 0
          · have q0 : (Z.E.val ((v : Int) + 1) == 0) = true := beq_iff_eq.2 hv0
            have hnx := HNV2.out
            rw [if_pos hv0] at hnx
            have HX := Aside0.mk hnx
            clear hnx HNV2 hv0
            go_wp2
            go_ret2
            exact ⟨by rw [← HX.out, e2]; rfl, HB1.out⟩
          · have q0 : (Z.E.val ((v : Int) + 1) == 0) = false := beq_eq_false_iff_ne.2 hv0
            have hnx := HNV2.out
            rw [if_neg hv0] at hnx
            have HX := Aside0.mk hnx
            clear hnx HNV2 hv0
            go_wp2
            go_roundg g2
            case measure => have := hg2.out; have := HGK.out; omega
            case rel => exact ⟨v + 1, by rw [PW], ⟨by have := hg2.out; have := HGK.out; omega⟩, HB1, ⟨by have := HX.out; rw [Int.natCast_succ, show Z.n.toNat - (v + 1) = g2 by have := HGK.out; omega]; exact this⟩⟩
        · have hd3 : decide ((v : Int) + 1 ≤ Z.n) = false := decide_eq_false hlt2
          have hnv := HNV.out
          rw [show Z.n.toNat - v = 0 by have := HN.out; omega] at hnv
          have HX := Aside0.mk (show (0 : Int) = Z.next.1 from hnv)
          clear hnv HNV hlt2
          go_wp2
          go_ret2
          exact ⟨by rw [← HX.out, e2]; rfl, HB.out⟩


end Go.Proofs.Ytaibnbhgjnddnaa.P

-- Printed by wip/tools/pp.py of this claim's session (over the kit's print.py); Lean checks it.
namespace Go.Proofs.Ytaibnbhgjnddnaa.P
open Go.RowKit Go.Proofs.YtaibnbhgjnddnaaW.PrintWords Go.Proofs.YtaibnbhgjnddnaaW.PrintLast Go.Proofs.YtaibnbhgjnddnaaW.PrintMore
attribute [local go_sem] max2_int min2_int max_two min_two max_three min_three max_four min_four   -- for this text's walks alone
set_option linter.unusedVariables false
set_option linter.unusedSimpArgs false

/-! ### solve_variable: function 62 -/
def solve_variable.f (a0 : Int) : Option (Int) := some (mx a0 (wrap64 (-a0)))
set_option maxHeartbeats 8000000 in
set_option maxRecDepth 100000 in
theorem solve_variable.calls (a0 : Int) (r : Int) (w : World) (h : solve_variable.f a0 = some r) :
    Calls Try.prog 62 #[.int .i64 a0] w fun e w' => e = .returned (.int .i64 r) ∧ Below w.heap.size w w' := by
  have HB := Aside0.mk (Below.refl w.heap.size w)
  have H : (some (mx a0 (wrap64 (-a0)))) = some r := h
  clear h
  obtain ⟨ji2, hji2⟩ : ∃ j_ : Int, (mx a0 (wrap64 (-a0))) = j_ := ⟨_, rfl⟩
  replace H : (some ji2) = some r := by first | (rw [hji2] at H; exact H) | (simp only [hji2] at H ⊢; exact H)
  have hji2_ : (if a0 < (wrap64 (-a0)) then (wrap64 (-a0)) else a0) = ji2 := hji2
  as_aux_lemma =>
    obtain rfl := Option.some.inj H
    go_enter Try.func62, Try.ntmps62
    go_wp2
    go_ret
    exact ⟨by first | rfl | (simp [errW_none, errW_some] <;> rfl) | (simp only [← hji2]; first | rfl | (simp [errW_none, errW_some] <;> rfl)) | (simp [*, errW_none, errW_some] <;> rfl), by repeat (first | (with_reducible first | exact HB.out | apply below_alloc | apply pw_below_drewN | apply below_drew1) | exact HB.out)⟩

end Go.Proofs.Ytaibnbhgjnddnaa.P

-- Printed by wip/tools/pp.py of this claim's session (over the kit's print.py); Lean checks it.
namespace Go.Proofs.Ytaibnbhgjnddnaa.P
open Go.RowKit Go.Proofs.YtaibnbhgjnddnaaW.PrintWords Go.Proofs.YtaibnbhgjnddnaaW.PrintLast Go.Proofs.YtaibnbhgjnddnaaW.PrintMore
attribute [local go_sem] max2_int min2_int max_two min_two max_three min_three max_four min_four   -- for this text's walks alone
set_option linter.unusedVariables false
set_option linter.unusedSimpArgs false

-- SOLO
-- IMPORTS Derived.Test.YtaibnbhgjnddnaaPxAunitEng
/-! ### unit_Engine_mark: function 80 -/
set_option maxRecDepth 100000 in
theorem eng_mark.nobody (v : Int) (w : World) : Calls Try.prog 80 #[.pointer none, .int .i64 v] w fun e w' => e = .returned (.tuple #[.agg #[.int .i64 0, .int .i64 0], .bool false]) ∧ Below w.heap.size w w' := by
  have hu := Try.underlying96
  go_enter Try.func80, Try.ntmps80
  go_wp2
  try simp only [Exit.inBlock, Exit.then]
  refine bodyPost_ret (v := .tuple #[.agg #[.int .i64 0, .int .i64 0], .bool false]) (by simp [results, Try.results80, go_sem]) rfl ⟨rfl, ?_⟩
  exact below_alloc (Below.refl _ _) _
/-- What is known of a variable. -/
def Eng.markV (E : Eng) (v : Int) : Option (Int × Int) := if v ≤ 0 then none else if (E.ms v).isSome = true then E.ms v else E.ms (wrap64 (-v))
set_option maxRecDepth 100000 in
set_option maxHeartbeats 2000000 in
theorem eng_mark.calls (E : Eng) (B : Nat) (T : Tag) (p : EngP) (v : Int) (w : World) (h : EngIn w B T E p) (hl : (Lit.int .i64 v).wf = true) :
    Calls Try.prog 80 #[.pointer (some ⟨B, 0, none⟩), .int .i64 v] w fun e w' => e = .returned (.tuple #[.agg #[.int .i64 ((E.markV v).getD (0, 0)).1, .int .i64 ((E.markV v).getD (0, 0)).2], .bool (E.markV v).isSome]) ∧ Below w.heap.size w w' := by
  have hu := Try.underlying96
  have P6 : IntKind.i64.wrap (-v) = wrap64 (-v) := Go.IntWalk.i64_left _
  by_cases hv : v ≤ 0
  · have e1 : E.markV v = none := if_pos hv
    rw [e1]
    have d1 : decide (v ≤ 0) = true := decide_eq_true hv
    clear h e1 P6
    go_enter Try.func80, Try.ntmps80
    go_wp2
    try simp only [Exit.inBlock, Exit.then]
    refine bodyPost_ret (v := .tuple #[.agg #[.int .i64 0, .int .i64 0], .bool false]) (by simp [results, Try.results80, go_sem]) rfl ⟨rfl, ?_⟩
    repeat (first | exact Below.refl _ _ | apply below_alloc | refine below_set ?_ (Nat.le_refl _))
  · have d1 : decide (v ≤ 0) = false := decide_eq_false hv
    have HE := Aside0.mk h
    obtain ⟨m1, hm1⟩ : ∃ m, (E.ms v).getD (0, 0) = m := ⟨_, rfl⟩
    obtain ⟨m2, hm2⟩ : ∃ m, (E.ms (wrap64 (-v))).getD (0, 0) = m := ⟨_, rfl⟩
    have q1 : ∀ W, Below w.heap.size w W → (Instr.lookup 68 (.map (some p.bm)) (.int .i64 v) true).run Try.prog W = .ok (.tuple #[.agg #[.int .i64 m1.1, .int .i64 m1.2], .bool (E.ms v).isSome]) W := fun W hW => by
      have := h.look hW hl
      rw [hm1] at this
      exact this
    have q2 : ∀ W, Below w.heap.size w W → (Instr.lookup 68 (.map (some p.bm)) (.int .i64 (wrap64 (-v))) true).run Try.prog W = .ok (.tuple #[.agg #[.int .i64 m2.1, .int .i64 m2.2], .bool (E.ms (wrap64 (-v))).isSome]) W := fun W hW => by
      have := h.look hW (wf_wrap v)
      rw [hm2] at this
      exact this
    have c4 := h.cells.2.2.2.2.1
    have HQ1 := Aside0.mk q1
    have HQ2 := Aside0.mk q2
    clear q1 q2
    have hb1 : Below w.heap.size w (w.alloc (.cells #[.int .i64 0, .int .i64 0] 96)) := below_alloc (Below.refl _ _) _
    have c41 := pw_cell_below hb1 c4
    have r1 := HQ1.out _ hb1
    have hb2 : Below w.heap.size w ((w.alloc (.cells #[.int .i64 0, .int .i64 0] 96)).alloc (.cells #[.int .i64 m1.1, .int .i64 m1.2] 96)) := below_alloc hb1 _
    have c42 := pw_cell_below hb2 c4
    have r2 := HQ2.out _ hb2
    cases hs1 : (E.ms v).isSome with
    | true =>
      have e1 : E.markV v = E.ms v := by unfold Eng.markV; rw [if_neg hv, if_pos hs1]
      rw [e1, hm1, hs1]
      rw [hs1] at r1
      clear h e1 hm1 hm2 hs1
      go_enter Try.func80, Try.ntmps80
      go_wp2
      try simp only [Exit.inBlock, Exit.then]
      refine bodyPost_ret (v := .tuple #[.agg #[.int .i64 m1.1, .int .i64 m1.2], .bool true]) (by simp [results, Try.results80, go_sem]) rfl ⟨rfl, ?_⟩
      repeat (first | exact Below.refl _ _ | apply below_alloc | refine below_set ?_ (Nat.le_refl _))
    | false =>
      have e1 : E.markV v = E.ms (wrap64 (-v)) := by unfold Eng.markV; rw [if_neg hv, if_neg (by rw [hs1]; decide)]
      rw [e1, hm2]
      rw [hs1] at r1
      clear h e1 hm1 hm2 hs1
      go_enter Try.func80, Try.ntmps80
      go_wp2
      try simp only [Exit.inBlock, Exit.then]
      refine bodyPost_ret (v := .tuple #[.agg #[.int .i64 m2.1, .int .i64 m2.2], .bool (E.ms (wrap64 (-v))).isSome]) (by simp [results, Try.results80, go_sem]) rfl ⟨rfl, ?_⟩
      repeat (first | exact Below.refl _ _ | apply below_alloc | refine below_set ?_ (Nat.le_refl _))


end Go.Proofs.Ytaibnbhgjnddnaa.P

-- Printed by wip/tools/pp.py of this claim's session (over the kit's print.py); Lean checks it.
namespace Go.Proofs.Ytaibnbhgjnddnaa.P
open Go.RowKit Go.Proofs.YtaibnbhgjnddnaaW.PrintWords Go.Proofs.YtaibnbhgjnddnaaW.PrintLast Go.Proofs.YtaibnbhgjnddnaaW.PrintMore
attribute [local go_sem] max2_int min2_int max_two min_two max_three min_three max_four min_four   -- for this text's walks alone
set_option linter.unusedVariables false
set_option linter.unusedSimpArgs false

-- SOLO
-- IMPORTS Derived.Test.YtaibnbhgjnddnaaPxAunitEng
/-! ### unit_Engine_Level: function 61 -/
set_option maxRecDepth 100000 in
theorem eng_Level.nobody (v : Int) (w : World) : Calls Try.prog 61 #[.pointer none, .int .i64 v] w fun e w' => e = .returned (.int .i64 (-1)) ∧ Below w.heap.size w w' := by
  have HM := Aside0.mk (eng_mark.nobody v w)
  have hu := Try.underlying96
  go_enter Try.func61, Try.ntmps61
  go_wp2_with fail
  refine HM.out.mono ?_
  rintro e' w1 ⟨rfl, hb⟩
  have HB := Aside0.mk hb
  clear hb
  go_wp2
  go_ret
  exact ⟨rfl, by repeat (first | exact HB.out | apply below_alloc | apply pw_below_drewN | apply below_drew1)⟩
/-- A variable's level. -/
def Eng.level (E : Eng) (v : Int) : Int := match E.markV v with | some q => q.1 | none => -1
set_option maxRecDepth 100000 in
theorem eng_Level.calls (E : Eng) (B : Nat) (T : Tag) (p : EngP) (v : Int) (w : World) (h : EngIn w B T E p) (hl : (Lit.int .i64 v).wf = true) :
    Calls Try.prog 61 #[.pointer (some ⟨B, 0, none⟩), .int .i64 v] w fun e w' => e = .returned (.int .i64 (E.level v)) ∧ Below w.heap.size w w' := by
  have HM := Aside0.mk (eng_mark.calls E B T p v w h hl)
  have hu := Try.underlying96
  clear h
  unfold Eng.level
  cases hq : E.markV v with
  | none =>
    rw [hq] at HM
    clear hq
    go_enter Try.func61, Try.ntmps61
    go_wp2_with fail
    refine HM.out.mono ?_
    rintro e' w1 ⟨rfl, hb⟩
    have HB := Aside0.mk hb
    clear hb
    go_wp2
    go_ret
    exact ⟨rfl, by repeat (first | exact HB.out | apply below_alloc | apply pw_below_drewN | apply below_drew1)⟩
  | some q =>
    rw [hq] at HM
    clear hq
    go_enter Try.func61, Try.ntmps61
    go_wp2_with fail
    refine HM.out.mono ?_
    rintro e' w1 ⟨rfl, hb⟩
    have HB := Aside0.mk hb
    clear hb
    go_wp2
    go_ret
    exact ⟨rfl, by repeat (first | exact HB.out | apply below_alloc | apply pw_below_drewN | apply below_drew1)⟩


end Go.Proofs.Ytaibnbhgjnddnaa.P

-- Printed by wip/tools/pp.py of this claim's session (over the kit's print.py); Lean checks it.
namespace Go.Proofs.Ytaibnbhgjnddnaa.P
open Go.RowKit Go.Proofs.YtaibnbhgjnddnaaW.PrintWords Go.Proofs.YtaibnbhgjnddnaaW.PrintLast Go.Proofs.YtaibnbhgjnddnaaW.PrintMore
attribute [local go_sem] max2_int min2_int max_two min_two max_three min_three max_four min_four   -- for this text's walks alone
set_option linter.unusedVariables false
set_option linter.unusedSimpArgs false

-- SOLO
-- IMPORTS Derived.Test.YtaibnbhgjnddnaaPxAunitEng
/-! ### unit_Engine_Why: function 77 -/
set_option maxRecDepth 100000 in
theorem eng_Why.nobody (v : Int) (w : World) : Calls Try.prog 77 #[.pointer none, .int .i64 v] w fun e w' => e = .returned (.int .i64 (-1)) ∧ Below w.heap.size w w' := by
  have HM := Aside0.mk (eng_mark.nobody v w)
  have hu := Try.underlying96
  go_enter Try.func77, Try.ntmps77
  go_wp2_with fail
  refine HM.out.mono ?_
  rintro e' w1 ⟨rfl, hb⟩
  have HB := Aside0.mk hb
  clear hb
  go_wp2
  go_ret
  exact ⟨rfl, by repeat (first | exact HB.out | apply below_alloc | apply pw_below_drewN | apply below_drew1)⟩
/-- A variable's why. -/
def Eng.why (E : Eng) (v : Int) : Int := match E.markV v with | some q => q.2 | none => -1
set_option maxRecDepth 100000 in
theorem eng_Why.calls (E : Eng) (B : Nat) (T : Tag) (p : EngP) (v : Int) (w : World) (h : EngIn w B T E p) (hl : (Lit.int .i64 v).wf = true) :
    Calls Try.prog 77 #[.pointer (some ⟨B, 0, none⟩), .int .i64 v] w fun e w' => e = .returned (.int .i64 (E.why v)) ∧ Below w.heap.size w w' := by
  have HM := Aside0.mk (eng_mark.calls E B T p v w h hl)
  have hu := Try.underlying96
  clear h
  unfold Eng.why
  cases hq : E.markV v with
  | none =>
    rw [hq] at HM
    clear hq
    go_enter Try.func77, Try.ntmps77
    go_wp2_with fail
    refine HM.out.mono ?_
    rintro e' w1 ⟨rfl, hb⟩
    have HB := Aside0.mk hb
    clear hb
    go_wp2
    go_ret
    exact ⟨rfl, by repeat (first | exact HB.out | apply below_alloc | apply pw_below_drewN | apply below_drew1)⟩
  | some q =>
    rw [hq] at HM
    clear hq
    go_enter Try.func77, Try.ntmps77
    go_wp2_with fail
    refine HM.out.mono ?_
    rintro e' w1 ⟨rfl, hb⟩
    have HB := Aside0.mk hb
    clear hb
    go_wp2
    go_ret
    exact ⟨rfl, by repeat (first | exact HB.out | apply below_alloc | apply pw_below_drewN | apply below_drew1)⟩


end Go.Proofs.Ytaibnbhgjnddnaa.P
