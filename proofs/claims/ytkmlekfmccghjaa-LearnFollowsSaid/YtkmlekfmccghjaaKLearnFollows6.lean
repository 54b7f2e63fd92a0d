import Derived.Test.YtkmlekfmccghjaaKLearnFollows1
import Derived.Test.YtkmlekfmccghjaaKLearnFollows4
import Derived.Test.YtkmlekfmccghjaaKLearnFollows5
namespace Go.Proofs.Ytkmlekfmccghjaa.P
open Go.RowKit Go.Proofs.YtkmlekfmccghjaaW.PrintWords Go.Proofs.YtkmlekfmccghjaaW.PrintLast Go.Proofs.YtkmlekfmccghjaaW.PrintMore
attribute [local go_sem] max2_int min2_int max_two min_two max_three min_three max_four min_four
set_option linter.unusedVariables false
set_option linter.unusedSimpArgs false
mutual
def sequiturref21_First.l0 : Nat → List Int → List Int → List Int → List Int → List Int → Int → Int → Int → List (List Int) → Option (List Int × Int × List Int × Int)
  | 0, _, _, _, _, _, _, _, _, _ => none
  | k + 1, x8, x10, x387000, x387001, x387002, x387003, x387004, x388000, x388001 => (sequiturref21_done.f k x387000 x387001 x387002 x387003 x387004 x8).bind fun t395 => (if t395 = true then (sequiturref21_First.l1 k x8 x10 0 0 x387000 x387001 x387002 x387003 x387004) else ((sequiturref21_last.f k x387000 x387001 x387002 x387003 x387004 x8 ([] : List Int)).bind fun t396 => ((sequiturref21_step.f k x387000 x387001 x387002 x387003 x387004 x388000 x388001 x8 t396).bind fun bt397 => (if bt397.2.2 = true then (if x10.length < 17592186044416 then (sequiturref21_First.l0 k bt397.1 (x10 ++ [bt397.2.1]) x387000 x387001 x387002 x387003 x387004 x388000 x388001) else (none)) else (some (([] : List Int), 0, ([] : List Int), 1))))))
def sequiturref21_First.l1 : Nat → List Int → List Int → Int → Int → List Int → List Int → List Int → Int → Int → Option (List Int × Int × List Int × Int)
  | 0, _, _, _, _, _, _, _, _, _ => none
  | k + 1, x8, x10, x14, x15, x387000, x387001, x387002, x387003, x387004 => if x15 < (x8.length : Int) then (if 0 ≤ x15 then ((sequiturref21_level.f k x387000 x387001 x387002 x387003 x387004 (rd x8 x15)).bind fun t406 => (if t406 < x387004 then (if t406 > x14 then (sequiturref21_First.l1 k x8 x10 t406 (wrap64 (x15 + 1)) x387000 x387001 x387002 x387003 x387004) else (sequiturref21_First.l1 k x8 x10 x14 (wrap64 (x15 + 1)) x387000 x387001 x387002 x387003 x387004)) else (sequiturref21_First.l1 k x8 x10 x14 (wrap64 (x15 + 1)) x387000 x387001 x387002 x387003 x387004))) else (none)) else (some (x8, x14, x10, 0))
end
def sequiturref21_First.f (k : Nat) (l0_0 : List Int) (l0_1 : List Int) (l0_2 : List Int) (a0_3 : Int) (a0_4 : Int) (a1_0 : Int) (l1_1 : List (List Int)) : Option (List Int × Int × List Int × Int) := if a0_3 < 0 then (some (([] : List Int), 0, ([] : List Int), 3)) else ((sequiturref21_begin.f k l0_0 l0_1 l0_2 a0_3 a0_4 a1_0 l1_1).bind fun bt388 => (if bt388.2 = true then (sequiturref21_First.l0 k bt388.1 (([a0_3] : List Int)) l0_0 l0_1 l0_2 a0_3 a0_4 a1_0 l1_1) else (some (([] : List Int), 0, ([] : List Int), 1))))
theorem sequiturref21_First.mono_l : ∀ k, (∀ y0 y1 y2 y3 y4 y5 y6 y7 y8, LeO (sequiturref21_First.l0 k y0 y1 y2 y3 y4 y5 y6 y7 y8) (sequiturref21_First.l0 (k + 1) y0 y1 y2 y3 y4 y5 y6 y7 y8)) ∧ (∀ y0 y1 y2 y3 y4 y5 y6 y7 y8, LeO (sequiturref21_First.l1 k y0 y1 y2 y3 y4 y5 y6 y7 y8) (sequiturref21_First.l1 (k + 1) y0 y1 y2 y3 y4 y5 y6 y7 y8))
  | 0 => ⟨fun _ _ _ _ _ _ _ _ _ r h => by simp [sequiturref21_First.l0] at h, fun _ _ _ _ _ _ _ _ _ r h => by simp [sequiturref21_First.l1] at h⟩
  | k + 1 => by
    obtain ⟨ih0, ih1⟩ := sequiturref21_First.mono_l k
    refine ⟨?_, ?_⟩
    · intro y0 y1 y2 y3 y4 y5 y6 y7 y8
      unfold sequiturref21_First.l0
      repeat' first
      | (with_reducible exact ih0 _ _ _ _ _ _ _ _ _)
      | (with_reducible exact ih1 _ _ _ _ _ _ _ _ _)
      | (with_reducible exact sequiturref21_begin.mono _ _ _ _ _ _ _ _)
      | (with_reducible exact sequiturref21_done.mono _ _ _ _ _ _ _)
      | (with_reducible exact sequiturref21_last.mono _ _ _ _ _ _ _ _)
      | (with_reducible exact sequiturref21_level.mono _ _ _ _ _ _ _)
      | (with_reducible exact sequiturref21_step.mono _ _ _ _ _ _ _ _ _ _)
      | (with_reducible exact LeO.refl _)
      | (with_reducible exact LeO.none _)
      | (with_reducible refine LeO.ite ?_ ?_)
      | (with_reducible refine LeO.bind ?_ (fun _ => ?_))
      | exact ih0 _ _ _ _ _ _ _ _ _
      | exact ih1 _ _ _ _ _ _ _ _ _
      | exact sequiturref21_begin.mono _ _ _ _ _ _ _ _
      | exact sequiturref21_done.mono _ _ _ _ _ _ _
      | exact sequiturref21_last.mono _ _ _ _ _ _ _ _
      | exact sequiturref21_level.mono _ _ _ _ _ _ _
      | exact sequiturref21_step.mono _ _ _ _ _ _ _ _ _ _
      | exact LeO.none _
      | refine LeO.ite ?_ ?_
      | refine LeO.bind ?_ (fun _ => ?_)
    intro y0 y1 y2 y3 y4 y5 y6 y7 y8
    unfold sequiturref21_First.l1
    repeat' first
    | (with_reducible exact ih0 _ _ _ _ _ _ _ _ _)
    | (with_reducible exact ih1 _ _ _ _ _ _ _ _ _)
    | (with_reducible exact sequiturref21_begin.mono _ _ _ _ _ _ _ _)
    | (with_reducible exact sequiturref21_done.mono _ _ _ _ _ _ _)
    | (with_reducible exact sequiturref21_last.mono _ _ _ _ _ _ _ _)
    | (with_reducible exact sequiturref21_level.mono _ _ _ _ _ _ _)
    | (with_reducible exact sequiturref21_step.mono _ _ _ _ _ _ _ _ _ _)
    | (with_reducible exact LeO.refl _)
    | (with_reducible exact LeO.none _)
    | (with_reducible refine LeO.ite ?_ ?_)
    | (with_reducible refine LeO.bind ?_ (fun _ => ?_))
    | exact ih0 _ _ _ _ _ _ _ _ _
    | exact ih1 _ _ _ _ _ _ _ _ _
    | exact sequiturref21_begin.mono _ _ _ _ _ _ _ _
    | exact sequiturref21_done.mono _ _ _ _ _ _ _
    | exact sequiturref21_last.mono _ _ _ _ _ _ _ _
    | exact sequiturref21_level.mono _ _ _ _ _ _ _
    | exact sequiturref21_step.mono _ _ _ _ _ _ _ _ _ _
    | exact LeO.none _
    | refine LeO.ite ?_ ?_
    | refine LeO.bind ?_ (fun _ => ?_)
theorem sequiturref21_First.mono : ∀ a0 a1 a2 a3 a4 a5 a6 k, LeO (sequiturref21_First.f k a0 a1 a2 a3 a4 a5 a6) (sequiturref21_First.f (k + 1) a0 a1 a2 a3 a4 a5 a6) := by
  intro a0 a1 a2 a3 a4 a5 a6 k
  obtain ⟨ih0, ih1⟩ := sequiturref21_First.mono_l k
  unfold sequiturref21_First.f
  repeat' first
      | (with_reducible exact ih0 _ _ _ _ _ _ _ _ _)
      | (with_reducible exact ih1 _ _ _ _ _ _ _ _ _)
      | (with_reducible exact sequiturref21_begin.mono _ _ _ _ _ _ _ _)
      | (with_reducible exact sequiturref21_done.mono _ _ _ _ _ _ _)
      | (with_reducible exact sequiturref21_last.mono _ _ _ _ _ _ _ _)
      | (with_reducible exact sequiturref21_level.mono _ _ _ _ _ _ _)
      | (with_reducible exact sequiturref21_step.mono _ _ _ _ _ _ _ _ _ _)
      | (with_reducible exact LeO.refl _)
      | (with_reducible exact LeO.none _)
      | (with_reducible refine LeO.ite ?_ ?_)
      | (with_reducible refine LeO.bind ?_ (fun _ => ?_))
      | exact ih0 _ _ _ _ _ _ _ _ _
      | exact ih1 _ _ _ _ _ _ _ _ _
      | exact sequiturref21_begin.mono _ _ _ _ _ _ _ _
      | exact sequiturref21_done.mono _ _ _ _ _ _ _
      | exact sequiturref21_last.mono _ _ _ _ _ _ _ _
      | exact sequiturref21_level.mono _ _ _ _ _ _ _
      | exact sequiturref21_step.mono _ _ _ _ _ _ _ _ _ _
      | exact LeO.none _
      | refine LeO.ite ?_ ?_
      | refine LeO.bind ?_ (fun _ => ?_)
def sequiturref18_Bits.l0 : Nat → Int → Int → List Bool → Int → Option (List Bool)
  | 0, _, _, _, _ => none
  | k + 1, x0, x1, x5, x6 => if x6 < x0 then (if x5.length < 140737488355328 then (sequiturref18_Bits.l0 k x0 (wrap64 (Int.tdiv x1 2)) (x5 ++ [((Int.tmod x1 2) == 1)]) (wrap64 (x6 + 1))) else (none)) else (some x5)
def sequiturref18_Bits.f (k : Nat) (a0 : Int) (a1 : Int) : Option (List Bool) := sequiturref18_Bits.l0 k a0 a1 ([] : List Bool) 0
set_option maxHeartbeats 8000000 in
set_option maxRecDepth 100000 in
theorem sequiturref18_Bits.calls (k : Nat) (a0 : Int) (a1 : Int) (r : List Bool) (w : World) (h : sequiturref18_Bits.f k a0 a1 = some r) :
    Calls Try.prog 59 #[.int .i64 a0, .int .i64 a1] w fun e w' => ∃ v0_ : Value, e = .returned (v0_) ∧ Kd.R Kd.bool 4 w' w.heap.size (fun _ => True) v0_ r ∧ Below w.heap.size w w' := by
  have HB := K0 (Below.refl w.heap.size w)
  have H : (sequiturref18_Bits.l0 k a0 a1 ([] : List Bool) 0) = some r := h
  clear h
  have H' := K0 H
  clear H
  go_enter Try.func59, Try.ntmps59
  go_wp2
  go_loopg [1, 5, 6] k (fun kq v1 v5 v6 w' => ∃ (x1_1 : Int) (x5_1 : List Bool) (x6_1 : Int), v1 = .int .i64 x1_1 ∧ v6 = .int .i64 x6_1 ∧ Aside0 (sequiturref18_Bits.l0 kq a0 x1_1 x5_1 x6_1 = some r) ∧ Aside0 (kq ≤ k) ∧ Aside0 (Kd.R Kd.bool 4 w' w.heap.size (fun _ => True) v5 x5_1) ∧ Aside0 (Below w.heap.size w w'))
  case atStart => exact ⟨(a1), (([] : List Bool)), (0), (by first | rfl | (simp; done) | (simp [*]; done)), (by first | rfl | (simp; done) | (simp [*]; done)), H', ⟨Nat.le_refl _⟩, ⟨by first | exact Kd.R_nil _ _ _ _ _ | exact Kd.N_nil _ _ _ _ _ | exact Kd.V_nil _ _ _ _ _ | exact Kd.Q_nil _ _ _ _ _ | exact Kd.S_nil _ _ _ _ _⟩, ⟨by repeat (first | (with_reducible first | exact HB.out | apply below_alloc | apply pw_below_drewN | apply below_drew1) | exact HB.out)⟩⟩
  case round =>
    clear H'
    try clear p2
    obtain ⟨x1_1, x5_1, x6_1, rfl, rfl, HA, HK1, HO_5, HB⟩ := hrel
    cases gk with
    | zero => exact absurd HA.out (by simp [sequiturref18_Bits.l0])
    | succ k1 =>
      have H := HA.out
      clear HA
      simp only [sequiturref18_Bits.l0] at H
      by_cases c3 : x6_1 < a0
      · rw [if_pos c3] at H
        have c3b0 : decide (x6_1 < a0) = true := decide_eq_true c3
        clear c3
        by_cases c4 : x5_1.length < 140737488355328
        · rw [if_pos c4] at H
          have LMc4 := K0 c4
          clear c4
          obtain ⟨y407, hy407⟩ : ∃ y_ : List Bool, y_ = (x5_1 ++ [((Int.tmod x1_1 2) == 1)]) := ⟨_, rfl⟩
          replace H : (sequiturref18_Bits.l0 k1 a0 (wrap64 (Int.tdiv x1_1 2)) y407 (wrap64 (x6_1 + 1))) = some r := by first | (rw [hy407]; with_reducible exact H) | (have H2_ := (Option.bind_some _ _).symm.trans H; rw [hy407]; with_reducible exact H2_) | (have H2_ := (Option.bind_some _ _).symm.trans H; with_reducible exact H2_) | with_reducible exact H | (rw [hy407]; exact H) | exact H
          have Ny407 := K0 hy407
          clear hy407
          as_aux_lemma =>
            have H' := K0 H
            clear H
            go_wp2_with (first | ((with_reducible refine gate_builtin (b := .append) (xs := #[.tmp 12, .tmp 16]) rfl ?_); at_builtin; refine Kd.R_append Kd.bool (w0 := w) w.heap.size rfl (.tmp 12) (.tmp 16) 98 4 (.bool false) 1 rfl Try.underlying98 info4 rfl (by decide) (by omega) u5 x5_1 ((Int.tmod x1_1 2) == 1) [.bool ((Int.tmod x1_1 2) == 1)] (fun _ => True) (fun _ => False) rfl rfl ?aP (fun _ hk => hk.elim) ?aF ?aO ?aB ?aS ?aL ?_; (case aP => exact rfl); (case aB => exact (by repeat (first | (with_reducible first | exact HB.out | apply below_alloc | apply pw_below_drewN | apply below_drew1) | exact HB.out))); (case aF => exact (fun _ _ => trivial)); (case aO => exact (by (with_reducible repeat (first | apply Kd.R_alloc | apply Kd.R_drewN | apply Kd.R_drew)); exact HO_5.out)); (case aS => exact (below_size (by repeat (first | (with_reducible first | exact HB.out | apply below_alloc | apply pw_below_drewN | apply below_drew1) | exact HB.out)))); (case aL => have := LMc4.out; omega); intro v408 w5 ho hb hg hat; rw [← Ny407.out] at ho; have n0_ := K0 (hb); have n1_ := K0 (ho); clear HB; clear HO_5; have HB := n0_; have HO409 := n1_; clear n0_ n1_; clear ho hb hg hat))
            go_roundg k1
            case measure => have := HK1.out; omega
            case rel => exact ⟨(wrap64 (Int.tdiv x1_1 2)), (y407), (wrap64 (x6_1 + 1)), (by first | rfl | (simp; done) | (simp [*]; done)), (by first | rfl | (simp; done) | (simp [*]; done)), H', ⟨by have := HK1.out; omega⟩, ⟨by (with_reducible repeat (first | apply Kd.R_alloc | apply Kd.R_drewN | apply Kd.R_drew)); exact HO409.out⟩, ⟨by repeat (first | (with_reducible first | exact HB.out | apply below_alloc | apply pw_below_drewN | apply below_drew1) | exact HB.out)⟩⟩
        · rw [if_neg c4] at H
          exact absurd H (by simp)
      · rw [if_neg c3] at H
        have c3b0 : decide (x6_1 < a0) = false := decide_eq_false c3
        clear c3
        as_aux_lemma =>
          obtain rfl := Option.some.inj H
          go_wp2
          go_ret
          exact ⟨_, by first | rfl | (simp [errW_none, errW_some] <;> rfl) | (simp [*, errW_none, errW_some] <;> rfl), by (with_reducible repeat (first | apply Kd.R_alloc | apply Kd.R_drewN | apply Kd.R_drew)); exact HO_5.out, by repeat (first | (with_reducible first | exact HB.out | apply below_alloc | apply pw_below_drewN | apply below_drew1) | exact HB.out)⟩
def sequiturref17_True.f (a0 : Int) (l1 : List Bool) : Option (Bool) := (sequiturref17_is.f a0).bind fun t410 => (if t410 = true then ((sequiturref17_Of.f a0).bind fun t411 => (if t411 ≤ (l1.length : Int) then (if 0 ≤ (wrap64 (t411 - 1)) then (if (wrap64 (t411 - 1)) < (l1.length : Int) then (some ((rdOf false l1 (wrap64 (t411 - 1))) == (decide (a0 > 0)))) else (none)) else (none)) else (some false))) else (some false))
set_option maxHeartbeats 8000000 in
set_option maxRecDepth 100000 in
theorem sequiturref17_True.calls (a0 : Int) (A1 : Option Addr) (c1 : Nat) (l1 : List Bool) (r : Bool) (w : World) (hr1 : Kd.C Kd.bool w A1 l1.length l1) (hc1 : l1.length ≤ c1) (h : sequiturref17_True.f a0 l1 = some r) :
    Calls Try.prog 98 #[.int .i64 a0, .slice A1 l1.length c1] w fun e w' => e = .returned (.bool r) ∧ Drawn0 w w' := by
  have HR1 := K0 hr1
  have HC1 := K0 hc1
  clear hr1 hc1
  have H : ((sequiturref17_is.f a0).bind fun t410 => (if t410 = true then ((sequiturref17_Of.f a0).bind fun t411 => (if t411 ≤ (l1.length : Int) then (if 0 ≤ (wrap64 (t411 - 1)) then (if (wrap64 (t411 - 1)) < (l1.length : Int) then (some ((rdOf false l1 (wrap64 (t411 - 1))) == (decide (a0 > 0)))) else (none)) else (none)) else (some false))) else (some false))) = some r := h
  clear h
  replace H := Option.bind_eq_some_iff.mp H
  obtain ⟨t410, A30, H⟩ := H
  replace H : (if t410 = true then ((sequiturref17_Of.f a0).bind fun t411 => (if t411 ≤ (l1.length : Int) then (if 0 ≤ (wrap64 (t411 - 1)) then (if (wrap64 (t411 - 1)) < (l1.length : Int) then (some ((rdOf false l1 (wrap64 (t411 - 1))) == (decide (a0 > 0)))) else (none)) else (none)) else (some false))) else (some false)) = some r := H
  have A3 := K0 A30
  clear A30
  by_cases c4 : t410 = true
  · subst c4
    have H1 : ((sequiturref17_Of.f a0).bind fun t411 => (if t411 ≤ (l1.length : Int) then (if 0 ≤ (wrap64 (t411 - 1)) then (if (wrap64 (t411 - 1)) < (l1.length : Int) then (some ((rdOf false l1 (wrap64 (t411 - 1))) == (decide (a0 > 0)))) else (none)) else (none)) else (some false))) = some r := by rw [if_pos rfl] at H; exact H
    clear H
    have H := H1
    clear H1
    replace H := Option.bind_eq_some_iff.mp H
    obtain ⟨t411, A50, H⟩ := H
    replace H : (if t411 ≤ (l1.length : Int) then (if 0 ≤ (wrap64 (t411 - 1)) then (if (wrap64 (t411 - 1)) < (l1.length : Int) then (some ((rdOf false l1 (wrap64 (t411 - 1))) == (decide (a0 > 0)))) else (none)) else (none)) else (some false)) = some r := H
    have A5 := K0 A50
    clear A50
    by_cases c6 : t411 ≤ (l1.length : Int)
    · rw [if_pos c6] at H
      have c6b0 : decide (t411 ≤ (l1.length : Int)) = true := decide_eq_true c6
      clear c6
      obtain ⟨ji7, hji7⟩ : ∃ j_ : Int, (wrap64 (t411 - 1)) = j_ := ⟨_, rfl⟩
      replace H : (if 0 ≤ (ji7) then (if (ji7) < (l1.length : Int) then (some ((rdOf false l1 (ji7)) == (decide (a0 > 0)))) else (none)) else (none)) = some r := by first | (rw [hji7] at H; exact H) | (simp only [hji7] at H ⊢; exact H)
      (try rw [hji7] at A3)
      (try rw [hji7] at A5)
      have hji7w : (IntKind.i64.wrap (t411 - 1)) = ji7 := (i64_w _).trans hji7
      by_cases c8 : 0 ≤ (ji7)
      · rw [if_pos c8] at H
        have c8b0 : decide (0 ≤ (ji7)) = true := decide_eq_true c8
        clear c8
        by_cases c9 : (ji7) < (l1.length : Int)
        · rw [if_pos c9] at H
          have c9b0 : decide ((ji7) < (l1.length : Int)) = true := decide_eq_true c9
          clear c9
          as_aux_lemma =>
            obtain rfl := Option.some.inj H
            go_enter Try.func98, Try.ntmps98
            go_wp2_with (first | ((with_reducible refine gate_callee (f := 75) rfl ?_); refine goesL_ (some 6) rfl rfl Try.func75 (by kernel_rfl) rfl #[.int .i64 a0] rfl (by (try simp only [List.map_toArray, List.map_cons, List.map_nil]); first | done | rfl | (simp only [List.length_drop, List.length_take]; rfl)) ?_; (with_reducible refine (sequiturref17_is.calls a0 true _ A3.out).mono ?_); rintro e w' ⟨rfl, ⟨nd, rfl⟩⟩; refine ⟨_, rfl, ?_⟩) | (go_at_call 42; (with_reducible refine (sequiturref17_Of.calls a0 t411 _ A5.out).mono ?_); rintro e w' ⟨rfl, ⟨nd, rfl⟩⟩; have p412 : 0 ≤ ((ji7) : Int) := of_decide_eq_true (by first | (with_reducible assumption) | assumption); have q412 : (ji7) < (l1.length : Int) := of_decide_eq_true (by first | (with_reducible assumption) | assumption); obtain ⟨ad412, e412, hx412_0⟩ := Kd.at_bool HR1.out (ji7) p412 q412; cases e412; replace p412 := eq_true p412; replace q412 := eq_true q412))
            go_ret
            exact ⟨by first | rfl | (simp; done) | (simp only [← hji7] <;> (first | rfl | simp)) | (simp [*]; done), by repeat (first | exact Drawn0.refl _ | apply Drawn0.step)⟩
        · rw [if_neg c9] at H
          exact absurd H (by simp)
      · rw [if_neg c8] at H
        exact absurd H (by simp)
    · rw [if_neg c6] at H
      have c6b0 : decide (t411 ≤ (l1.length : Int)) = false := decide_eq_false c6
      clear c6
      as_aux_lemma =>
        obtain rfl := Option.some.inj H
        go_enter Try.func98, Try.ntmps98
        go_wp2_with (first | ((with_reducible refine gate_callee (f := 75) rfl ?_); refine goesL_ (some 6) rfl rfl Try.func75 (by kernel_rfl) rfl #[.int .i64 a0] rfl (by (try simp only [List.map_toArray, List.map_cons, List.map_nil]); first | done | rfl | (simp only [List.length_drop, List.length_take]; rfl)) ?_; (with_reducible refine (sequiturref17_is.calls a0 true _ A3.out).mono ?_); rintro e w' ⟨rfl, ⟨nd, rfl⟩⟩; refine ⟨_, rfl, ?_⟩) | (go_at_call 42; (with_reducible refine (sequiturref17_Of.calls a0 t411 _ A5.out).mono ?_); rintro e w' ⟨rfl, ⟨nd, rfl⟩⟩))
        go_ret
        exact ⟨by first | rfl | (simp; done) | (simp [*]; done), by repeat (first | exact Drawn0.refl _ | apply Drawn0.step)⟩
  · replace c4 := Bool.eq_false_iff.mpr c4
    subst c4
    have H1 : (some false) = some r := by rw [if_neg (show ¬ (false = true) by decide)] at H; exact H
    clear H
    have H := H1
    clear H1
    as_aux_lemma =>
      obtain rfl := Option.some.inj H
      go_enter Try.func98, Try.ntmps98
      go_wp2_with (first | ((with_reducible refine gate_callee (f := 75) rfl ?_); refine goesL_ (some 6) rfl rfl Try.func75 (by kernel_rfl) rfl #[.int .i64 a0] rfl (by (try simp only [List.map_toArray, List.map_cons, List.map_nil]); first | done | rfl | (simp only [List.length_drop, List.length_take]; rfl)) ?_; (with_reducible refine (sequiturref17_is.calls a0 false _ A3.out).mono ?_); rintro e w' ⟨rfl, ⟨nd, rfl⟩⟩; refine ⟨_, rfl, ?_⟩))
      go_ret
      exact ⟨by first | rfl | (simp; done) | (simp [*]; done), by repeat (first | exact Drawn0.refl _ | apply Drawn0.step)⟩
end Go.Proofs.Ytkmlekfmccghjaa.P
