import Derived.RangeFuncNested
import Derived.RangeFuncBound
import Derived.RangeFuncCalls
import Derived.RangeFuncLeaves
import Derived.Shelf.Abstract
import Derived.Shelf.RegionOpen
import Derived.OwnWalkIn
import Derived.TacticsInMore
import Derived.LoopNIn
import Derived.LoopIn
import Derived.Test.YtkfnaiobgddjpaaKTableImplies1
import Derived.Test.YtkfnaiobgddjpaaKTableImplies2
-- Printed by wip/tools/pp.py of this claim's session (over the kit's print.py); Lean checks it.
namespace Go.Proofs.Ytkfnaiobgddjpaa.P
open Go.RowKit Go.Proofs.YtkfnaiobgddjpaaW.PrintWords Go.Proofs.YtkfnaiobgddjpaaW.PrintLast Go.Proofs.YtkfnaiobgddjpaaW.PrintMore
attribute [local go_sem] max2_int min2_int max_two min_two max_three min_three max_four min_four   -- for this text's walks alone
set_option linter.unusedVariables false
set_option linter.unusedSimpArgs false

/-! ### sequiturref19_Right: function 27 -/
mutual
def sequiturref19_Right.j0 : Nat → Bool → Int → List (List Int) → Option (Int)
  | 0, _, _, _ => none
  | k + 1, x12, x151000, x151001 => if x12 = true then (some 1) else (if (x151001.length : Int) > 4096 then (some 2) else (sequiturref19_Right.l0 k 0 x151000 x151001))
def sequiturref19_Right.l0 : Nat → Int → Int → List (List Int) → Option (Int)
  | 0, _, _, _ => none
  | k + 1, x3, x151000, x151001 => if x3 < (x151001.length : Int) then (if 0 ≤ x3 then ((sequiturref19_Clause.f k (rd_L3 x151001 x3) x151000).bind fun t152 => (if t152 = 0 then (sequiturref19_Right.l0 k (wrap64 (x3 + 1)) x151000 x151001) else (some t152))) else (none)) else (some 0)
end
def sequiturref19_Right.f (k : Nat) (a0_0 : Int) (l0_1 : List (List Int)) : Option (Int) := if a0_0 < 0 then (sequiturref19_Right.j0 k true a0_0 l0_1) else (sequiturref19_Right.j0 k (decide (a0_0 > 1024)) a0_0 l0_1)
theorem sequiturref19_Right.mono_l : ∀ k, (∀ y0 y1 y2, LeO (sequiturref19_Right.j0 k y0 y1 y2) (sequiturref19_Right.j0 (k + 1) y0 y1 y2)) ∧ (∀ y0 y1 y2, LeO (sequiturref19_Right.l0 k y0 y1 y2) (sequiturref19_Right.l0 (k + 1) y0 y1 y2))
  | 0 => ⟨fun _ _ _ r h => by simp [sequiturref19_Right.j0] at h, fun _ _ _ r h => by simp [sequiturref19_Right.l0] at h⟩
  | k + 1 => by
    obtain ⟨ih0, ih1⟩ := sequiturref19_Right.mono_l k
    refine ⟨?_, ?_⟩
    · intro y0 y1 y2
      unfold sequiturref19_Right.j0
      repeat' first
      | (with_reducible exact ih0 _ _ _)
      | (with_reducible exact ih1 _ _ _)
      | (with_reducible exact sequiturref19_Clause.mono _ _ _)
      | (with_reducible exact LeO.refl _)
      | (with_reducible exact LeO.none _)
      | (with_reducible refine LeO.ite ?_ ?_)
      | (with_reducible refine LeO.bind ?_ (fun _ => ?_))
      | exact ih0 _ _ _
      | exact ih1 _ _ _
      | exact sequiturref19_Clause.mono _ _ _
      | exact LeO.none _
      | refine LeO.ite ?_ ?_
      | refine LeO.bind ?_ (fun _ => ?_)
    · intro y0 y1 y2
      unfold sequiturref19_Right.l0
      repeat' first
      | (with_reducible exact ih0 _ _ _)
      | (with_reducible exact ih1 _ _ _)
      | (with_reducible exact sequiturref19_Clause.mono _ _ _)
      | (with_reducible exact LeO.refl _)
      | (with_reducible exact LeO.none _)
      | (with_reducible refine LeO.ite ?_ ?_)
      | (with_reducible refine LeO.bind ?_ (fun _ => ?_))
      | exact ih0 _ _ _
      | exact ih1 _ _ _
      | exact sequiturref19_Clause.mono _ _ _
      | exact LeO.none _
      | refine LeO.ite ?_ ?_
      | refine LeO.bind ?_ (fun _ => ?_)
theorem sequiturref19_Right.mono : ∀ a0 a1 k, LeO (sequiturref19_Right.f k a0 a1) (sequiturref19_Right.f (k + 1) a0 a1) := by
  intro a0 a1 k
  obtain ⟨ih0, ih1⟩ := sequiturref19_Right.mono_l k
  unfold sequiturref19_Right.f
  repeat' first
      | (with_reducible exact ih0 _ _ _)
      | (with_reducible exact ih1 _ _ _)
      | (with_reducible exact sequiturref19_Clause.mono _ _ _)
      | (with_reducible exact LeO.refl _)
      | (with_reducible exact LeO.none _)
      | (with_reducible refine LeO.ite ?_ ?_)
      | (with_reducible refine LeO.bind ?_ (fun _ => ?_))
      | exact ih0 _ _ _
      | exact ih1 _ _ _
      | exact sequiturref19_Clause.mono _ _ _
      | exact LeO.none _
      | refine LeO.ite ?_ ?_
      | refine LeO.bind ?_ (fun _ => ?_)
set_option maxHeartbeats 8000000 in
set_option maxRecDepth 100000 in
theorem sequiturref19_Right.calls (k : Nat) (a0_0 : Int) (A0_1 : Option Addr) (c0_1 : Nat) (l0_1 : List (List Int)) (r : Int) (w : World) (hr0_1 : Kd.C (Kd.slice 3 (Kd.int .i64)) w A0_1 l0_1.length l0_1) (hc0_1 : l0_1.length ≤ c0_1) (h : sequiturref19_Right.f k a0_0 l0_1 = some r) :
    Calls Try.prog 27 #[.agg #[.int .i64 a0_0, .slice A0_1 l0_1.length c0_1]] w fun e w' => e = .returned (.int .i64 r) ∧ Below w.heap.size w w' := by
  have hu29 := Try.underlying29
  have HR0_1 := Aside0.mk hr0_1
  have HC0_1 := Aside0.mk hc0_1
  clear hr0_1 hc0_1
  have HB := Aside0.mk (Below.refl w.heap.size w)
  have H : (if a0_0 < 0 then (sequiturref19_Right.j0 k true a0_0 l0_1) else (sequiturref19_Right.j0 k (decide (a0_0 > 1024)) a0_0 l0_1)) = some r := h
  clear h
  have HC2 := Aside0.mk H
  clear H
  go_enter Try.func27, Try.ntmps27
  go_upto_region 1 with (first | ((with_reducible refine gate_dst (N := 1) rfl ?_); refine box_event ?hg (N := 1) ?hd (cs := #[.int .i64 a0_0, .slice A0_1 l0_1.length c0_1]) (t := 29) ?hr ?_; (case hd => rfl); (case hg => rfl); (case hr => first | (go_simp; done) | (go_simp; rfl)); intro gb150 hg w3 hbox hb; have n0_ := Aside0.mk (below_step (by repeat (first | (with_reducible first | exact HB.out | apply below_alloc | apply pw_below_drewN | apply below_drew1) | exact HB.out)) hb); have n1_ := Aside0.mk (hbox); have n2_ := Aside0.mk ((by rw [hg]; exact (below_size (by repeat (first | (with_reducible first | exact HB.out | apply below_alloc | apply pw_below_drewN | apply below_drew1) | exact HB.out))) : w.heap.size ≤ gb150)); have n3_ := Aside0.mk ((by rw [hg]; exact (below_size (by repeat (first | (with_reducible first | exact HB.out | apply below_alloc | apply pw_below_drewN | apply below_drew1) | exact HB.out))) : w.heap.size ≤ gb150)); clear HB; have HB := n0_; have BK150 := n1_; have GW150 := n2_; have GE150 := n3_; clear n0_ n1_ n2_ n3_; clear hb hbox hg))
  repeat (go_quiet (first | ((with_reducible refine gate_dst (N := 1) rfl ?_); refine box_event ?hg (N := 1) ?hd (cs := #[.int .i64 a0_0, .slice A0_1 l0_1.length c0_1]) (t := 29) ?hr ?_; (case hd => rfl); (case hg => rfl); (case hr => first | (go_simp; done) | (go_simp; rfl)); intro gb150 hg w3 hbox hb; have n0_ := Aside0.mk (below_step (by repeat (first | (with_reducible first | exact HB.out | apply below_alloc | apply pw_below_drewN | apply below_drew1) | exact HB.out)) hb); have n1_ := Aside0.mk (hbox); have n2_ := Aside0.mk ((by rw [hg]; exact (below_size (by repeat (first | (with_reducible first | exact HB.out | apply below_alloc | apply pw_below_drewN | apply below_drew1) | exact HB.out))) : w.heap.size ≤ gb150)); have n3_ := Aside0.mk ((by rw [hg]; exact (below_size (by repeat (first | (with_reducible first | exact HB.out | apply below_alloc | apply pw_below_drewN | apply below_drew1) | exact HB.out))) : w.heap.size ≤ gb150)); clear HB; have HB := n0_; have BK150 := n1_; have GW150 := n2_; have GE150 := n3_; clear n0_ n1_ n2_ n3_; clear hb hbox hg)); go_upto_region 1 with (first | ((with_reducible refine gate_dst (N := 1) rfl ?_); refine box_event ?hg (N := 1) ?hd (cs := #[.int .i64 a0_0, .slice A0_1 l0_1.length c0_1]) (t := 29) ?hr ?_; (case hd => rfl); (case hg => rfl); (case hr => first | (go_simp; done) | (go_simp; rfl)); intro gb150 hg w3 hbox hb; have n0_ := Aside0.mk (below_step (by repeat (first | (with_reducible first | exact HB.out | apply below_alloc | apply pw_below_drewN | apply below_drew1) | exact HB.out)) hb); have n1_ := Aside0.mk (hbox); have n2_ := Aside0.mk ((by rw [hg]; exact (below_size (by repeat (first | (with_reducible first | exact HB.out | apply below_alloc | apply pw_below_drewN | apply below_drew1) | exact HB.out))) : w.heap.size ≤ gb150)); have n3_ := Aside0.mk ((by rw [hg]; exact (below_size (by repeat (first | (with_reducible first | exact HB.out | apply below_alloc | apply pw_below_drewN | apply below_drew1) | exact HB.out))) : w.heap.size ≤ gb150)); clear HB; have HB := n0_; have BK150 := n1_; have GW150 := n2_; have GE150 := n3_; clear n0_ n1_ n2_ n3_; clear hb hbox hg)))
  (try simp only [Act.put, List.setIfInBounds_toArray, List.set_cons_zero, List.set_cons_succ])
  go_cut [12] (fun v12 wc => ∃ (kq : Nat) (x12_1 : Bool), v12 = .bool x12_1 ∧ Aside0 (sequiturref19_Right.j0 kq x12_1 a0_0 l0_1 = some r) ∧ Aside0 (kq ≤ k) ∧ Aside0 (wc.heap[gb150]? = some (.cells #[.int .i64 a0_0, (.slice A0_1 l0_1.length c0_1)] 29 (0, 0))) ∧ Aside0 (Below w.heap.size w wc))
  case first =>
    have H := HC2.out
    clear HC2
    by_cases c4 : a0_0 < 0
    · rw [if_pos c4] at H
      have c4b0 : decide (a0_0 < 0) = true := decide_eq_true c4
      clear c4
      (first | rw [c4b0] | (simp only [i64_w, i32_w]; rw [c4b0]) | skip)
      as_aux_lemma =>
        have H' := Aside0.mk H
        clear H
        have hcz5_0 : w3.cell? ⟨gb150, 0, none⟩ = some (.int .i64 a0_0) := (blk_cell BK150.out 0).trans rfl
        have hcz5_1 : w3.cell? ⟨gb150, 1, none⟩ = some (.slice A0_1 l0_1.length c0_1) := (blk_cell BK150.out 1).trans rfl
        have hfz5_0 := blk_frozen BK150.out 0
        have hfz5_1 := blk_frozen BK150.out 1
        go_wp2
        repeat (go_quiet (fail); try go_wp2)
        go_meet
        case rel => exact ⟨_, (true), (by first | rfl | (simp; done) | (simp [*]; done)), H', ⟨by first | omega | exact Nat.le_refl _⟩, ⟨by (with_reducible repeat (first | refine blk_drewN ?_ _ | refine blk_drew ?_ | refine blk_alloc ?_ _)); exact BK150.out⟩, ⟨by repeat (first | (with_reducible first | exact HB.out | apply below_alloc | apply pw_below_drewN | apply below_drew1 | refine below_set ?_ GE150.out) | exact HB.out)⟩⟩
    · rw [if_neg c4] at H
      have c4b0 : decide (a0_0 < 0) = false := decide_eq_false c4
      clear c4
      (first | rw [c4b0] | (simp only [i64_w, i32_w]; rw [c4b0]) | skip)
      as_aux_lemma =>
        have H' := Aside0.mk H
        clear H
        have hcz6_0 : w3.cell? ⟨gb150, 0, none⟩ = some (.int .i64 a0_0) := (blk_cell BK150.out 0).trans rfl
        have hcz6_1 : w3.cell? ⟨gb150, 1, none⟩ = some (.slice A0_1 l0_1.length c0_1) := (blk_cell BK150.out 1).trans rfl
        have hfz6_0 := blk_frozen BK150.out 0
        have hfz6_1 := blk_frozen BK150.out 1
        go_wp2
        repeat (go_quiet (fail); try go_wp2)
        go_meet
        case rel => exact ⟨_, (decide (a0_0 > 1024)), (by first | rfl | (simp; done) | (simp [*]; done)), H', ⟨by first | omega | exact Nat.le_refl _⟩, ⟨by (with_reducible repeat (first | refine blk_drewN ?_ _ | refine blk_drew ?_ | refine blk_alloc ?_ _)); exact BK150.out⟩, ⟨by repeat (first | (with_reducible first | exact HB.out | apply below_alloc | apply pw_below_drewN | apply below_drew1 | refine below_set ?_ GE150.out) | exact HB.out)⟩⟩
  case rest =>
    clear HC2
    try clear c2
    try clear p2
    try clear c4
    try clear c4b0
    try clear hcz5_0
    try clear hcz5_1
    try clear hcz6_0
    try clear hcz6_1
    try clear hfz5_0
    try clear hfz5_1
    try clear hfz6_0
    try clear hfz6_1
    obtain ⟨kq, x12_1, rfl, HA, HJ1, BK150, HB⟩ := hcut
    cases kq with
    | zero => exact absurd HA.out (by simp [sequiturref19_Right.j0])
    | succ kj1 =>
      have H := HA.out
      clear HA
      simp only [sequiturref19_Right.j0] at H
      by_cases c7 : x12_1 = true
      · subst c7
        have H1 : (some 1) = some r := by rw [if_pos rfl] at H; exact H
        clear H
        have H := H1
        clear H1
        as_aux_lemma =>
          obtain rfl := Option.some.inj H
          go_wp2
          repeat (go_quiet (fail); try go_wp2)
          go_ret
          exact ⟨by first | rfl | (simp [errW_none, errW_some] <;> rfl) | (simp [*, errW_none, errW_some] <;> rfl), by repeat (first | (with_reducible first | exact HB.out | apply below_alloc | apply pw_below_drewN | apply below_drew1 | refine below_set ?_ GE150.out) | exact HB.out)⟩
      · replace c7 := Bool.eq_false_iff.mpr c7
        subst c7
        have H1 : (if (l0_1.length : Int) > 4096 then (some 2) else (sequiturref19_Right.l0 kj1 0 a0_0 l0_1)) = some r := by rw [if_neg (show ¬ (false = true) by decide)] at H; exact H
        clear H
        have H := H1
        clear H1
        by_cases c8 : (l0_1.length : Int) > 4096
        · rw [if_pos c8] at H
          have c8b0 : decide (4096 < (l0_1.length : Int)) = true := decide_eq_true c8
          have c8b1 : decide (4096 < l0_1.length) = true := decide_eq_true (by omega)
          clear c8
          as_aux_lemma =>
            obtain rfl := Option.some.inj H
            have hcz9_0 : wc.cell? ⟨gb150, 0, none⟩ = some (.int .i64 a0_0) := (blk_cell BK150.out 0).trans rfl
            have hcz9_1 : wc.cell? ⟨gb150, 1, none⟩ = some (.slice A0_1 l0_1.length c0_1) := (blk_cell BK150.out 1).trans rfl
            have hfz9_0 := blk_frozen BK150.out 0
            have hfz9_1 := blk_frozen BK150.out 1
            go_wp2
            repeat (go_quiet (fail); try go_wp2)
            go_ret
            exact ⟨by first | rfl | (simp [errW_none, errW_some] <;> rfl) | (simp [*, errW_none, errW_some] <;> rfl), by repeat (first | (with_reducible first | exact HB.out | apply below_alloc | apply pw_below_drewN | apply below_drew1 | refine below_set ?_ GE150.out) | exact HB.out)⟩
        · rw [if_neg c8] at H
          have c8b0 : decide (4096 < (l0_1.length : Int)) = false := decide_eq_false c8
          have c8b1 : decide (4096 < l0_1.length) = false := decide_eq_false (by omega)
          clear c8
          have H' := Aside0.mk H
          clear H
          have hcz10_0 : wc.cell? ⟨gb150, 0, none⟩ = some (.int .i64 a0_0) := (blk_cell BK150.out 0).trans rfl
          have hcz10_1 : wc.cell? ⟨gb150, 1, none⟩ = some (.slice A0_1 l0_1.length c0_1) := (blk_cell BK150.out 1).trans rfl
          have hfz10_0 := blk_frozen BK150.out 0
          have hfz10_1 := blk_frozen BK150.out 1
          go_wp2
          repeat (go_quiet (fail); try go_wp2)
          go_loopg [3] kj1 (fun kq v3 w' => ∃ (x3_2 : Int), v3 = .int .i64 x3_2 ∧ Aside0 (sequiturref19_Right.l0 kq x3_2 a0_0 l0_1 = some r) ∧ Aside0 (kq ≤ kj1) ∧ Aside0 (w'.heap[gb150]? = some (.cells #[.int .i64 a0_0, (.slice A0_1 l0_1.length c0_1)] 29 (0, 0))) ∧ Aside0 (Below w.heap.size w w'))
          case atStart => exact ⟨(0), (by first | rfl | (simp; done) | (simp [*]; done)), H', ⟨Nat.le_refl _⟩, ⟨by (with_reducible repeat (first | refine blk_drewN ?_ _ | refine blk_drew ?_ | refine blk_alloc ?_ _)); exact BK150.out⟩, ⟨by repeat (first | (with_reducible first | exact HB.out | apply below_alloc | apply pw_below_drewN | apply below_drew1 | refine below_set ?_ GE150.out) | exact HB.out)⟩⟩
          case round =>
            clear H'
            try clear c2
            try clear p2
            try clear c4
            try clear c4b0
            try clear c7
            try clear c8
            try clear c8b0
            try clear c8b1
            try clear hcz10_0
            try clear hcz10_1
            try clear hcz5_0
            try clear hcz5_1
            try clear hcz6_0
            try clear hcz6_1
            try clear hcz9_0
            try clear hcz9_1
            try clear hfz10_0
            try clear hfz10_1
            try clear hfz5_0
            try clear hfz5_1
            try clear hfz6_0
            try clear hfz6_1
            try clear hfz9_0
            try clear hfz9_1
            try clear p2
            obtain ⟨x3_2, rfl, HA, HK2, BK150, HB⟩ := hrel
            cases gk with
            | zero => exact absurd HA.out (by simp [sequiturref19_Right.l0])
            | succ k2 =>
              have H := HA.out
              clear HA
              simp only [sequiturref19_Right.l0] at H
              by_cases c11 : x3_2 < (l0_1.length : Int)
              · rw [if_pos c11] at H
                have c11b0 : decide (x3_2 < (l0_1.length : Int)) = true := decide_eq_true c11
                clear c11
                by_cases c12 : 0 ≤ x3_2
                · rw [if_pos c12] at H
                  have c12b0 : decide (0 ≤ x3_2) = true := decide_eq_true c12
                  clear c12
                  replace H := Option.bind_eq_some_iff.mp H
                  obtain ⟨t152, A130, H⟩ := H
                  replace H : (if t152 = 0 then (sequiturref19_Right.l0 k2 (wrap64 (x3_2 + 1)) a0_0 l0_1) else (some t152)) = some r := H
                  have A13 := Aside0.mk A130
                  clear A130
                  by_cases c14 : t152 = 0
                  · rw [if_pos c14] at H
                    have c14b0 : (t152 == 0) = true := beq_iff_eq.mpr c14
                    have c14b1 : (t152 != 0) = false := bne_eq_false_iff_eq.mpr c14
                    clear c14
                    as_aux_lemma =>
                      have H' := Aside0.mk H
                      clear H
                      have hcz15_0 : wr.cell? ⟨gb150, 0, none⟩ = some (.int .i64 a0_0) := (blk_cell BK150.out 0).trans rfl
                      have hcz15_1 : wr.cell? ⟨gb150, 1, none⟩ = some (.slice A0_1 l0_1.length c0_1) := (blk_cell BK150.out 1).trans rfl
                      have hfz15_0 := blk_frozen BK150.out 0
                      have hfz15_1 := blk_frozen BK150.out 1
                      have p151 : 0 ≤ (x3_2 : Int) := of_decide_eq_true (by first | (with_reducible assumption) | assumption)
                      have q151 : x3_2 < (l0_1.length : Int) := of_decide_eq_true (by first | (with_reducible assumption) | assumption)
                      obtain ⟨ad151, A151_0, c151_0, e151, hx151_0, hl151_0, hi151_0⟩ := at_L3 HR0_1.out x3_2 p151 q151
                      cases e151
                      replace hx151_0 := (HB.out.cell (World.block_lt_of_cell? w _ hx151_0)).trans hx151_0
                      have HR151_0 := Aside0.mk hi151_0
                      have HC151_0 := Aside0.mk hl151_0
                      clear hi151_0 hl151_0
                      replace p151 := eq_true p151
                      replace q151 := eq_true q151
                      go_wp2_with (first | (go_at_call 28; (with_reducible refine (sequiturref19_Clause.calls k2 _ _ (rd_L3 l0_1 x3_2) a0_0 t152 _ ?side1 ?side2 A13.out).mono ?_); (case side1 => repeat (first | exact (Kd.C_below HR151_0.out HB.out) | (with_reducible refine Kd.C_alloc ?_ _) | (with_reducible refine Kd.C_drewN ?_ _) | (with_reducible refine Kd.C_drew ?_))); (case side2 => exact HC151_0.out); rintro e w' ⟨rfl, ⟨nd, rfl⟩⟩; (try first | exact ⟨rfl, _, World.drewN_drewN _ _ _⟩ | exact ⟨rfl, _, Eq.trans (World.drewN_drewN _ _ _) (congrArg (World.drewN _) (Nat.add_assoc _ _ _))⟩)))
                      repeat (go_quiet (first | (go_at_call 28; (with_reducible refine (sequiturref19_Clause.calls k2 _ _ (rd_L3 l0_1 x3_2) a0_0 t152 _ ?side1 ?side2 A13.out).mono ?_); (case side1 => repeat (first | exact (Kd.C_below HR151_0.out HB.out) | (with_reducible refine Kd.C_alloc ?_ _) | (with_reducible refine Kd.C_drewN ?_ _) | (with_reducible refine Kd.C_drew ?_))); (case side2 => exact HC151_0.out); rintro e w' ⟨rfl, ⟨nd, rfl⟩⟩; (try first | exact ⟨rfl, _, World.drewN_drewN _ _ _⟩ | exact ⟨rfl, _, Eq.trans (World.drewN_drewN _ _ _) (congrArg (World.drewN _) (Nat.add_assoc _ _ _))⟩))); try go_wp2_with (first | (go_at_call 28; (with_reducible refine (sequiturref19_Clause.calls k2 _ _ (rd_L3 l0_1 x3_2) a0_0 t152 _ ?side1 ?side2 A13.out).mono ?_); (case side1 => repeat (first | exact (Kd.C_below HR151_0.out HB.out) | (with_reducible refine Kd.C_alloc ?_ _) | (with_reducible refine Kd.C_drewN ?_ _) | (with_reducible refine Kd.C_drew ?_))); (case side2 => exact HC151_0.out); rintro e w' ⟨rfl, ⟨nd, rfl⟩⟩; (try first | exact ⟨rfl, _, World.drewN_drewN _ _ _⟩ | exact ⟨rfl, _, Eq.trans (World.drewN_drewN _ _ _) (congrArg (World.drewN _) (Nat.add_assoc _ _ _))⟩))))
                      go_roundg k2
                      case measure => have := HJ1.out; have := HK2.out; omega
                      case rel => exact ⟨(wrap64 (x3_2 + 1)), (by first | rfl | (simp; done) | (simp [*]; done)), H', ⟨by have := HJ1.out; have := HK2.out; omega⟩, ⟨by (with_reducible repeat (first | refine blk_drewN ?_ _ | refine blk_drew ?_ | refine blk_alloc ?_ _)); exact BK150.out⟩, ⟨by repeat (first | (with_reducible first | exact HB.out | apply below_alloc | apply pw_below_drewN | apply below_drew1 | refine below_set ?_ GE150.out) | exact HB.out)⟩⟩
                  · rw [if_neg c14] at H
                    have c14b0 : (t152 == 0) = false := beq_eq_false_iff_ne.mpr c14
                    have c14b1 : (t152 != 0) = true := bne_iff_ne.mpr c14
                    as_aux_lemma =>
                      obtain rfl := Option.some.inj H
                      have hcz16_0 : wr.cell? ⟨gb150, 0, none⟩ = some (.int .i64 a0_0) := (blk_cell BK150.out 0).trans rfl
                      have hcz16_1 : wr.cell? ⟨gb150, 1, none⟩ = some (.slice A0_1 l0_1.length c0_1) := (blk_cell BK150.out 1).trans rfl
                      have hfz16_0 := blk_frozen BK150.out 0
                      have hfz16_1 := blk_frozen BK150.out 1
                      have p151 : 0 ≤ (x3_2 : Int) := of_decide_eq_true (by first | (with_reducible assumption) | assumption)
                      have q151 : x3_2 < (l0_1.length : Int) := of_decide_eq_true (by first | (with_reducible assumption) | assumption)
                      obtain ⟨ad151, A151_0, c151_0, e151, hx151_0, hl151_0, hi151_0⟩ := at_L3 HR0_1.out x3_2 p151 q151
                      cases e151
                      replace hx151_0 := (HB.out.cell (World.block_lt_of_cell? w _ hx151_0)).trans hx151_0
                      have HR151_0 := Aside0.mk hi151_0
                      have HC151_0 := Aside0.mk hl151_0
                      clear hi151_0 hl151_0
                      replace p151 := eq_true p151
                      replace q151 := eq_true q151
                      go_wp2_with (first | (go_at_call 28; (with_reducible refine (sequiturref19_Clause.calls k2 _ _ (rd_L3 l0_1 x3_2) a0_0 t152 _ ?side1 ?side2 A13.out).mono ?_); (case side1 => repeat (first | exact (Kd.C_below HR151_0.out HB.out) | (with_reducible refine Kd.C_alloc ?_ _) | (with_reducible refine Kd.C_drewN ?_ _) | (with_reducible refine Kd.C_drew ?_))); (case side2 => exact HC151_0.out); rintro e w' ⟨rfl, ⟨nd, rfl⟩⟩; (try first | exact ⟨rfl, _, World.drewN_drewN _ _ _⟩ | exact ⟨rfl, _, Eq.trans (World.drewN_drewN _ _ _) (congrArg (World.drewN _) (Nat.add_assoc _ _ _))⟩)))
                      repeat (go_quiet (first | (go_at_call 28; (with_reducible refine (sequiturref19_Clause.calls k2 _ _ (rd_L3 l0_1 x3_2) a0_0 t152 _ ?side1 ?side2 A13.out).mono ?_); (case side1 => repeat (first | exact (Kd.C_below HR151_0.out HB.out) | (with_reducible refine Kd.C_alloc ?_ _) | (with_reducible refine Kd.C_drewN ?_ _) | (with_reducible refine Kd.C_drew ?_))); (case side2 => exact HC151_0.out); rintro e w' ⟨rfl, ⟨nd, rfl⟩⟩; (try first | exact ⟨rfl, _, World.drewN_drewN _ _ _⟩ | exact ⟨rfl, _, Eq.trans (World.drewN_drewN _ _ _) (congrArg (World.drewN _) (Nat.add_assoc _ _ _))⟩))); try go_wp2_with (first | (go_at_call 28; (with_reducible refine (sequiturref19_Clause.calls k2 _ _ (rd_L3 l0_1 x3_2) a0_0 t152 _ ?side1 ?side2 A13.out).mono ?_); (case side1 => repeat (first | exact (Kd.C_below HR151_0.out HB.out) | (with_reducible refine Kd.C_alloc ?_ _) | (with_reducible refine Kd.C_drewN ?_ _) | (with_reducible refine Kd.C_drew ?_))); (case side2 => exact HC151_0.out); rintro e w' ⟨rfl, ⟨nd, rfl⟩⟩; (try first | exact ⟨rfl, _, World.drewN_drewN _ _ _⟩ | exact ⟨rfl, _, Eq.trans (World.drewN_drewN _ _ _) (congrArg (World.drewN _) (Nat.add_assoc _ _ _))⟩))))
                      go_ret
                      exact ⟨by first | rfl | (simp [errW_none, errW_some] <;> rfl) | (simp [*, errW_none, errW_some] <;> rfl), by repeat (first | (with_reducible first | exact HB.out | apply below_alloc | apply pw_below_drewN | apply below_drew1 | refine below_set ?_ GE150.out) | exact HB.out)⟩
                · rw [if_neg c12] at H
                  exact absurd H (by simp)
              · rw [if_neg c11] at H
                have c11b0 : decide (x3_2 < (l0_1.length : Int)) = false := decide_eq_false c11
                clear c11
                as_aux_lemma =>
                  obtain rfl := Option.some.inj H
                  have hcz17_0 : wr.cell? ⟨gb150, 0, none⟩ = some (.int .i64 a0_0) := (blk_cell BK150.out 0).trans rfl
                  have hcz17_1 : wr.cell? ⟨gb150, 1, none⟩ = some (.slice A0_1 l0_1.length c0_1) := (blk_cell BK150.out 1).trans rfl
                  have hfz17_0 := blk_frozen BK150.out 0
                  have hfz17_1 := blk_frozen BK150.out 1
                  go_wp2
                  repeat (go_quiet (fail); try go_wp2)
                  go_ret
                  exact ⟨by first | rfl | (simp [errW_none, errW_some] <;> rfl) | (simp [*, errW_none, errW_some] <;> rfl), by repeat (first | (with_reducible first | exact HB.out | apply below_alloc | apply pw_below_drewN | apply below_drew1 | refine below_set ?_ GE150.out) | exact HB.out)⟩

end Go.Proofs.Ytkfnaiobgddjpaa.P

-- Printed by wip/tools/pp.py of this claim's session (over the kit's print.py); Lean checks it.
namespace Go.Proofs.Ytkfnaiobgddjpaa.P
open Go.RowKit Go.Proofs.YtkfnaiobgddjpaaW.PrintWords Go.Proofs.YtkfnaiobgddjpaaW.PrintLast Go.Proofs.YtkfnaiobgddjpaaW.PrintMore
attribute [local go_sem] max2_int min2_int max_two min_two max_three min_three max_four min_four   -- for this text's walks alone
set_option linter.unusedVariables false
set_option linter.unusedSimpArgs false

/-! ### sequiturref19_True: function 54 -/
def sequiturref19_True.f (a0 : Int) (l1 : List Bool) : Option (Bool) := if a0 < 0 then (if (wrap64 (-a0)) ≤ (l1.length : Int) then (if 0 ≤ (wrap64 ((wrap64 (-a0)) - 1)) then (if (wrap64 ((wrap64 (-a0)) - 1)) < (l1.length : Int) then (some (!(rdOf false l1 (wrap64 ((wrap64 (-a0)) - 1))))) else (none)) else (none)) else (some false)) else (if a0 > 0 then (if a0 ≤ (l1.length : Int) then (if 0 ≤ (wrap64 (a0 - 1)) then (if (wrap64 (a0 - 1)) < (l1.length : Int) then (some (rdOf false l1 (wrap64 (a0 - 1)))) else (none)) else (none)) else (some false)) else (some false))
set_option maxHeartbeats 8000000 in
set_option maxRecDepth 100000 in
theorem sequiturref19_True.calls (a0 : Int) (A1 : Option Addr) (c1 : Nat) (l1 : List Bool) (r : Bool) (w : World) (hr1 : Kd.C Kd.bool w A1 l1.length l1) (hc1 : l1.length ≤ c1) (h : sequiturref19_True.f a0 l1 = some r) :
    Calls Try.prog 54 #[.int .i64 a0, .slice A1 l1.length c1] w fun e w' => e = .returned (.bool r) ∧ Drawn0 w w' := by
  have HR1 := Aside0.mk hr1
  have HC1 := Aside0.mk hc1
  clear hr1 hc1
  have H : (if a0 < 0 then (if (wrap64 (-a0)) ≤ (l1.length : Int) then (if 0 ≤ (wrap64 ((wrap64 (-a0)) - 1)) then (if (wrap64 ((wrap64 (-a0)) - 1)) < (l1.length : Int) then (some (!(rdOf false l1 (wrap64 ((wrap64 (-a0)) - 1))))) else (none)) else (none)) else (some false)) else (if a0 > 0 then (if a0 ≤ (l1.length : Int) then (if 0 ≤ (wrap64 (a0 - 1)) then (if (wrap64 (a0 - 1)) < (l1.length : Int) then (some (rdOf false l1 (wrap64 (a0 - 1)))) else (none)) else (none)) else (some false)) else (some false))) = some r := h
  clear h
  by_cases c3 : a0 < 0
  · rw [if_pos c3] at H
    have c3b0 : decide (a0 < 0) = true := decide_eq_true c3
    clear c3
    by_cases c4 : (wrap64 (-a0)) ≤ (l1.length : Int)
    · rw [if_pos c4] at H
      have c4b0 : decide ((wrap64 (-a0)) ≤ (l1.length : Int)) = true := decide_eq_true c4
      clear c4
      obtain ⟨ji5, hji5⟩ : ∃ j_ : Int, (wrap64 ((wrap64 (-a0)) - 1)) = j_ := ⟨_, rfl⟩
      replace H : (if 0 ≤ (ji5) then (if (ji5) < (l1.length : Int) then (some (!(rdOf false l1 (ji5)))) else (none)) else (none)) = some r := by first | (rw [hji5] at H; exact H) | (simp only [hji5] at H ⊢; exact H)
      have hji5w : (IntKind.i64.wrap ((wrap64 (-a0)) - 1)) = ji5 := (i64_w _).trans hji5
      by_cases c6 : 0 ≤ (ji5)
      · rw [if_pos c6] at H
        have c6b0 : decide (0 ≤ (ji5)) = true := decide_eq_true c6
        clear c6
        by_cases c7 : (ji5) < (l1.length : Int)
        · rw [if_pos c7] at H
          have c7b0 : decide ((ji5) < (l1.length : Int)) = true := decide_eq_true c7
          clear c7
          as_aux_lemma =>
            obtain rfl := Option.some.inj H
            have p155 : 0 ≤ ((ji5) : Int) := of_decide_eq_true (by first | (with_reducible assumption) | assumption)
            have q155 : (ji5) < (l1.length : Int) := of_decide_eq_true (by first | (with_reducible assumption) | assumption)
            obtain ⟨ad155, e155, hx155_0⟩ := Kd.at_bool HR1.out (ji5) p155 q155
            cases e155
            replace p155 := eq_true p155
            replace q155 := eq_true q155
            go_enter Try.func54, Try.ntmps54
            go_wp2
            go_ret
            exact ⟨by first | rfl | (simp; done) | (simp only [← hji5] <;> (first | rfl | simp)) | (simp [*]; done), by repeat (first | exact Drawn0.refl _ | apply Drawn0.step)⟩
        · rw [if_neg c7] at H
          exact absurd H (by simp)
      · rw [if_neg c6] at H
        exact absurd H (by simp)
    · rw [if_neg c4] at H
      have c4b0 : decide ((wrap64 (-a0)) ≤ (l1.length : Int)) = false := decide_eq_false c4
      clear c4
      as_aux_lemma =>
        obtain rfl := Option.some.inj H
        go_enter Try.func54, Try.ntmps54
        go_wp2
        go_ret
        exact ⟨by first | rfl | (simp; done) | (simp [*]; done), by repeat (first | exact Drawn0.refl _ | apply Drawn0.step)⟩
  · rw [if_neg c3] at H
    have c3b0 : decide (a0 < 0) = false := decide_eq_false c3
    clear c3
    by_cases c8 : a0 > 0
    · rw [if_pos c8] at H
      have c8b0 : decide (0 < a0) = true := decide_eq_true c8
      clear c8
      by_cases c9 : a0 ≤ (l1.length : Int)
      · rw [if_pos c9] at H
        have c9b0 : decide (a0 ≤ (l1.length : Int)) = true := decide_eq_true c9
        clear c9
        obtain ⟨ji10, hji10⟩ : ∃ j_ : Int, (wrap64 (a0 - 1)) = j_ := ⟨_, rfl⟩
        replace H : (if 0 ≤ (ji10) then (if (ji10) < (l1.length : Int) then (some (rdOf false l1 (ji10))) else (none)) else (none)) = some r := by first | (rw [hji10] at H; exact H) | (simp only [hji10] at H ⊢; exact H)
        have hji10w : (IntKind.i64.wrap (a0 - 1)) = ji10 := (i64_w _).trans hji10
        by_cases c11 : 0 ≤ (ji10)
        · rw [if_pos c11] at H
          have c11b0 : decide (0 ≤ (ji10)) = true := decide_eq_true c11
          clear c11
          by_cases c12 : (ji10) < (l1.length : Int)
          · rw [if_pos c12] at H
            have c12b0 : decide ((ji10) < (l1.length : Int)) = true := decide_eq_true c12
            clear c12
            as_aux_lemma =>
              obtain rfl := Option.some.inj H
              have p156 : 0 ≤ ((ji10) : Int) := of_decide_eq_true (by first | (with_reducible assumption) | assumption)
              have q156 : (ji10) < (l1.length : Int) := of_decide_eq_true (by first | (with_reducible assumption) | assumption)
              obtain ⟨ad156, e156, hx156_0⟩ := Kd.at_bool HR1.out (ji10) p156 q156
              cases e156
              replace p156 := eq_true p156
              replace q156 := eq_true q156
              go_enter Try.func54, Try.ntmps54
              go_wp2
              go_ret
              exact ⟨by first | rfl | (simp; done) | (simp only [← hji10] <;> (first | rfl | simp)) | (simp [*]; done), by repeat (first | exact Drawn0.refl _ | apply Drawn0.step)⟩
          · rw [if_neg c12] at H
            exact absurd H (by simp)
        · rw [if_neg c11] at H
          exact absurd H (by simp)
      · rw [if_neg c9] at H
        have c9b0 : decide (a0 ≤ (l1.length : Int)) = false := decide_eq_false c9
        clear c9
        as_aux_lemma =>
          obtain rfl := Option.some.inj H
          go_enter Try.func54, Try.ntmps54
          go_wp2
          go_ret
          exact ⟨by first | rfl | (simp; done) | (simp [*]; done), by repeat (first | exact Drawn0.refl _ | apply Drawn0.step)⟩
    · rw [if_neg c8] at H
      have c8b0 : decide (0 < a0) = false := decide_eq_false c8
      clear c8
      as_aux_lemma =>
        obtain rfl := Option.some.inj H
        go_enter Try.func54, Try.ntmps54
        go_wp2
        go_ret
        exact ⟨by first | rfl | (simp; done) | (simp [*]; done), by repeat (first | exact Drawn0.refl _ | apply Drawn0.step)⟩

end Go.Proofs.Ytkfnaiobgddjpaa.P

-- Printed by wip/tools/pp.py of this claim's session (over the kit's print.py); Lean checks it.
namespace Go.Proofs.Ytkfnaiobgddjpaa.P
open Go.RowKit Go.Proofs.YtkfnaiobgddjpaaW.PrintWords Go.Proofs.YtkfnaiobgddjpaaW.PrintLast Go.Proofs.YtkfnaiobgddjpaaW.PrintMore
attribute [local go_sem] max2_int min2_int max_two min_two max_three min_three max_four min_four   -- for this text's walks alone
set_option linter.unusedVariables false
set_option linter.unusedSimpArgs false

/-! ### sequiturref19_Holds: function 29 -/
def sequiturref19_Holds.l0 : Nat → List Int → List Bool → Int → Option (Bool)
  | 0, _, _, _ => none
  | k + 1, x0, x1, x5 => if x5 < (x0.length : Int) then (if 0 ≤ x5 then ((sequiturref19_True.f (rd x0 x5) x1).bind fun t158 => (if t158 = true then (some true) else (sequiturref19_Holds.l0 k x0 x1 (wrap64 (x5 + 1))))) else (none)) else (some false)
def sequiturref19_Holds.f (k : Nat) (l0 : List Int) (l1 : List Bool) : Option (Bool) := sequiturref19_Holds.l0 k l0 l1 0
theorem sequiturref19_Holds.mono_l : ∀ k, (∀ y0 y1 y2, LeO (sequiturref19_Holds.l0 k y0 y1 y2) (sequiturref19_Holds.l0 (k + 1) y0 y1 y2))
  | 0 => fun _ _ _ r h => by simp [sequiturref19_Holds.l0] at h
  | k + 1 => by
    have ih0 := sequiturref19_Holds.mono_l k
    · intro y0 y1 y2
      unfold sequiturref19_Holds.l0
      repeat' first
      | (with_reducible exact ih0 _ _ _)
      | (with_reducible exact LeO.refl _)
      | (with_reducible exact LeO.none _)
      | (with_reducible refine LeO.ite ?_ ?_)
      | (with_reducible refine LeO.bind ?_ (fun _ => ?_))
      | exact ih0 _ _ _
      | exact LeO.none _
      | refine LeO.ite ?_ ?_
      | refine LeO.bind ?_ (fun _ => ?_)
theorem sequiturref19_Holds.mono : ∀ a0 a1 k, LeO (sequiturref19_Holds.f k a0 a1) (sequiturref19_Holds.f (k + 1) a0 a1) := by
  intro a0 a1 k
  have ih0 := sequiturref19_Holds.mono_l k
  unfold sequiturref19_Holds.f
  repeat' first
      | (with_reducible exact ih0 _ _ _)
      | (with_reducible exact LeO.refl _)
      | (with_reducible exact LeO.none _)
      | (with_reducible refine LeO.ite ?_ ?_)
      | (with_reducible refine LeO.bind ?_ (fun _ => ?_))
      | exact ih0 _ _ _
      | exact LeO.none _
      | refine LeO.ite ?_ ?_
      | refine LeO.bind ?_ (fun _ => ?_)
set_option maxHeartbeats 8000000 in
set_option maxRecDepth 100000 in
theorem sequiturref19_Holds.calls (k : Nat) (A0 : Option Addr) (c0 : Nat) (l0 : List Int) (A1 : Option Addr) (c1 : Nat) (l1 : List Bool) (r : Bool) (w : World) (hr0 : Kd.C (Kd.int .i64) w A0 l0.length l0) (hc0 : l0.length ≤ c0) (hr1 : Kd.C Kd.bool w A1 l1.length l1) (hc1 : l1.length ≤ c1) (h : sequiturref19_Holds.f k l0 l1 = some r) :
    Calls Try.prog 29 #[.slice A0 l0.length c0, .slice A1 l1.length c1] w fun e w' => e = .returned (.bool r) ∧ Drawn0 w w' := by
  have HR0 := Aside0.mk hr0
  have HC0 := Aside0.mk hc0
  clear hr0 hc0
  have HR1 := Aside0.mk hr1
  have HC1 := Aside0.mk hc1
  clear hr1 hc1
  have H : (sequiturref19_Holds.l0 k l0 l1 0) = some r := h
  clear h
  have H' := Aside0.mk H
  clear H
  go_enter Try.func29, Try.ntmps29
  go_wp2
  go_loopg [5] k (fun kq v5 w' => ∃ (x5_1 : Int), v5 = .int .i64 x5_1 ∧ Aside0 (sequiturref19_Holds.l0 kq l0 l1 x5_1 = some r) ∧ Aside0 (kq ≤ k) ∧ Drawn0 w w')
  case atStart => exact ⟨(0), (by first | rfl | (simp; done) | (simp [*]; done)), H', ⟨Nat.le_refl _⟩, by repeat (first | exact Drawn0.refl _ | apply Drawn0.step)⟩
  case round =>
    clear H'
    try clear c1
    try clear c2
    try clear p2
    obtain ⟨x5_1, rfl, HA, HK1, ⟨m1, rfl⟩⟩ := hrel
    cases gk with
    | zero => exact absurd HA.out (by simp [sequiturref19_Holds.l0])
    | succ k1 =>
      have H := HA.out
      clear HA
      simp only [sequiturref19_Holds.l0] at H
      by_cases c3 : x5_1 < (l0.length : Int)
      · rw [if_pos c3] at H
        have c3b0 : decide (x5_1 < (l0.length : Int)) = true := decide_eq_true c3
        clear c3
        by_cases c4 : 0 ≤ x5_1
        · rw [if_pos c4] at H
          have c4b0 : decide (0 ≤ x5_1) = true := decide_eq_true c4
          clear c4
          replace H := Option.bind_eq_some_iff.mp H
          obtain ⟨t158, A50, H⟩ := H
          replace H : (if t158 = true then (some true) else (sequiturref19_Holds.l0 k1 l0 l1 (wrap64 (x5_1 + 1)))) = some r := H
          have A5 := Aside0.mk A50
          clear A50
          by_cases c6 : t158 = true
          · subst c6
            have H1 : (some true) = some r := by rw [if_pos rfl] at H; exact H
            clear H
            have H := H1
            clear H1
            as_aux_lemma =>
              obtain rfl := Option.some.inj H
              have p157 : 0 ≤ (x5_1 : Int) := of_decide_eq_true (by first | (with_reducible assumption) | assumption)
              have q157 : x5_1 < (l0.length : Int) := of_decide_eq_true (by first | (with_reducible assumption) | assumption)
              obtain ⟨ad157, e157, hx157_0⟩ := Kd.at_int HR0.out x5_1 p157 q157
              cases e157
              replace p157 := eq_true p157
              replace q157 := eq_true q157
              go_wp2_with (first | ((with_reducible refine gate_callee (f := 54) rfl ?_); refine goesL_ (some 17) rfl rfl Try.func54 (by kernel_rfl) rfl #[.int .i64 (rd l0 x5_1), .slice A1 l1.length c1] rfl (by (try simp only [List.map_toArray, List.map_cons, List.map_nil]); first | done | rfl | (simp only [List.length_drop, List.length_take]; rfl)) ?_; (with_reducible refine (sequiturref19_True.calls (rd l0 x5_1) _ _ l1 true _ ?side1 ?side2 A5.out).mono ?_); (case side1 => repeat (first | exact HR1.out | (with_reducible refine Kd.C_alloc ?_ _) | (with_reducible refine Kd.C_drewN ?_ _) | (with_reducible refine Kd.C_drew ?_))); (case side2 => exact HC1.out); rintro e w' ⟨rfl, ⟨nd, rfl⟩⟩; refine ⟨_, rfl, ?_⟩))
              go_ret
              exact ⟨by first | rfl | (simp; done) | (simp [*]; done), by repeat (first | exact Drawn0.refl _ | apply Drawn0.step)⟩
          · replace c6 := Bool.eq_false_iff.mpr c6
            subst c6
            have H1 : (sequiturref19_Holds.l0 k1 l0 l1 (wrap64 (x5_1 + 1))) = some r := by rw [if_neg (show ¬ (false = true) by decide)] at H; exact H
            clear H
            have H := H1
            clear H1
            as_aux_lemma =>
              have H' := Aside0.mk H
              clear H
              have p157 : 0 ≤ (x5_1 : Int) := of_decide_eq_true (by first | (with_reducible assumption) | assumption)
              have q157 : x5_1 < (l0.length : Int) := of_decide_eq_true (by first | (with_reducible assumption) | assumption)
              obtain ⟨ad157, e157, hx157_0⟩ := Kd.at_int HR0.out x5_1 p157 q157
              cases e157
              replace p157 := eq_true p157
              replace q157 := eq_true q157
              go_wp2_with (first | ((with_reducible refine gate_callee (f := 54) rfl ?_); refine goesL_ (some 17) rfl rfl Try.func54 (by kernel_rfl) rfl #[.int .i64 (rd l0 x5_1), .slice A1 l1.length c1] rfl (by (try simp only [List.map_toArray, List.map_cons, List.map_nil]); first | done | rfl | (simp only [List.length_drop, List.length_take]; rfl)) ?_; (with_reducible refine (sequiturref19_True.calls (rd l0 x5_1) _ _ l1 false _ ?side1 ?side2 A5.out).mono ?_); (case side1 => repeat (first | exact HR1.out | (with_reducible refine Kd.C_alloc ?_ _) | (with_reducible refine Kd.C_drewN ?_ _) | (with_reducible refine Kd.C_drew ?_))); (case side2 => exact HC1.out); rintro e w' ⟨rfl, ⟨nd, rfl⟩⟩; refine ⟨_, rfl, ?_⟩))
              go_roundg k1
              case measure => have := HK1.out; omega
              case rel => exact ⟨(wrap64 (x5_1 + 1)), (by first | rfl | (simp; done) | (simp [*]; done)), H', ⟨by have := HK1.out; omega⟩, by repeat (first | exact Drawn0.refl _ | apply Drawn0.step)⟩
        · rw [if_neg c4] at H
          exact absurd H (by simp)
      · rw [if_neg c3] at H
        have c3b0 : decide (x5_1 < (l0.length : Int)) = false := decide_eq_false c3
        clear c3
        as_aux_lemma =>
          obtain rfl := Option.some.inj H
          go_wp2
          go_ret
          exact ⟨by first | rfl | (simp; done) | (simp [*]; done), by repeat (first | exact Drawn0.refl _ | apply Drawn0.step)⟩

end Go.Proofs.Ytkfnaiobgddjpaa.P

-- Printed by wip/tools/pp.py of this claim's session (over the kit's print.py); Lean checks it.
namespace Go.Proofs.Ytkfnaiobgddjpaa.P
open Go.RowKit Go.Proofs.YtkfnaiobgddjpaaW.PrintWords Go.Proofs.YtkfnaiobgddjpaaW.PrintLast Go.Proofs.YtkfnaiobgddjpaaW.PrintMore
attribute [local go_sem] max2_int min2_int max_two min_two max_three min_three max_four min_four   -- for this text's walks alone
set_option linter.unusedVariables false
set_option linter.unusedSimpArgs false

/-! ### sequiturref19_Every: function 30 -/
def sequiturref19_Every.l0 : Nat → List (List Int) → List Bool → Int → Option (Bool)
  | 0, _, _, _ => none
  | k + 1, x0, x1, x5 => if x5 < (x0.length : Int) then (if 0 ≤ x5 then ((sequiturref19_Holds.f k (rd_L3 x0 x5) x1).bind fun t160 => (if t160 = true then (sequiturref19_Every.l0 k x0 x1 (wrap64 (x5 + 1))) else (some false))) else (none)) else (some true)
def sequiturref19_Every.f (k : Nat) (l0 : List (List Int)) (l1 : List Bool) : Option (Bool) := sequiturref19_Every.l0 k l0 l1 0
theorem sequiturref19_Every.mono_l : ∀ k, (∀ y0 y1 y2, LeO (sequiturref19_Every.l0 k y0 y1 y2) (sequiturref19_Every.l0 (k + 1) y0 y1 y2))
  | 0 => fun _ _ _ r h => by simp [sequiturref19_Every.l0] at h
  | k + 1 => by
    have ih0 := sequiturref19_Every.mono_l k
    · intro y0 y1 y2
      unfold sequiturref19_Every.l0
      repeat' first
      | (with_reducible exact ih0 _ _ _)
      | (with_reducible exact sequiturref19_Holds.mono _ _ _)
      | (with_reducible exact LeO.refl _)
      | (with_reducible exact LeO.none _)
      | (with_reducible refine LeO.ite ?_ ?_)
      | (with_reducible refine LeO.bind ?_ (fun _ => ?_))
      | exact ih0 _ _ _
      | exact sequiturref19_Holds.mono _ _ _
      | exact LeO.none _
      | refine LeO.ite ?_ ?_
      | refine LeO.bind ?_ (fun _ => ?_)
theorem sequiturref19_Every.mono : ∀ a0 a1 k, LeO (sequiturref19_Every.f k a0 a1) (sequiturref19_Every.f (k + 1) a0 a1) := by
  intro a0 a1 k
  have ih0 := sequiturref19_Every.mono_l k
  unfold sequiturref19_Every.f
  repeat' first
      | (with_reducible exact ih0 _ _ _)
      | (with_reducible exact sequiturref19_Holds.mono _ _ _)
      | (with_reducible exact LeO.refl _)
      | (with_reducible exact LeO.none _)
      | (with_reducible refine LeO.ite ?_ ?_)
      | (with_reducible refine LeO.bind ?_ (fun _ => ?_))
      | exact ih0 _ _ _
      | exact sequiturref19_Holds.mono _ _ _
      | exact LeO.none _
      | refine LeO.ite ?_ ?_
      | refine LeO.bind ?_ (fun _ => ?_)
set_option maxHeartbeats 8000000 in
set_option maxRecDepth 100000 in
theorem sequiturref19_Every.calls (k : Nat) (A0 : Option Addr) (c0 : Nat) (l0 : List (List Int)) (A1 : Option Addr) (c1 : Nat) (l1 : List Bool) (r : Bool) (w : World) (hr0 : Kd.C (Kd.slice 3 (Kd.int .i64)) w A0 l0.length l0) (hc0 : l0.length ≤ c0) (hr1 : Kd.C Kd.bool w A1 l1.length l1) (hc1 : l1.length ≤ c1) (h : sequiturref19_Every.f k l0 l1 = some r) :
    Calls Try.prog 30 #[.slice A0 l0.length c0, .slice A1 l1.length c1] w fun e w' => e = .returned (.bool r) ∧ Drawn0 w w' := by
  have HR0 := Aside0.mk hr0
  have HC0 := Aside0.mk hc0
  clear hr0 hc0
  have HR1 := Aside0.mk hr1
  have HC1 := Aside0.mk hc1
  clear hr1 hc1
  have H : (sequiturref19_Every.l0 k l0 l1 0) = some r := h
  clear h
  have H' := Aside0.mk H
  clear H
  go_enter Try.func30, Try.ntmps30
  go_wp2
  go_loopg [5] k (fun kq v5 w' => ∃ (x5_1 : Int), v5 = .int .i64 x5_1 ∧ Aside0 (sequiturref19_Every.l0 kq l0 l1 x5_1 = some r) ∧ Aside0 (kq ≤ k) ∧ Drawn0 w w')
  case atStart => exact ⟨(0), (by first | rfl | (simp; done) | (simp [*]; done)), H', ⟨Nat.le_refl _⟩, by repeat (first | exact Drawn0.refl _ | apply Drawn0.step)⟩
  case round =>
    clear H'
    try clear c1
    try clear p2
    obtain ⟨x5_1, rfl, HA, HK1, ⟨m1, rfl⟩⟩ := hrel
    cases gk with
    | zero => exact absurd HA.out (by simp [sequiturref19_Every.l0])
    | succ k1 =>
      have H := HA.out
      clear HA
      simp only [sequiturref19_Every.l0] at H
      by_cases c3 : x5_1 < (l0.length : Int)
      · rw [if_pos c3] at H
        have c3b0 : decide (x5_1 < (l0.length : Int)) = true := decide_eq_true c3
        clear c3
        by_cases c4 : 0 ≤ x5_1
        · rw [if_pos c4] at H
          have c4b0 : decide (0 ≤ x5_1) = true := decide_eq_true c4
          clear c4
          replace H := Option.bind_eq_some_iff.mp H
          obtain ⟨t160, A50, H⟩ := H
          replace H : (if t160 = true then (sequiturref19_Every.l0 k1 l0 l1 (wrap64 (x5_1 + 1))) else (some false)) = some r := H
          have A5 := Aside0.mk A50
          clear A50
          by_cases c6 : t160 = true
          · subst c6
            have H1 : (sequiturref19_Every.l0 k1 l0 l1 (wrap64 (x5_1 + 1))) = some r := by rw [if_pos rfl] at H; exact H
            clear H
            have H := H1
            clear H1
            as_aux_lemma =>
              have H' := Aside0.mk H
              clear H
              have p159 : 0 ≤ (x5_1 : Int) := of_decide_eq_true (by first | (with_reducible assumption) | assumption)
              have q159 : x5_1 < (l0.length : Int) := of_decide_eq_true (by first | (with_reducible assumption) | assumption)
              obtain ⟨ad159, A159_0, c159_0, e159, hx159_0, hl159_0, hi159_0⟩ := at_L3 HR0.out x5_1 p159 q159
              cases e159
              have HR159_0 := Aside0.mk hi159_0
              have HC159_0 := Aside0.mk hl159_0
              clear hi159_0 hl159_0
              replace p159 := eq_true p159
              replace q159 := eq_true q159
              go_wp2_with (first | ((with_reducible refine gate_callee (f := 29) rfl ?_); refine goesL_ (some 17) rfl rfl Try.func29 (by kernel_rfl) rfl #[.slice A159_0 (rd_L3 l0 x5_1).length c159_0, .slice A1 l1.length c1] rfl (by (try simp only [List.map_toArray, List.map_cons, List.map_nil]); first | done | rfl | (simp only [List.length_drop, List.length_take]; rfl)) ?_; (with_reducible refine (sequiturref19_Holds.calls k1 _ _ (rd_L3 l0 x5_1) _ _ l1 true _ ?side1 ?side2 ?side3 ?side4 A5.out).mono ?_); (case side1 => repeat (first | exact HR159_0.out | (with_reducible refine Kd.C_alloc ?_ _) | (with_reducible refine Kd.C_drewN ?_ _) | (with_reducible refine Kd.C_drew ?_))); (case side2 => exact HC159_0.out); (case side3 => repeat (first | exact HR1.out | (with_reducible refine Kd.C_alloc ?_ _) | (with_reducible refine Kd.C_drewN ?_ _) | (with_reducible refine Kd.C_drew ?_))); (case side4 => exact HC1.out); rintro e w' ⟨rfl, ⟨nd, rfl⟩⟩; refine ⟨_, rfl, ?_⟩))
              go_roundg k1
              case measure => have := HK1.out; omega
              case rel => exact ⟨(wrap64 (x5_1 + 1)), (by first | rfl | (simp; done) | (simp [*]; done)), H', ⟨by have := HK1.out; omega⟩, by repeat (first | exact Drawn0.refl _ | apply Drawn0.step)⟩
          · replace c6 := Bool.eq_false_iff.mpr c6
            subst c6
            have H1 : (some false) = some r := by rw [if_neg (show ¬ (false = true) by decide)] at H; exact H
            clear H
            have H := H1
            clear H1
            as_aux_lemma =>
              obtain rfl := Option.some.inj H
              have p159 : 0 ≤ (x5_1 : Int) := of_decide_eq_true (by first | (with_reducible assumption) | assumption)
              have q159 : x5_1 < (l0.length : Int) := of_decide_eq_true (by first | (with_reducible assumption) | assumption)
              obtain ⟨ad159, A159_0, c159_0, e159, hx159_0, hl159_0, hi159_0⟩ := at_L3 HR0.out x5_1 p159 q159
              cases e159
              have HR159_0 := Aside0.mk hi159_0
              have HC159_0 := Aside0.mk hl159_0
              clear hi159_0 hl159_0
              replace p159 := eq_true p159
              replace q159 := eq_true q159
              go_wp2_with (first | ((with_reducible refine gate_callee (f := 29) rfl ?_); refine goesL_ (some 17) rfl rfl Try.func29 (by kernel_rfl) rfl #[.slice A159_0 (rd_L3 l0 x5_1).length c159_0, .slice A1 l1.length c1] rfl (by (try simp only [List.map_toArray, List.map_cons, List.map_nil]); first | done | rfl | (simp only [List.length_drop, List.length_take]; rfl)) ?_; (with_reducible refine (sequiturref19_Holds.calls k1 _ _ (rd_L3 l0 x5_1) _ _ l1 false _ ?side1 ?side2 ?side3 ?side4 A5.out).mono ?_); (case side1 => repeat (first | exact HR159_0.out | (with_reducible refine Kd.C_alloc ?_ _) | (with_reducible refine Kd.C_drewN ?_ _) | (with_reducible refine Kd.C_drew ?_))); (case side2 => exact HC159_0.out); (case side3 => repeat (first | exact HR1.out | (with_reducible refine Kd.C_alloc ?_ _) | (with_reducible refine Kd.C_drewN ?_ _) | (with_reducible refine Kd.C_drew ?_))); (case side4 => exact HC1.out); rintro e w' ⟨rfl, ⟨nd, rfl⟩⟩; refine ⟨_, rfl, ?_⟩))
              go_ret
              exact ⟨by first | rfl | (simp; done) | (simp [*]; done), by repeat (first | exact Drawn0.refl _ | apply Drawn0.step)⟩
        · rw [if_neg c4] at H
          exact absurd H (by simp)
      · rw [if_neg c3] at H
        have c3b0 : decide (x5_1 < (l0.length : Int)) = false := decide_eq_false c3
        clear c3
        as_aux_lemma =>
          obtain rfl := Option.some.inj H
          go_wp2
          go_ret
          exact ⟨by first | rfl | (simp; done) | (simp [*]; done), by repeat (first | exact Drawn0.refl _ | apply Drawn0.step)⟩

end Go.Proofs.Ytkfnaiobgddjpaa.P

-- Printed by wip/tools/pp.py of this claim's session (over the kit's print.py); Lean checks it.
namespace Go.Proofs.Ytkfnaiobgddjpaa.P
open Go.RowKit Go.Proofs.YtkfnaiobgddjpaaW.PrintWords Go.Proofs.YtkfnaiobgddjpaaW.PrintLast Go.Proofs.YtkfnaiobgddjpaaW.PrintMore
attribute [local go_sem] max2_int min2_int max_two min_two max_three min_three max_four min_four   -- for this text's walks alone
set_option linter.unusedVariables false
set_option linter.unusedSimpArgs false

/-! ### sequiturref19_All: function 24 -/
def sequiturref19_All.l0 : Nat → List (List Bool) → Int → Int → List (List Int) → Option ((List (List Bool)))
  | 0, _, _, _, _ => none
  | k + 1, x3, x4, x162000, x162001 => if 0 ≤ x162000 then (if x4 < (shl .i64 1 x162000) then ((sequiturref19_Values.f k x162000 x4).bind fun t162 => ((sequiturref19_Every.f k x162001 t162).bind fun t165 => (if t165 = true then (if x3.length < 5864062014805 then (sequiturref19_All.l0 k (x3 ++ [t162]) (wrap64 (x4 + 1)) x162000 x162001) else (none)) else (sequiturref19_All.l0 k x3 (wrap64 (x4 + 1)) x162000 x162001)))) else (some x3)) else (none)
def sequiturref19_All.f (k : Nat) (a0_0 : Int) (l0_1 : List (List Int)) : Option ((List (List Bool))) := sequiturref19_All.l0 k ([] : List (List Bool)) 0 a0_0 l0_1
theorem sequiturref19_All.mono_l : ∀ k, (∀ y0 y1 y2 y3, LeO (sequiturref19_All.l0 k y0 y1 y2 y3) (sequiturref19_All.l0 (k + 1) y0 y1 y2 y3))
  | 0 => fun _ _ _ _ r h => by simp [sequiturref19_All.l0] at h
  | k + 1 => by
    have ih0 := sequiturref19_All.mono_l k
    · intro y0 y1 y2 y3
      unfold sequiturref19_All.l0
      repeat' first
      | (with_reducible exact ih0 _ _ _ _)
      | (with_reducible exact sequiturref19_Every.mono _ _ _)
      | (with_reducible exact sequiturref19_Values.mono _ _ _)
      | (with_reducible exact LeO.refl _)
      | (with_reducible exact LeO.none _)
      | (with_reducible refine LeO.ite ?_ ?_)
      | (with_reducible refine LeO.bind ?_ (fun _ => ?_))
      | exact ih0 _ _ _ _
      | exact sequiturref19_Every.mono _ _ _
      | exact sequiturref19_Values.mono _ _ _
      | exact LeO.none _
      | refine LeO.ite ?_ ?_
      | refine LeO.bind ?_ (fun _ => ?_)
theorem sequiturref19_All.mono : ∀ a0 a1 k, LeO (sequiturref19_All.f k a0 a1) (sequiturref19_All.f (k + 1) a0 a1) := by
  intro a0 a1 k
  have ih0 := sequiturref19_All.mono_l k
  unfold sequiturref19_All.f
  repeat' first
      | (with_reducible exact ih0 _ _ _ _)
      | (with_reducible exact sequiturref19_Every.mono _ _ _)
      | (with_reducible exact sequiturref19_Values.mono _ _ _)
      | (with_reducible exact LeO.refl _)
      | (with_reducible exact LeO.none _)
      | (with_reducible refine LeO.ite ?_ ?_)
      | (with_reducible refine LeO.bind ?_ (fun _ => ?_))
      | exact ih0 _ _ _ _
      | exact sequiturref19_Every.mono _ _ _
      | exact sequiturref19_Values.mono _ _ _
      | exact LeO.none _
      | refine LeO.ite ?_ ?_
      | refine LeO.bind ?_ (fun _ => ?_)
set_option maxHeartbeats 8000000 in
set_option maxRecDepth 100000 in
theorem sequiturref19_All.calls (k : Nat) (a0_0 : Int) (A0_1 : Option Addr) (c0_1 : Nat) (l0_1 : List (List Int)) (r : List (List Bool)) (w : World) (hr0_1 : Kd.C (Kd.slice 3 (Kd.int .i64)) w A0_1 l0_1.length l0_1) (hc0_1 : l0_1.length ≤ c0_1) (h : sequiturref19_All.f k a0_0 l0_1 = some r) :
    Calls Try.prog 24 #[.agg #[.int .i64 a0_0, .slice A0_1 l0_1.length c0_1]] w fun e w' => ∃ v0_ : Value, e = .returned (v0_) ∧ Kd.S (Kd.slice 4 Kd.bool) 23 w' w.heap.size (fun _ => True) v0_ r ∧ Below w.heap.size w w' := by
  have hu29 := Try.underlying29
  have HR0_1 := Aside0.mk hr0_1
  have HC0_1 := Aside0.mk hc0_1
  clear hr0_1 hc0_1
  have HB := Aside0.mk (Below.refl w.heap.size w)
  have H : (sequiturref19_All.l0 k ([] : List (List Bool)) 0 a0_0 l0_1) = some r := h
  clear h
  have H' := Aside0.mk H
  clear H
  go_enter Try.func24, Try.ntmps24
  go_wp2_with (first | ((with_reducible refine gate_dst (N := 1) rfl ?_); refine box_event ?hg (N := 1) ?hd (cs := #[.int .i64 a0_0, .slice A0_1 l0_1.length c0_1]) (t := 29) ?hr ?_; (case hd => rfl); (case hg => rfl); (case hr => first | (go_simp; done) | (go_simp; rfl)); intro gb161 hg w2 hbox hb; have n0_ := Aside0.mk (below_step (by repeat (first | (with_reducible first | exact HB.out | apply below_alloc | apply pw_below_drewN | apply below_drew1) | exact HB.out)) hb); have n1_ := Aside0.mk (hbox); have n2_ := Aside0.mk ((by rw [hg]; exact (below_size (by repeat (first | (with_reducible first | exact HB.out | apply below_alloc | apply pw_below_drewN | apply below_drew1) | exact HB.out))) : w.heap.size ≤ gb161)); have n3_ := Aside0.mk ((by rw [hg]; exact (below_size (by repeat (first | (with_reducible first | exact HB.out | apply below_alloc | apply pw_below_drewN | apply below_drew1) | exact HB.out))) : w.heap.size ≤ gb161)); clear HB; have HB := n0_; have BK161 := n1_; have GW161 := n2_; have GE161 := n3_; clear n0_ n1_ n2_ n3_; clear hb hbox hg))
  go_loopg [3, 4] k (fun kq v3 v4 w' => ∃ (x3_1 : List (List Bool)) (x4_1 : Int), v4 = .int .i64 x4_1 ∧ Aside0 (sequiturref19_All.l0 kq x3_1 x4_1 a0_0 l0_1 = some r) ∧ Aside0 (kq ≤ k) ∧ Aside0 (Kd.S (Kd.slice 4 Kd.bool) 23 w' w.heap.size (fun _ => True) v3 x3_1) ∧ Aside0 (w'.heap[gb161]? = some (.cells #[.int .i64 a0_0, (.slice A0_1 l0_1.length c0_1)] 29 (0, 0))) ∧ Aside0 (Below w.heap.size w w'))
  case atStart => exact ⟨(([] : List (List Bool))), (0), (by first | rfl | (simp; done) | (simp [*]; done)), H', ⟨Nat.le_refl _⟩, ⟨by first | exact Kd.S_nil _ _ _ _ _ | exact Kd.N_nil _ _ _ _ _ | exact Kd.V_nil _ _ _ _ _ | exact Kd.Q_nil _ _ _ _ _ | exact Kd.R_nil _ _ _ _ _⟩, ⟨by (with_reducible repeat (first | refine blk_drewN ?_ _ | refine blk_drew ?_ | refine blk_alloc ?_ _)); exact BK161.out⟩, ⟨by repeat (first | (with_reducible first | exact HB.out | apply below_alloc | apply pw_below_drewN | apply below_drew1 | refine below_set ?_ GE161.out) | exact HB.out)⟩⟩
  case round =>
    clear H'
    try clear c2
    try clear p2
    obtain ⟨x3_1, x4_1, rfl, HA, HK1, HO_3, BK161, HB⟩ := hrel
    cases gk with
    | zero => exact absurd HA.out (by simp [sequiturref19_All.l0])
    | succ k1 =>
      have H := HA.out
      clear HA
      simp only [sequiturref19_All.l0] at H
      by_cases c3 : 0 ≤ a0_0
      · rw [if_pos c3] at H
        have c3b0 := eq_true c3
        have c3b1 : decide (0 ≤ a0_0) = true := decide_eq_true c3
        clear c3
        obtain ⟨ji4, hji4⟩ : ∃ j_ : Int, (shl .i64 1 a0_0) = j_ := ⟨_, rfl⟩
        replace H : (if x4_1 < (ji4) then ((sequiturref19_Values.f k1 a0_0 x4_1).bind fun t162 => ((sequiturref19_Every.f k1 l0_1 t162).bind fun t165 => (if t165 = true then (if x3_1.length < 5864062014805 then (sequiturref19_All.l0 k1 (x3_1 ++ [t162]) (wrap64 (x4_1 + 1)) a0_0 l0_1) else (none)) else (sequiturref19_All.l0 k1 x3_1 (wrap64 (x4_1 + 1)) a0_0 l0_1)))) else (some x3_1)) = some r := by first | (rw [hji4] at H; exact H) | (simp only [hji4] at H ⊢; exact H)
        have hji4_ : (IntKind.i64.wrap (1 * 2 ^ min a0_0.toNat 64)) = ji4 := hji4
        have hji4z : a0_0 ≤ 64 → (IntKind.i64.wrap (1 * 2 ^ a0_0.toNat)) = ji4 := shl_small hji4
        have hji4u : (IntKind.i64.wrap (2 ^ min a0_0.toNat 64)) = ji4 := by have h_ := hji4_; rw [Int.one_mul] at h_; exact h_
        have hji4v : a0_0 ≤ 64 → (IntKind.i64.wrap (2 ^ a0_0.toNat)) = ji4 := fun hle_ => by have h_ := hji4z hle_; rw [Int.one_mul] at h_; exact h_
        have hji4y : (wrap64 (1 * 2 ^ min a0_0.toNat 64)) = ji4 := (i64_w _).symm.trans hji4_
        have hji4x : a0_0 ≤ 64 → (wrap64 (1 * 2 ^ a0_0.toNat)) = ji4 := fun h_ => (i64_w _).symm.trans (hji4z h_)
        by_cases c5 : x4_1 < (ji4)
        · rw [if_pos c5] at H
          have c5b0 : decide (x4_1 < (ji4)) = true := decide_eq_true c5
          clear c5
          replace H := Option.bind_eq_some_iff.mp H
          obtain ⟨t162, A60, H⟩ := H
          replace H : ((sequiturref19_Every.f k1 l0_1 t162).bind fun t165 => (if t165 = true then (if x3_1.length < 5864062014805 then (sequiturref19_All.l0 k1 (x3_1 ++ [t162]) (wrap64 (x4_1 + 1)) a0_0 l0_1) else (none)) else (sequiturref19_All.l0 k1 x3_1 (wrap64 (x4_1 + 1)) a0_0 l0_1))) = some r := H
          have A6 := Aside0.mk A60
          clear A60
          replace H := Option.bind_eq_some_iff.mp H
          obtain ⟨t165, A70, H⟩ := H
          replace H : (if t165 = true then (if x3_1.length < 5864062014805 then (sequiturref19_All.l0 k1 (x3_1 ++ [t162]) (wrap64 (x4_1 + 1)) a0_0 l0_1) else (none)) else (sequiturref19_All.l0 k1 x3_1 (wrap64 (x4_1 + 1)) a0_0 l0_1)) = some r := H
          have A7 := Aside0.mk A70
          clear A70
          by_cases c8 : t165 = true
          · subst c8
            have H1 : (if x3_1.length < 5864062014805 then (sequiturref19_All.l0 k1 (x3_1 ++ [t162]) (wrap64 (x4_1 + 1)) a0_0 l0_1) else (none)) = some r := by rw [if_pos rfl] at H; exact H
            clear H
            have H := H1
            clear H1
            by_cases c9 : x3_1.length < 5864062014805
            · rw [if_pos c9] at H
              have LMc9 := Aside0.mk c9
              clear c9
              obtain ⟨y166, hy166⟩ : ∃ y_ : List (List Bool), y_ = (x3_1 ++ [t162]) := ⟨_, rfl⟩
              replace H : (sequiturref19_All.l0 k1 y166 (wrap64 (x4_1 + 1)) a0_0 l0_1) = some r := by first | (rw [hy166]; with_reducible exact H) | (have H2_ := (Option.bind_some _ _).symm.trans H; rw [hy166]; with_reducible exact H2_) | (have H2_ := (Option.bind_some _ _).symm.trans H; with_reducible exact H2_) | with_reducible exact H | (rw [hy166]; exact H) | exact H
              have Ny166 := Aside0.mk hy166
              clear hy166
              as_aux_lemma =>
                have H' := Aside0.mk H
                clear H
                have hcz10_0 : wr.cell? ⟨gb161, 0, none⟩ = some (.int .i64 a0_0) := (blk_cell BK161.out 0).trans rfl
                have hcz10_1 : wr.cell? ⟨gb161, 1, none⟩ = some (.slice A0_1 l0_1.length c0_1) := (blk_cell BK161.out 1).trans rfl
                have hfz10_0 := blk_frozen BK161.out 0
                have hfz10_1 := blk_frozen BK161.out 1
                go_wp2_with (first | ((with_reducible refine gate_callee (f := 17) rfl ?_); refine goesL_ (some 16) rfl rfl Try.func17 (by kernel_rfl) rfl #[.int .i64 a0_0, .int .i64 x4_1] rfl (by (try simp only [List.map_toArray, List.map_cons, List.map_nil]); first | done | rfl | (simp only [List.length_drop, List.length_take]; rfl)) ?_; (with_reducible refine (sequiturref19_Values.calls k1 a0_0 x4_1 t162 _ A6.out).mono ?_); rintro e w11 ⟨v163, rfl, ho0, hb⟩; refine ⟨_, rfl, ?_⟩; have n0_ := Aside0.mk (Kd.S_elder' (by (with_reducible repeat (first | apply Kd.S_alloc | apply Kd.S_drewN | apply Kd.S_drew)); exact HO_3.out) (Kd.R_base ho0) hb); have n1_ := Aside0.mk (Kd.R_lower ho0 (below_size (by repeat (first | (with_reducible first | exact HB.out | apply below_alloc | apply pw_below_drewN | apply below_drew1 | refine below_set ?_ GE161.out) | exact HB.out)))); have n2_ := Aside0.mk (blk_below (g := gb161) (o := .cells #[.int .i64 a0_0, .slice A0_1 l0_1.length c0_1] 29 (0, 0)) (by (with_reducible repeat (first | refine blk_drewN ?_ _ | refine blk_drew ?_ | refine blk_alloc ?_ _)); exact BK161.out) hb); have n3_ := Aside0.mk (below_step (by repeat (first | (with_reducible first | exact HB.out | apply below_alloc | apply pw_below_drewN | apply below_drew1 | refine below_set ?_ GE161.out) | exact HB.out)) hb); clear HO_3; clear BK161; clear HB; have HO_3 := n0_; have HO164 := n1_; have BK161 := n2_; have HB := n3_; clear n0_ n1_ n2_ n3_; (try clear hb); (try clear hb2); (try clear hk); (try clear hi); (try clear ho0); have hcz12_0 : w11.cell? ⟨gb161, 0, none⟩ = some (.int .i64 a0_0) := (blk_cell BK161.out 0).trans rfl; have hcz12_1 : w11.cell? ⟨gb161, 1, none⟩ = some (.slice A0_1 l0_1.length c0_1) := (blk_cell BK161.out 1).trans rfl; have hfz12_0 := blk_frozen BK161.out 0; have hfz12_1 := blk_frozen BK161.out 1; obtain ⟨Ao13, co13, eo13⟩ := Kd.R_slice HO164.out; subst eo13) | ((with_reducible refine gate_callee (f := 30) rfl ?_); refine goesL_ (some 20) rfl rfl Try.func30 (by kernel_rfl) rfl #[.slice A0_1 l0_1.length c0_1, .slice Ao13 t162.length co13] rfl (by (try simp only [List.map_toArray, List.map_cons, List.map_nil]); first | done | rfl | (simp only [List.length_drop, List.length_take]; rfl)) ?_; (with_reducible refine (sequiturref19_Every.calls k1 _ _ l0_1 _ _ t162 true _ ?side1 ?side2 ?side3 ?side4 A7.out).mono ?_); (case side1 => repeat (first | exact (Kd.C_below HR0_1.out HB.out) | (with_reducible refine Kd.C_alloc ?_ _) | (with_reducible refine Kd.C_drewN ?_ _) | (with_reducible refine Kd.C_drew ?_))); (case side2 => exact HC0_1.out); (case side3 => repeat (first | exact (Kd.R_reads' HO164.out).2.2 | (with_reducible refine Kd.C_alloc ?_ _) | (with_reducible refine Kd.C_drewN ?_ _) | (with_reducible refine Kd.C_drew ?_))); (case side4 => exact (Kd.R_reads' HO164.out).2.1); rintro e w' ⟨rfl, ⟨nd, rfl⟩⟩; refine ⟨_, rfl, ?_⟩) | ((with_reducible refine gate_builtin (b := .append) (xs := #[.tmp 21, .tmp 23]) rfl ?_); at_builtin; refine Kd.S_append (Kd.slice 4 Kd.bool) (w0 := w) w.heap.size rfl (.tmp 21) (.tmp 23) 36 23 (.slice none 0 0) 24 rfl Try.underlying36 info23 rfl (by decide) (by omega) u3 x3_1 t162 [.slice Ao13 t162.length co13] (fun _ => True) (fun k_ => some k_ = (.slice Ao13 t162.length co13 : Value).ownBlock) rfl rfl ?aP (fun k_ hk_ => ((Kd.R_mono (ok' := fun k_ => ((fun _ => True)) k_ ∧ some k_ ≠ (u3 : Value).ownBlock) (Kd.R_apart' (HO164.out) (Kd.S_typed HO_3.out) (by decide)) (fun k_ hk => ⟨trivial, hk.2⟩))).1 k_ hk_.symm) ?aF ?aO ?aB ?aS ?aL ?_; (case aP => exact Kd.M_row (Kd.R_mono (Kd.R_tight rfl (Kd.R_mono (ok' := fun k_ => ((fun _ => True)) k_ ∧ some k_ ≠ (u3 : Value).ownBlock) (Kd.R_apart' (HO164.out) (Kd.S_typed HO_3.out) (by decide)) (fun k_ hk => ⟨trivial, hk.2⟩))) (fun _ h_ => h_))); (case aB => exact (by repeat (first | (with_reducible first | exact HB.out | apply below_alloc | apply pw_below_drewN | apply below_drew1 | refine below_set ?_ GE161.out) | exact HB.out))); (case aF => exact (fun _ _ => trivial)); (case aO => exact (by (with_reducible repeat (first | apply Kd.S_alloc | apply Kd.S_drewN | apply Kd.S_drew)); exact Kd.S_mono HO_3.out (fun k_ hk => ⟨trivial, fun e_ => hk.2 e_⟩))); (case aS => exact (below_size (by repeat (first | (with_reducible first | exact HB.out | apply below_alloc | apply pw_below_drewN | apply below_drew1 | refine below_set ?_ GE161.out) | exact HB.out)))); (case aL => have := LMc9.out; omega); intro v167 w14 ho hb hg hat; rw [← Ny166.out] at ho; have n0_ := Aside0.mk (blk_grown (g := gb161) (o := .cells #[.int .i64 a0_0, .slice A0_1 l0_1.length c0_1] 29 (0, 0)) (by (with_reducible repeat (first | refine blk_drewN ?_ _ | refine blk_drew ?_ | refine blk_alloc ?_ _)); exact BK161.out) hg (Kd.S_ne HO_3.out BK161.out (by decide))); have n1_ := Aside0.mk (hb); have n2_ := Aside0.mk (ho); clear BK161; clear HB; clear HO_3; clear HO164; have BK161 := n0_; have HB := n1_; have HO168 := n2_; clear n0_ n1_ n2_; clear ho hb hg hat))
                go_roundg k1
                case measure => have := HK1.out; omega
                case rel => exact ⟨(y166), (wrap64 (x4_1 + 1)), (by first | rfl | (simp; done) | (simp [*]; done)), H', ⟨by have := HK1.out; omega⟩, ⟨by (with_reducible repeat (first | apply Kd.S_alloc | apply Kd.S_drewN | apply Kd.S_drew)); exact HO168.out⟩, ⟨by (with_reducible repeat (first | refine blk_drewN ?_ _ | refine blk_drew ?_ | refine blk_alloc ?_ _)); exact BK161.out⟩, ⟨by repeat (first | (with_reducible first | exact HB.out | apply below_alloc | apply pw_below_drewN | apply below_drew1 | refine below_set ?_ GE161.out) | exact HB.out)⟩⟩
            · rw [if_neg c9] at H
              exact absurd H (by simp)
          · replace c8 := Bool.eq_false_iff.mpr c8
            subst c8
            have H1 : (sequiturref19_All.l0 k1 x3_1 (wrap64 (x4_1 + 1)) a0_0 l0_1) = some r := by rw [if_neg (show ¬ (false = true) by decide)] at H; exact H
            clear H
            have H := H1
            clear H1
            as_aux_lemma =>
              have H' := Aside0.mk H
              clear H
              have hcz15_0 : wr.cell? ⟨gb161, 0, none⟩ = some (.int .i64 a0_0) := (blk_cell BK161.out 0).trans rfl
              have hcz15_1 : wr.cell? ⟨gb161, 1, none⟩ = some (.slice A0_1 l0_1.length c0_1) := (blk_cell BK161.out 1).trans rfl
              have hfz15_0 := blk_frozen BK161.out 0
              have hfz15_1 := blk_frozen BK161.out 1
              go_wp2_with (first | ((with_reducible refine gate_callee (f := 17) rfl ?_); refine goesL_ (some 16) rfl rfl Try.func17 (by kernel_rfl) rfl #[.int .i64 a0_0, .int .i64 x4_1] rfl (by (try simp only [List.map_toArray, List.map_cons, List.map_nil]); first | done | rfl | (simp only [List.length_drop, List.length_take]; rfl)) ?_; (with_reducible refine (sequiturref19_Values.calls k1 a0_0 x4_1 t162 _ A6.out).mono ?_); rintro e w16 ⟨v163, rfl, ho0, hb⟩; refine ⟨_, rfl, ?_⟩; have n0_ := Aside0.mk (Kd.S_elder' (by (with_reducible repeat (first | apply Kd.S_alloc | apply Kd.S_drewN | apply Kd.S_drew)); exact HO_3.out) (Kd.R_base ho0) hb); have n1_ := Aside0.mk (Kd.R_lower ho0 (below_size (by repeat (first | (with_reducible first | exact HB.out | apply below_alloc | apply pw_below_drewN | apply below_drew1 | refine below_set ?_ GE161.out) | exact HB.out)))); have n2_ := Aside0.mk (blk_below (g := gb161) (o := .cells #[.int .i64 a0_0, .slice A0_1 l0_1.length c0_1] 29 (0, 0)) (by (with_reducible repeat (first | refine blk_drewN ?_ _ | refine blk_drew ?_ | refine blk_alloc ?_ _)); exact BK161.out) hb); have n3_ := Aside0.mk (below_step (by repeat (first | (with_reducible first | exact HB.out | apply below_alloc | apply pw_below_drewN | apply below_drew1 | refine below_set ?_ GE161.out) | exact HB.out)) hb); clear HO_3; clear BK161; clear HB; have HO_3 := n0_; have HO164 := n1_; have BK161 := n2_; have HB := n3_; clear n0_ n1_ n2_ n3_; (try clear hb); (try clear hb2); (try clear hk); (try clear hi); (try clear ho0); have hcz17_0 : w16.cell? ⟨gb161, 0, none⟩ = some (.int .i64 a0_0) := (blk_cell BK161.out 0).trans rfl; have hcz17_1 : w16.cell? ⟨gb161, 1, none⟩ = some (.slice A0_1 l0_1.length c0_1) := (blk_cell BK161.out 1).trans rfl; have hfz17_0 := blk_frozen BK161.out 0; have hfz17_1 := blk_frozen BK161.out 1; obtain ⟨Ao18, co18, eo18⟩ := Kd.R_slice HO164.out; subst eo18) | ((with_reducible refine gate_callee (f := 30) rfl ?_); refine goesL_ (some 20) rfl rfl Try.func30 (by kernel_rfl) rfl #[.slice A0_1 l0_1.length c0_1, .slice Ao18 t162.length co18] rfl (by (try simp only [List.map_toArray, List.map_cons, List.map_nil]); first | done | rfl | (simp only [List.length_drop, List.length_take]; rfl)) ?_; (with_reducible refine (sequiturref19_Every.calls k1 _ _ l0_1 _ _ t162 false _ ?side1 ?side2 ?side3 ?side4 A7.out).mono ?_); (case side1 => repeat (first | exact (Kd.C_below HR0_1.out HB.out) | (with_reducible refine Kd.C_alloc ?_ _) | (with_reducible refine Kd.C_drewN ?_ _) | (with_reducible refine Kd.C_drew ?_))); (case side2 => exact HC0_1.out); (case side3 => repeat (first | exact (Kd.R_reads' HO164.out).2.2 | (with_reducible refine Kd.C_alloc ?_ _) | (with_reducible refine Kd.C_drewN ?_ _) | (with_reducible refine Kd.C_drew ?_))); (case side4 => exact (Kd.R_reads' HO164.out).2.1); rintro e w' ⟨rfl, ⟨nd, rfl⟩⟩; refine ⟨_, rfl, ?_⟩))
              go_roundg k1
              case measure => have := HK1.out; omega
              case rel => exact ⟨(x3_1), (wrap64 (x4_1 + 1)), (by first | rfl | (simp; done) | (simp [*]; done)), H', ⟨by have := HK1.out; omega⟩, ⟨by (with_reducible repeat (first | apply Kd.S_alloc | apply Kd.S_drewN | apply Kd.S_drew)); exact Kd.S_mono HO_3.out (fun _ hk => trivial)⟩, ⟨by (with_reducible repeat (first | refine blk_drewN ?_ _ | refine blk_drew ?_ | refine blk_alloc ?_ _)); exact BK161.out⟩, ⟨by repeat (first | (with_reducible first | exact HB.out | apply below_alloc | apply pw_below_drewN | apply below_drew1 | refine below_set ?_ GE161.out) | exact HB.out)⟩⟩
        · rw [if_neg c5] at H
          have c5b0 : decide (x4_1 < (ji4)) = false := decide_eq_false c5
          clear c5
          as_aux_lemma =>
            obtain rfl := Option.some.inj H
            have hcz19_0 : wr.cell? ⟨gb161, 0, none⟩ = some (.int .i64 a0_0) := (blk_cell BK161.out 0).trans rfl
            have hcz19_1 : wr.cell? ⟨gb161, 1, none⟩ = some (.slice A0_1 l0_1.length c0_1) := (blk_cell BK161.out 1).trans rfl
            have hfz19_0 := blk_frozen BK161.out 0
            have hfz19_1 := blk_frozen BK161.out 1
            go_wp2
            go_ret
            exact ⟨_, by first | rfl | (simp [errW_none, errW_some] <;> rfl) | (simp only [← hji4]; first | rfl | (simp [errW_none, errW_some] <;> rfl)) | (simp [*, errW_none, errW_some] <;> rfl), by (with_reducible repeat (first | apply Kd.S_alloc | apply Kd.S_drewN | apply Kd.S_drew)); exact HO_3.out, by repeat (first | (with_reducible first | exact HB.out | apply below_alloc | apply pw_below_drewN | apply below_drew1 | refine below_set ?_ GE161.out) | exact HB.out)⟩
      · rw [if_neg c3] at H
        exact absurd H (by simp)

end Go.Proofs.Ytkfnaiobgddjpaa.P

-- Printed by wip/tools/pp.py of this claim's session (over the kit's print.py); Lean checks it.
namespace Go.Proofs.Ytkfnaiobgddjpaa.P
open Go.RowKit Go.Proofs.YtkfnaiobgddjpaaW.PrintWords Go.Proofs.YtkfnaiobgddjpaaW.PrintLast Go.Proofs.YtkfnaiobgddjpaaW.PrintMore
attribute [local go_sem] max2_int min2_int max_two min_two max_three min_three max_four min_four   -- for this text's walks alone
set_option linter.unusedVariables false
set_option linter.unusedSimpArgs false

-- SOLO
-- IMPORTS Derived.RangeFuncNested Derived.RangeFuncBound Derived.RangeFuncCalls Derived.RangeFuncLeaves Derived.Shelf.Abstract Derived.Shelf.RegionOpen Derived.OwnWalkIn Derived.TacticsInMore Derived.LoopNIn Derived.LoopIn
/-! ### table_Implies: function 25 -/
section
open Go.Shelf
attribute [local go_sem] Oper.semAt_some
def table_Implies.hold (k : Nat) (cl : List Int) : List (List Bool) → Option Bool
  | [] => some true
  | v :: t => (lit_Holds.f k cl v).bind fun b => if b = true then table_Implies.hold k cl t else some false
theorem table_Implies.hold_all {k : Nat} {cl : List Int} : ∀ {l : List (List Bool)}, (∀ v ∈ l, lit_Holds.f k cl v = some true) → table_Implies.hold k cl l = some true
  | [], _ => rfl
  | v :: t, h => by
    rw [table_Implies.hold, h v (by simp)]
    exact table_Implies.hold_all (fun v hv => h v (by simp [hv]))
theorem table_Implies.hold_at {k : Nat} {cl : List Int} {r : Bool} : ∀ {pre : List (List Bool)} {b : List Bool} {t : List (List Bool)}, (∀ v ∈ pre, lit_Holds.f k cl v = some true) → table_Implies.hold k cl (pre ++ b :: t) = some r → ∃ x, lit_Holds.f k cl b = some x ∧ (x = false → r = false)
  | [], b, t, _, h => by
    rw [List.nil_append, table_Implies.hold] at h
    obtain ⟨x, hx, h⟩ := Option.bind_eq_some_iff.mp h
    refine ⟨x, hx, fun e => ?_⟩
    subst e
    simpa using h.symm
  | v :: pre, b, t, hp, h => by
    rw [List.cons_append, table_Implies.hold, hp v (by simp)] at h
    exact table_Implies.hold_at (fun v hv => hp v (by simp [hv])) h
def table_Implies.f (k : Nat) (a0_0 : Int) (l0_1 : List (List Int)) (l1 : List Int) : Option (Bool × Int) :=
  (cnf_Right.f k a0_0 l0_1).bind fun b => if b.2 = 0 then ((lit_Right.f k l1 a0_0).bind fun e => if e = 0 then ((table_wrong.f k a0_0 l0_1).bind fun e2 => if e2 = 0 then ((table_All.f k a0_0 l0_1).bind fun it => (table_Implies.hold k l1 it).bind fun r => some (r, 0)) else some (false, e2)) else some (false, e)) else some (false, b.2)

theorem table_two (W : World) (g : Nat) (b b0 : Bool) (e e0 : Int) (h2 : W.heap[g + 1 + 1]? = some (.cells #[.bool b0] 4 (0, 0))) (h3 : W.heap[g + 1 + 1 + 1]? = some (.cells #[.int .i64 e0] 31 (0, 0))) :
    ((W.setCell ⟨g + 1 + 1, 0, none⟩ (.bool b)).setCell ⟨g + 1 + 1 + 1, 0, none⟩ (.int .i64 e)).heap[g + 1 + 1]? = some (.cells #[.bool b] 4 (0, 0)) ∧
    ((W.setCell ⟨g + 1 + 1, 0, none⟩ (.bool b)).setCell ⟨g + 1 + 1 + 1, 0, none⟩ (.int .i64 e)).heap[g + 1 + 1 + 1]? = some (.cells #[.int .i64 e] 31 (0, 0)) :=
  ⟨blk_far (blk_put h2 0 _ rfl) (by simp) _, blk_put (blk_far h3 (by simp) _) 0 _ rfl⟩
theorem table_two_res (W : World) (g : Nat) (b : Bool) (e : Int) (tmps : Array Value) (t4 : tmps.getD 4 undef = .pointer (some ⟨g + 1 + 1, 0, none⟩)) (t5 : tmps.getD 5 undef = .pointer (some ⟨g + 1 + 1 + 1, 0, none⟩)) (h2 : W.heap[g + 1 + 1]? = some (.cells #[.bool b] 4 (0, 0))) (h3 : W.heap[g + 1 + 1 + 1]? = some (.cells #[.int .i64 e] 31 (0, 0))) :
    (results Try.f25 tmps).run Try.prog W = .ok (.tuple #[.bool b, .int .i64 e]) W := by
  have y2 := blk_cell h2 0
  have y3 := blk_cell h3 0
  simp only [List.getElem?_toArray, List.getElem?_cons_zero] at y2 y3
  rw [Array.getD_eq_getD_getElem?] at t4 t5
  simp [results, Try.results25, go_sem, y2, y3, t4, t5]

def table_Implies.St (a0_0 : Int) (A0_1 : Option Addr) (n0 c0_1 : Nat) (A1 : Option Addr) (n1 c1 : Nat) (w W : World) : Prop :=
  W.heap[w.heap.size]? = some (.cells #[.int .i64 a0_0, .slice A0_1 n0 c0_1] 29 (0, 0)) ∧ W.heap[w.heap.size + 1]? = some (.cells #[.slice A1 n1 c1] 43 (0, 0)) ∧ W.heap[w.heap.size + 1 + 1]? = some (.cells #[.bool false] 4 (0, 0)) ∧ W.heap[w.heap.size + 1 + 1 + 1]? = some (.cells #[.int .i64 0] 31 (0, 0)) ∧ Below w.heap.size w W ∧ w.heap.size + 4 ≤ W.heap.size
theorem table_Implies.St.step {a0_0 : Int} {A0_1 : Option Addr} {n0 c0_1 : Nat} {A1 : Option Addr} {n1 c1 : Nat} {w W W' : World} (h : table_Implies.St a0_0 A0_1 n0 c0_1 A1 n1 c1 w W) (hb : Below W.heap.size W W') : table_Implies.St a0_0 A0_1 n0 c0_1 A1 n1 c1 w W' :=
  ⟨blk_below h.1 hb, blk_below h.2.1 hb, blk_below h.2.2.1 hb, blk_below h.2.2.2.1 hb, h.2.2.2.2.1.trans (hb.mono h.2.2.2.2.1.size), Nat.le_trans h.2.2.2.2.2 hb.size⟩
theorem table_Implies.St.cells {a0_0 : Int} {A0_1 : Option Addr} {n0 c0_1 : Nat} {A1 : Option Addr} {n1 c1 : Nat} {w W : World} (h : table_Implies.St a0_0 A0_1 n0 c0_1 A1 n1 c1 w W) :
    W.cell? ⟨w.heap.size, 0, none⟩ = some (.int .i64 a0_0) ∧ W.cell? ⟨w.heap.size, 1, none⟩ = some (.slice A0_1 n0 c0_1) ∧ W.cell? ⟨w.heap.size + 1, 0, none⟩ = some (.slice A1 n1 c1) ∧
    W.cell? ⟨w.heap.size + 1 + 1, 0, none⟩ = some (.bool false) ∧ W.frozen? ⟨w.heap.size + 1 + 1, 0, none⟩ = false ∧ W.cell? ⟨w.heap.size + 1 + 1 + 1, 0, none⟩ = some (.int .i64 0) ∧ W.frozen? ⟨w.heap.size + 1 + 1 + 1, 0, none⟩ = false :=
  ⟨blk_cell h.1 0, blk_cell h.1 1, blk_cell h.2.1 0, blk_cell h.2.2.1 0, blk_frozen h.2.2.1 0, blk_cell h.2.2.2.1 0, blk_frozen h.2.2.2.1 0⟩
theorem table_Implies.St.end_ {a0_0 : Int} {A0_1 : Option Addr} {n0 c0_1 : Nat} {A1 : Option Addr} {n1 c1 : Nat} {w W : World} (h : table_Implies.St a0_0 A0_1 n0 c0_1 A1 n1 c1 w W) (b : Bool) (e : Int) :
    ((W.setCell ⟨w.heap.size + 1 + 1, 0, none⟩ (.bool b)).setCell ⟨w.heap.size + 1 + 1 + 1, 0, none⟩ (.int .i64 e)).heap[w.heap.size + 1 + 1]? = some (.cells #[.bool b] 4 (0, 0)) ∧
    ((W.setCell ⟨w.heap.size + 1 + 1, 0, none⟩ (.bool b)).setCell ⟨w.heap.size + 1 + 1 + 1, 0, none⟩ (.int .i64 e)).heap[w.heap.size + 1 + 1 + 1]? = some (.cells #[.int .i64 e] 31 (0, 0)) ∧
    Below w.heap.size w ((W.setCell ⟨w.heap.size + 1 + 1, 0, none⟩ (.bool b)).setCell ⟨w.heap.size + 1 + 1 + 1, 0, none⟩ (.int .i64 e)) := by
  obtain ⟨z2, z3⟩ := table_two W w.heap.size b _ e _ h.2.2.1 h.2.2.2.1
  exact ⟨z2, z3, (h.2.2.2.2.1.setCell (p := ⟨w.heap.size + 1 + 1, 0, none⟩) (by simp; omega) _).setCell (p := ⟨w.heap.size + 1 + 1 + 1, 0, none⟩) (by simp; omega) _⟩

set_option maxRecDepth 100000 in
set_option maxHeartbeats 4000000 in
theorem table_Implies.calls (k : Nat) (a0_0 : Int) (A0_1 : Option Addr) (c0_1 : Nat) (l0_1 : List (List Int)) (A1 : Option Addr) (c1 : Nat) (l1 : List Int) (r1 : Bool) (r2 : Int) (w : World)
    (hr0_1 : Kd.C (Kd.slice 3 (Kd.int .i64)) w A0_1 l0_1.length l0_1) (hc0_1 : l0_1.length ≤ c0_1) (hr1 : Kd.C (Kd.int .i64) w A1 l1.length l1) (hc1 : l1.length ≤ c1) (h : table_Implies.f k a0_0 l0_1 l1 = some (r1, r2)) :
    Calls Try.prog 25 #[.agg #[.int .i64 a0_0, .slice A0_1 l0_1.length c0_1], .slice A1 l1.length c1] w fun e w' => e = .returned (.tuple #[.bool r1, .int .i64 r2]) ∧ Below w.heap.size w w' := by
  unfold table_Implies.f at h
  obtain ⟨⟨b1, b2⟩, hb, h⟩ := Option.bind_eq_some_iff.mp h
  dsimp only at h
  have HB1 := Aside0.mk hb
  have HR := Aside0.mk hr0_1
  have HC := Aside0.mk hc0_1
  have HR1 := Aside0.mk hr1
  have HC1 := Aside0.mk hc1
  clear hb hr0_1 hc0_1 hr1 hc1
  have huC := Try.underlying29
  obtain ⟨WA, hWA⟩ : ∃ WA : World, (((w.alloc (.cells #[.int .i64 a0_0, .slice A0_1 l0_1.length c0_1] 29)).alloc (.cells #[.slice A1 l1.length c1] 43)).alloc (.cells #[.bool false] 4)).alloc (.cells #[.int .i64 0] 31) = WA := ⟨_, rfl⟩
  have KA := Aside0.mk (show table_Implies.St a0_0 A0_1 l0_1.length c0_1 A1 l1.length c1 w WA from by
    rw [← hWA]
    refine ⟨blk_alloc (blk_alloc (blk_alloc (blk_new w _) _) _) _, ?_, ?_, ?_, below_alloc (below_alloc (below_alloc (below_alloc (Below.refl _ w) _) _) _) _, by simp⟩
    · refine blk_alloc (blk_alloc ?_ _) _; have := blk_new (w.alloc (.cells #[.int .i64 a0_0, .slice A0_1 l0_1.length c0_1] 29)) (.cells #[.slice A1 l1.length c1] 43); rwa [World.size_alloc] at this
    · refine blk_alloc ?_ _; have := blk_new ((w.alloc (.cells #[.int .i64 a0_0, .slice A0_1 l0_1.length c0_1] 29)).alloc (.cells #[.slice A1 l1.length c1] 43)) (.cells #[.bool false] 4); rwa [World.size_alloc, World.size_alloc] at this
    · have := blk_new (((w.alloc (.cells #[.int .i64 a0_0, .slice A0_1 l0_1.length c0_1] 29)).alloc (.cells #[.slice A1 l1.length c1] 43)).alloc (.cells #[.bool false] 4)) (.cells #[.int .i64 0] 31); rwa [World.size_alloc, World.size_alloc, World.size_alloc] at this)
  obtain ⟨q0, q01, _⟩ := KA.out.cells
  refine calls_of_wp_marks Try.func25 rfl ?_
  simp only [Try.ntmps25, List.size_toArray, List.length_cons, List.length_nil, Nat.reduceAdd, Nat.reduceSub, Array.replicate_succ, Array.replicate_zero, List.push_toArray, List.append_toArray, List.nil_append, List.cons_append]
  go_wp2_with fail
  refine (cnf_Right.calls k a0_0 A0_1 c0_1 l0_1 b1 b2 _ (Kd.C_below HR.out KA.out.2.2.2.2.1) HC.out HB1.out).mono ?_
  rintro e' w1 ⟨rfl, hb1⟩
  have K1 := Aside0.mk (KA.out.step hb1)
  clear hWA KA hb1 q0 q01
  obtain ⟨p0, p01, p1, p2, f2, p3, f3⟩ := K1.out.cells
  by_cases e0 : b2 = 0
  · subst e0
    rw [if_pos rfl] at h
    obtain ⟨e, he, h⟩ := Option.bind_eq_some_iff.mp h
    have HE := Aside0.mk he
    clear he
    have H := Aside0.mk h
    clear h
    go_wp2_with fail
    refine (lit_Right.calls k A1 c1 l1 a0_0 e _ (Kd.C_below HR1.out K1.out.2.2.2.2.1) HC1.out HE.out).mono ?_
    rintro e' w2 ⟨rfl, hd2⟩
    have K2 := Aside0.mk (K1.out.step hd2.below)
    clear p0 p01 p1 p2 f2 p3 f3 K1 hd2
    obtain ⟨p0, p01, p1, p2, f2, p3, f3⟩ := K2.out.cells
    by_cases e1 : e = 0
    · subst e1
      replace H : ((table_wrong.f k a0_0 l0_1).bind fun e2 => if e2 = 0 then ((table_All.f k a0_0 l0_1).bind fun it => (table_Implies.hold k l1 it).bind fun r => some (r, 0)) else some (false, e2)) = some (r1, r2) := by have := H.out; rwa [if_pos rfl] at this
      obtain ⟨e2, he2, h⟩ := Option.bind_eq_some_iff.mp H
      have HE2 := Aside0.mk he2
      clear he2 H
      have H := Aside0.mk h
      clear h
      go_wp2_with fail
      refine (table_wrong.calls k a0_0 A0_1 c0_1 l0_1 e2 _ (Kd.C_below HR.out K2.out.2.2.2.2.1) HC.out HE2.out).mono ?_
      rintro e' w3 ⟨rfl, hb3⟩
      have K3 := Aside0.mk (K2.out.step hb3)
      clear p0 p01 p1 p2 f2 p3 f3 K2 hb3
      obtain ⟨p0, p01, p1, p2, f2, p3, f3⟩ := K3.out.cells
      by_cases e3 : e2 = 0
      · subst e3
        replace H : ((table_All.f k a0_0 l0_1).bind fun it => (table_Implies.hold k l1 it).bind fun r => some (r, 0)) = some (r1, r2) := by have := H.out; rwa [if_pos rfl] at this
        obtain ⟨items, hit, h⟩ := Option.bind_eq_some_iff.mp H
        obtain ⟨r, hhold, h⟩ := Option.bind_eq_some_iff.mp h
        simp only [Option.some.injEq, Prod.mk.injEq] at h
        obtain ⟨rfl, rfl⟩ := h
        have HIT := Aside0.mk hit
        have HH := Aside0.mk hhold
        clear hit hhold H
        go_wp2_with (go_at_call 22; refine (callsIn_wide.1 (table_All.callsIn a0_0 A0_1 c0_1 l0_1.length _)).mono ?_; rintro e' w' ⟨rfl, rfl⟩)
        have K4 := Aside0.mk (show table_Implies.St a0_0 A0_1 l0_1.length c0_1 A1 l1.length c1 w (w3.alloc (.cells #[.int .i64 a0_0, .slice A0_1 l0_1.length c0_1] 29)) ∧ (w3.alloc (.cells #[.int .i64 a0_0, .slice A0_1 l0_1.length c0_1] 29)).heap[w3.heap.size]? = some (.cells #[.int .i64 a0_0, .slice A0_1 l0_1.length c0_1] 29 (0, 0)) from ⟨K3.out.step (below_alloc (Below.refl _ _) _), blk_new _ _⟩)
        obtain ⟨B, hB⟩ : ∃ B, w3.heap.size = B := ⟨_, rfl⟩
        have hBw : w.heap.size + 4 ≤ B := by have := K3.out.2.2.2.2.2; omega
        clear p0 p01 p1 p2 f2 p3 f3
        obtain ⟨W0, hW0⟩ : ∃ W0, w3.alloc (.cells #[.int .i64 a0_0, .slice A0_1 l0_1.length c0_1] 29) = W0 := ⟨_, rfl⟩
        have hBs : B < W0.heap.size := by rw [← hW0]; simp; omega
        rw [hW0, hB] at K4
        rw [hW0, hB]
        clear hW0 hB K3
        have HSZ := Aside0.mk hBs
        refine range_w (p := 33) (gf := 49) (lb := #[.pointer (some ⟨B, 0, none⟩)]) rfl (enters_of Try.func49 (by kernel_rfl) rfl)
          (table_All.seq k a0_0 l0_1 items HIT.out B A0_1 c0_1 W0 K4.out.2 w K4.out.1.2.2.2.2.1 HR.out HC.out) K4.out.1.2.2.2.2.1.size hBs
          (fun W r o o' v b hi hr ho => Kd_R_putObj hi o' hr ho)
          (fun pre W => (table_Implies.St a0_0 A0_1 l0_1.length c0_1 A1 l1.length c1 w W ∧ B < W.heap.size) ∧ (∀ v ∈ pre, lit_Holds.f k l1 v = some true))
          (fun cd pre W => cd = .ret ∧ (∃ pre' b, pre = pre' ++ [b] ∧ (∀ v ∈ pre', lit_Holds.f k l1 v = some true) ∧ lit_Holds.f k l1 b = some false) ∧ W.heap[w.heap.size + 1 + 1]? = some (.cells #[.bool false] 4 (0, 0)) ∧ W.heap[w.heap.size + 1 + 1 + 1]? = some (.cells #[.int .i64 0] 31 (0, 0)) ∧ Below w.heap.size w W)
          (fun pre A B' row h hg hr => ⟨⟨⟨blk_ownG h.1.1.1 hg hr, blk_ownG h.1.1.2.1 hg hr, blk_ownG h.1.1.2.2.1 hg hr, blk_ownG h.1.1.2.2.2.1 hg hr, below_ownG h.1.1.2.2.2.2.1 (Nat.le_refl _) (by omega) hg hr, Nat.le_trans h.1.1.2.2.2.2.2 hg.size⟩, Nat.lt_of_lt_of_le h.1.2 hg.size⟩, h.2⟩)
          (fun cd pre A B' row h hg hr => ⟨h.1, h.2.1, blk_ownG h.2.2.1 hg hr, blk_ownG h.2.2.2.1 hg hr, below_ownG h.2.2.2.2 (Nat.le_refl _) (by omega) hg hr⟩)
          ⟨⟨K4.out.1, hBs⟩, fun v hv => by simp at hv⟩
          (fun v => { tmps := #[.agg #[.int .i64 a0_0, .slice A0_1 l0_1.length c0_1], .slice A1 l1.length c1, .pointer (some ⟨w.heap.size, 0, none⟩), .pointer (some ⟨w.heap.size + 1, 0, none⟩), .pointer (some ⟨w.heap.size + 1 + 1, 0, none⟩), .pointer (some ⟨w.heap.size + 1 + 1 + 1, 0, none⟩), .int .i64 b1, .int .i64 0, .int .i64 0, .int .i64 0, v, .tuple #[.int .i64 b1, .int .i64 0], .agg #[.int .i64 a0_0, .slice A0_1 l0_1.length c0_1], .tuple #[.int .i64 b1, .int .i64 0], .int .i64 b1, .int .i64 0, .int .i64 0, .bool false, undef, .slice A1 l1.length c1, .pointer (some ⟨w.heap.size, 0, none⟩), .int .i64 a0_0, .int .i64 0, .int .i64 0, .bool false, undef, .agg #[.int .i64 a0_0, .slice A0_1 l0_1.length c0_1], .int .i64 0, .int .i64 0, .bool false, undef, .agg #[.int .i64 a0_0, .slice A0_1 l0_1.length c0_1], .func (.func 49) #[] #[.pointer (some ⟨B, 0, none⟩)], v, undef, undef, undef, undef], defers := [] })
          ?assign ?body ?done ?stop
        case assign =>
          intro l v W K hK
          gi_wp2
          exact hK
        case body =>
          rintro l pre b v W hpre ⟨⟨j, hBW⟩, hall⟩ hit
          obtain ⟨A2, c2, rfl, hc2, hrd⟩ := Kd.R_reads hit
          obtain ⟨t, ht⟩ := hpre
          obtain ⟨x, hx, hxr⟩ := table_Implies.hold_at (k := k) (cl := l1) (r := r) (pre := pre) (b := b) (t := t) hall (by rw [← HH.out, ← ht]; simp)
          have J := Aside0.mk j
          have HX := Aside0.mk hx
          have HA := Aside0.mk hall
          have HRD := Aside0.mk hrd
          have HC2 := Aside0.mk hc2
          obtain ⟨p0, p01, p1, p2, f2, p3, f3⟩ := j.cells
          clear j hx hall hrd hit hc2 ht hxr
          cases x with
          | true =>
            gi_wp2_with (refine ⟨trivial, rfl, ?_⟩; gi_at_call 53; refine (CallsIn.inRound l (callsIn_wide.2 (lit_Holds.calls k A1 c1 l1 A2 c2 b true _ (Kd.C_below HR1.out J.out.2.2.2.2.1) HC1.out HRD.out HC2.out HX.out))).mono ?_; rintro e' w5 ⟨rfl, hd5⟩; have HD := Aside0.mk hd5; obtain ⟨p0', p01', p1', p2', f2', p3', f3'⟩ := (J.out.step hd5.below).cells; clear hd5)
            have hkb := HD.out.below
            refine ⟨⟨hkb.size, fun r o ho _ => blk_below ho hkb⟩, ⟨hkb.mono J.out.2.2.2.2.1.size, ?_⟩, ⟨J.out.step hkb, Nat.lt_of_lt_of_le hBW hkb.size⟩, ?_⟩
            · exact hkb.block _ hBW
            · intro v hv
              rcases List.mem_append.1 hv with hv | hv
              · exact HA.out v hv
              · rw [List.mem_singleton.1 hv]; exact HX.out
          | false =>
            gi_wp2_with (refine ⟨trivial, rfl, ?_⟩; gi_at_call 53; refine (CallsIn.inRound l (callsIn_wide.2 (lit_Holds.calls k A1 c1 l1 A2 c2 b false _ (Kd.C_below HR1.out J.out.2.2.2.2.1) HC1.out HRD.out HC2.out HX.out))).mono ?_; rintro e' w5 ⟨rfl, hd5⟩; have HD := Aside0.mk hd5; obtain ⟨p0', p01', p1', p2', f2', p3', f3'⟩ := (J.out.step hd5.below).cells; clear hd5)
            have hkb := HD.out.below
            have J5 := J.out.step hkb
            obtain ⟨z2, z3, zb⟩ := J5.end_ false 0
            refine ⟨?_, rfl, ⟨pre, b, rfl, HA.out, HX.out⟩, z2, z3, zb⟩
            exact (KeepsOthers.trans ⟨hkb.size, fun r o ho _ => blk_below ho hkb⟩ (KeepsOthers.setCell _ _ _)).trans (KeepsOthers.setCell _ _ _)
        case done =>
          rintro D W hD ⟨⟨j, _⟩, hall⟩ hK
          have hr : r = true := by
            have := HH.out
            rw [table_Implies.hold_all hall] at this
            exact (Option.some.inj this).symm
          subst hr
          have J := Aside0.mk j
          have HK := Aside0.mk hK
          obtain ⟨p0, p01, p1, p2, f2, p3, f3⟩ := j.cells
          clear j hall hK
          go_wp2
          obtain ⟨z2, z3, zb⟩ := J.out.end_ true 0
          have hKf := ((KeepsOthers.setCell W ⟨w.heap.size + 1 + 1, 0, none⟩ (.bool true)).trans (KeepsOthers.setCell _ ⟨w.heap.size + 1 + 1 + 1, 0, none⟩ (.int .i64 0))).same D _ HK.out rfl
          exact leaves_mark hKf (table_two_res _ w.heap.size true 0 _ rfl rfl ((World.putObj_heap_other (by omega)).trans z2) ((World.putObj_heap_other (by omega)).trans z3)) ⟨rfl, zb.trans (belowK_b (w := w) (Nat.le_refl _) _ D _ _ (by omega) hKf rfl rfl)⟩
        case stop =>
          rintro D cd pre b W hD hpre ⟨rfl, ⟨pre', b', hpb, hall, hxb⟩, z2, z3, zb⟩ hK
          obtain ⟨t, ht⟩ := hpre
          have hr : r = false := by
            obtain ⟨x, hx, hxr⟩ := table_Implies.hold_at (k := k) (cl := l1) (r := r) (pre := pre') (b := b') (t := t) hall (by rw [← HH.out, ← ht, hpb]; simp)
            rw [hxb] at hx
            exact hxr (Option.some.inj hx).symm
          subst hr
          have HK := Aside0.mk hK
          have Z2 := Aside0.mk z2
          have Z3 := Aside0.mk z3
          have ZB := Aside0.mk zb
          clear hall hxb ht hpb z2 z3 zb hK
          go_wp2
          exact leaves_mark HK.out (table_two_res _ w.heap.size false 0 _ rfl rfl ((World.putObj_heap_other (by omega)).trans Z2.out) ((World.putObj_heap_other (by omega)).trans Z3.out)) ⟨rfl, ZB.out.trans (belowK_b (w := w) (Nat.le_refl _) _ D _ _ (by omega) HK.out rfl rfl)⟩
      · have := H.out
        rw [if_neg e3] at this
        simp only [Option.some.injEq, Prod.mk.injEq] at this
        obtain ⟨rfl, rfl⟩ := this
        have c1' : (e2 != 0) = true := by simpa using e3
        have c2' : (e2 == 0) = false := by simpa using e3
        clear e3
        go_wp2
        obtain ⟨z2, z3, zb⟩ := K3.out.end_ false e2
        exact ⟨_, table_two_res _ w.heap.size false e2 _ rfl rfl z2 z3, rfl, zb⟩
    · have := H.out
      rw [if_neg e1] at this
      simp only [Option.some.injEq, Prod.mk.injEq] at this
      obtain ⟨rfl, rfl⟩ := this
      have c1' : (e != 0) = true := by simpa using e1
      have c2' : (e == 0) = false := by simpa using e1
      clear e1
      go_wp2
      obtain ⟨z2, z3, zb⟩ := K2.out.end_ false e
      exact ⟨_, table_two_res _ w.heap.size false e _ rfl rfl z2 z3, rfl, zb⟩
  · rw [if_neg e0] at h
    simp only [Option.some.injEq, Prod.mk.injEq] at h
    obtain ⟨rfl, rfl⟩ := h
    have c1' : (b2 != 0) = true := by simpa using e0
    have c2' : (b2 == 0) = false := by simpa using e0
    clear e0
    go_wp2
    obtain ⟨z2, z3, zb⟩ := K1.out.end_ false b2
    exact ⟨_, table_two_res _ w.heap.size false b2 _ rfl rfl z2 z3, rfl, zb⟩
theorem table_Implies.hold_mono : ∀ (cl : List Int) (l : List (List Bool)) (k : Nat), LeO (table_Implies.hold k cl l) (table_Implies.hold (k + 1) cl l)
  | _, [], _ => LeO.refl _
  | cl, v :: t, k => LeO.bind (lit_Holds.mono _ _ _) (fun b => LeO.ite (table_Implies.hold_mono cl t k) (LeO.refl _))
theorem table_Implies.mono : ∀ a0_0 l0_1 l1 k, LeO (table_Implies.f k a0_0 l0_1 l1) (table_Implies.f (k + 1) a0_0 l0_1 l1) := by
  intro a0_0 l0_1 l1 k
  unfold table_Implies.f
  exact LeO.bind (cnf_Right.mono _ _ _) (fun _ => LeO.ite (LeO.bind (lit_Right.mono _ _ _) (fun _ => LeO.ite (LeO.bind (table_wrong.mono _ _ _) (fun _ => LeO.ite (LeO.bind (table_All.mono _ _ _) (fun _ => LeO.bind (table_Implies.hold_mono _ _ _) (fun _ => LeO.refl _))) (LeO.refl _))) (LeO.refl _))) (LeO.refl _))
end


end Go.Proofs.Ytkfnaiobgddjpaa.P
