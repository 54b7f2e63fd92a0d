import Derived.StillTailTactics
import Derived.Shelf.Abstract
import Derived.Test.YtkmlekfmccghjaaKUnitPlays1
import Derived.Test.YtkmlekfmccghjaaKUnitPlays2
import Derived.Test.YtkmlekfmccghjaaKUnitPlays3
import Derived.Test.YtkmlekfmccghjaaKUnitPlays5
import Derived.Test.YtkmlekfmccghjaaKUnitPlays6
import Derived.Test.YtkmlekfmccghjaaKUnitPlays7
namespace Go.Proofs.Ytkmlekfmccghjaa.P
open Go.RowKit Go.Proofs.YtkmlekfmccghjaaW.PrintWords Go.Proofs.YtkmlekfmccghjaaW.PrintLast Go.Proofs.YtkmlekfmccghjaaW.PrintMore
attribute [local go_sem] max2_int min2_int max_two min_two max_three min_three max_four min_four
set_option linter.unusedVariables false
set_option linter.unusedSimpArgs false
def sequiturref20_Push.f (k : Nat) (a0_0 : Int) (l0_1 : List (List Int)) (l0_2 : List (List Int)) (a0_3 : Bool) (a1 : Int) : Option (Int × (List (List Int)) × (List (List Int)) × Bool × Bool) := if a0_3 = true then (some (a0_0, l0_1, l0_2, a0_3, false)) else ((sequiturref17_Right.f k (([a1] : List Int)) a0_0).bind fun t285 => (if t285 = 0 then ((sequiturref20_Value.f k a0_0 l0_1 l0_2 a0_3 a1).bind fun t286 => (if t286 = 0 then (if ([] : List (List Int)).length + l0_2.length < 5864062014805 then ((some (([] : List (List Int)) ++ l0_2 : List (List Int))).bind fun y287 => (if y287.length < 5864062014805 then ((sequiturref20_On.f k a0_0 l0_1 (y287 ++ [(([a1] : List Int))]) a0_3).bind fun bt296 => (some (bt296.1, bt296.2.1, bt296.2.2.1, bt296.2.2.2, true))) else (none))) else (none)) else (some (a0_0, l0_1, l0_2, a0_3, false)))) else (some (a0_0, l0_1, l0_2, a0_3, false))))
set_option maxHeartbeats 8000000 in
set_option maxRecDepth 100000 in
theorem sequiturref20_Push.calls (k : Nat) (a0_0 : Int) (P0_1_ : Nat → Prop) (A0_1 : Option Addr) (c0_1 : Nat) (l0_1 : List (List Int)) (P0_2_ : Nat → Prop) (A0_2 : Option Addr) (c0_2 : Nat) (l0_2 : List (List Int)) (a0_3 : Bool) (a1 : Int) (r1 : Int) (r2 : List (List Int)) (r3 : List (List Int)) (r4 : Bool) (r5 : Bool) (w : World) (hs0_1 : Kd.V (Kd.slice 3 (Kd.int .i64)) 37 w w.heap.size (fun k_ => P0_1_ k_) (.slice A0_1 l0_1.length c0_1) l0_1) (hs0_2 : Kd.V (Kd.slice 3 (Kd.int .i64)) 37 w w.heap.size (fun k_ => P0_2_ k_) (.slice A0_2 l0_2.length c0_2) l0_2) (h : sequiturref20_Push.f k a0_0 l0_1 l0_2 a0_3 a1 = some (r1, r2, r3, r4, r5)) :
    Calls Try.prog 48 #[.agg #[.int .i64 a0_0, .slice A0_1 l0_1.length c0_1, .slice A0_2 l0_2.length c0_2, .bool a0_3], .int .i64 a1] w fun e w' => ∃ v1_ v2_ : Value, e = .returned (.tuple #[.agg #[.int .i64 r1, v1_, v2_, .bool r4], .bool r5]) ∧ Kd.V (Kd.slice 3 (Kd.int .i64)) 37 w' w.heap.size (fun k_ => ((P0_1_ k_ ∨ P0_2_ k_) ∨ w.heap.size ≤ k_)) v1_ r2 ∧ Kd.V (Kd.slice 3 (Kd.int .i64)) 37 w' w.heap.size (fun k_ => ((P0_1_ k_ ∨ P0_2_ k_) ∨ w.heap.size ≤ k_)) v2_ r3 ∧ Below w.heap.size w w' := by
  have hu34 := Try.underlying34
  have HO0_1 := K0 (show Kd.V (Kd.slice 3 (Kd.int .i64)) 37 w w.heap.size (fun k_ => ((P0_1_ k_ ∨ P0_2_ k_) ∨ w.heap.size ≤ k_)) (.slice A0_1 l0_1.length c0_1) l0_1 from Kd.V_mono hs0_1 (fun k_ hk => .inl (.inl hk)))
  have HO0_2 := K0 (show Kd.V (Kd.slice 3 (Kd.int .i64)) 37 w w.heap.size (fun k_ => ((P0_1_ k_ ∨ P0_2_ k_) ∨ w.heap.size ≤ k_)) (.slice A0_2 l0_2.length c0_2) l0_2 from Kd.V_mono hs0_2 (fun k_ hk => .inl (.inr hk)))
  have HB := K0 (Below.refl w.heap.size w)
  have H : (if a0_3 = true then (some (a0_0, l0_1, l0_2, a0_3, false)) else ((sequiturref17_Right.f k (([a1] : List Int)) a0_0).bind fun t285 => (if t285 = 0 then ((sequiturref20_Value.f k a0_0 l0_1 l0_2 a0_3 a1).bind fun t286 => (if t286 = 0 then (if ([] : List (List Int)).length + l0_2.length < 5864062014805 then ((some (([] : List (List Int)) ++ l0_2 : List (List Int))).bind fun y287 => (if y287.length < 5864062014805 then ((sequiturref20_On.f k a0_0 l0_1 (y287 ++ [(([a1] : List Int))]) a0_3).bind fun bt296 => (some (bt296.1, bt296.2.1, bt296.2.2.1, bt296.2.2.2, true))) else (none))) else (none)) else (some (a0_0, l0_1, l0_2, a0_3, false)))) else (some (a0_0, l0_1, l0_2, a0_3, false))))) = some (r1, r2, r3, r4, r5) := h
  clear h
  by_cases c3 : a0_3 = true
  case pos =>
    subst c3
    have H1 : (some (a0_0, l0_1, l0_2, true, false)) = some (r1, r2, r3, r4, r5) := by rw [if_pos rfl] at H; exact H
    clear H
    have H := H1
    clear H1
    as_aux_lemma =>
      simp only [Option.some.injEq, Prod.mk.injEq] at H
      obtain ⟨rfl, rfl, rfl, rfl, rfl⟩ := H
      go_enter Try.func48, Try.ntmps48
      go_wp2_with (first | ((with_reducible refine gate_dst (N := 2) rfl ?_); (try (refine gate_guard (by rfl) ?_; dsimp only)); refine box_event ?hg (N := 2) ?hd (cs := #[.int .i64 a0_0, .slice A0_1 l0_1.length c0_1, .slice A0_2 l0_2.length c0_2, .bool true]) (t := 34) ?hr ?_; (case hd => rfl); (case hg => rfl); (case hr => first | (go_simp; done) | (go_simp; rfl)); intro gb280 hg w4 hbox hb; have n0_ := K0 (Kd.V_below (Kd.V_elderB (by (with_reducible repeat (first | apply Kd.V_alloc | apply Kd.V_drewN | apply Kd.V_drew)); exact HO0_1.out) gb280 (Nat.le_of_eq hg.symm)) hb); have n1_ := K0 (Kd.V_below (Kd.V_elderB (by (with_reducible repeat (first | apply Kd.V_alloc | apply Kd.V_drewN | apply Kd.V_drew)); exact HO0_2.out) gb280 (Nat.le_of_eq hg.symm)) hb); have n2_ := K0 (below_step (by repeat (first | (with_reducible first | exact HB.out | apply below_alloc | apply pw_below_drewN | apply below_drew1) | exact HB.out)) hb); have n3_ := K0 (hbox); have n4_ := K0 ((by rw [hg]; exact (below_size (by repeat (first | (with_reducible first | exact HB.out | apply below_alloc | apply pw_below_drewN | apply below_drew1) | exact HB.out))) : w.heap.size ≤ gb280)); have n5_ := K0 ((by rw [hg]; exact (below_size (by repeat (first | (with_reducible first | exact HB.out | apply below_alloc | apply pw_below_drewN | apply below_drew1) | exact HB.out))) : w.heap.size ≤ gb280)); clear HO0_1; clear HO0_2; clear HB; have HO0_1 := n0_; have HO0_2 := n1_; have HB := n2_; have BK280 := n3_; have GW280 := n4_; have GE280 := n5_; clear n0_ n1_ n2_ n3_ n4_ n5_; clear hb hbox hg) | ((with_reducible refine gate_dst (N := 4) rfl ?_); (try (refine gate_guard (by rfl) ?_; dsimp only)); refine box_event ?hg (N := 4) ?hd (cs := #[.int .i64 0, .slice none 0 0, .slice none 0 0, .bool false]) (t := 34) ?hr ?_; (case hd => rfl); (case hg => rfl); (case hr => first | (go_simp; done) | (go_simp; rfl)); intro gb281 hg w5 hbox hb; have n0_ := K0 (Kd.V_below (Kd.V_elderB (by (with_reducible repeat (first | apply Kd.V_alloc | apply Kd.V_drewN | apply Kd.V_drew)); exact HO0_1.out) gb281 (Nat.le_of_eq hg.symm)) hb); have n1_ := K0 (Kd.V_below (Kd.V_elderB (by (with_reducible repeat (first | apply Kd.V_alloc | apply Kd.V_drewN | apply Kd.V_drew)); exact HO0_2.out) gb281 (Nat.le_of_eq hg.symm)) hb); have n2_ := K0 (blk_below (g := gb280) (o := .cells #[.int .i64 a0_0, .slice A0_1 l0_1.length c0_1, .slice A0_2 l0_2.length c0_2, .bool true] 34 (0, 0)) (by (with_reducible repeat (first | refine blk_drewN ?_ _ | refine blk_drew ?_ | refine blk_alloc ?_ _)); exact BK280.out) hb); have n3_ := K0 (below_step (by repeat (first | (with_reducible first | exact HB.out | apply below_alloc | apply pw_below_drewN | apply below_drew1 | refine below_set ?_ GE280.out) | exact HB.out)) hb); have n4_ := K0 (hbox); have n5_ := K0 ((by rw [hg]; exact (below_size (by repeat (first | (with_reducible first | exact HB.out | apply below_alloc | apply pw_below_drewN | apply below_drew1 | refine below_set ?_ GE280.out) | exact HB.out))) : w.heap.size ≤ gb281)); have n6_ := K0 ((by rw [hg]; exact (below_size (by repeat (first | (with_reducible first | exact HB.out | apply below_alloc | apply pw_below_drewN | apply below_drew1 | refine below_set ?_ GE280.out) | exact HB.out))) : w.heap.size ≤ gb281)); have n7_ := K0 ((by rw [hg]; exact Nat.ne_of_lt (blk_lt (g := gb280) (o := .cells #[.int .i64 a0_0, .slice A0_1 l0_1.length c0_1, .slice A0_2 l0_2.length c0_2, .bool true] 34 (0, 0)) (by (with_reducible repeat (first | refine blk_drewN ?_ _ | refine blk_drew ?_ | refine blk_alloc ?_ _)); exact BK280.out)) : gb280 ≠ gb281)); have n8_ := K0 ((by rw [hg]; exact Nat.ne_of_gt (blk_lt (g := gb280) (o := .cells #[.int .i64 a0_0, .slice A0_1 l0_1.length c0_1, .slice A0_2 l0_2.length c0_2, .bool true] 34 (0, 0)) (by (with_reducible repeat (first | refine blk_drewN ?_ _ | refine blk_drew ?_ | refine blk_alloc ?_ _)); exact BK280.out)) : gb281 ≠ gb280)); clear HO0_1; clear HO0_2; clear BK280; clear HB; have HO0_1 := n0_; have HO0_2 := n1_; have BK280 := n2_; have HB := n3_; have BK281 := n4_; have GW281 := n5_; have GE281 := n6_; have NB280_281 := n7_; have NB281_280 := n8_; clear n0_ n1_ n2_ n3_ n4_ n5_ n6_ n7_ n8_; clear hb hbox hg; have hnb6 := NB280_281.out; have hnc6 := NB281_280.out; have hcz7_0 : w5.cell? ⟨gb280, 0, none⟩ = some (.int .i64 a0_0) := (blk_cell BK280.out 0).trans rfl; have hcz7_1 : w5.cell? ⟨gb280, 1, none⟩ = some (.slice A0_1 l0_1.length c0_1) := (blk_cell BK280.out 1).trans rfl; have hcz7_2 : w5.cell? ⟨gb280, 2, none⟩ = some (.slice A0_2 l0_2.length c0_2) := (blk_cell BK280.out 2).trans rfl; have hcz7_3 : w5.cell? ⟨gb280, 3, none⟩ = some (.bool true) := (blk_cell BK280.out 3).trans rfl; have hfz7_0 := blk_frozen BK280.out 0; have hfz7_1 := blk_frozen BK280.out 1; have hfz7_2 := blk_frozen BK280.out 2; have hfz7_3 := blk_frozen BK280.out 3; have hcz8_0 : w5.cell? ⟨gb281, 0, none⟩ = some (.int .i64 0) := (blk_cell BK281.out 0).trans rfl; have hcz8_1 : w5.cell? ⟨gb281, 1, none⟩ = some (.slice none 0 0) := (blk_cell BK281.out 1).trans rfl; have hcz8_2 : w5.cell? ⟨gb281, 2, none⟩ = some (.slice none 0 0) := (blk_cell BK281.out 2).trans rfl; have hcz8_3 : w5.cell? ⟨gb281, 3, none⟩ = some (.bool false) := (blk_cell BK281.out 3).trans rfl; have hfz8_0 := blk_frozen BK281.out 0; have hfz8_1 := blk_frozen BK281.out 1; have hfz8_2 := blk_frozen BK281.out 2; have hfz8_3 := blk_frozen BK281.out 3))
      refine bodyPost_ret (results_ct rfl _ _ gb281 34 #[.int .i64 a0_0, .slice A0_1 l0_1.length c0_1, .slice A0_2 l0_2.length c0_2, .bool true] (0, 0) _ rfl (by (with_reducible repeat (first | refine blk_drewN ?_ _ | refine blk_drew ?_ | refine blk_alloc ?_ _)); refine blk_put (cs := #[.int .i64 a0_0, .slice A0_1 l0_1.length c0_1, .slice A0_2 l0_2.length c0_2, .bool false]) ?_ 3 _ rfl; (with_reducible repeat (first | refine blk_drewN ?_ _ | refine blk_drew ?_ | refine blk_alloc ?_ _)); refine blk_put (cs := #[.int .i64 a0_0, .slice A0_1 l0_1.length c0_1, .slice none 0 0, .bool false]) ?_ 2 _ rfl; (with_reducible repeat (first | refine blk_drewN ?_ _ | refine blk_drew ?_ | refine blk_alloc ?_ _)); refine blk_put (cs := #[.int .i64 a0_0, .slice none 0 0, .slice none 0 0, .bool false]) ?_ 1 _ rfl; (with_reducible repeat (first | refine blk_drewN ?_ _ | refine blk_drew ?_ | refine blk_alloc ?_ _)); refine blk_put (cs := #[.int .i64 0, .slice none 0 0, .slice none 0 0, .bool false]) ?_ 0 _ rfl; (with_reducible repeat (first | refine blk_drewN ?_ _ | refine blk_drew ?_ | refine blk_alloc ?_ _)); exact BK281.out) Try.underlying34 rfl (by kernel_rfl)) rfl ?_
      exact ⟨_, _, by first | rfl | (simp [errW_none, errW_some] <;> rfl) | (simp [*, errW_none, errW_some] <;> rfl), by (with_reducible repeat (first | apply Kd.V_alloc | apply Kd.V_drewN | apply Kd.V_drew)); exact Kd.V_mono (Kd.V_far (p := ⟨gb281, 3, none⟩) (Kd.V_far (p := ⟨gb281, 2, none⟩) (Kd.V_far (p := ⟨gb281, 1, none⟩) (Kd.V_far (p := ⟨gb281, 0, none⟩) (Kd.V_mono HO0_1.out (fun k_ hk => (⟨hk, hk.2⟩ : _ ∧ k_ ≠ gb281))) (fun _ hk => hk.2) (.int .i64 a0_0)) (fun _ hk => hk.2) (.slice A0_1 l0_1.length c0_1)) (fun _ hk => hk.2) (.slice A0_2 l0_2.length c0_2)) (fun _ hk => hk.2) (.bool true)) (fun _ hk => hk.1.1.1), by (with_reducible repeat (first | apply Kd.V_alloc | apply Kd.V_drewN | apply Kd.V_drew)); exact Kd.V_mono (Kd.V_far (p := ⟨gb281, 3, none⟩) (Kd.V_far (p := ⟨gb281, 2, none⟩) (Kd.V_far (p := ⟨gb281, 1, none⟩) (Kd.V_far (p := ⟨gb281, 0, none⟩) (Kd.V_mono HO0_2.out (fun k_ hk => (⟨hk, hk.2⟩ : _ ∧ k_ ≠ gb281))) (fun _ hk => hk.2) (.int .i64 a0_0)) (fun _ hk => hk.2) (.slice A0_1 l0_1.length c0_1)) (fun _ hk => hk.2) (.slice A0_2 l0_2.length c0_2)) (fun _ hk => hk.2) (.bool true)) (fun _ hk => hk.1.1.1), by repeat (first | (with_reducible first | exact HB.out | apply below_alloc | apply pw_below_drewN | apply below_drew1 | refine below_set ?_ GE280.out | refine below_set ?_ GE281.out) | exact HB.out)⟩
  replace c3 := Bool.eq_false_iff.mpr c3
  subst c3
  have H1 : ((sequiturref17_Right.f k (([a1] : List Int)) a0_0).bind fun t285 => (if t285 = 0 then ((sequiturref20_Value.f k a0_0 l0_1 l0_2 false a1).bind fun t286 => (if t286 = 0 then (if ([] : List (List Int)).length + l0_2.length < 5864062014805 then ((some (([] : List (List Int)) ++ l0_2 : List (List Int))).bind fun y287 => (if y287.length < 5864062014805 then ((sequiturref20_On.f k a0_0 l0_1 (y287 ++ [(([a1] : List Int))]) false).bind fun bt296 => (some (bt296.1, bt296.2.1, bt296.2.2.1, bt296.2.2.2, true))) else (none))) else (none)) else (some (a0_0, l0_1, l0_2, false, false)))) else (some (a0_0, l0_1, l0_2, false, false)))) = some (r1, r2, r3, r4, r5) := by rw [if_neg (show ¬ (false = true) by decide)] at H; exact H
  clear H
  have H := H1
  clear H1
  obtain ⟨y282, hy282⟩ : ∃ y_ : List Int, y_ = (([a1] : List Int)) := ⟨_, rfl⟩
  replace H : ((sequiturref17_Right.f k y282 a0_0).bind fun t285 => (if t285 = 0 then ((sequiturref20_Value.f k a0_0 l0_1 l0_2 false a1).bind fun t286 => (if t286 = 0 then (if ([] : List (List Int)).length + l0_2.length < 5864062014805 then ((some (([] : List (List Int)) ++ l0_2 : List (List Int))).bind fun y287 => (if y287.length < 5864062014805 then ((sequiturref20_On.f k a0_0 l0_1 (y287 ++ [(([a1] : List Int))]) false).bind fun bt296 => (some (bt296.1, bt296.2.1, bt296.2.2.1, bt296.2.2.2, true))) else (none))) else (none)) else (some (a0_0, l0_1, l0_2, false, false)))) else (some (a0_0, l0_1, l0_2, false, false)))) = some (r1, r2, r3, r4, r5) := by first | (rw [hy282]; with_reducible exact H) | (have H2_ := (Option.bind_some _ _).symm.trans H; rw [hy282]; with_reducible exact H2_) | (have H2_ := (Option.bind_some _ _).symm.trans H; with_reducible exact H2_) | with_reducible exact H | (rw [hy282]; exact H) | exact H
  have Ny282 := K0 hy282; clear hy282
  replace H := Option.bind_eq_some_iff.mp H
  obtain ⟨t285, A90, H⟩ := H
  replace H : (if t285 = 0 then ((sequiturref20_Value.f k a0_0 l0_1 l0_2 false a1).bind fun t286 => (if t286 = 0 then (if ([] : List (List Int)).length + l0_2.length < 5864062014805 then ((some (([] : List (List Int)) ++ l0_2 : List (List Int))).bind fun y287 => (if y287.length < 5864062014805 then ((sequiturref20_On.f k a0_0 l0_1 (y287 ++ [(([a1] : List Int))]) false).bind fun bt296 => (some (bt296.1, bt296.2.1, bt296.2.2.1, bt296.2.2.2, true))) else (none))) else (none)) else (some (a0_0, l0_1, l0_2, false, false)))) else (some (a0_0, l0_1, l0_2, false, false))) = some (r1, r2, r3, r4, r5) := H
  have A9 := K0 A90; clear A90
  by_cases c10 : t285 = 0
  case neg =>
    rw [if_neg c10] at H
    have c10b0 : (t285 == 0) = false := beq_eq_false_iff_ne.mpr c10
    have c10b1 : (t285 != 0) = true := bne_iff_ne.mpr c10
    as_aux_lemma =>
      simp only [Option.some.injEq, Prod.mk.injEq] at H
      obtain ⟨rfl, rfl, rfl, rfl, rfl⟩ := H
      go_enter Try.func48, Try.ntmps48
      go_wp2_with (first | ((with_reducible refine gate_dst (N := 2) rfl ?_); (try (refine gate_guard (by rfl) ?_; dsimp only)); refine box_event ?hg (N := 2) ?hd (cs := #[.int .i64 a0_0, .slice A0_1 l0_1.length c0_1, .slice A0_2 l0_2.length c0_2, .bool false]) (t := 34) ?hr ?_; (case hd => rfl); (case hg => rfl); (case hr => first | (go_simp; done) | (go_simp; rfl)); intro gb280 hg w50 hbox hb; have n0_ := K0 (Kd.V_below (Kd.V_elderB (by (with_reducible repeat (first | apply Kd.V_alloc | apply Kd.V_drewN | apply Kd.V_drew)); exact HO0_1.out) gb280 (Nat.le_of_eq hg.symm)) hb); have n1_ := K0 (Kd.V_below (Kd.V_elderB (by (with_reducible repeat (first | apply Kd.V_alloc | apply Kd.V_drewN | apply Kd.V_drew)); exact HO0_2.out) gb280 (Nat.le_of_eq hg.symm)) hb); have n2_ := K0 (below_step (by repeat (first | (with_reducible first | exact HB.out | apply below_alloc | apply pw_below_drewN | apply below_drew1) | exact HB.out)) hb); have n3_ := K0 (hbox); have n4_ := K0 ((by rw [hg]; exact (below_size (by repeat (first | (with_reducible first | exact HB.out | apply below_alloc | apply pw_below_drewN | apply below_drew1) | exact HB.out))) : w.heap.size ≤ gb280)); have n5_ := K0 ((by rw [hg]; exact (below_size (by repeat (first | (with_reducible first | exact HB.out | apply below_alloc | apply pw_below_drewN | apply below_drew1) | exact HB.out))) : w.heap.size ≤ gb280)); clear HO0_1; clear HO0_2; clear HB; have HO0_1 := n0_; have HO0_2 := n1_; have HB := n2_; have BK280 := n3_; have GW280 := n4_; have GE280 := n5_; clear n0_ n1_ n2_ n3_ n4_ n5_; clear hb hbox hg) | ((with_reducible refine gate_dst (N := 4) rfl ?_); (try (refine gate_guard (by rfl) ?_; dsimp only)); refine box_event ?hg (N := 4) ?hd (cs := #[.int .i64 0, .slice none 0 0, .slice none 0 0, .bool false]) (t := 34) ?hr ?_; (case hd => rfl); (case hg => rfl); (case hr => first | (go_simp; done) | (go_simp; rfl)); intro gb281 hg w51 hbox hb; have n0_ := K0 (Kd.V_below (Kd.V_elderB (by (with_reducible repeat (first | apply Kd.V_alloc | apply Kd.V_drewN | apply Kd.V_drew)); exact HO0_1.out) gb281 (Nat.le_of_eq hg.symm)) hb); have n1_ := K0 (Kd.V_below (Kd.V_elderB (by (with_reducible repeat (first | apply Kd.V_alloc | apply Kd.V_drewN | apply Kd.V_drew)); exact HO0_2.out) gb281 (Nat.le_of_eq hg.symm)) hb); have n2_ := K0 (blk_below (g := gb280) (o := .cells #[.int .i64 a0_0, .slice A0_1 l0_1.length c0_1, .slice A0_2 l0_2.length c0_2, .bool false] 34 (0, 0)) (by (with_reducible repeat (first | refine blk_drewN ?_ _ | refine blk_drew ?_ | refine blk_alloc ?_ _)); exact BK280.out) hb); have n3_ := K0 (below_step (by repeat (first | (with_reducible first | exact HB.out | apply below_alloc | apply pw_below_drewN | apply below_drew1 | refine below_set ?_ GE280.out) | exact HB.out)) hb); have n4_ := K0 (hbox); have n5_ := K0 ((by rw [hg]; exact (below_size (by repeat (first | (with_reducible first | exact HB.out | apply below_alloc | apply pw_below_drewN | apply below_drew1 | refine below_set ?_ GE280.out) | exact HB.out))) : w.heap.size ≤ gb281)); have n6_ := K0 ((by rw [hg]; exact (below_size (by repeat (first | (with_reducible first | exact HB.out | apply below_alloc | apply pw_below_drewN | apply below_drew1 | refine below_set ?_ GE280.out) | exact HB.out))) : w.heap.size ≤ gb281)); have n7_ := K0 ((by rw [hg]; exact Nat.ne_of_lt (blk_lt (g := gb280) (o := .cells #[.int .i64 a0_0, .slice A0_1 l0_1.length c0_1, .slice A0_2 l0_2.length c0_2, .bool false] 34 (0, 0)) (by (with_reducible repeat (first | refine blk_drewN ?_ _ | refine blk_drew ?_ | refine blk_alloc ?_ _)); exact BK280.out)) : gb280 ≠ gb281)); have n8_ := K0 ((by rw [hg]; exact Nat.ne_of_gt (blk_lt (g := gb280) (o := .cells #[.int .i64 a0_0, .slice A0_1 l0_1.length c0_1, .slice A0_2 l0_2.length c0_2, .bool false] 34 (0, 0)) (by (with_reducible repeat (first | refine blk_drewN ?_ _ | refine blk_drew ?_ | refine blk_alloc ?_ _)); exact BK280.out)) : gb281 ≠ gb280)); clear HO0_1; clear HO0_2; clear BK280; clear HB; have HO0_1 := n0_; have HO0_2 := n1_; have BK280 := n2_; have HB := n3_; have BK281 := n4_; have GW281 := n5_; have GE281 := n6_; have NB280_281 := n7_; have NB281_280 := n8_; clear n0_ n1_ n2_ n3_ n4_ n5_ n6_ n7_ n8_; clear hb hbox hg; have hnb52 := NB280_281.out; have hnc52 := NB281_280.out; have hcz53_0 : w51.cell? ⟨gb280, 0, none⟩ = some (.int .i64 a0_0) := (blk_cell BK280.out 0).trans rfl; have hcz53_1 : w51.cell? ⟨gb280, 1, none⟩ = some (.slice A0_1 l0_1.length c0_1) := (blk_cell BK280.out 1).trans rfl; have hcz53_2 : w51.cell? ⟨gb280, 2, none⟩ = some (.slice A0_2 l0_2.length c0_2) := (blk_cell BK280.out 2).trans rfl; have hcz53_3 : w51.cell? ⟨gb280, 3, none⟩ = some (.bool false) := (blk_cell BK280.out 3).trans rfl; have hfz53_0 := blk_frozen BK280.out 0; have hfz53_1 := blk_frozen BK280.out 1; have hfz53_2 := blk_frozen BK280.out 2; have hfz53_3 := blk_frozen BK280.out 3) | ((with_reducible refine gate_dst (N := 11) rfl ?_); (try (refine gate_guard (by rfl) ?_; dsimp only)); refine Kd.R_lit (Kd.int .i64) _ 3 ?hg (N := 11) ?hd (xs := ([a1] : List Int)) (inner := [.int .i64 a1]) (ok := fun _ => True) (okp := fun _ => True) ?hr ?hp (fun _ hk => hk) trivial (Below.refl _ _) (Nat.le_refl _) (by simp) ?_; (case hd => rfl); (case hg => rfl); (case hr => first | (go_simp; done) | (go_simp; rfl)); (case hp => exact (Reps.one (show Kd.M (Kd.int .i64) _ _ _ a1 [.int .i64 a1] from rfl) (Reps.none _ _))); intro v283 w54 ho55 hb hg_ hnew_; clear hg_ hnew_; (first | rw [← Ny282.out] at ho55 | (simp only [Int.reduceToNat] at ho55; rw [← Ny282.out] at ho55)); have n0_ := K0 (Kd.V_elder' (by (with_reducible repeat (first | apply Kd.V_alloc | apply Kd.V_drewN | apply Kd.V_drew)); exact HO0_1.out) (Kd.R_base ho55) hb); have n1_ := K0 (Kd.V_elder' (by (with_reducible repeat (first | apply Kd.V_alloc | apply Kd.V_drewN | apply Kd.V_drew)); exact HO0_2.out) (Kd.R_base ho55) hb); have n2_ := K0 (Kd.R_lower (Kd.R_newM (M := fun k_ => (w.heap.size ≤ k_)) ho55 (below_size (by repeat (first | (with_reducible first | exact HB.out | apply below_alloc | apply pw_below_drewN | apply below_drew1 | refine below_set ?_ GE280.out | refine below_set ?_ GE281.out) | exact HB.out))) (fun k_ h_ => h_)) (below_size (by repeat (first | (with_reducible first | exact HB.out | apply below_alloc | apply pw_below_drewN | apply below_drew1 | refine below_set ?_ GE280.out | refine below_set ?_ GE281.out) | exact HB.out)))); have n3_ := K0 (blk_below (g := gb280) (o := .cells #[.int .i64 a0_0, .slice A0_1 l0_1.length c0_1, .slice A0_2 l0_2.length c0_2, .bool false] 34 (0, 0)) (by (with_reducible repeat (first | refine blk_drewN ?_ _ | refine blk_drew ?_ | refine blk_alloc ?_ _)); exact BK280.out) hb); have n4_ := K0 (blk_below (g := gb281) (o := .cells #[.int .i64 0, .slice none 0 0, .slice none 0 0, .bool false] 34 (0, 0)) (by (with_reducible repeat (first | refine blk_drewN ?_ _ | refine blk_drew ?_ | refine blk_alloc ?_ _)); exact BK281.out) hb); have n5_ := K0 (below_step (by repeat (first | (with_reducible first | exact HB.out | apply below_alloc | apply pw_below_drewN | apply below_drew1 | refine below_set ?_ GE280.out | refine below_set ?_ GE281.out) | exact HB.out)) hb); clear HO0_1; clear HO0_2; clear BK280; clear BK281; clear HB; have HO0_1 := n0_; have HO0_2 := n1_; have HO284 := n2_; have BK280 := n3_; have BK281 := n4_; have HB := n5_; clear n0_ n1_ n2_ n3_ n4_ n5_; clear hb ho55; have hcz56_0 : w54.cell? ⟨gb280, 0, none⟩ = some (.int .i64 a0_0) := (blk_cell BK280.out 0).trans rfl; have hcz56_1 : w54.cell? ⟨gb280, 1, none⟩ = some (.slice A0_1 l0_1.length c0_1) := (blk_cell BK280.out 1).trans rfl; have hcz56_2 : w54.cell? ⟨gb280, 2, none⟩ = some (.slice A0_2 l0_2.length c0_2) := (blk_cell BK280.out 2).trans rfl; have hcz56_3 : w54.cell? ⟨gb280, 3, none⟩ = some (.bool false) := (blk_cell BK280.out 3).trans rfl; have hfz56_0 := blk_frozen BK280.out 0; have hfz56_1 := blk_frozen BK280.out 1; have hfz56_2 := blk_frozen BK280.out 2; have hfz56_3 := blk_frozen BK280.out 3; obtain ⟨Ao57, co57, eo57⟩ := Kd.R_slice HO284.out; subst eo57) | (go_at_call 38; (with_reducible refine (sequiturref17_Right.calls k _ _ y282 a0_0 t285 _ ?side1 ?side2 A9.out).mono ?_); (case side1 => repeat (first | exact (Kd.R_reads' HO284.out).2.2 | (with_reducible refine Kd.C_alloc ?_ _) | (with_reducible refine Kd.C_drewN ?_ _) | (with_reducible refine Kd.C_drew ?_))); (case side2 => exact (Kd.R_reads' HO284.out).2.1); rintro e w' ⟨rfl, ⟨nd, rfl⟩⟩; (try (rw [drewN_self w54]; generalize hq_ : World.drewN w54 _ = w54; have n0_ := K0 (Kd.V_drewN HO0_1.out nd); rw [hq_] at n0_; have n1_ := K0 (Kd.V_drewN HO0_2.out nd); rw [hq_] at n1_; have n2_ := K0 (Kd.R_drewN HO284.out nd); rw [hq_] at n2_; have n3_ : Aside0 (w54.heap[gb280]? = some (.cells #[.int .i64 a0_0, .slice A0_1 l0_1.length c0_1, .slice A0_2 l0_2.length c0_2, .bool false] 34 (0, 0))) := ⟨by rw [← hq_]; exact (by (with_reducible repeat (first | refine blk_drewN ?_ _ | refine blk_drew ?_ | refine blk_alloc ?_ _)); exact BK280.out)⟩; have n4_ : Aside0 (w54.heap[gb281]? = some (.cells #[.int .i64 0, .slice none 0 0, .slice none 0 0, .bool false] 34 (0, 0))) := ⟨by rw [← hq_]; exact (by (with_reducible repeat (first | refine blk_drewN ?_ _ | refine blk_drew ?_ | refine blk_alloc ?_ _)); exact BK281.out)⟩; have n5_ : Aside0 (Below w.heap.size w w54) := ⟨by rw [← hq_]; exact (by repeat (first | (with_reducible first | exact HB.out | apply below_alloc | apply pw_below_drewN | apply below_drew1 | refine below_set ?_ GE280.out | refine below_set ?_ GE281.out) | exact HB.out))⟩; clear HO0_1 HO0_2 HO284 BK280 BK281 HB hq_; have HO0_1 := n0_; have HO0_2 := n1_; have HO284 := n2_; have BK280 := n3_; have BK281 := n4_; have HB := n5_; clear n0_ n1_ n2_ n3_ n4_ n5_; have hdz280_0 : w54.cell? ⟨gb280, 0, none⟩ = some (.int .i64 a0_0) := (blk_cell BK280.out 0).trans rfl; have hdf280_0 := blk_frozen BK280.out 0; have hdz280_1 : w54.cell? ⟨gb280, 1, none⟩ = some (.slice A0_1 l0_1.length c0_1) := (blk_cell BK280.out 1).trans rfl; have hdf280_1 := blk_frozen BK280.out 1; have hdz280_2 : w54.cell? ⟨gb280, 2, none⟩ = some (.slice A0_2 l0_2.length c0_2) := (blk_cell BK280.out 2).trans rfl; have hdf280_2 := blk_frozen BK280.out 2; have hdz280_3 : w54.cell? ⟨gb280, 3, none⟩ = some (.bool false) := (blk_cell BK280.out 3).trans rfl; have hdf280_3 := blk_frozen BK280.out 3; have hdz281_0 : w54.cell? ⟨gb281, 0, none⟩ = some (.int .i64 0) := (blk_cell BK281.out 0).trans rfl; have hdf281_0 := blk_frozen BK281.out 0; have hdz281_1 : w54.cell? ⟨gb281, 1, none⟩ = some (.slice none 0 0) := (blk_cell BK281.out 1).trans rfl; have hdf281_1 := blk_frozen BK281.out 1; have hdz281_2 : w54.cell? ⟨gb281, 2, none⟩ = some (.slice none 0 0) := (blk_cell BK281.out 2).trans rfl; have hdf281_2 := blk_frozen BK281.out 2; have hdz281_3 : w54.cell? ⟨gb281, 3, none⟩ = some (.bool false) := (blk_cell BK281.out 3).trans rfl; have hdf281_3 := blk_frozen BK281.out 3)); have hcz58_0 : w54.cell? ⟨gb281, 0, none⟩ = some (.int .i64 0) := (blk_cell BK281.out 0).trans rfl; have hcz58_1 : w54.cell? ⟨gb281, 1, none⟩ = some (.slice none 0 0) := (blk_cell BK281.out 1).trans rfl; have hcz58_2 : w54.cell? ⟨gb281, 2, none⟩ = some (.slice none 0 0) := (blk_cell BK281.out 2).trans rfl; have hcz58_3 : w54.cell? ⟨gb281, 3, none⟩ = some (.bool false) := (blk_cell BK281.out 3).trans rfl; have hfz58_0 := blk_frozen BK281.out 0; have hfz58_1 := blk_frozen BK281.out 1; have hfz58_2 := blk_frozen BK281.out 2; have hfz58_3 := blk_frozen BK281.out 3))
      refine bodyPost_ret (results_ct rfl _ _ gb281 34 #[.int .i64 a0_0, .slice A0_1 l0_1.length c0_1, .slice A0_2 l0_2.length c0_2, .bool false] (0, 0) _ rfl (by (with_reducible repeat (first | refine blk_drewN ?_ _ | refine blk_drew ?_ | refine blk_alloc ?_ _)); refine blk_put (cs := #[.int .i64 a0_0, .slice A0_1 l0_1.length c0_1, .slice A0_2 l0_2.length c0_2, .bool false]) ?_ 3 _ rfl; (with_reducible repeat (first | refine blk_drewN ?_ _ | refine blk_drew ?_ | refine blk_alloc ?_ _)); refine blk_put (cs := #[.int .i64 a0_0, .slice A0_1 l0_1.length c0_1, .slice none 0 0, .bool false]) ?_ 2 _ rfl; (with_reducible repeat (first | refine blk_drewN ?_ _ | refine blk_drew ?_ | refine blk_alloc ?_ _)); refine blk_put (cs := #[.int .i64 a0_0, .slice none 0 0, .slice none 0 0, .bool false]) ?_ 1 _ rfl; (with_reducible repeat (first | refine blk_drewN ?_ _ | refine blk_drew ?_ | refine blk_alloc ?_ _)); refine blk_put (cs := #[.int .i64 0, .slice none 0 0, .slice none 0 0, .bool false]) ?_ 0 _ rfl; (with_reducible repeat (first | refine blk_drewN ?_ _ | refine blk_drew ?_ | refine blk_alloc ?_ _)); exact BK281.out) Try.underlying34 rfl (by kernel_rfl)) rfl ?_
      exact ⟨_, _, by first | rfl | (simp [errW_none, errW_some] <;> rfl) | (simp [*, errW_none, errW_some] <;> rfl), by (with_reducible repeat (first | apply Kd.V_alloc | apply Kd.V_drewN | apply Kd.V_drew)); exact Kd.V_mono (Kd.V_far (p := ⟨gb281, 3, none⟩) (Kd.V_far (p := ⟨gb281, 2, none⟩) (Kd.V_far (p := ⟨gb281, 1, none⟩) (Kd.V_far (p := ⟨gb281, 0, none⟩) (Kd.V_mono HO0_1.out (fun k_ hk => (⟨hk, hk.1.2⟩ : _ ∧ k_ ≠ gb281))) (fun _ hk => hk.2) (.int .i64 a0_0)) (fun _ hk => hk.2) (.slice A0_1 l0_1.length c0_1)) (fun _ hk => hk.2) (.slice A0_2 l0_2.length c0_2)) (fun _ hk => hk.2) (.bool false)) (fun _ hk => hk.1.1.1.1), by (with_reducible repeat (first | apply Kd.V_alloc | apply Kd.V_drewN | apply Kd.V_drew)); exact Kd.V_mono (Kd.V_far (p := ⟨gb281, 3, none⟩) (Kd.V_far (p := ⟨gb281, 2, none⟩) (Kd.V_far (p := ⟨gb281, 1, none⟩) (Kd.V_far (p := ⟨gb281, 0, none⟩) (Kd.V_mono HO0_2.out (fun k_ hk => (⟨hk, hk.1.2⟩ : _ ∧ k_ ≠ gb281))) (fun _ hk => hk.2) (.int .i64 a0_0)) (fun _ hk => hk.2) (.slice A0_1 l0_1.length c0_1)) (fun _ hk => hk.2) (.slice A0_2 l0_2.length c0_2)) (fun _ hk => hk.2) (.bool false)) (fun _ hk => hk.1.1.1.1), by repeat (first | (with_reducible first | exact HB.out | apply below_alloc | apply pw_below_drewN | apply below_drew1 | refine below_set ?_ GE280.out | refine below_set ?_ GE281.out) | exact HB.out)⟩
  rw [if_pos c10] at H
  have c10b0 : (t285 == 0) = true := beq_iff_eq.mpr c10
  have c10b1 : (t285 != 0) = false := bne_eq_false_iff_eq.mpr c10
  clear c10
  replace H := Option.bind_eq_some_iff.mp H
  obtain ⟨t286, A110, H⟩ := H
  replace H : (if t286 = 0 then (if ([] : List (List Int)).length + l0_2.length < 5864062014805 then ((some (([] : List (List Int)) ++ l0_2 : List (List Int))).bind fun y287 => (if y287.length < 5864062014805 then ((sequiturref20_On.f k a0_0 l0_1 (y287 ++ [(([a1] : List Int))]) false).bind fun bt296 => (some (bt296.1, bt296.2.1, bt296.2.2.1, bt296.2.2.2, true))) else (none))) else (none)) else (some (a0_0, l0_1, l0_2, false, false))) = some (r1, r2, r3, r4, r5) := H
  have A11 := K0 A110; clear A110
  by_cases c12 : t286 = 0
  case neg =>
    rw [if_neg c12] at H
    have c12b0 : (t286 == 0) = false := beq_eq_false_iff_ne.mpr c12
    have c12b1 : (t286 != 0) = true := bne_iff_ne.mpr c12
    as_aux_lemma =>
      simp only [Option.some.injEq, Prod.mk.injEq] at H
      obtain ⟨rfl, rfl, rfl, rfl, rfl⟩ := H
      go_enter Try.func48, Try.ntmps48
      go_wp2_with (first | ((with_reducible refine gate_dst (N := 2) rfl ?_); (try (refine gate_guard (by rfl) ?_; dsimp only)); refine box_event ?hg (N := 2) ?hd (cs := #[.int .i64 a0_0, .slice A0_1 l0_1.length c0_1, .slice A0_2 l0_2.length c0_2, .bool false]) (t := 34) ?hr ?_; (case hd => rfl); (case hg => rfl); (case hr => first | (go_simp; done) | (go_simp; rfl)); intro gb280 hg w39 hbox hb; have n0_ := K0 (Kd.V_below (Kd.V_elderB (by (with_reducible repeat (first | apply Kd.V_alloc | apply Kd.V_drewN | apply Kd.V_drew)); exact HO0_1.out) gb280 (Nat.le_of_eq hg.symm)) hb); have n1_ := K0 (Kd.V_below (Kd.V_elderB (by (with_reducible repeat (first | apply Kd.V_alloc | apply Kd.V_drewN | apply Kd.V_drew)); exact HO0_2.out) gb280 (Nat.le_of_eq hg.symm)) hb); have n2_ := K0 (below_step (by repeat (first | (with_reducible first | exact HB.out | apply below_alloc | apply pw_below_drewN | apply below_drew1) | exact HB.out)) hb); have n3_ := K0 (hbox); have n4_ := K0 ((by rw [hg]; exact (below_size (by repeat (first | (with_reducible first | exact HB.out | apply below_alloc | apply pw_below_drewN | apply below_drew1) | exact HB.out))) : w.heap.size ≤ gb280)); have n5_ := K0 ((by rw [hg]; exact (below_size (by repeat (first | (with_reducible first | exact HB.out | apply below_alloc | apply pw_below_drewN | apply below_drew1) | exact HB.out))) : w.heap.size ≤ gb280)); clear HO0_1; clear HO0_2; clear HB; have HO0_1 := n0_; have HO0_2 := n1_; have HB := n2_; have BK280 := n3_; have GW280 := n4_; have GE280 := n5_; clear n0_ n1_ n2_ n3_ n4_ n5_; clear hb hbox hg) | ((with_reducible refine gate_dst (N := 4) rfl ?_); (try (refine gate_guard (by rfl) ?_; dsimp only)); refine box_event ?hg (N := 4) ?hd (cs := #[.int .i64 0, .slice none 0 0, .slice none 0 0, .bool false]) (t := 34) ?hr ?_; (case hd => rfl); (case hg => rfl); (case hr => first | (go_simp; done) | (go_simp; rfl)); intro gb281 hg w40 hbox hb; have n0_ := K0 (Kd.V_below (Kd.V_elderB (by (with_reducible repeat (first | apply Kd.V_alloc | apply Kd.V_drewN | apply Kd.V_drew)); exact HO0_1.out) gb281 (Nat.le_of_eq hg.symm)) hb); have n1_ := K0 (Kd.V_below (Kd.V_elderB (by (with_reducible repeat (first | apply Kd.V_alloc | apply Kd.V_drewN | apply Kd.V_drew)); exact HO0_2.out) gb281 (Nat.le_of_eq hg.symm)) hb); have n2_ := K0 (blk_below (g := gb280) (o := .cells #[.int .i64 a0_0, .slice A0_1 l0_1.length c0_1, .slice A0_2 l0_2.length c0_2, .bool false] 34 (0, 0)) (by (with_reducible repeat (first | refine blk_drewN ?_ _ | refine blk_drew ?_ | refine blk_alloc ?_ _)); exact BK280.out) hb); have n3_ := K0 (below_step (by repeat (first | (with_reducible first | exact HB.out | apply below_alloc | apply pw_below_drewN | apply below_drew1 | refine below_set ?_ GE280.out) | exact HB.out)) hb); have n4_ := K0 (hbox); have n5_ := K0 ((by rw [hg]; exact (below_size (by repeat (first | (with_reducible first | exact HB.out | apply below_alloc | apply pw_below_drewN | apply below_drew1 | refine below_set ?_ GE280.out) | exact HB.out))) : w.heap.size ≤ gb281)); have n6_ := K0 ((by rw [hg]; exact (below_size (by repeat (first | (with_reducible first | exact HB.out | apply below_alloc | apply pw_below_drewN | apply below_drew1 | refine below_set ?_ GE280.out) | exact HB.out))) : w.heap.size ≤ gb281)); have n7_ := K0 ((by rw [hg]; exact Nat.ne_of_lt (blk_lt (g := gb280) (o := .cells #[.int .i64 a0_0, .slice A0_1 l0_1.length c0_1, .slice A0_2 l0_2.length c0_2, .bool false] 34 (0, 0)) (by (with_reducible repeat (first | refine blk_drewN ?_ _ | refine blk_drew ?_ | refine blk_alloc ?_ _)); exact BK280.out)) : gb280 ≠ gb281)); have n8_ := K0 ((by rw [hg]; exact Nat.ne_of_gt (blk_lt (g := gb280) (o := .cells #[.int .i64 a0_0, .slice A0_1 l0_1.length c0_1, .slice A0_2 l0_2.length c0_2, .bool false] 34 (0, 0)) (by (with_reducible repeat (first | refine blk_drewN ?_ _ | refine blk_drew ?_ | refine blk_alloc ?_ _)); exact BK280.out)) : gb281 ≠ gb280)); clear HO0_1; clear HO0_2; clear BK280; clear HB; have HO0_1 := n0_; have HO0_2 := n1_; have BK280 := n2_; have HB := n3_; have BK281 := n4_; have GW281 := n5_; have GE281 := n6_; have NB280_281 := n7_; have NB281_280 := n8_; clear n0_ n1_ n2_ n3_ n4_ n5_ n6_ n7_ n8_; clear hb hbox hg; have hnb41 := NB280_281.out; have hnc41 := NB281_280.out; have hcz42_0 : w40.cell? ⟨gb280, 0, none⟩ = some (.int .i64 a0_0) := (blk_cell BK280.out 0).trans rfl; have hcz42_1 : w40.cell? ⟨gb280, 1, none⟩ = some (.slice A0_1 l0_1.length c0_1) := (blk_cell BK280.out 1).trans rfl; have hcz42_2 : w40.cell? ⟨gb280, 2, none⟩ = some (.slice A0_2 l0_2.length c0_2) := (blk_cell BK280.out 2).trans rfl; have hcz42_3 : w40.cell? ⟨gb280, 3, none⟩ = some (.bool false) := (blk_cell BK280.out 3).trans rfl; have hfz42_0 := blk_frozen BK280.out 0; have hfz42_1 := blk_frozen BK280.out 1; have hfz42_2 := blk_frozen BK280.out 2; have hfz42_3 := blk_frozen BK280.out 3) | ((with_reducible refine gate_dst (N := 11) rfl ?_); (try (refine gate_guard (by rfl) ?_; dsimp only)); refine Kd.R_lit (Kd.int .i64) _ 3 ?hg (N := 11) ?hd (xs := ([a1] : List Int)) (inner := [.int .i64 a1]) (ok := fun _ => True) (okp := fun _ => True) ?hr ?hp (fun _ hk => hk) trivial (Below.refl _ _) (Nat.le_refl _) (by simp) ?_; (case hd => rfl); (case hg => rfl); (case hr => first | (go_simp; done) | (go_simp; rfl)); (case hp => exact (Reps.one (show Kd.M (Kd.int .i64) _ _ _ a1 [.int .i64 a1] from rfl) (Reps.none _ _))); intro v283 w43 ho44 hb hg_ hnew_; clear hg_ hnew_; (first | rw [← Ny282.out] at ho44 | (simp only [Int.reduceToNat] at ho44; rw [← Ny282.out] at ho44)); have n0_ := K0 (Kd.V_elder' (by (with_reducible repeat (first | apply Kd.V_alloc | apply Kd.V_drewN | apply Kd.V_drew)); exact HO0_1.out) (Kd.R_base ho44) hb); have n1_ := K0 (Kd.V_elder' (by (with_reducible repeat (first | apply Kd.V_alloc | apply Kd.V_drewN | apply Kd.V_drew)); exact HO0_2.out) (Kd.R_base ho44) hb); have n2_ := K0 (Kd.R_lower (Kd.R_newM (M := fun k_ => (w.heap.size ≤ k_)) ho44 (below_size (by repeat (first | (with_reducible first | exact HB.out | apply below_alloc | apply pw_below_drewN | apply below_drew1 | refine below_set ?_ GE280.out | refine below_set ?_ GE281.out) | exact HB.out))) (fun k_ h_ => h_)) (below_size (by repeat (first | (with_reducible first | exact HB.out | apply below_alloc | apply pw_below_drewN | apply below_drew1 | refine below_set ?_ GE280.out | refine below_set ?_ GE281.out) | exact HB.out)))); have n3_ := K0 (blk_below (g := gb280) (o := .cells #[.int .i64 a0_0, .slice A0_1 l0_1.length c0_1, .slice A0_2 l0_2.length c0_2, .bool false] 34 (0, 0)) (by (with_reducible repeat (first | refine blk_drewN ?_ _ | refine blk_drew ?_ | refine blk_alloc ?_ _)); exact BK280.out) hb); have n4_ := K0 (blk_below (g := gb281) (o := .cells #[.int .i64 0, .slice none 0 0, .slice none 0 0, .bool false] 34 (0, 0)) (by (with_reducible repeat (first | refine blk_drewN ?_ _ | refine blk_drew ?_ | refine blk_alloc ?_ _)); exact BK281.out) hb); have n5_ := K0 (below_step (by repeat (first | (with_reducible first | exact HB.out | apply below_alloc | apply pw_below_drewN | apply below_drew1 | refine below_set ?_ GE280.out | refine below_set ?_ GE281.out) | exact HB.out)) hb); clear HO0_1; clear HO0_2; clear BK280; clear BK281; clear HB; have HO0_1 := n0_; have HO0_2 := n1_; have HO284 := n2_; have BK280 := n3_; have BK281 := n4_; have HB := n5_; clear n0_ n1_ n2_ n3_ n4_ n5_; clear hb ho44; have hcz45_0 : w43.cell? ⟨gb280, 0, none⟩ = some (.int .i64 a0_0) := (blk_cell BK280.out 0).trans rfl; have hcz45_1 : w43.cell? ⟨gb280, 1, none⟩ = some (.slice A0_1 l0_1.length c0_1) := (blk_cell BK280.out 1).trans rfl; have hcz45_2 : w43.cell? ⟨gb280, 2, none⟩ = some (.slice A0_2 l0_2.length c0_2) := (blk_cell BK280.out 2).trans rfl; have hcz45_3 : w43.cell? ⟨gb280, 3, none⟩ = some (.bool false) := (blk_cell BK280.out 3).trans rfl; have hfz45_0 := blk_frozen BK280.out 0; have hfz45_1 := blk_frozen BK280.out 1; have hfz45_2 := blk_frozen BK280.out 2; have hfz45_3 := blk_frozen BK280.out 3; obtain ⟨Ao46, co46, eo46⟩ := Kd.R_slice HO284.out; subst eo46) | (go_at_call 38; (with_reducible refine (sequiturref17_Right.calls k _ _ y282 a0_0 t285 _ ?side1 ?side2 A9.out).mono ?_); (case side1 => repeat (first | exact (Kd.R_reads' HO284.out).2.2 | (with_reducible refine Kd.C_alloc ?_ _) | (with_reducible refine Kd.C_drewN ?_ _) | (with_reducible refine Kd.C_drew ?_))); (case side2 => exact (Kd.R_reads' HO284.out).2.1); rintro e w' ⟨rfl, ⟨nd, rfl⟩⟩; (try (rw [drewN_self w43]; generalize hq_ : World.drewN w43 _ = w43; have n0_ := K0 (Kd.V_drewN HO0_1.out nd); rw [hq_] at n0_; have n1_ := K0 (Kd.V_drewN HO0_2.out nd); rw [hq_] at n1_; have n2_ := K0 (Kd.R_drewN HO284.out nd); rw [hq_] at n2_; have n3_ : Aside0 (w43.heap[gb280]? = some (.cells #[.int .i64 a0_0, .slice A0_1 l0_1.length c0_1, .slice A0_2 l0_2.length c0_2, .bool false] 34 (0, 0))) := ⟨by rw [← hq_]; exact (by (with_reducible repeat (first | refine blk_drewN ?_ _ | refine blk_drew ?_ | refine blk_alloc ?_ _)); exact BK280.out)⟩; have n4_ : Aside0 (w43.heap[gb281]? = some (.cells #[.int .i64 0, .slice none 0 0, .slice none 0 0, .bool false] 34 (0, 0))) := ⟨by rw [← hq_]; exact (by (with_reducible repeat (first | refine blk_drewN ?_ _ | refine blk_drew ?_ | refine blk_alloc ?_ _)); exact BK281.out)⟩; have n5_ : Aside0 (Below w.heap.size w w43) := ⟨by rw [← hq_]; exact (by repeat (first | (with_reducible first | exact HB.out | apply below_alloc | apply pw_below_drewN | apply below_drew1 | refine below_set ?_ GE280.out | refine below_set ?_ GE281.out) | exact HB.out))⟩; clear HO0_1 HO0_2 HO284 BK280 BK281 HB hq_; have HO0_1 := n0_; have HO0_2 := n1_; have HO284 := n2_; have BK280 := n3_; have BK281 := n4_; have HB := n5_; clear n0_ n1_ n2_ n3_ n4_ n5_; have hdz280_0 : w43.cell? ⟨gb280, 0, none⟩ = some (.int .i64 a0_0) := (blk_cell BK280.out 0).trans rfl; have hdf280_0 := blk_frozen BK280.out 0; have hdz280_1 : w43.cell? ⟨gb280, 1, none⟩ = some (.slice A0_1 l0_1.length c0_1) := (blk_cell BK280.out 1).trans rfl; have hdf280_1 := blk_frozen BK280.out 1; have hdz280_2 : w43.cell? ⟨gb280, 2, none⟩ = some (.slice A0_2 l0_2.length c0_2) := (blk_cell BK280.out 2).trans rfl; have hdf280_2 := blk_frozen BK280.out 2; have hdz280_3 : w43.cell? ⟨gb280, 3, none⟩ = some (.bool false) := (blk_cell BK280.out 3).trans rfl; have hdf280_3 := blk_frozen BK280.out 3; have hdz281_0 : w43.cell? ⟨gb281, 0, none⟩ = some (.int .i64 0) := (blk_cell BK281.out 0).trans rfl; have hdf281_0 := blk_frozen BK281.out 0; have hdz281_1 : w43.cell? ⟨gb281, 1, none⟩ = some (.slice none 0 0) := (blk_cell BK281.out 1).trans rfl; have hdf281_1 := blk_frozen BK281.out 1; have hdz281_2 : w43.cell? ⟨gb281, 2, none⟩ = some (.slice none 0 0) := (blk_cell BK281.out 2).trans rfl; have hdf281_2 := blk_frozen BK281.out 2; have hdz281_3 : w43.cell? ⟨gb281, 3, none⟩ = some (.bool false) := (blk_cell BK281.out 3).trans rfl; have hdf281_3 := blk_frozen BK281.out 3))) | (go_at_call 79; (with_reducible refine (sequiturref20_Value.calls k a0_0 _ _ l0_1 _ _ l0_2 false a1 t286 _ ?side1 ?side2 ?side3 ?side4 A11.out).mono ?_); (case side1 => repeat (first | exact (Kd.V_reads' HO0_1.out).2.2 | (with_reducible refine Kd.C_alloc ?_ _) | (with_reducible refine Kd.C_drewN ?_ _) | (with_reducible refine Kd.C_drew ?_))); (case side2 => exact (Kd.V_reads' HO0_1.out).2.1); (case side3 => repeat (first | exact (Kd.V_reads' HO0_2.out).2.2 | (with_reducible refine Kd.C_alloc ?_ _) | (with_reducible refine Kd.C_drewN ?_ _) | (with_reducible refine Kd.C_drew ?_))); (case side4 => exact (Kd.V_reads' HO0_2.out).2.1); rintro e w47 ⟨rfl, hb⟩; have n0_ := K0 (Kd.V_below (by (with_reducible repeat (first | apply Kd.V_alloc | apply Kd.V_drewN | apply Kd.V_drew)); exact HO0_1.out) hb); have n1_ := K0 (Kd.V_below (by (with_reducible repeat (first | apply Kd.V_alloc | apply Kd.V_drewN | apply Kd.V_drew)); exact HO0_2.out) hb); have n2_ := K0 (Kd.R_below (by (with_reducible repeat (first | apply Kd.R_alloc | apply Kd.R_drewN | apply Kd.R_drew)); exact HO284.out) hb); have n3_ := K0 (blk_below (g := gb280) (o := .cells #[.int .i64 a0_0, .slice A0_1 l0_1.length c0_1, .slice A0_2 l0_2.length c0_2, .bool false] 34 (0, 0)) (by (with_reducible repeat (first | refine blk_drewN ?_ _ | refine blk_drew ?_ | refine blk_alloc ?_ _)); exact BK280.out) hb); have n4_ := K0 (blk_below (g := gb281) (o := .cells #[.int .i64 0, .slice none 0 0, .slice none 0 0, .bool false] 34 (0, 0)) (by (with_reducible repeat (first | refine blk_drewN ?_ _ | refine blk_drew ?_ | refine blk_alloc ?_ _)); exact BK281.out) hb); have n5_ := K0 (below_step (by repeat (first | (with_reducible first | exact HB.out | apply below_alloc | apply pw_below_drewN | apply below_drew1 | refine below_set ?_ GE280.out | refine below_set ?_ GE281.out) | exact HB.out)) hb); clear HO0_1; clear HO0_2; clear HO284; clear BK280; clear BK281; clear HB; have HO0_1 := n0_; have HO0_2 := n1_; have HO284 := n2_; have BK280 := n3_; have BK281 := n4_; have HB := n5_; clear n0_ n1_ n2_ n3_ n4_ n5_; (try clear hb); (try clear hb2); (try clear hk); (try clear hi); have hcz48_0 : w47.cell? ⟨gb280, 0, none⟩ = some (.int .i64 a0_0) := (blk_cell BK280.out 0).trans rfl; have hcz48_1 : w47.cell? ⟨gb280, 1, none⟩ = some (.slice A0_1 l0_1.length c0_1) := (blk_cell BK280.out 1).trans rfl; have hcz48_2 : w47.cell? ⟨gb280, 2, none⟩ = some (.slice A0_2 l0_2.length c0_2) := (blk_cell BK280.out 2).trans rfl; have hcz48_3 : w47.cell? ⟨gb280, 3, none⟩ = some (.bool false) := (blk_cell BK280.out 3).trans rfl; have hfz48_0 := blk_frozen BK280.out 0; have hfz48_1 := blk_frozen BK280.out 1; have hfz48_2 := blk_frozen BK280.out 2; have hfz48_3 := blk_frozen BK280.out 3; have hcz49_0 : w47.cell? ⟨gb281, 0, none⟩ = some (.int .i64 0) := (blk_cell BK281.out 0).trans rfl; have hcz49_1 : w47.cell? ⟨gb281, 1, none⟩ = some (.slice none 0 0) := (blk_cell BK281.out 1).trans rfl; have hcz49_2 : w47.cell? ⟨gb281, 2, none⟩ = some (.slice none 0 0) := (blk_cell BK281.out 2).trans rfl; have hcz49_3 : w47.cell? ⟨gb281, 3, none⟩ = some (.bool false) := (blk_cell BK281.out 3).trans rfl; have hfz49_0 := blk_frozen BK281.out 0; have hfz49_1 := blk_frozen BK281.out 1; have hfz49_2 := blk_frozen BK281.out 2; have hfz49_3 := blk_frozen BK281.out 3))
      refine bodyPost_ret (results_ct rfl _ _ gb281 34 #[.int .i64 a0_0, .slice A0_1 l0_1.length c0_1, .slice A0_2 l0_2.length c0_2, .bool false] (0, 0) _ rfl (by (with_reducible repeat (first | refine blk_drewN ?_ _ | refine blk_drew ?_ | refine blk_alloc ?_ _)); refine blk_put (cs := #[.int .i64 a0_0, .slice A0_1 l0_1.length c0_1, .slice A0_2 l0_2.length c0_2, .bool false]) ?_ 3 _ rfl; (with_reducible repeat (first | refine blk_drewN ?_ _ | refine blk_drew ?_ | refine blk_alloc ?_ _)); refine blk_put (cs := #[.int .i64 a0_0, .slice A0_1 l0_1.length c0_1, .slice none 0 0, .bool false]) ?_ 2 _ rfl; (with_reducible repeat (first | refine blk_drewN ?_ _ | refine blk_drew ?_ | refine blk_alloc ?_ _)); refine blk_put (cs := #[.int .i64 a0_0, .slice none 0 0, .slice none 0 0, .bool false]) ?_ 1 _ rfl; (with_reducible repeat (first | refine blk_drewN ?_ _ | refine blk_drew ?_ | refine blk_alloc ?_ _)); refine blk_put (cs := #[.int .i64 0, .slice none 0 0, .slice none 0 0, .bool false]) ?_ 0 _ rfl; (with_reducible repeat (first | refine blk_drewN ?_ _ | refine blk_drew ?_ | refine blk_alloc ?_ _)); exact BK281.out) Try.underlying34 rfl (by kernel_rfl)) rfl ?_
      exact ⟨_, _, by first | rfl | (simp [errW_none, errW_some] <;> rfl) | (simp [*, errW_none, errW_some] <;> rfl), by (with_reducible repeat (first | apply Kd.V_alloc | apply Kd.V_drewN | apply Kd.V_drew)); exact Kd.V_mono (Kd.V_far (p := ⟨gb281, 3, none⟩) (Kd.V_far (p := ⟨gb281, 2, none⟩) (Kd.V_far (p := ⟨gb281, 1, none⟩) (Kd.V_far (p := ⟨gb281, 0, none⟩) (Kd.V_mono HO0_1.out (fun k_ hk => (⟨hk, hk.1.2⟩ : _ ∧ k_ ≠ gb281))) (fun _ hk => hk.2) (.int .i64 a0_0)) (fun _ hk => hk.2) (.slice A0_1 l0_1.length c0_1)) (fun _ hk => hk.2) (.slice A0_2 l0_2.length c0_2)) (fun _ hk => hk.2) (.bool false)) (fun _ hk => hk.1.1.1.1), by (with_reducible repeat (first | apply Kd.V_alloc | apply Kd.V_drewN | apply Kd.V_drew)); exact Kd.V_mono (Kd.V_far (p := ⟨gb281, 3, none⟩) (Kd.V_far (p := ⟨gb281, 2, none⟩) (Kd.V_far (p := ⟨gb281, 1, none⟩) (Kd.V_far (p := ⟨gb281, 0, none⟩) (Kd.V_mono HO0_2.out (fun k_ hk => (⟨hk, hk.1.2⟩ : _ ∧ k_ ≠ gb281))) (fun _ hk => hk.2) (.int .i64 a0_0)) (fun _ hk => hk.2) (.slice A0_1 l0_1.length c0_1)) (fun _ hk => hk.2) (.slice A0_2 l0_2.length c0_2)) (fun _ hk => hk.2) (.bool false)) (fun _ hk => hk.1.1.1.1), by repeat (first | (with_reducible first | exact HB.out | apply below_alloc | apply pw_below_drewN | apply below_drew1 | refine below_set ?_ GE280.out | refine below_set ?_ GE281.out) | exact HB.out)⟩
  rw [if_pos c12] at H
  have c12b0 : (t286 == 0) = true := beq_iff_eq.mpr c12
  have c12b1 : (t286 != 0) = false := bne_eq_false_iff_eq.mpr c12
  clear c12
  by_cases c13 : ([] : List (List Int)).length + l0_2.length < 5864062014805
  case neg =>
    rw [if_neg c13] at H
    exact absurd H (by simp)
  rw [if_pos c13] at H
  have LMc13 := K0 c13; clear c13
  obtain ⟨y287, hy287⟩ : ∃ y_ : List (List Int), y_ = (([] : List (List Int)) ++ l0_2) := ⟨_, rfl⟩
  replace H : (if y287.length < 5864062014805 then ((sequiturref20_On.f k a0_0 l0_1 (y287 ++ [(([a1] : List Int))]) false).bind fun bt296 => (some (bt296.1, bt296.2.1, bt296.2.2.1, bt296.2.2.2, true))) else (none)) = some (r1, r2, r3, r4, r5) := by first | (rw [hy287]; with_reducible exact H) | (have H2_ := (Option.bind_some _ _).symm.trans H; rw [hy287]; with_reducible exact H2_) | (have H2_ := (Option.bind_some _ _).symm.trans H; with_reducible exact H2_) | with_reducible exact H | (rw [hy287]; exact H) | exact H
  have Ny287 := K0 hy287; clear hy287
  obtain ⟨y290, hy290⟩ : ∃ y_ : List Int, y_ = (([a1] : List Int)) := ⟨_, rfl⟩
  replace H : (if y287.length < 5864062014805 then ((sequiturref20_On.f k a0_0 l0_1 (y287 ++ [y290]) false).bind fun bt296 => (some (bt296.1, bt296.2.1, bt296.2.2.1, bt296.2.2.2, true))) else (none)) = some (r1, r2, r3, r4, r5) := by first | (rw [hy290]; with_reducible exact H) | (have H2_ := (Option.bind_some _ _).symm.trans H; rw [hy290]; with_reducible exact H2_) | (have H2_ := (Option.bind_some _ _).symm.trans H; with_reducible exact H2_) | with_reducible exact H | (rw [hy290]; exact H) | exact H
  have Ny290 := K0 hy290; clear hy290
  by_cases c14 : y287.length < 5864062014805
  case neg =>
    rw [if_neg c14] at H
    exact absurd H (by simp)
  rw [if_pos c14] at H
  have LMc14 := K0 c14; clear c14
  obtain ⟨y293, hy293⟩ : ∃ y_ : List (List Int), y_ = (y287 ++ [y290]) := ⟨_, rfl⟩
  replace H : ((sequiturref20_On.f k a0_0 l0_1 y293 false).bind fun bt296 => (some (bt296.1, bt296.2.1, bt296.2.2.1, bt296.2.2.2, true))) = some (r1, r2, r3, r4, r5) := by first | (rw [hy293]; with_reducible exact H) | (have H2_ := (Option.bind_some _ _).symm.trans H; rw [hy293]; with_reducible exact H2_) | (have H2_ := (Option.bind_some _ _).symm.trans H; with_reducible exact H2_) | with_reducible exact H | (rw [hy293]; exact H) | exact H
  have Ny293 := K0 hy293; clear hy293
  replace H := Option.bind_eq_some_iff.mp H
  obtain ⟨⟨t296, t297, t300, t303⟩, A150, H⟩ := H
  replace H : (some (t296, t297, t300, t303, true)) = some (r1, r2, r3, r4, r5) := H
  have A15 := K0 A150; clear A150
  as_aux_lemma =>
    simp only [Option.some.injEq, Prod.mk.injEq] at H
    obtain ⟨rfl, rfl, rfl, rfl, rfl⟩ := H
    go_enter Try.func48, Try.ntmps48
    go_wp2_with (first | ((with_reducible refine gate_dst (N := 2) rfl ?_); (try (refine gate_guard (by rfl) ?_; dsimp only)); refine box_event ?hg (N := 2) ?hd (cs := #[.int .i64 a0_0, .slice A0_1 l0_1.length c0_1, .slice A0_2 l0_2.length c0_2, .bool false]) (t := 34) ?hr ?_; (case hd => rfl); (case hg => rfl); (case hr => first | (go_simp; done) | (go_simp; rfl)); intro gb280 hg w16 hbox hb; have n0_ := K0 (Kd.V_below (Kd.V_elderB (by (with_reducible repeat (first | apply Kd.V_alloc | apply Kd.V_drewN | apply Kd.V_drew)); exact HO0_1.out) gb280 (Nat.le_of_eq hg.symm)) hb); have n1_ := K0 (Kd.V_below (Kd.V_elderB (by (with_reducible repeat (first | apply Kd.V_alloc | apply Kd.V_drewN | apply Kd.V_drew)); exact HO0_2.out) gb280 (Nat.le_of_eq hg.symm)) hb); have n2_ := K0 (below_step (by repeat (first | (with_reducible first | exact HB.out | apply below_alloc | apply pw_below_drewN | apply below_drew1) | exact HB.out)) hb); have n3_ := K0 (hbox); have n4_ := K0 ((by rw [hg]; exact (below_size (by repeat (first | (with_reducible first | exact HB.out | apply below_alloc | apply pw_below_drewN | apply below_drew1) | exact HB.out))) : w.heap.size ≤ gb280)); have n5_ := K0 ((by rw [hg]; exact (below_size (by repeat (first | (with_reducible first | exact HB.out | apply below_alloc | apply pw_below_drewN | apply below_drew1) | exact HB.out))) : w.heap.size ≤ gb280)); clear HO0_1; clear HO0_2; clear HB; have HO0_1 := n0_; have HO0_2 := n1_; have HB := n2_; have BK280 := n3_; have GW280 := n4_; have GE280 := n5_; clear n0_ n1_ n2_ n3_ n4_ n5_; clear hb hbox hg) | ((with_reducible refine gate_dst (N := 4) rfl ?_); (try (refine gate_guard (by rfl) ?_; dsimp only)); refine box_event ?hg (N := 4) ?hd (cs := #[.int .i64 0, .slice none 0 0, .slice none 0 0, .bool false]) (t := 34) ?hr ?_; (case hd => rfl); (case hg => rfl); (case hr => first | (go_simp; done) | (go_simp; rfl)); intro gb281 hg w17 hbox hb; have n0_ := K0 (Kd.V_below (Kd.V_elderB (by (with_reducible repeat (first | apply Kd.V_alloc | apply Kd.V_drewN | apply Kd.V_drew)); exact HO0_1.out) gb281 (Nat.le_of_eq hg.symm)) hb); have n1_ := K0 (Kd.V_below (Kd.V_elderB (by (with_reducible repeat (first | apply Kd.V_alloc | apply Kd.V_drewN | apply Kd.V_drew)); exact HO0_2.out) gb281 (Nat.le_of_eq hg.symm)) hb); have n2_ := K0 (blk_below (g := gb280) (o := .cells #[.int .i64 a0_0, .slice A0_1 l0_1.length c0_1, .slice A0_2 l0_2.length c0_2, .bool false] 34 (0, 0)) (by (with_reducible repeat (first | refine blk_drewN ?_ _ | refine blk_drew ?_ | refine blk_alloc ?_ _)); exact BK280.out) hb); have n3_ := K0 (below_step (by repeat (first | (with_reducible first | exact HB.out | apply below_alloc | apply pw_below_drewN | apply below_drew1 | refine below_set ?_ GE280.out) | exact HB.out)) hb); have n4_ := K0 (hbox); have n5_ := K0 ((by rw [hg]; exact (below_size (by repeat (first | (with_reducible first | exact HB.out | apply below_alloc | apply pw_below_drewN | apply below_drew1 | refine below_set ?_ GE280.out) | exact HB.out))) : w.heap.size ≤ gb281)); have n6_ := K0 ((by rw [hg]; exact (below_size (by repeat (first | (with_reducible first | exact HB.out | apply below_alloc | apply pw_below_drewN | apply below_drew1 | refine below_set ?_ GE280.out) | exact HB.out))) : w.heap.size ≤ gb281)); have n7_ := K0 ((by rw [hg]; exact Nat.ne_of_lt (blk_lt (g := gb280) (o := .cells #[.int .i64 a0_0, .slice A0_1 l0_1.length c0_1, .slice A0_2 l0_2.length c0_2, .bool false] 34 (0, 0)) (by (with_reducible repeat (first | refine blk_drewN ?_ _ | refine blk_drew ?_ | refine blk_alloc ?_ _)); exact BK280.out)) : gb280 ≠ gb281)); have n8_ := K0 ((by rw [hg]; exact Nat.ne_of_gt (blk_lt (g := gb280) (o := .cells #[.int .i64 a0_0, .slice A0_1 l0_1.length c0_1, .slice A0_2 l0_2.length c0_2, .bool false] 34 (0, 0)) (by (with_reducible repeat (first | refine blk_drewN ?_ _ | refine blk_drew ?_ | refine blk_alloc ?_ _)); exact BK280.out)) : gb281 ≠ gb280)); clear HO0_1; clear HO0_2; clear BK280; clear HB; have HO0_1 := n0_; have HO0_2 := n1_; have BK280 := n2_; have HB := n3_; have BK281 := n4_; have GW281 := n5_; have GE281 := n6_; have NB280_281 := n7_; have NB281_280 := n8_; clear n0_ n1_ n2_ n3_ n4_ n5_ n6_ n7_ n8_; clear hb hbox hg; have hnb18 := NB280_281.out; have hnc18 := NB281_280.out; have hcz19_0 : w17.cell? ⟨gb280, 0, none⟩ = some (.int .i64 a0_0) := (blk_cell BK280.out 0).trans rfl; have hcz19_1 : w17.cell? ⟨gb280, 1, none⟩ = some (.slice A0_1 l0_1.length c0_1) := (blk_cell BK280.out 1).trans rfl; have hcz19_2 : w17.cell? ⟨gb280, 2, none⟩ = some (.slice A0_2 l0_2.length c0_2) := (blk_cell BK280.out 2).trans rfl; have hcz19_3 : w17.cell? ⟨gb280, 3, none⟩ = some (.bool false) := (blk_cell BK280.out 3).trans rfl; have hfz19_0 := blk_frozen BK280.out 0; have hfz19_1 := blk_frozen BK280.out 1; have hfz19_2 := blk_frozen BK280.out 2; have hfz19_3 := blk_frozen BK280.out 3) | ((with_reducible refine gate_dst (N := 11) rfl ?_); (try (refine gate_guard (by rfl) ?_; dsimp only)); refine Kd.R_lit (Kd.int .i64) _ 3 ?hg (N := 11) ?hd (xs := ([a1] : List Int)) (inner := [.int .i64 a1]) (ok := fun _ => True) (okp := fun _ => True) ?hr ?hp (fun _ hk => hk) trivial (Below.refl _ _) (Nat.le_refl _) (by simp) ?_; (case hd => rfl); (case hg => rfl); (case hr => first | (go_simp; done) | (go_simp; rfl)); (case hp => exact (Reps.one (show Kd.M (Kd.int .i64) _ _ _ a1 [.int .i64 a1] from rfl) (Reps.none _ _))); intro v283 w20 ho21 hb hg_ hnew_; clear hg_ hnew_; (first | rw [← Ny282.out] at ho21 | (simp only [Int.reduceToNat] at ho21; rw [← Ny282.out] at ho21)); have n0_ := K0 (Kd.V_elder' (by (with_reducible repeat (first | apply Kd.V_alloc | apply Kd.V_drewN | apply Kd.V_drew)); exact HO0_1.out) (Kd.R_base ho21) hb); have n1_ := K0 (Kd.V_elder' (by (with_reducible repeat (first | apply Kd.V_alloc | apply Kd.V_drewN | apply Kd.V_drew)); exact HO0_2.out) (Kd.R_base ho21) hb); have n2_ := K0 (Kd.R_lower (Kd.R_newM (M := fun k_ => (w.heap.size ≤ k_)) ho21 (below_size (by repeat (first | (with_reducible first | exact HB.out | apply below_alloc | apply pw_below_drewN | apply below_drew1 | refine below_set ?_ GE280.out | refine below_set ?_ GE281.out) | exact HB.out))) (fun k_ h_ => h_)) (below_size (by repeat (first | (with_reducible first | exact HB.out | apply below_alloc | apply pw_below_drewN | apply below_drew1 | refine below_set ?_ GE280.out | refine below_set ?_ GE281.out) | exact HB.out)))); have n3_ := K0 (blk_below (g := gb280) (o := .cells #[.int .i64 a0_0, .slice A0_1 l0_1.length c0_1, .slice A0_2 l0_2.length c0_2, .bool false] 34 (0, 0)) (by (with_reducible repeat (first | refine blk_drewN ?_ _ | refine blk_drew ?_ | refine blk_alloc ?_ _)); exact BK280.out) hb); have n4_ := K0 (blk_below (g := gb281) (o := .cells #[.int .i64 0, .slice none 0 0, .slice none 0 0, .bool false] 34 (0, 0)) (by (with_reducible repeat (first | refine blk_drewN ?_ _ | refine blk_drew ?_ | refine blk_alloc ?_ _)); exact BK281.out) hb); have n5_ := K0 (below_step (by repeat (first | (with_reducible first | exact HB.out | apply below_alloc | apply pw_below_drewN | apply below_drew1 | refine below_set ?_ GE280.out | refine below_set ?_ GE281.out) | exact HB.out)) hb); clear HO0_1; clear HO0_2; clear BK280; clear BK281; clear HB; have HO0_1 := n0_; have HO0_2 := n1_; have HO284 := n2_; have BK280 := n3_; have BK281 := n4_; have HB := n5_; clear n0_ n1_ n2_ n3_ n4_ n5_; clear hb ho21; have hcz22_0 : w20.cell? ⟨gb280, 0, none⟩ = some (.int .i64 a0_0) := (blk_cell BK280.out 0).trans rfl; have hcz22_1 : w20.cell? ⟨gb280, 1, none⟩ = some (.slice A0_1 l0_1.length c0_1) := (blk_cell BK280.out 1).trans rfl; have hcz22_2 : w20.cell? ⟨gb280, 2, none⟩ = some (.slice A0_2 l0_2.length c0_2) := (blk_cell BK280.out 2).trans rfl; have hcz22_3 : w20.cell? ⟨gb280, 3, none⟩ = some (.bool false) := (blk_cell BK280.out 3).trans rfl; have hfz22_0 := blk_frozen BK280.out 0; have hfz22_1 := blk_frozen BK280.out 1; have hfz22_2 := blk_frozen BK280.out 2; have hfz22_3 := blk_frozen BK280.out 3; obtain ⟨Ao23, co23, eo23⟩ := Kd.R_slice HO284.out; subst eo23) | (go_at_call 38; (with_reducible refine (sequiturref17_Right.calls k _ _ y282 a0_0 t285 _ ?side1 ?side2 A9.out).mono ?_); (case side1 => repeat (first | exact (Kd.R_reads' HO284.out).2.2 | (with_reducible refine Kd.C_alloc ?_ _) | (with_reducible refine Kd.C_drewN ?_ _) | (with_reducible refine Kd.C_drew ?_))); (case side2 => exact (Kd.R_reads' HO284.out).2.1); rintro e w' ⟨rfl, ⟨nd, rfl⟩⟩; (try (rw [drewN_self w20]; generalize hq_ : World.drewN w20 _ = w20; have n0_ := K0 (Kd.V_drewN HO0_1.out nd); rw [hq_] at n0_; have n1_ := K0 (Kd.V_drewN HO0_2.out nd); rw [hq_] at n1_; have n2_ := K0 (Kd.R_drewN HO284.out nd); rw [hq_] at n2_; have n3_ : Aside0 (w20.heap[gb280]? = some (.cells #[.int .i64 a0_0, .slice A0_1 l0_1.length c0_1, .slice A0_2 l0_2.length c0_2, .bool false] 34 (0, 0))) := ⟨by rw [← hq_]; exact (by (with_reducible repeat (first | refine blk_drewN ?_ _ | refine blk_drew ?_ | refine blk_alloc ?_ _)); exact BK280.out)⟩; have n4_ : Aside0 (w20.heap[gb281]? = some (.cells #[.int .i64 0, .slice none 0 0, .slice none 0 0, .bool false] 34 (0, 0))) := ⟨by rw [← hq_]; exact (by (with_reducible repeat (first | refine blk_drewN ?_ _ | refine blk_drew ?_ | refine blk_alloc ?_ _)); exact BK281.out)⟩; have n5_ : Aside0 (Below w.heap.size w w20) := ⟨by rw [← hq_]; exact (by repeat (first | (with_reducible first | exact HB.out | apply below_alloc | apply pw_below_drewN | apply below_drew1 | refine below_set ?_ GE280.out | refine below_set ?_ GE281.out) | exact HB.out))⟩; clear HO0_1 HO0_2 HO284 BK280 BK281 HB hq_; have HO0_1 := n0_; have HO0_2 := n1_; have HO284 := n2_; have BK280 := n3_; have BK281 := n4_; have HB := n5_; clear n0_ n1_ n2_ n3_ n4_ n5_; have hdz280_0 : w20.cell? ⟨gb280, 0, none⟩ = some (.int .i64 a0_0) := (blk_cell BK280.out 0).trans rfl; have hdf280_0 := blk_frozen BK280.out 0; have hdz280_1 : w20.cell? ⟨gb280, 1, none⟩ = some (.slice A0_1 l0_1.length c0_1) := (blk_cell BK280.out 1).trans rfl; have hdf280_1 := blk_frozen BK280.out 1; have hdz280_2 : w20.cell? ⟨gb280, 2, none⟩ = some (.slice A0_2 l0_2.length c0_2) := (blk_cell BK280.out 2).trans rfl; have hdf280_2 := blk_frozen BK280.out 2; have hdz280_3 : w20.cell? ⟨gb280, 3, none⟩ = some (.bool false) := (blk_cell BK280.out 3).trans rfl; have hdf280_3 := blk_frozen BK280.out 3; have hdz281_0 : w20.cell? ⟨gb281, 0, none⟩ = some (.int .i64 0) := (blk_cell BK281.out 0).trans rfl; have hdf281_0 := blk_frozen BK281.out 0; have hdz281_1 : w20.cell? ⟨gb281, 1, none⟩ = some (.slice none 0 0) := (blk_cell BK281.out 1).trans rfl; have hdf281_1 := blk_frozen BK281.out 1; have hdz281_2 : w20.cell? ⟨gb281, 2, none⟩ = some (.slice none 0 0) := (blk_cell BK281.out 2).trans rfl; have hdf281_2 := blk_frozen BK281.out 2; have hdz281_3 : w20.cell? ⟨gb281, 3, none⟩ = some (.bool false) := (blk_cell BK281.out 3).trans rfl; have hdf281_3 := blk_frozen BK281.out 3))) | (go_at_call 79; (with_reducible refine (sequiturref20_Value.calls k a0_0 _ _ l0_1 _ _ l0_2 false a1 t286 _ ?side1 ?side2 ?side3 ?side4 A11.out).mono ?_); (case side1 => repeat (first | exact (Kd.V_reads' HO0_1.out).2.2 | (with_reducible refine Kd.C_alloc ?_ _) | (with_reducible refine Kd.C_drewN ?_ _) | (with_reducible refine Kd.C_drew ?_))); (case side2 => exact (Kd.V_reads' HO0_1.out).2.1); (case side3 => repeat (first | exact (Kd.V_reads' HO0_2.out).2.2 | (with_reducible refine Kd.C_alloc ?_ _) | (with_reducible refine Kd.C_drewN ?_ _) | (with_reducible refine Kd.C_drew ?_))); (case side4 => exact (Kd.V_reads' HO0_2.out).2.1); rintro e w24 ⟨rfl, hb⟩; have n0_ := K0 (Kd.V_below (by (with_reducible repeat (first | apply Kd.V_alloc | apply Kd.V_drewN | apply Kd.V_drew)); exact HO0_1.out) hb); have n1_ := K0 (Kd.V_below (by (with_reducible repeat (first | apply Kd.V_alloc | apply Kd.V_drewN | apply Kd.V_drew)); exact HO0_2.out) hb); have n2_ := K0 (Kd.R_below (by (with_reducible repeat (first | apply Kd.R_alloc | apply Kd.R_drewN | apply Kd.R_drew)); exact HO284.out) hb); have n3_ := K0 (blk_below (g := gb280) (o := .cells #[.int .i64 a0_0, .slice A0_1 l0_1.length c0_1, .slice A0_2 l0_2.length c0_2, .bool false] 34 (0, 0)) (by (with_reducible repeat (first | refine blk_drewN ?_ _ | refine blk_drew ?_ | refine blk_alloc ?_ _)); exact BK280.out) hb); have n4_ := K0 (blk_below (g := gb281) (o := .cells #[.int .i64 0, .slice none 0 0, .slice none 0 0, .bool false] 34 (0, 0)) (by (with_reducible repeat (first | refine blk_drewN ?_ _ | refine blk_drew ?_ | refine blk_alloc ?_ _)); exact BK281.out) hb); have n5_ := K0 (below_step (by repeat (first | (with_reducible first | exact HB.out | apply below_alloc | apply pw_below_drewN | apply below_drew1 | refine below_set ?_ GE280.out | refine below_set ?_ GE281.out) | exact HB.out)) hb); clear HO0_1; clear HO0_2; clear HO284; clear BK280; clear BK281; clear HB; have HO0_1 := n0_; have HO0_2 := n1_; have HO284 := n2_; have BK280 := n3_; have BK281 := n4_; have HB := n5_; clear n0_ n1_ n2_ n3_ n4_ n5_; (try clear hb); (try clear hb2); (try clear hk); (try clear hi); have hcz25_0 : w24.cell? ⟨gb280, 0, none⟩ = some (.int .i64 a0_0) := (blk_cell BK280.out 0).trans rfl; have hcz25_1 : w24.cell? ⟨gb280, 1, none⟩ = some (.slice A0_1 l0_1.length c0_1) := (blk_cell BK280.out 1).trans rfl; have hcz25_2 : w24.cell? ⟨gb280, 2, none⟩ = some (.slice A0_2 l0_2.length c0_2) := (blk_cell BK280.out 2).trans rfl; have hcz25_3 : w24.cell? ⟨gb280, 3, none⟩ = some (.bool false) := (blk_cell BK280.out 3).trans rfl; have hfz25_0 := blk_frozen BK280.out 0; have hfz25_1 := blk_frozen BK280.out 1; have hfz25_2 := blk_frozen BK280.out 2; have hfz25_3 := blk_frozen BK280.out 3) | ((with_reducible refine gate_builtin (b := .append) (xs := #[.tmp 24, .tmp 26]) rfl ?_); (try (refine gate_guard (by rfl) ?_; dsimp only)); at_builtin; refine Kd.N_append_rows (Kd.slice 3 (Kd.int .i64)) (w0 := w) w.heap.size rfl (.tmp 24) (.tmp 26) 22 37 (.slice none 0 0) 24 rfl Try.underlying22 info37 rfl (by decide) (by omega) (.slice none 0 0) ([] : List (List Int)) l0_2 _ _ _ (fun k_ => ((P0_1_ k_ ∨ P0_2_ k_) ∨ w.heap.size ≤ k_) ∧ some k_ ≠ (.slice Ao23 y282.length co23 : Value).ownBlock ∧ k_ ≠ gb280 ∧ k_ ≠ gb281) (fun k_ => ((fun k_ => ((P0_1_ k_ ∨ P0_2_ k_) ∨ w.heap.size ≤ k_) ∧ some k_ ≠ (.slice Ao23 y282.length co23 : Value).ownBlock ∧ k_ ≠ gb280 ∧ k_ ≠ gb281)) k_ ∧ some k_ ≠ (.slice none 0 0 : Value).ownBlock) rfl rfl ?aO ?aR (fun _ hk => hk) ?aF ?aB ?aS ?aL ?_; (case aR => exact (by skip; exact Kd.V_F (Kd.V_mono (ok' := (fun k_ => ((fun k_ => ((P0_1_ k_ ∨ P0_2_ k_) ∨ w.heap.size ≤ k_) ∧ some k_ ≠ (.slice Ao23 y282.length co23 : Value).ownBlock ∧ k_ ≠ gb280 ∧ k_ ≠ gb281)) k_ ∧ some k_ ≠ (.slice none 0 0 : Value).ownBlock)) (HO0_2.out) (fun k_ hk => ⟨⟨hk.1.1.1, ⟨hk.2, ⟨hk.1.1.2, hk.1.2⟩⟩⟩, (by simp [Value.ownBlock])⟩)))); (case aB => exact (by repeat (first | (with_reducible first | exact HB.out | apply below_alloc | apply pw_below_drewN | apply below_drew1 | refine below_set ?_ GE280.out | refine below_set ?_ GE281.out) | exact HB.out))); (case aF => exact (fun k_ hk => ⟨(.inr (Nat.le_trans (below_size (by repeat (first | (with_reducible first | exact HB.out | apply below_alloc | apply pw_below_drewN | apply below_drew1 | refine below_set ?_ GE280.out | refine below_set ?_ GE281.out) | exact HB.out))) hk)), Kd.fresh' (Kd.R_lt (by (with_reducible repeat (first | apply Kd.R_alloc | apply Kd.R_drewN | apply Kd.R_drew)); exact HO284.out)) k_ hk, Kd.freshB (g := gb280) (o := .cells #[.int .i64 a0_0, .slice A0_1 l0_1.length c0_1, .slice A0_2 l0_2.length c0_2, .bool false] 34 (0, 0)) (by (with_reducible repeat (first | refine blk_drewN ?_ _ | refine blk_drew ?_ | refine blk_alloc ?_ _)); exact BK280.out) k_ hk, Kd.freshB (g := gb281) (o := .cells #[.int .i64 0, .slice none 0 0, .slice none 0 0, .bool false] 34 (0, 0)) (by (with_reducible repeat (first | refine blk_drewN ?_ _ | refine blk_drew ?_ | refine blk_alloc ?_ _)); exact BK281.out) k_ hk⟩)); (case aO => exact ((Kd.N_nil _ _ _ _ (fun k_ => ((P0_1_ k_ ∨ P0_2_ k_) ∨ w.heap.size ≤ k_) ∧ some k_ ≠ (.slice Ao23 y282.length co23 : Value).ownBlock ∧ k_ ≠ gb280 ∧ k_ ≠ gb281)))); (case aS => exact (below_size (by repeat (first | (with_reducible first | exact HB.out | apply below_alloc | apply pw_below_drewN | apply below_drew1 | refine below_set ?_ GE280.out | refine below_set ?_ GE281.out) | exact HB.out)))); (case aL => have := LMc13.out; omega); intro v288 w26 ho hb hg hat; rw [← Ny287.out] at ho; have n0_ := K0 (Kd.V_afterv (Kd.V_apart_nil (by (with_reducible repeat (first | apply Kd.V_alloc | apply Kd.V_drewN | apply Kd.V_drew)); exact HO0_1.out)) hg hat); have n1_ := K0 (Kd.V_afterv (Kd.V_apart_nil (by (with_reducible repeat (first | apply Kd.V_alloc | apply Kd.V_drewN | apply Kd.V_drew)); exact HO0_2.out)) hg hat); have n2_ := K0 (blk_grown (g := gb280) (o := .cells #[.int .i64 a0_0, .slice A0_1 l0_1.length c0_1, .slice A0_2 l0_2.length c0_2, .bool false] 34 (0, 0)) (by (with_reducible repeat (first | refine blk_drewN ?_ _ | refine blk_drew ?_ | refine blk_alloc ?_ _)); exact BK280.out) hg (by simp [Value.ownBlock])); have n3_ := K0 (blk_grown (g := gb281) (o := .cells #[.int .i64 0, .slice none 0 0, .slice none 0 0, .bool false] 34 (0, 0)) (by (with_reducible repeat (first | refine blk_drewN ?_ _ | refine blk_drew ?_ | refine blk_alloc ?_ _)); exact BK281.out) hg (by simp [Value.ownBlock])); have n4_ := K0 (Kd.R_grown (by (with_reducible repeat (first | apply Kd.R_alloc | apply Kd.R_drewN | apply Kd.R_drew)); exact HO284.out) hg (fun _ _ => by simp [Value.ownBlock])); have n5_ := K0 (hb); have n6_ := K0 (ho); clear HO0_1; clear HO0_2; clear BK280; clear BK281; clear HO284; clear HB; have HO0_1 := n0_; have HO0_2 := n1_; have BK280 := n2_; have BK281 := n3_; have HO284 := n4_; have HB := n5_; have HO289 := n6_; clear n0_ n1_ n2_ n3_ n4_ n5_ n6_; clear ho hb hg hat) | ((with_reducible refine gate_dst (N := 30) rfl ?_); (try (refine gate_guard (by rfl) ?_; dsimp only)); refine Kd.R_lit (Kd.int .i64) _ 3 ?hg (N := 30) ?hd (xs := ([a1] : List Int)) (inner := [.int .i64 a1]) (ok := fun _ => True) (okp := fun _ => True) ?hr ?hp (fun _ hk => hk) trivial (Below.refl _ _) (Nat.le_refl _) (by simp) ?_; (case hd => rfl); (case hg => rfl); (case hr => first | (go_simp; done) | (go_simp; rfl)); (case hp => exact (Reps.one (show Kd.M (Kd.int .i64) _ _ _ a1 [.int .i64 a1] from rfl) (Reps.none _ _))); intro v291 w27 ho28 hb hg_ hnew_; clear hg_ hnew_; (first | rw [← Ny290.out] at ho28 | (simp only [Int.reduceToNat] at ho28; rw [← Ny290.out] at ho28)); have n0_ := K0 (Kd.V_elder' (by (with_reducible repeat (first | apply Kd.V_alloc | apply Kd.V_drewN | apply Kd.V_drew)); exact HO0_1.out) (Kd.R_base ho28) hb); have n1_ := K0 (Kd.V_elder' (by (with_reducible repeat (first | apply Kd.V_alloc | apply Kd.V_drewN | apply Kd.V_drew)); exact HO0_2.out) (Kd.R_base ho28) hb); have n2_ := K0 (Kd.R_elder' (by (with_reducible repeat (first | apply Kd.R_alloc | apply Kd.R_drewN | apply Kd.R_drew)); exact HO284.out) (Kd.R_base ho28) hb); have n3_ := K0 (Kd.N_elder' (by (with_reducible repeat (first | apply Kd.N_alloc | apply Kd.N_drewN | apply Kd.N_drew)); exact HO289.out) (Kd.R_base ho28) hb); have n4_ := K0 (Kd.R_lower (Kd.R_new' (Kd.R_newM (M := fun k_ => (w.heap.size ≤ k_)) ho28 (below_size (by repeat (first | (with_reducible first | exact HB.out | apply below_alloc | apply pw_below_drewN | apply below_drew1 | refine below_set ?_ GE280.out | refine below_set ?_ GE281.out) | exact HB.out))) (fun k_ h_ => h_)) (Kd.R_lt (by (with_reducible repeat (first | apply Kd.R_alloc | apply Kd.R_drewN | apply Kd.R_drew)); exact HO284.out))) (below_size (by repeat (first | (with_reducible first | exact HB.out | apply below_alloc | apply pw_below_drewN | apply below_drew1 | refine below_set ?_ GE280.out | refine below_set ?_ GE281.out) | exact HB.out)))); have n5_ := K0 (blk_below (g := gb280) (o := .cells #[.int .i64 a0_0, .slice A0_1 l0_1.length c0_1, .slice A0_2 l0_2.length c0_2, .bool false] 34 (0, 0)) (by (with_reducible repeat (first | refine blk_drewN ?_ _ | refine blk_drew ?_ | refine blk_alloc ?_ _)); exact BK280.out) hb); have n6_ := K0 (blk_below (g := gb281) (o := .cells #[.int .i64 0, .slice none 0 0, .slice none 0 0, .bool false] 34 (0, 0)) (by (with_reducible repeat (first | refine blk_drewN ?_ _ | refine blk_drew ?_ | refine blk_alloc ?_ _)); exact BK281.out) hb); have n7_ := K0 (below_step (by repeat (first | (with_reducible first | exact HB.out | apply below_alloc | apply pw_below_drewN | apply below_drew1 | refine below_set ?_ GE280.out | refine below_set ?_ GE281.out) | exact HB.out)) hb); clear HO0_1; clear HO0_2; clear HO284; clear HO289; clear BK280; clear BK281; clear HB; have HO0_1 := n0_; have HO0_2 := n1_; have HO284 := n2_; have HO289 := n3_; have HO292 := n4_; have BK280 := n5_; have BK281 := n6_; have HB := n7_; clear n0_ n1_ n2_ n3_ n4_ n5_ n6_ n7_; clear hb ho28; obtain ⟨Ao30, co30, eo30⟩ := Kd.R_slice HO292.out; subst eo30) | ((with_reducible refine gate_builtin (b := .append) (xs := #[.tmp 28, .tmp 31]) rfl ?_); (try (refine gate_guard (by rfl) ?_; dsimp only)); at_builtin; refine Kd.N_append (Kd.slice 3 (Kd.int .i64)) (w0 := w) w.heap.size rfl (.tmp 28) (.tmp 31) 22 37 (.slice none 0 0) 24 rfl Try.underlying22 info37 rfl (by decide) (by omega) v288 y287 y290 [.slice Ao30 y290.length co30] (fun k_ => ((P0_1_ k_ ∨ P0_2_ k_) ∨ w.heap.size ≤ k_) ∧ some k_ ≠ (.slice Ao23 y282.length co23 : Value).ownBlock ∧ k_ ≠ gb280 ∧ k_ ≠ gb281) (fun k_ => ((fun k_ => ((P0_1_ k_ ∨ P0_2_ k_) ∨ w.heap.size ≤ k_) ∧ some k_ ≠ (.slice Ao23 y282.length co23 : Value).ownBlock ∧ k_ ≠ gb280 ∧ k_ ≠ gb281)) k_ ∧ some k_ ≠ (v288 : Value).ownBlock) rfl rfl ?aP (fun _ hk => hk) ?aF ?aO ?aB ?aS ?aL ?_; (case aP => exact (Kd.FK_slice_mk (Kd.R_reads' (Kd.R_mono (ok' := (fun k_ => ((fun k_ => ((P0_1_ k_ ∨ P0_2_ k_) ∨ w.heap.size ≤ k_) ∧ some k_ ≠ (.slice Ao23 y282.length co23 : Value).ownBlock ∧ k_ ≠ gb280 ∧ k_ ≠ gb281)) k_ ∧ some k_ ≠ (v288 : Value).ownBlock)) (Kd.R_types (Kd.R_types (Kd.R_apart' (HO292.out) (Kd.N_typed HO289.out) (by decide)) BK280.out (by decide)) BK281.out (by decide)) (fun k_ hk => ⟨⟨(.inr (hk.1.1.1.1.1)), ⟨hk.1.1.1.2, ⟨hk.1.2, hk.2⟩⟩⟩, hk.1.1.2⟩))).2.1 (Kd.R_F (Kd.R_mono (ok' := (fun k_ => ((fun k_ => ((P0_1_ k_ ∨ P0_2_ k_) ∨ w.heap.size ≤ k_) ∧ some k_ ≠ (.slice Ao23 y282.length co23 : Value).ownBlock ∧ k_ ≠ gb280 ∧ k_ ≠ gb281)) k_ ∧ some k_ ≠ (v288 : Value).ownBlock)) (Kd.R_types (Kd.R_types (Kd.R_apart' (HO292.out) (Kd.N_typed HO289.out) (by decide)) BK280.out (by decide)) BK281.out (by decide)) (fun k_ hk => ⟨⟨(.inr (hk.1.1.1.1.1)), ⟨hk.1.1.1.2, ⟨hk.1.2, hk.2⟩⟩⟩, hk.1.1.2⟩))))); (case aB => exact (by repeat (first | (with_reducible first | exact HB.out | apply below_alloc | apply pw_below_drewN | apply below_drew1 | refine below_set ?_ GE280.out | refine below_set ?_ GE281.out) | exact HB.out))); (case aF => exact (fun k_ hk => ⟨(.inr (Nat.le_trans (below_size (by repeat (first | (with_reducible first | exact HB.out | apply below_alloc | apply pw_below_drewN | apply below_drew1 | refine below_set ?_ GE280.out | refine below_set ?_ GE281.out) | exact HB.out))) hk)), Kd.fresh' (Kd.R_lt (by (with_reducible repeat (first | apply Kd.R_alloc | apply Kd.R_drewN | apply Kd.R_drew)); exact HO284.out)) k_ hk, Kd.freshB (g := gb280) (o := .cells #[.int .i64 a0_0, .slice A0_1 l0_1.length c0_1, .slice A0_2 l0_2.length c0_2, .bool false] 34 (0, 0)) (by (with_reducible repeat (first | refine blk_drewN ?_ _ | refine blk_drew ?_ | refine blk_alloc ?_ _)); exact BK280.out) k_ hk, Kd.freshB (g := gb281) (o := .cells #[.int .i64 0, .slice none 0 0, .slice none 0 0, .bool false] 34 (0, 0)) (by (with_reducible repeat (first | refine blk_drewN ?_ _ | refine blk_drew ?_ | refine blk_alloc ?_ _)); exact BK281.out) k_ hk⟩)); (case aO => exact (by (with_reducible repeat (first | apply Kd.N_alloc | apply Kd.N_drewN | apply Kd.N_drew)); exact Kd.N_mono HO289.out (fun _ hk => ⟨hk.1.1, ⟨hk.1.2.1, ⟨hk.1.2.2.1, hk.1.2.2.2⟩⟩⟩))); (case aS => exact (below_size (by repeat (first | (with_reducible first | exact HB.out | apply below_alloc | apply pw_below_drewN | apply below_drew1 | refine below_set ?_ GE280.out | refine below_set ?_ GE281.out) | exact HB.out)))); (case aL => have := LMc14.out; omega); intro v294 w29 ho hb hg hat; rw [← Ny293.out] at ho; have n0_ := K0 (Kd.V_afterv (ok := (fun k_ => ((P0_1_ k_ ∨ P0_2_ k_) ∨ w.heap.size ≤ k_) ∧ some k_ ≠ (.slice Ao23 y282.length co23 : Value).ownBlock ∧ some k_ ≠ (.slice Ao30 y290.length co30 : Value).ownBlock ∧ k_ ≠ gb280 ∧ k_ ≠ gb281)) (by (with_reducible repeat (first | apply Kd.V_alloc | apply Kd.V_drewN | apply Kd.V_drew)); exact Kd.V_mono HO0_1.out (fun _ hk => ⟨⟨hk.1.1.1.1.1, ⟨hk.1.1.2, ⟨hk.2, ⟨hk.1.1.1.1.2, hk.1.1.1.2⟩⟩⟩⟩, hk.1.2⟩)) hg hat); have n1_ := K0 (Kd.V_afterv (ok := (fun k_ => ((P0_1_ k_ ∨ P0_2_ k_) ∨ w.heap.size ≤ k_) ∧ some k_ ≠ (.slice Ao23 y282.length co23 : Value).ownBlock ∧ some k_ ≠ (.slice Ao30 y290.length co30 : Value).ownBlock ∧ k_ ≠ gb280 ∧ k_ ≠ gb281)) (by (with_reducible repeat (first | apply Kd.V_alloc | apply Kd.V_drewN | apply Kd.V_drew)); exact Kd.V_mono HO0_2.out (fun _ hk => ⟨⟨hk.1.1.1.1.1, ⟨hk.1.1.2, ⟨hk.2, ⟨hk.1.1.1.1.2, hk.1.1.1.2⟩⟩⟩⟩, hk.1.2⟩)) hg hat); have n2_ := K0 (blk_grown (g := gb280) (o := .cells #[.int .i64 a0_0, .slice A0_1 l0_1.length c0_1, .slice A0_2 l0_2.length c0_2, .bool false] 34 (0, 0)) (by (with_reducible repeat (first | refine blk_drewN ?_ _ | refine blk_drew ?_ | refine blk_alloc ?_ _)); exact BK280.out) hg (Kd.N_ne HO289.out BK280.out (by decide))); have n3_ := K0 (blk_grown (g := gb281) (o := .cells #[.int .i64 0, .slice none 0 0, .slice none 0 0, .bool false] 34 (0, 0)) (by (with_reducible repeat (first | refine blk_drewN ?_ _ | refine blk_drew ?_ | refine blk_alloc ?_ _)); exact BK281.out) hg (Kd.N_ne HO289.out BK281.out (by decide))); have n4_ := K0 (Kd.R_over' (by (with_reducible repeat (first | apply Kd.R_alloc | apply Kd.R_drewN | apply Kd.R_drew)); exact HO284.out) (Kd.N_typed (by (with_reducible repeat (first | apply Kd.N_alloc | apply Kd.N_drewN | apply Kd.N_drew)); exact HO289.out)) (by decide) hg); have n5_ := K0 (hb); have n6_ := K0 (ho); clear HO0_1; clear HO0_2; clear BK280; clear BK281; clear HO284; clear HB; clear HO289; clear HO292; have HO0_1 := n0_; have HO0_2 := n1_; have BK280 := n2_; have BK281 := n3_; have HO284 := n4_; have HB := n5_; have HO295 := n6_; clear n0_ n1_ n2_ n3_ n4_ n5_ n6_; clear ho hb hg hat; obtain ⟨Ao31, co31, eo31⟩ := Kd.N_slice HO295.out; subst eo31; have hcz32_0 : w29.cell? ⟨gb280, 0, none⟩ = some (.int .i64 a0_0) := (blk_cell BK280.out 0).trans rfl; have hcz32_1 : w29.cell? ⟨gb280, 1, none⟩ = some (.slice A0_1 l0_1.length c0_1) := (blk_cell BK280.out 1).trans rfl; have hcz32_2 : w29.cell? ⟨gb280, 2, none⟩ = some (.slice A0_2 l0_2.length c0_2) := (blk_cell BK280.out 2).trans rfl; have hcz32_3 : w29.cell? ⟨gb280, 3, none⟩ = some (.bool false) := (blk_cell BK280.out 3).trans rfl; have hfz32_0 := blk_frozen BK280.out 0; have hfz32_1 := blk_frozen BK280.out 1; have hfz32_2 := blk_frozen BK280.out 2; have hfz32_3 := blk_frozen BK280.out 3) | ((with_reducible refine gate_store (t := 22) (p := 33) rfl ?_); refine store_event (t := 22) (p := 33) (v := ?vo_w33) (w1 := (w29.setCell ⟨gb280, 2, none⟩ (.slice Ao31 y293.length co31))) ?hg ?ho ?hn ?hr ?_; (case ho => rfl); (case hg => rfl); (case hn => rfl); (case hr => first | (go_simp; done) | (go_simp; rfl)); intro w33 hw; have n0_ : Aside0 (Kd.V (Kd.slice 3 (Kd.int .i64)) 37 w33 w.heap.size (fun k_ => ((P0_1_ k_ ∨ P0_2_ k_) ∨ w.heap.size ≤ k_) ∧ some k_ ≠ (.slice Ao23 y282.length co23 : Value).ownBlock ∧ some k_ ≠ (.slice Ao31 y293.length co31 : Value).ownBlock ∧ k_ ≠ gb280 ∧ k_ ≠ gb281) (.slice A0_1 l0_1.length c0_1) l0_1) := ⟨(by rw [hw]; exact (by (with_reducible repeat (first | apply Kd.V_alloc | apply Kd.V_drewN | apply Kd.V_drew)); exact Kd.V_mono (Kd.V_far (p := ⟨gb280, 2, none⟩) (Kd.V_mono HO0_1.out (fun k_ hk => (⟨hk, hk.1.2.2.2.1⟩ : _ ∧ k_ ≠ gb280))) (fun _ hk => hk.2) (.slice Ao31 y293.length co31)) (fun _ hk => ⟨hk.1.1.1, ⟨hk.1.1.2.1, ⟨hk.1.2, ⟨hk.1.1.2.2.2.1, hk.1.1.2.2.2.2⟩⟩⟩⟩)))⟩; have n1_ : Aside0 (Kd.V (Kd.slice 3 (Kd.int .i64)) 37 w33 w.heap.size (fun k_ => ((P0_1_ k_ ∨ P0_2_ k_) ∨ w.heap.size ≤ k_) ∧ some k_ ≠ (.slice Ao23 y282.length co23 : Value).ownBlock ∧ some k_ ≠ (.slice Ao31 y293.length co31 : Value).ownBlock ∧ k_ ≠ gb280 ∧ k_ ≠ gb281) (.slice A0_2 l0_2.length c0_2) l0_2) := ⟨(by rw [hw]; exact (by (with_reducible repeat (first | apply Kd.V_alloc | apply Kd.V_drewN | apply Kd.V_drew)); exact Kd.V_mono (Kd.V_far (p := ⟨gb280, 2, none⟩) (Kd.V_mono HO0_2.out (fun k_ hk => (⟨hk, hk.1.2.2.2.1⟩ : _ ∧ k_ ≠ gb280))) (fun _ hk => hk.2) (.slice Ao31 y293.length co31)) (fun _ hk => ⟨hk.1.1.1, ⟨hk.1.1.2.1, ⟨hk.1.2, ⟨hk.1.1.2.2.2.1, hk.1.1.2.2.2.2⟩⟩⟩⟩)))⟩; have n2_ : Aside0 (Kd.R (Kd.int .i64) 3 w33 w.heap.size (fun k_ => (w.heap.size ≤ k_)) (.slice Ao23 y282.length co23) y282) := ⟨(by rw [hw]; exact (by (with_reducible repeat (first | apply Kd.R_alloc | apply Kd.R_drewN | apply Kd.R_drew)); exact Kd.R_mono (Kd.R_far (p := ⟨gb280, 2, none⟩) (Kd.R_types HO284.out BK280.out (by decide)) (fun _ hk => hk.2) (.slice Ao31 y293.length co31)) (fun _ hk => hk.1.1.1)))⟩; have n3_ : Aside0 (Kd.N (Kd.slice 3 (Kd.int .i64)) 37 w33 w.heap.size (fun k_ => ((P0_1_ k_ ∨ P0_2_ k_) ∨ w.heap.size ≤ k_) ∧ some k_ ≠ (.slice Ao23 y282.length co23 : Value).ownBlock ∧ k_ ≠ gb280 ∧ k_ ≠ gb281) (.slice Ao31 y293.length co31) y293) := ⟨(by rw [hw]; exact (by (with_reducible repeat (first | apply Kd.N_alloc | apply Kd.N_drewN | apply Kd.N_drew)); exact Kd.N_mono (Kd.N_far (p := ⟨gb280, 2, none⟩) (Kd.N_mono HO295.out (fun k_ hk => (⟨hk, hk.2.2.1⟩ : _ ∧ k_ ≠ gb280))) (fun _ hk => hk.2) (.slice Ao31 y293.length co31)) (fun _ hk => ⟨hk.1.1, ⟨hk.1.2.1, ⟨hk.1.2.2.1, hk.1.2.2.2⟩⟩⟩)))⟩; have n4_ : Aside0 (w33.heap[gb280]? = some (.cells #[.int .i64 a0_0, .slice A0_1 l0_1.length c0_1, .slice Ao31 y293.length co31, .bool false] 34 (0, 0))) := ⟨(by rw [hw]; exact (by (with_reducible repeat (first | refine blk_drewN ?_ _ | refine blk_drew ?_ | refine blk_alloc ?_ _)); refine blk_put (cs := #[.int .i64 a0_0, .slice A0_1 l0_1.length c0_1, .slice A0_2 l0_2.length c0_2, .bool false]) ?_ 2 _ rfl; (with_reducible repeat (first | refine blk_drewN ?_ _ | refine blk_drew ?_ | refine blk_alloc ?_ _)); exact BK280.out))⟩; have n5_ : Aside0 (w33.heap[gb281]? = some (.cells #[.int .i64 0, .slice none 0 0, .slice none 0 0, .bool false] 34 (0, 0))) := ⟨(by rw [hw]; exact (by (with_reducible repeat (first | refine blk_drewN ?_ _ | refine blk_drew ?_ | refine blk_alloc ?_ _)); refine blk_far ?_ NB281_280.out _; (with_reducible repeat (first | refine blk_drewN ?_ _ | refine blk_drew ?_ | refine blk_alloc ?_ _)); exact BK281.out))⟩; have n6_ : Aside0 (Below w.heap.size w w33) := ⟨(by rw [hw]; exact (by repeat (first | (with_reducible first | exact HB.out | apply below_alloc | apply pw_below_drewN | apply below_drew1 | refine below_set ?_ GE280.out | refine below_set ?_ GE281.out) | exact HB.out)))⟩; clear hw; clear HO0_1; clear HO0_2; clear HO284; clear HO295; clear BK280; clear BK281; clear HB; have HO0_1 := n0_; have HO0_2 := n1_; have HO284 := n2_; have HO295 := n3_; have BK280 := n4_; have BK281 := n5_; have HB := n6_; clear n0_ n1_ n2_ n3_ n4_ n5_ n6_; have hcz34_0 : w33.cell? ⟨gb280, 0, none⟩ = some (.int .i64 a0_0) := (blk_cell BK280.out 0).trans rfl; have hcz34_1 : w33.cell? ⟨gb280, 1, none⟩ = some (.slice A0_1 l0_1.length c0_1) := (blk_cell BK280.out 1).trans rfl; have hcz34_2 : w33.cell? ⟨gb280, 2, none⟩ = some (.slice Ao31 y293.length co31) := (blk_cell BK280.out 2).trans rfl; have hcz34_3 : w33.cell? ⟨gb280, 3, none⟩ = some (.bool false) := (blk_cell BK280.out 3).trans rfl; have hfz34_0 := blk_frozen BK280.out 0; have hfz34_1 := blk_frozen BK280.out 1; have hfz34_2 := blk_frozen BK280.out 2; have hfz34_3 := blk_frozen BK280.out 3) | ((with_reducible refine gate_callee (f := 40) rfl ?_); refine goesL_ (some 35) rfl rfl Try.func40 (by kernel_rfl) rfl #[.agg #[.int .i64 a0_0, .slice A0_1 l0_1.length c0_1, .slice Ao31 y293.length co31, .bool false]] rfl (by (try simp only [List.map_toArray, List.map_cons, List.map_nil]); first | done | rfl | (simp only [List.length_drop, List.length_take]; rfl)) ?_; (with_reducible refine (sequiturref20_On.calls k a0_0 (fun k_ => (((P0_1_ k_ ∨ P0_2_ k_) ∨ w.heap.size ≤ k_) ∧ (some k_ ≠ (.slice Ao23 y282.length co23 : Value).ownBlock ∧ (some k_ ≠ (.slice Ao31 y293.length co31 : Value).ownBlock ∧ (k_ ≠ gb280 ∧ k_ ≠ gb281))))) _ _ l0_1 (fun k_ => (((P0_1_ k_ ∨ P0_2_ k_) ∨ w.heap.size ≤ k_) ∧ (some k_ ≠ (.slice Ao23 y282.length co23 : Value).ownBlock ∧ (k_ ≠ gb280 ∧ k_ ≠ gb281)))) _ _ y293 false t296 t297 t300 t303 _ ?side1 ?side2 A15.out).mono ?_); (case side1 => exact HO0_1.out); (case side2 => exact Kd.N_V (HO295.out)); rintro e w35 ⟨v298, v301, rfl, ho0, ho1, hb⟩; refine ⟨_, rfl, ?_⟩; have n0_ := K0 (Kd.V_below (by (with_reducible repeat (first | apply Kd.V_alloc | apply Kd.V_drewN | apply Kd.V_drew)); exact HO0_1.out) hb); have n1_ := K0 (Kd.V_below (by (with_reducible repeat (first | apply Kd.V_alloc | apply Kd.V_drewN | apply Kd.V_drew)); exact HO0_2.out) hb); have n2_ := K0 (Kd.R_below (by (with_reducible repeat (first | apply Kd.R_alloc | apply Kd.R_drewN | apply Kd.R_drew)); exact HO284.out) hb); have n3_ := K0 (Kd.N_below (by (with_reducible repeat (first | apply Kd.N_alloc | apply Kd.N_drewN | apply Kd.N_drew)); exact HO295.out) hb); have n4_ := K0 (Kd.V_lower (Kd.V_mono (ok' := fun k_ => ((P0_1_ k_ ∨ P0_2_ k_) ∨ w.heap.size ≤ k_) ∧ some k_ ≠ (.slice Ao23 y282.length co23 : Value).ownBlock ∧ k_ ≠ gb280 ∧ k_ ≠ gb281) ho0 (fun k_ hk_ => ⟨Or.elim hk_ (fun hs_ => Or.elim hs_ (fun hs_ => hs_.1) (fun hs_ => hs_.1)) (fun hn_ => (.inr (Nat.le_trans (below_size (by repeat (first | (with_reducible first | exact HB.out | apply below_alloc | apply pw_below_drewN | apply below_drew1 | refine below_set ?_ GE280.out | refine below_set ?_ GE281.out) | exact HB.out))) hn_))), Or.elim hk_ (fun hs_ => Or.elim hs_ (fun hs_ => hs_.2.1) (fun hs_ => hs_.2.1)) (fun hn_ => (Kd.fresh' (Kd.R_lt (by (with_reducible repeat (first | apply Kd.R_alloc | apply Kd.R_drewN | apply Kd.R_drew)); exact HO284.out)) k_ hn_)), Or.elim hk_ (fun hs_ => Or.elim hs_ (fun hs_ => hs_.2.2.2.1) (fun hs_ => hs_.2.2.1)) (fun hn_ => (Kd.freshB (g := gb280) (o := .cells #[.int .i64 a0_0, .slice A0_1 l0_1.length c0_1, .slice Ao31 y293.length co31, .bool false] 34 (0, 0)) (by (with_reducible repeat (first | refine blk_drewN ?_ _ | refine blk_drew ?_ | refine blk_alloc ?_ _)); exact BK280.out) k_ hn_)), Or.elim hk_ (fun hs_ => Or.elim hs_ (fun hs_ => hs_.2.2.2.2) (fun hs_ => hs_.2.2.2)) (fun hn_ => (Kd.freshB (g := gb281) (o := .cells #[.int .i64 0, .slice none 0 0, .slice none 0 0, .bool false] 34 (0, 0)) (by (with_reducible repeat (first | refine blk_drewN ?_ _ | refine blk_drew ?_ | refine blk_alloc ?_ _)); exact BK281.out) k_ hn_))⟩)) (below_size (by repeat (first | (with_reducible first | exact HB.out | apply below_alloc | apply pw_below_drewN | apply below_drew1 | refine below_set ?_ GE280.out | refine below_set ?_ GE281.out) | exact HB.out)))); have n5_ := K0 (Kd.V_lower (Kd.V_mono (ok' := fun k_ => ((P0_1_ k_ ∨ P0_2_ k_) ∨ w.heap.size ≤ k_) ∧ some k_ ≠ (.slice Ao23 y282.length co23 : Value).ownBlock ∧ k_ ≠ gb280 ∧ k_ ≠ gb281) ho1 (fun k_ hk_ => ⟨Or.elim hk_ (fun hs_ => Or.elim hs_ (fun hs_ => hs_.1) (fun hs_ => hs_.1)) (fun hn_ => (.inr (Nat.le_trans (below_size (by repeat (first | (with_reducible first | exact HB.out | apply below_alloc | apply pw_below_drewN | apply below_drew1 | refine below_set ?_ GE280.out | refine below_set ?_ GE281.out) | exact HB.out))) hn_))), Or.elim hk_ (fun hs_ => Or.elim hs_ (fun hs_ => hs_.2.1) (fun hs_ => hs_.2.1)) (fun hn_ => (Kd.fresh' (Kd.R_lt (by (with_reducible repeat (first | apply Kd.R_alloc | apply Kd.R_drewN | apply Kd.R_drew)); exact HO284.out)) k_ hn_)), Or.elim hk_ (fun hs_ => Or.elim hs_ (fun hs_ => hs_.2.2.2.1) (fun hs_ => hs_.2.2.1)) (fun hn_ => (Kd.freshB (g := gb280) (o := .cells #[.int .i64 a0_0, .slice A0_1 l0_1.length c0_1, .slice Ao31 y293.length co31, .bool false] 34 (0, 0)) (by (with_reducible repeat (first | refine blk_drewN ?_ _ | refine blk_drew ?_ | refine blk_alloc ?_ _)); exact BK280.out) k_ hn_)), Or.elim hk_ (fun hs_ => Or.elim hs_ (fun hs_ => hs_.2.2.2.2) (fun hs_ => hs_.2.2.2)) (fun hn_ => (Kd.freshB (g := gb281) (o := .cells #[.int .i64 0, .slice none 0 0, .slice none 0 0, .bool false] 34 (0, 0)) (by (with_reducible repeat (first | refine blk_drewN ?_ _ | refine blk_drew ?_ | refine blk_alloc ?_ _)); exact BK281.out) k_ hn_))⟩)) (below_size (by repeat (first | (with_reducible first | exact HB.out | apply below_alloc | apply pw_below_drewN | apply below_drew1 | refine below_set ?_ GE280.out | refine below_set ?_ GE281.out) | exact HB.out)))); have n6_ := K0 (blk_below (g := gb280) (o := .cells #[.int .i64 a0_0, .slice A0_1 l0_1.length c0_1, .slice Ao31 y293.length co31, .bool false] 34 (0, 0)) (by (with_reducible repeat (first | refine blk_drewN ?_ _ | refine blk_drew ?_ | refine blk_alloc ?_ _)); exact BK280.out) hb); have n7_ := K0 (blk_below (g := gb281) (o := .cells #[.int .i64 0, .slice none 0 0, .slice none 0 0, .bool false] 34 (0, 0)) (by (with_reducible repeat (first | refine blk_drewN ?_ _ | refine blk_drew ?_ | refine blk_alloc ?_ _)); exact BK281.out) hb); have n8_ := K0 (below_step (by repeat (first | (with_reducible first | exact HB.out | apply below_alloc | apply pw_below_drewN | apply below_drew1 | refine below_set ?_ GE280.out | refine below_set ?_ GE281.out) | exact HB.out)) hb); clear HO0_1; clear HO0_2; clear HO284; clear HO295; clear BK280; clear BK281; clear HB; have HO0_1 := n0_; have HO0_2 := n1_; have HO284 := n2_; have HO295 := n3_; have HO299 := n4_; have HO302 := n5_; have BK280 := n6_; have BK281 := n7_; have HB := n8_; clear n0_ n1_ n2_ n3_ n4_ n5_ n6_ n7_ n8_; (try clear hb); (try clear hb2); (try clear hk); (try clear hi); (try clear ho0); (try clear ho1); have hcz36_0 : w35.cell? ⟨gb281, 0, none⟩ = some (.int .i64 0) := (blk_cell BK281.out 0).trans rfl; have hcz36_1 : w35.cell? ⟨gb281, 1, none⟩ = some (.slice none 0 0) := (blk_cell BK281.out 1).trans rfl; have hcz36_2 : w35.cell? ⟨gb281, 2, none⟩ = some (.slice none 0 0) := (blk_cell BK281.out 2).trans rfl; have hcz36_3 : w35.cell? ⟨gb281, 3, none⟩ = some (.bool false) := (blk_cell BK281.out 3).trans rfl; have hfz36_0 := blk_frozen BK281.out 0; have hfz36_1 := blk_frozen BK281.out 1; have hfz36_2 := blk_frozen BK281.out 2; have hfz36_3 := blk_frozen BK281.out 3; obtain ⟨Ao37, co37, eo37⟩ := Kd.V_slice HO299.out; subst eo37; obtain ⟨Ao38, co38, eo38⟩ := Kd.V_slice HO302.out; subst eo38))
    refine bodyPost_ret (results_ct rfl _ _ gb281 34 #[.int .i64 t296, .slice Ao37 t297.length co37, .slice Ao38 t300.length co38, .bool t303] (0, 0) _ rfl (by (with_reducible repeat (first | refine blk_drewN ?_ _ | refine blk_drew ?_ | refine blk_alloc ?_ _)); refine blk_put (cs := #[.int .i64 t296, .slice Ao37 t297.length co37, .slice Ao38 t300.length co38, .bool false]) ?_ 3 _ rfl; (with_reducible repeat (first | refine blk_drewN ?_ _ | refine blk_drew ?_ | refine blk_alloc ?_ _)); refine blk_put (cs := #[.int .i64 t296, .slice Ao37 t297.length co37, .slice none 0 0, .bool false]) ?_ 2 _ rfl; (with_reducible repeat (first | refine blk_drewN ?_ _ | refine blk_drew ?_ | refine blk_alloc ?_ _)); refine blk_put (cs := #[.int .i64 t296, .slice none 0 0, .slice none 0 0, .bool false]) ?_ 1 _ rfl; (with_reducible repeat (first | refine blk_drewN ?_ _ | refine blk_drew ?_ | refine blk_alloc ?_ _)); refine blk_put (cs := #[.int .i64 0, .slice none 0 0, .slice none 0 0, .bool false]) ?_ 0 _ rfl; (with_reducible repeat (first | refine blk_drewN ?_ _ | refine blk_drew ?_ | refine blk_alloc ?_ _)); exact BK281.out) Try.underlying34 rfl (by kernel_rfl)) rfl ?_
    exact ⟨_, _, by first | rfl | (simp [errW_none, errW_some] <;> rfl) | (simp [*, errW_none, errW_some] <;> rfl), by (with_reducible repeat (first | apply Kd.V_alloc | apply Kd.V_drewN | apply Kd.V_drew)); exact Kd.V_mono (Kd.V_far (p := ⟨gb281, 3, none⟩) (Kd.V_far (p := ⟨gb281, 2, none⟩) (Kd.V_far (p := ⟨gb281, 1, none⟩) (Kd.V_far (p := ⟨gb281, 0, none⟩) (Kd.V_mono HO299.out (fun k_ hk => (⟨hk, hk.2.2.2⟩ : _ ∧ k_ ≠ gb281))) (fun _ hk => hk.2) (.int .i64 t296)) (fun _ hk => hk.2) (.slice Ao37 t297.length co37)) (fun _ hk => hk.2) (.slice Ao38 t300.length co38)) (fun _ hk => hk.2) (.bool t303)) (fun _ hk => hk.1.1), by (with_reducible repeat (first | apply Kd.V_alloc | apply Kd.V_drewN | apply Kd.V_drew)); exact Kd.V_mono (Kd.V_far (p := ⟨gb281, 3, none⟩) (Kd.V_far (p := ⟨gb281, 2, none⟩) (Kd.V_far (p := ⟨gb281, 1, none⟩) (Kd.V_far (p := ⟨gb281, 0, none⟩) (Kd.V_mono HO302.out (fun k_ hk => (⟨hk, hk.2.2.2⟩ : _ ∧ k_ ≠ gb281))) (fun _ hk => hk.2) (.int .i64 t296)) (fun _ hk => hk.2) (.slice Ao37 t297.length co37)) (fun _ hk => hk.2) (.slice Ao38 t300.length co38)) (fun _ hk => hk.2) (.bool t303)) (fun _ hk => hk.1.1), by repeat (first | (with_reducible first | exact HB.out | apply below_alloc | apply pw_below_drewN | apply below_drew1 | refine below_set ?_ GE280.out | refine below_set ?_ GE281.out) | exact HB.out)⟩
def sequiturlaw20_model.f (k : Nat) (a0_0 : Int) (l0_1 : List (List Int)) (l0_2 : List (List Int)) (a0_3 : Bool) (a1_0 : Int) (a1_1 : Int) (l1_2 : List Int) : Option (Int × (List (List Int)) × (List (List Int)) × Bool × Bool × Int) := if a1_0 = 1 then ((sequiturref20_Pop.f k a0_0 l0_1 l0_2 a0_3).bind fun bt307 => (some (bt307.1, bt307.2.1, bt307.2.2.1, bt307.2.2.2.1, bt307.2.2.2.2, 0))) else (if a1_0 = 2 then ((sequiturref20_Add.f k a0_0 l0_1 l0_2 a0_3 l1_2).bind fun bt317 => (some (bt317.1, bt317.2.1, bt317.2.2.1, bt317.2.2.2.1, (bt317.2.2.2.2 == 0), bt317.2.2.2.2))) else ((sequiturref20_Push.f k a0_0 l0_1 l0_2 a0_3 a1_1).bind fun bt327 => (some (bt327.1, bt327.2.1, bt327.2.2.1, bt327.2.2.2.1, bt327.2.2.2.2, 0))))
set_option maxRecDepth 100000 in
set_option maxHeartbeats 4000000 in
theorem sequiturlaw20_model.calls (k : Nat) (N : Int) (P : Nat → Prop) (A1 : Option Addr) (c1 : Nat) (L : List (List Int)) (A2 : Option Addr) (c2 : Nat) (Ls : List (List Int)) (Br : Bool) (kd x : Int) (A3 : Option Addr) (c3 : Nat) (l : List Int) (N2 : Int) (L2 Ls2 : List (List Int)) (Br2 is : Bool) (f : Int) (w : World)
    (hs1 : Kd.V (Kd.slice 3 (Kd.int .i64)) 37 w w.heap.size (fun k_ => P k_) (.slice A1 L.length c1) L) (hs2 : Kd.V (Kd.slice 3 (Kd.int .i64)) 37 w w.heap.size (fun k_ => P k_) (.slice A2 Ls.length c2) Ls) (hr3 : Kd.C (Kd.int .i64) w A3 l.length l) (hc3 : l.length ≤ c3) (h : sequiturlaw20_model.f k N L Ls Br kd x l = some (N2, L2, Ls2, Br2, is, f)) :
    Calls Try.prog 14 #[.agg #[.int .i64 N, .slice A1 L.length c1, .slice A2 Ls.length c2, .bool Br], .agg #[.int .i64 kd, .int .i64 x, .slice A3 l.length c3]] w fun e w' => ∃ v1_ v2_ : Value, e = .returned (.tuple #[.agg #[.int .i64 N2, v1_, v2_, .bool Br2], .bool is, .int .i64 f]) ∧ Kd.V (Kd.slice 3 (Kd.int .i64)) 37 w' 0 (fun k_ => P k_ ∨ w.heap.size ≤ k_) v1_ L2 ∧ Kd.V (Kd.slice 3 (Kd.int .i64)) 37 w' 0 (fun k_ => P k_ ∨ w.heap.size ≤ k_) v2_ Ls2 ∧ Below w.heap.size w w' := by
  have hu34 := Try.underlying34
  have hu39 := Try.underlying39
  obtain ⟨W1, hW1⟩ : ∃ W : World, w.alloc (.cells #[.int .i64 N, .slice A1 L.length c1, .slice A2 Ls.length c2, .bool Br] 34) = W := ⟨_, rfl⟩
  obtain ⟨W2, hW2⟩ : ∃ W : World, W1.alloc (.cells #[.int .i64 kd, .int .i64 x, .slice A3 l.length c3] 39) = W := ⟨_, rfl⟩
  obtain ⟨WA, hWA⟩ : ∃ W : World, W2.alloc (.cells #[.int .i64 0, .slice none 0 0, .slice none 0 0, .bool false] 34) = W := ⟨_, rfl⟩
  have z1 : W1.heap.size = w.heap.size + 1 := by rw [← hW1]; simp
  have z2 : W2.heap.size = w.heap.size + 1 + 1 := by rw [← hW2]; simp [z1]
  have b1_ : Below w.heap.size w W1 := by rw [← hW1]; exact below_alloc (Below.refl _ _) _
  have b2_ : Below W1.heap.size W1 W2 := by rw [← hW2]; exact below_alloc (Below.refl _ _) _
  have b3_ : Below W2.heap.size W2 WA := by rw [← hWA]; exact below_alloc (Below.refl _ _) _
  have bA := below_step (below_step b1_ b2_) b3_
  have n1 := blk_new w (.cells #[.int .i64 N, .slice A1 L.length c1, .slice A2 Ls.length c2, .bool Br] 34)
  have n2 := blk_new W1 (.cells #[.int .i64 kd, .int .i64 x, .slice A3 l.length c3] 39)
  have n3 := blk_new W2 (.cells #[.int .i64 0, .slice none 0 0, .slice none 0 0, .bool false] 34)
  rw [hW1] at n1
  rw [hW2, z1] at n2
  rw [hWA, z2] at n3
  obtain ⟨g, hg⟩ : ∃ g, w.heap.size = g := ⟨_, rfl⟩
  obtain ⟨g3, hg3⟩ : ∃ g, w.heap.size + 1 = g := ⟨_, rfl⟩
  obtain ⟨gR, hgR⟩ : ∃ g, w.heap.size + 1 + 1 = g := ⟨_, rfl⟩
  rw [hg] at n1
  rw [hg3] at n2
  rw [hgR] at n3
  have HGE := K0 (show w.heap.size ≤ g ∧ g < g3 ∧ g3 < gR from ⟨by omega, by omega, by omega⟩)
  have HW1 := K0 hW1; have HW2 := K0 hW2; have HWA := K0 hWA; have HG := K0 hg
  have HG3 := K0 (show g + 1 = g3 by omega)
  have HGR := K0 (show g3 + 1 = gR by omega)
  have HN := K0 (blk_below (blk_below n1 b2_) b3_)
  have HN3 := K0 (blk_below n2 b3_)
  have HNR := K0 n3; have HB := K0 bA
  have HV1 := K0 (show Kd.V (Kd.slice 3 (Kd.int .i64)) 37 WA WA.heap.size (fun k_ => P k_ ∧ k_ < w.heap.size) (.slice A1 L.length c1) L from Kd.V_below (Kd.V_bound hs1) bA)
  have HV2 := K0 (show Kd.V (Kd.slice 3 (Kd.int .i64)) 37 WA WA.heap.size (fun k_ => P k_ ∧ k_ < w.heap.size) (.slice A2 Ls.length c2) Ls from Kd.V_below (Kd.V_bound hs2) bA)
  have HR3 := K0 (Kd.C_below hr3 bA)
  have H := K0 h; clear hs1 hs2 hr3 h hW1 hW2 hWA z1 z2 b1_ b2_ b3_ bA n1 n2 n3 hg hg3 hgR
  go_enter Try.func14, Try.ntmps14
  go_upto_region 1 with fail
  rw [HW1.out, HG.out, HG3.out, HW2.out, HWA.out, HGR.out]
  clear HW1 HW2 HWA
  have p0 : WA.cell? ⟨g, 0, none⟩ = some (.int .i64 N) := (blk_cell HN.out 0).trans rfl
  have p1 : WA.cell? ⟨g, 1, none⟩ = some (.slice A1 L.length c1) := (blk_cell HN.out 1).trans rfl
  have p2 : WA.cell? ⟨g, 2, none⟩ = some (.slice A2 Ls.length c2) := (blk_cell HN.out 2).trans rfl
  have p3 : WA.cell? ⟨g, 3, none⟩ = some (.bool Br) := (blk_cell HN.out 3).trans rfl
  have r0 : WA.cell? ⟨g3, 0, none⟩ = some (.int .i64 kd) := (blk_cell HN3.out 0).trans rfl
  have r1 : WA.cell? ⟨g3, 1, none⟩ = some (.int .i64 x) := (blk_cell HN3.out 1).trans rfl
  have r2 : WA.cell? ⟨g3, 2, none⟩ = some (.slice A3 l.length c3) := (blk_cell HN3.out 2).trans rfl
  have h := H.out
  unfold sequiturlaw20_model.f at h
  clear H
  by_cases c1_ : kd = 1
  case pos =>
    rw [if_pos c1_] at h
    have d1 : (kd == 1) = true := beq_iff_eq.2 c1_
    clear c1_
    obtain ⟨⟨y1, y2, y3, y4, y5⟩, hb, h⟩ := Option.bind_eq_some_iff.1 h
    simp only [Option.some.injEq, Prod.mk.injEq] at h
    obtain ⟨rfl, rfl, rfl, rfl, rfl, rfl⟩ := h
    have HCL := K0 (sequiturref20_Pop.calls k N _ A1 c1 L _ A2 c2 Ls Br y1 y2 y3 y4 y5 WA HV1.out HV2.out hb)
    clear hb
    go_wp2_with fail
    refine HCL.out.mono ?_
    rintro e' w1 ⟨v1, v2, rfl, q1, q2, hb1⟩
    obtain ⟨B1, k1, e1⟩ := Kd.V_slice q1
    obtain ⟨B2, k2, e2⟩ := Kd.V_slice q2
    subst e1 e2; have Q1 := K0 q1; have Q2 := K0 q2
    have HB1 := K0 (below_step HB.out hb1)
    have HN1 := K0 (blk_below HN.out hb1)
    have HNR1 := K0 (blk_below HNR.out hb1)
    have HZ := K0 hb1.size
    clear q1 q2 hb1 HCL p0 p1 p2 p3 r0 r1 r2
    go_upto_region 4 with fail
    obtain ⟨W5, hW5⟩ : ∃ W : World, w1.alloc (.cells #[.int .i64 y1, .slice B1 y2.length k1, .slice B2 y3.length k2, .bool y4] 34) = W := ⟨_, rfl⟩
    have hb5 : Below w1.heap.size w1 W5 := by rw [← hW5]; exact below_alloc (Below.refl _ _) _
    have n5 := blk_new w1 (.cells #[.int .i64 y1, .slice B1 y2.length k1, .slice B2 y3.length k2, .bool y4] 34)
    rw [hW5] at n5 ⊢
    obtain ⟨gN, hgN⟩ : ∃ g, w1.heap.size = g := ⟨_, rfl⟩
    rw [hgN] at n5 ⊢
    have S1 := K0 (Kd.V_below Q1.out hb5)
    have S2 := K0 (Kd.V_below Q2.out hb5)
    have HB5 := K0 (below_step HB1.out hb5)
    have HNR5 := K0 (blk_below HNR1.out hb5)
    have hX := n5
    clear hW5 hb5 hgN n5
    have x0 : W5.cell? ⟨gN, 0, none⟩ = some (.int .i64 y1) := (blk_cell hX 0).trans rfl
    have x1 : W5.cell? ⟨gN, 1, none⟩ = some (.slice B1 y2.length k1) := (blk_cell hX 1).trans rfl
    have x2 : W5.cell? ⟨gN, 2, none⟩ = some (.slice B2 y3.length k2) := (blk_cell hX 2).trans rfl
    have x3 : W5.cell? ⟨gN, 3, none⟩ = some (.bool y4) := (blk_cell hX 3).trans rfl
    obtain ⟨⟨u0, z0⟩, ⟨u1, z1⟩, ⟨u2, z2⟩, ⟨u3, z3⟩, u4⟩ := put4_facts HNR5.out (.int .i64 y1) (.slice B1 y2.length k1) (.slice B2 y3.length k2) (.bool y4)
    have HR9 := K0 u4; clear u4 hX
    go_wp2
    (try simp only [Exit.inBlock, Exit.then])
    refine bodyPost_ret (results_c3 rfl _ _ gR _ _ _ _ rfl HR9.out hu34 rfl (by kernel_rfl)) rfl ?_
    have hz : ∀ k, ((P k ∧ k < w.heap.size ∨ P k ∧ k < w.heap.size) ∨ WA.heap.size ≤ k) → k ≠ gR ∧ (P k ∨ w.heap.size ≤ k) := fun k hk => by
      have h1 := HGE.out
      have h2 := blk_lt HNR.out
      have h3 := HB.out.size
      rcases hk with (hk | hk) | hk
      · exact ⟨by omega, .inl hk.1⟩
      · exact ⟨by omega, .inl hk.1⟩
      · exact ⟨by omega, .inr (by omega)⟩
    exact ⟨_, _, rfl, Kd.V_mono (Kd.V_step S1.out (fun k hk _ => put4_far _ _ _ _ k (hz k hk).1)) (fun k hk => (hz k hk).2), Kd.V_mono (Kd.V_step S2.out (fun k hk _ => put4_far _ _ _ _ k (hz k hk).1)) (fun k hk => (hz k hk).2), put4_below HB5.out (by have := HGE.out; omega) _ _ _ _⟩
  rw [if_neg c1_] at h
  have d1 : (kd == 1) = false := beq_eq_false_iff_ne.2 c1_
  by_cases c2_ : kd = 2
  case pos =>
    rw [if_pos c2_] at h
    have d2 : (kd == 2) = true := beq_iff_eq.2 c2_
    clear c1_ c2_
    obtain ⟨⟨y1, y2, y3, y4, y5⟩, hb, h⟩ := Option.bind_eq_some_iff.1 h
    simp only [Option.some.injEq, Prod.mk.injEq] at h
    obtain ⟨rfl, rfl, rfl, rfl, rfl, rfl⟩ := h
    have HCL := K0 (sequiturref20_Add.calls k N _ A1 c1 L _ A2 c2 Ls Br A3 c3 l y1 y2 y3 y4 y5 WA HV1.out HV2.out HR3.out hc3 hb)
    clear hb
    go_wp2_with fail
    refine HCL.out.mono ?_
    rintro e' w1 ⟨v1, v2, rfl, q1, q2, hb1⟩
    obtain ⟨B1, k1, e1⟩ := Kd.V_slice q1
    obtain ⟨B2, k2, e2⟩ := Kd.V_slice q2
    subst e1 e2; have Q1 := K0 q1; have Q2 := K0 q2
    have HB1 := K0 (below_step HB.out hb1)
    have HN1 := K0 (blk_below HN.out hb1)
    have HNR1 := K0 (blk_below HNR.out hb1)
    have HZ := K0 hb1.size
    clear q1 q2 hb1 HCL p0 p1 p2 p3 r0 r1 r2
    go_upto_region 7 with fail
    obtain ⟨W5, hW5⟩ : ∃ W : World, w1.alloc (.cells #[.int .i64 y1, .slice B1 y2.length k1, .slice B2 y3.length k2, .bool y4] 34) = W := ⟨_, rfl⟩
    have hb5 : Below w1.heap.size w1 W5 := by rw [← hW5]; exact below_alloc (Below.refl _ _) _
    have n5 := blk_new w1 (.cells #[.int .i64 y1, .slice B1 y2.length k1, .slice B2 y3.length k2, .bool y4] 34)
    rw [hW5] at n5 ⊢
    obtain ⟨gN, hgN⟩ : ∃ g, w1.heap.size = g := ⟨_, rfl⟩
    rw [hgN] at n5 ⊢
    have S1 := K0 (Kd.V_below Q1.out hb5)
    have S2 := K0 (Kd.V_below Q2.out hb5)
    have HB5 := K0 (below_step HB1.out hb5)
    have HNR5 := K0 (blk_below HNR1.out hb5)
    have hX := n5
    clear hW5 hb5 hgN n5
    have x0 : W5.cell? ⟨gN, 0, none⟩ = some (.int .i64 y1) := (blk_cell hX 0).trans rfl
    have x1 : W5.cell? ⟨gN, 1, none⟩ = some (.slice B1 y2.length k1) := (blk_cell hX 1).trans rfl
    have x2 : W5.cell? ⟨gN, 2, none⟩ = some (.slice B2 y3.length k2) := (blk_cell hX 2).trans rfl
    have x3 : W5.cell? ⟨gN, 3, none⟩ = some (.bool y4) := (blk_cell hX 3).trans rfl
    obtain ⟨⟨u0, z0⟩, ⟨u1, z1⟩, ⟨u2, z2⟩, ⟨u3, z3⟩, u4⟩ := put4_facts HNR5.out (.int .i64 y1) (.slice B1 y2.length k1) (.slice B2 y3.length k2) (.bool y4)
    have HR9 := K0 u4; clear u4 hX
    go_wp2
    (try simp only [Exit.inBlock, Exit.then])
    refine bodyPost_ret (results_c3 rfl _ _ gR _ _ _ _ rfl HR9.out hu34 rfl (by kernel_rfl)) rfl ?_
    have hz : ∀ k, ((P k ∧ k < w.heap.size ∨ P k ∧ k < w.heap.size) ∨ WA.heap.size ≤ k) → k ≠ gR ∧ (P k ∨ w.heap.size ≤ k) := fun k hk => by
      have h1 := HGE.out
      have h2 := blk_lt HNR.out
      have h3 := HB.out.size
      rcases hk with (hk | hk) | hk
      · exact ⟨by omega, .inl hk.1⟩
      · exact ⟨by omega, .inl hk.1⟩
      · exact ⟨by omega, .inr (by omega)⟩
    exact ⟨_, _, rfl, Kd.V_mono (Kd.V_step S1.out (fun k hk _ => put4_far _ _ _ _ k (hz k hk).1)) (fun k hk => (hz k hk).2), Kd.V_mono (Kd.V_step S2.out (fun k hk _ => put4_far _ _ _ _ k (hz k hk).1)) (fun k hk => (hz k hk).2), put4_below HB5.out (by have := HGE.out; omega) _ _ _ _⟩
  rw [if_neg c2_] at h
  have d2 : (kd == 2) = false := beq_eq_false_iff_ne.2 c2_
  clear c1_ c2_
  obtain ⟨⟨y1, y2, y3, y4, y5⟩, hb, h⟩ := Option.bind_eq_some_iff.1 h
  simp only [Option.some.injEq, Prod.mk.injEq] at h
  obtain ⟨rfl, rfl, rfl, rfl, rfl, rfl⟩ := h
  have HCL := K0 (sequiturref20_Push.calls k N _ A1 c1 L _ A2 c2 Ls Br x y1 y2 y3 y4 y5 WA HV1.out HV2.out hb)
  clear hb
  go_wp2_with fail
  refine HCL.out.mono ?_
  rintro e' w1 ⟨v1, v2, rfl, q1, q2, hb1⟩
  obtain ⟨B1, k1, e1⟩ := Kd.V_slice q1
  obtain ⟨B2, k2, e2⟩ := Kd.V_slice q2
  subst e1 e2; have Q1 := K0 q1; have Q2 := K0 q2
  have HB1 := K0 (below_step HB.out hb1)
  have HN1 := K0 (blk_below HN.out hb1)
  have HNR1 := K0 (blk_below HNR.out hb1)
  have HZ := K0 hb1.size
  clear q1 q2 hb1 HCL p0 p1 p2 p3 r0 r1 r2
  obtain ⟨⟨u0, z0⟩, ⟨u1, z1⟩, ⟨u2, z2⟩, ⟨u3, z3⟩, u4⟩ := put4_facts HN1.out (.int .i64 y1) (.slice B1 y2.length k1) (.slice B2 y3.length k2) (.bool y4)
  have HX4 := K0 u4; clear u4
  go_upto_region 9 with fail
  obtain ⟨W5, hW5⟩ : ∃ W : World, (((w1.setCell ⟨g, 0, none⟩ (.int .i64 y1)).setCell ⟨g, 1, none⟩ (.slice B1 y2.length k1)).setCell ⟨g, 2, none⟩ (.slice B2 y3.length k2)).setCell ⟨g, 3, none⟩ (.bool y4) = W := ⟨_, rfl⟩
  have hX : W5.heap[g]? = some (.cells #[.int .i64 y1, .slice B1 y2.length k1, .slice B2 y3.length k2, .bool y4] 34 (0, 0)) := by rw [← hW5]; exact HX4.out
  have hfar : ∀ k, k ≠ g → W5.heap[k]? = w1.heap[k]? := fun k hk => by rw [← hW5]; exact put4_far _ _ _ _ k hk
  have hb5 : Below w.heap.size w W5 := by rw [← hW5]; exact put4_below HB1.out HGE.out.1 _ _ _ _
  rw [hW5]
  have S1 := K0 (Kd.V_step Q1.out (w1 := W5) (fun k hk _ => hfar k (by have := HGE.out; have h2 : WA.heap.size ≤ w1.heap.size := HZ.out; have h3 := blk_lt HNR.out; rcases hk with (hk | hk) | hk <;> omega)))
  have S2 := K0 (Kd.V_step Q2.out (w1 := W5) (fun k hk _ => hfar k (by have := HGE.out; have h3 := blk_lt HNR.out; rcases hk with (hk | hk) | hk <;> omega)))
  have HB5 := K0 hb5
  have HNR5 := K0 ((hfar gR (by have := HGE.out; omega)).trans HNR1.out)
  clear hW5 hb5 hfar u0 z0 u1 z1 u2 z2 u3 z3 HX4
  have x0 : W5.cell? ⟨g, 0, none⟩ = some (.int .i64 y1) := (blk_cell hX 0).trans rfl
  have x1 : W5.cell? ⟨g, 1, none⟩ = some (.slice B1 y2.length k1) := (blk_cell hX 1).trans rfl
  have x2 : W5.cell? ⟨g, 2, none⟩ = some (.slice B2 y3.length k2) := (blk_cell hX 2).trans rfl
  have x3 : W5.cell? ⟨g, 3, none⟩ = some (.bool y4) := (blk_cell hX 3).trans rfl
  obtain ⟨⟨u0, z0⟩, ⟨u1, z1⟩, ⟨u2, z2⟩, ⟨u3, z3⟩, u4⟩ := put4_facts HNR5.out (.int .i64 y1) (.slice B1 y2.length k1) (.slice B2 y3.length k2) (.bool y4)
  have HR9 := K0 u4; clear u4 hX
  go_wp2
  (try simp only [Exit.inBlock, Exit.then])
  refine bodyPost_ret (results_c3 rfl _ _ gR _ _ _ _ rfl HR9.out hu34 rfl (by kernel_rfl)) rfl ?_
  have hz : ∀ k, ((P k ∧ k < w.heap.size ∨ P k ∧ k < w.heap.size) ∨ WA.heap.size ≤ k) → k ≠ gR ∧ (P k ∨ w.heap.size ≤ k) := fun k hk => by
    have h1 := HGE.out
    have h2 := blk_lt HNR.out
    have h3 := HB.out.size
    rcases hk with (hk | hk) | hk
    · exact ⟨by omega, .inl hk.1⟩
    · exact ⟨by omega, .inl hk.1⟩
    · exact ⟨by omega, .inr (by omega)⟩
  exact ⟨_, _, rfl, Kd.V_mono (Kd.V_step S1.out (fun k hk _ => put4_far _ _ _ _ k (hz k hk).1)) (fun k hk => (hz k hk).2), Kd.V_mono (Kd.V_step S2.out (fun k hk _ => put4_far _ _ _ _ k (hz k hk).1)) (fun k hk => (hz k hk).2), put4_below HB5.out (by have := HGE.out; omega) _ _ _ _⟩
def Eng.del (E : Eng) (y : Int) : Eng := { E with ms := fun x => if x = y then none else E.ms x }
def Eng.dels (E : Eng) (l : List Int) : Eng := l.foldl Eng.del E
theorem Eng.dels_snoc (E : Eng) (l : List Int) (x : Int) : E.dels (l ++ [x]) = (E.dels l).del x := by
  unfold Eng.dels; rw [List.foldl_append]; rfl
theorem Eng.dels_same : ∀ (l : List Int) (E : Eng), (E.dels l).cls = E.cls ∧ (E.dels l).tr = E.tr ∧ (E.dels l).st = E.st ∧ (E.dels l).n = E.n ∧ (E.dels l).br = E.br ∧ (E.dels l).ws = E.ws ∧ (E.dels l).wt = E.wt ∧ ∀ x, (E.dels l).ms x = if x ∈ l then none else E.ms x
  | [], E => ⟨rfl, rfl, rfl, rfl, rfl, rfl, rfl, fun x => by rw [if_neg (by simp)]; rfl⟩
  | y :: l, E => by
    obtain ⟨h1, h2, h3, h4, h5, h6, h7, h8⟩ := Eng.dels_same l (E.del y)
    refine ⟨h1, h2, h3, h4, h5, h6, h7, fun x => ?_⟩
    have := h8 x
    show (Eng.dels (E.del y) l).ms x = _
    rw [this]
    by_cases hx : x ∈ l
    case pos =>
      rw [if_pos hx, if_pos (List.mem_cons_of_mem _ hx)]
    rw [if_neg hx]
    show (if x = y then none else E.ms x) = _
    by_cases e : x = y
    case neg =>
      rw [if_neg e, if_neg (by simp [e, hx])]
    rw [if_pos e, if_pos (by rw [e]; simp)]
def Eng.popped (E : Eng) (a : Nat) : Eng := { E.dels (E.tr.drop a) with tr := E.tr.take a, st := E.st.dropLast, br := -1 }
def Eng.pop (k : Nat) (E : Eng) : Option (Eng × Bool) :=
  match E.st.getLast? with
  | none => some (E, false)
  | some a => if 0 ≤ a ∧ a.toNat ≤ E.tr.length then (Eng.settle k (E.popped a.toNat)).bind fun E' => some (E', true) else none
theorem EngIn.turn_del {w w1 : World} {B : Nat} {T : Tag} {E : Eng} {p : EngP} (h : EngIn w B T E p) (y : Int) (hM : MapI Try.prog 3 w1 p.bm (setI (mkV E.ms) y none)) (hg : w.grownBy w1 (some p.bm)) : EngIn w1 B T (E.del y) p ∧ Moved T T w w1 :=
  h.turn_ms (g := fun x => if x = y then none else E.ms x) (hM.congr fun x => by
    unfold setI
    by_cases e : x = y
    case pos =>
      rw [if_pos e]
      show none = Option.map _ (if x = y then none else E.ms x)
      rw [if_pos e]; rfl
    rw [if_neg e]
    show Option.map _ (E.ms x) = Option.map _ (if x = y then none else E.ms x)
    rw [if_neg e]) hg (fun x hx => by
    have hx : (if x = y then none else E.ms x).isSome = true := hx
    by_cases e : x = y
    case pos =>
      rw [if_pos e] at hx; cases hx
    rw [if_neg e] at hx; exact h.mst x hx)
set_option maxRecDepth 100000 in
set_option maxHeartbeats 4000000 in
theorem eng_Pop.calls (k : Nat) (E : Eng) (B : Nat) (T : Tag) (p : EngP) (E2 : Eng) (r : Bool) (w : World) (h : EngIn w B T E p) (hlit : E.Lits) (htr : ∀ x ∈ E.tr, (Lit.int .i64 x).wf = true) (hf : Eng.pop k E = some (E2, r)) :
    Calls Try.prog 31 #[.pointer (some ⟨B, 0, none⟩)] w fun e w' => e = .returned (.bool r) ∧ EngPost B T p E2 w w' := by
  unfold Eng.pop at hf
  have c5 := h.cells.2.2.2.2.2.1
  have c3 := h.cells.2.2.2.1
  have c4 := h.cells.2.2.2.2.1
  obtain ⟨A5, k5, e5⟩ := Kd.R_slice h.st
  obtain ⟨A3, k3, e3⟩ := Kd.R_slice h.tr
  rw [e5] at c5
  rw [e3] at c3
  have HE := K0 h; have HL := K0 hlit; have HTR := K0 htr
  cases hst : E.st.getLast? with
  | none =>
    rw [hst] at hf
    simp only [Option.some.injEq, Prod.mk.injEq] at hf
    obtain ⟨h1, h2⟩ := hf
    subst h2; have H2 := K0 h1
    rw [List.getLast?_eq_none_iff.1 hst] at c5
    clear h1 h hlit htr e5 e3
    go_enter Try.func31, Try.ntmps31
    go_wp2
    go_ret
    rw [← H2.out]
    exact ⟨rfl, T, p, HE.out, Moved.refl _ _, rfl⟩
  | some a =>
    rw [hst] at hf
    obtain ⟨ss, hss⟩ : ∃ ss, E.st = ss ++ [a] := List.getLast?_eq_some_iff.1 hst
    replace hf : (if 0 ≤ a ∧ a.toNat ≤ E.tr.length then (Eng.settle k (E.popped a.toNat)).bind fun E' => some (E', true) else none) = some (E2, r) := hf
    by_cases ha : 0 ≤ a ∧ a.toNat ≤ E.tr.length
    case neg =>
      rw [if_neg ha] at hf; cases hf
    rw [if_pos ha] at hf
    obtain ⟨E3, hs, hf⟩ := Option.bind_eq_some_iff.mp hf
    simp only [Option.some.injEq, Prod.mk.injEq] at hf
    obtain ⟨rfl, rfl⟩ := hf
    have HS := K0 hs
    obtain ⟨ha0, ha1⟩ := ha
    obtain ⟨m, rfl⟩ : ∃ m : Nat, a = m := ⟨a.toNat, by omega⟩
    rw [Int.toNat_natCast] at ha1 HS
    obtain ⟨N5, hN5⟩ : ∃ N5, ss.length = N5 := ⟨_, rfl⟩
    have hl5 : E.st.length = N5 + 1 := by rw [hss, List.length_append, hN5]; rfl
    rw [hl5] at c5 e5
    obtain ⟨N3, hN3⟩ : ∃ N3, E.tr.length = N3 := ⟨_, rfl⟩
    rw [hN3] at c3 e3 ha1
    have hrs := h.st
    rw [e5] at hrs
    have hrt := h.tr
    rw [e3] at hrt
    have b5 := (Kd.R_reads' hrs).2.2.2.1
    have b3 : N3 ≤ 9223372036854775807 := by rw [← hN3]; exact (Kd.R_reads' hrt).2.2.2.1
    have bc3 : N3 ≤ k3 := (Kd.R_reads' hrt).2.1
    have bc5 := (Kd.R_reads' hrs).2.1
    obtain ⟨ad, e1, x1⟩ := Kd.at_int (Kd.R_reads' hrs).2.2 (N5 : Int) (by omega) (by rw [hl5]; omega)
    cases e1
    have hrd : rd E.st (N5 : Int) = m := by rw [hss]; simp [rd, ← hN5]
    rw [hrd] at x1
    simp only [Int.toNat_natCast] at x1
    obtain ⟨L5, hL5⟩ : ∃ L5, N5 + 1 = L5 := ⟨_, rfl⟩
    rw [hL5] at c5 e5
    have P0 : IntKind.i64.wrap ((L5 : Int) - 1) = (N5 : Int) := (Go.IntWalk.i64_left _).trans (by unfold wrap64; omega)
    have P1 : ((0 : Int) ≤ (N5 : Int)) = True := eq_true (by omega)
    have P2 : ((N5 : Int) < (L5 : Int)) = True := eq_true (by omega)
    have P2' : (N5 < L5) = True := eq_true (by omega)
    have P3 : ((L5 : Int) == 0) = false := beq_eq_false_iff_ne.2 (by omega)
    have P4 : (L5 == 0) = false := beq_eq_false_iff_ne.2 (by omega)
    have P5 : (N5 ≤ k5) = True := eq_true (by omega)
    have P6 : (m ≤ k3) = True := eq_true (by omega)
    clear hrs hrt hst hs h hlit htr
    have hb0 : Below w.heap.size w w.drew := below_drew (Below.refl _ _)
    have HD := K0 (HE.out.below hb0)
    have HM0 := K0 (Moved.of_below (T := T) hb0)
    have d5 := pw_cell_below hb0 c5
    have d3 := pw_cell_below hb0 c3
    have dx := pw_cell_below hb0 x1
    obtain ⟨ds, hds⟩ : ∃ ds, E.tr.drop m = ds := ⟨_, rfl⟩
    have hdl : ds.length = N3 - m := by rw [← hds, List.length_drop, hN3]
    have HCUT : Aside0 (∀ (W : World) (E1 : Eng), EngIn W B T E1 p → E1.tr = E.tr → Kd.C (Kd.int .i64) W (if k3 = m then A3 else A3.map (·.add m)) ds.length ds) := ⟨fun W E1 h1 h2 => by
      have h3 := h1.tr
      rw [h2, e3] at h3
      have h4 := (Kd.R_reads' h3).2.2
      have h5 := Kd.C_drop h4 (m := m) (c := k3) (by omega) (by omega)
      rw [show (Kd.int .i64).sz = 1 from rfl, Nat.mul_one, hds] at h5
      exact h5⟩
    have HDM : Aside0 (∀ y ∈ ds, (Lit.int .i64 y).wf = true) := ⟨fun y hy => HTR.out y (List.mem_of_mem_drop (by rw [hds]; exact hy))⟩
    have HDS := K0 hds; have HE3 := K0 e3; have HE5 := K0 e5; have HN3 := K0 hN3; have HSS := K0 hss
    have hm3 : m ≤ N3 := ha1
    clear e3 e5 hds hN3 hss hf ha0 ha1 c4 x1 c3
    obtain ⟨L, hL⟩ : ∃ L, N3 - m = L := ⟨_, rfl⟩
    rw [hL] at hdl
    go_enter Try.func31, Try.ntmps31
    go_wp2
    go_still (by kernel_rfl)
    go_wp2
    all_goals
      obtain ⟨A6, hA6⟩ : ∃ A6, (if k3 = m then A3 else A3.map (·.add m)) = A6 := ⟨_, rfl⟩
      rw [hA6] at HCUT
      first
      | (rw [if_neg (by assumption)] at hA6; rw [hA6])
      | (have hkm : k3 = m := by assumption
         rw [if_pos hkm] at hA6
         rw [← hA6] at HCUT
         have HL0 := K0 (show L = 0 by omega)
         clear hkm h
         obtain rfl := hA6)
      have hLb : L ≤ 9223372036854775807 := by omega
      go_loopg [5, 35] L (fun gg _ v35 wr => ∃ (j : Nat), v35 = .int .i64 (j : Int) ∧ Aside0 (j + gg = L) ∧ Aside0 (EngIn wr B T (E.dels (ds.take j)) p) ∧ Aside0 (Moved T T w wr))
      case atStart => exact ⟨0, rfl, ⟨by simp⟩, HD, HM0⟩
      case round =>
        clear d3 d5 dx c5 HD HM0 HE
        obtain ⟨j, rfl, hg, HE1, HM1⟩ := hrel
        obtain ⟨E1, hE1⟩ : ∃ E1, E.dels (ds.take j) = E1 := ⟨_, rfl⟩
        obtain ⟨s1, s2, s3, s4, s5, s6, s7, s8⟩ := E.dels_same (ds.take j)
        rw [hE1] at HE1 s1 s2 s3 s4 s5 s6 s7
        have c4 := HE1.out.cells.2.2.2.2.1
        by_cases hlt : j < ds.length
        case pos =>
          first
          | (exfalso; have := HL0.out; omega)
          | (obtain ⟨ad', e1, x1⟩ := Kd.at_int (HCUT.out wr E1 HE1.out s2) (j : Int) (by omega) (by omega)
             obtain ⟨y, hy⟩ : ∃ y, ds[j] = y := ⟨_, rfl⟩
             have hrd' : rd ds (j : Int) = y := by simp [rd, hlt, hy]
             rw [hrd'] at x1
             simp only [Int.toNat_natCast] at x1
             have hyw := HDM.out y (by rw [← hy]; exact List.getElem_mem hlt)
             have HY := K0 (show ds.take (j + 1) = ds.take j ++ [y] by rw [List.take_add_one, List.getElem?_eq_getElem hlt, hy]; rfl)
             have Q0 : ((0 : Int) ≤ (j : Int)) = True := eq_true (by omega)
             have Q1 : ((j : Int) < (L : Int)) = True := eq_true (by omega)
             have Q2 : (j < L) = True := eq_true (by omega)
             have hd : decide ((j : Int) < (L : Int)) = true := decide_eq_true (by omega)
             have HE1' := K0 hE1
             obtain ⟨w2, hrun, hM2, hg2⟩ := HE1.out.ms.drop Try.underlying3 Try.underlying69 hyw 0
             obtain ⟨t1, t2⟩ := HE1.out.turn_del y hM2 hg2
             have T1 := K0 t1
             have T2 := K0 (HM1.out.trans t2)
             clear hE1 s1 s2 s3 s4 s5 s6 s7 s8 hy hrd' hyw t1 t2 hM2 hg2
             rw [e1]
             go_wp2
             rw [← e1]
             go_roundg (L - (j + 1))
             case measure => have := hg.out; omega
             case rel => exact ⟨j + 1, by simp, ⟨by have := hg.out; omega⟩, ⟨by rw [HY.out, Eng.dels_snoc, HE1'.out]; exact T1.out⟩, T2⟩)
        have hd : decide ((j : Int) < (L : Int)) = false := decide_eq_false (by omega)
        have Q2 : (j < L) = False := eq_false (by omega)
        rw [List.take_of_length_le (show ds.length ≤ j by omega)] at hE1 s8
        have HE1' := K0 hE1
        have S1 := K0 s1; have S2 := K0 s2; have S3 := K0 s3
        have hbw : Below wr.heap.size wr wr.drew := below_drew (Below.refl _ _)
        have HD1 := K0 (HE1.out.below hbw)
        have HMD := K0 (HM1.out.trans (Moved.of_below (T := T) hbw))
        have d3 : wr.drew.cell? ⟨B, 3, none⟩ = some (.slice A3 N3 k3) := by rw [HD1.out.cells.2.2.2.1, HE3.out]
        have d5 : wr.drew.cell? ⟨B, 5, none⟩ = some (.slice (some ad) L5 k5) := by rw [HD1.out.cells.2.2.2.2.2.1, HE5.out]
        have g0 := HD1.out.cells.2.2.2.2.2.2.2 3
        have g5 := HD1.out.cells.2.2.2.2.2.2.2 5
        have g6 := HD1.out.cells.2.2.2.2.2.2.2 6
        have r5 : wr.cell? ⟨B, 5, none⟩ = some (.slice (some ad) L5 k5) := by rw [HE1.out.cells.2.2.2.2.2.1, HE5.out]
        have r6 := HE1.out.cells.2.2.2.2.2.2.1
        have g35 := HE1.out.cells.2.2.2.2.2.2.2 5
        have g36 := HE1.out.cells.2.2.2.2.2.2.2 6
        have g33 := HE1.out.cells.2.2.2.2.2.2.2 3
        clear hE1 s1 s2 s3 s4 s5 s6 s7 hbw
        go_wp2
        refine start_ (n := 29) (S := fun w' => w'.cell? ⟨B, 3, none⟩ = some (.slice A3 N3 k3) ∧ w'.cell? ⟨B, 5, none⟩ = some (.slice (some ad) L5 k5)) (ds := [22, 25, 28]) #[false, false, false, false, false, false, false, false, false, false, false, false, false, false, false, false, false, false, false, false, false, false, false, false, false, false, false, false, false] (by kernel_rfl) rfl rfl ⟨d3, d5⟩ (fun hHeld => ?_)
        refine pure_ (i := 0) (N := some 45) (v := ?_) (a' := ?_) #[true, false, false, false, false, false, false, false, false, false, false, false, false, false, false, false, false, false, false, false, false, false, false, false, false, false, false, false, false] rfl rfl (by kernel_rfl) (fun _ _ _ h => h) (Or.inl ⟨by rfl, ?_⟩) ?_ ?_
        rotate_left
        · intro w'
          go_simp
          with_reducible rfl
        rotate_left
        · simp only [Act.put, List.setIfInBounds_toArray, List.set_cons_zero, List.set_cons_succ, i64_w, i32_w]
          rfl
        refine pure_ (i := 1) (N := some 46) (v := ?_) (a' := ?_) #[true, true, false, false, false, false, false, false, false, false, false, false, false, false, false, false, false, false, false, false, false, false, false, false, false, false, false, false, false] rfl rfl (by kernel_rfl) (fun _ _ _ h => h) (Or.inl ⟨by rfl, ?_⟩) ?_ ?_
        rotate_left
        · intro w'
          go_simp
          with_reducible rfl
        rotate_left
        · simp only [Act.put, List.setIfInBounds_toArray, List.set_cons_zero, List.set_cons_succ, i64_w, i32_w]
          rfl
        refine pure_ (i := 2) (N := some 47) (v := ?_) (a' := ?_) #[true, true, true, false, false, false, false, false, false, false, false, false, false, false, false, false, false, false, false, false, false, false, false, false, false, false, false, false, false] rfl rfl (by kernel_rfl) (fun _ _ _ h => h) (Or.inl ⟨by rfl, ?_⟩) ?_ ?_
        rotate_left
        · intro w'
          go_simp
          with_reducible rfl
        rotate_left
        · simp only [Act.put, List.setIfInBounds_toArray, List.set_cons_zero, List.set_cons_succ, i64_w, i32_w]
          rfl
        refine pure_ (i := 3) (N := some 48) (v := ?_) (a' := ?_) #[true, true, true, true, false, false, false, false, false, false, false, false, false, false, false, false, false, false, false, false, false, false, false, false, false, false, false, false, false] rfl rfl (by kernel_rfl) (fun _ _ _ h => h) (Or.inl ⟨by rfl, ?_⟩) ?_ ?_
        rotate_left
        · intro w'
          go_simp
          with_reducible rfl
        rotate_left
        · simp only [Act.put, List.setIfInBounds_toArray, List.set_cons_zero, List.set_cons_succ, i64_w, i32_w]
          rfl
        refine pure_ (i := 4) (N := some 49) (v := ?_) (a' := ?_) #[true, true, true, true, true, false, false, false, false, false, false, false, false, false, false, false, false, false, false, false, false, false, false, false, false, false, false, false, false] rfl rfl (by kernel_rfl) (fun _ _ _ h => h) (Or.inl ⟨by rfl, ?_⟩) ?_ ?_
        rotate_left
        · intro w'
          go_simp
          with_reducible rfl
        rotate_left
        · simp only [Act.put, List.setIfInBounds_toArray, List.set_cons_zero, List.set_cons_succ, i64_w, i32_w]
          rfl
        refine pure_ (i := 5) (N := some 50) (v := ?_) (a' := ?_) #[true, true, true, true, true, true, false, false, false, false, false, false, false, false, false, false, false, false, false, false, false, false, false, false, false, false, false, false, false] rfl rfl (by kernel_rfl) (fun _ _ _ h => h) (Or.inl ⟨by rfl, ?_⟩) ?_ ?_
        rotate_left
        · intro w'
          go_simp
          with_reducible rfl
        rotate_left
        · simp only [Act.put, List.setIfInBounds_toArray, List.set_cons_zero, List.set_cons_succ, i64_w, i32_w]
          rfl
        refine pure_ (i := 7) (N := some 52) (v := ?_) (a' := ?_) #[true, true, true, true, true, true, false, true, false, false, false, false, false, false, false, false, false, false, false, false, false, false, false, false, false, false, false, false, false] rfl rfl (by kernel_rfl) (fun _ _ _ h => h) (Or.inl ⟨by rfl, ?_⟩) ?_ ?_
        rotate_left
        · intro w'
          go_simp
          with_reducible rfl
        rotate_left
        · simp only [Act.put, List.setIfInBounds_toArray, List.set_cons_zero, List.set_cons_succ, i64_w, i32_w]
          rfl
        refine pure_ (i := 9) (N := some 54) (v := ?_) (a' := ?_) #[true, true, true, true, true, true, false, true, false, true, false, false, false, false, false, false, false, false, false, false, false, false, false, false, false, false, false, false, false] rfl rfl (by kernel_rfl) (fun _ _ _ h => h) (Or.inl ⟨by rfl, ?_⟩) ?_ ?_
        rotate_left
        · intro w'
          go_simp
          with_reducible rfl
        rotate_left
        · simp only [Act.put, List.setIfInBounds_toArray, List.set_cons_zero, List.set_cons_succ, i64_w, i32_w]
          rfl
        refine pure_ (i := 10) (N := some 55) (v := ?_) (a' := ?_) #[true, true, true, true, true, true, false, true, false, true, true, false, false, false, false, false, false, false, false, false, false, false, false, false, false, false, false, false, false] rfl rfl (by kernel_rfl) (fun _ _ _ h => h) (Or.inl ⟨by rfl, ?_⟩) ?_ ?_
        rotate_left
        · intro w'
          go_simp
          with_reducible rfl
        rotate_left
        · simp only [Act.put, List.setIfInBounds_toArray, List.set_cons_zero, List.set_cons_succ, i64_w, i32_w]
          rfl
        refine pure_ (i := 11) (N := some 56) (v := ?_) (a' := ?_) #[true, true, true, true, true, true, false, true, false, true, true, true, false, false, false, false, false, false, false, false, false, false, false, false, false, false, false, false, false] rfl rfl (by kernel_rfl) (fun _ _ _ h => h) (Or.inl ⟨by rfl, ?_⟩) ?_ ?_
        rotate_left
        · intro w'
          go_simp
          with_reducible rfl
        rotate_left
        · simp only [Act.put, List.setIfInBounds_toArray, List.set_cons_zero, List.set_cons_succ, i64_w, i32_w]
          rfl
        refine pure_ (i := 13) (N := some 58) (v := ?_) (a' := ?_) #[true, true, true, true, true, true, false, true, false, true, true, true, false, true, false, false, false, false, false, false, false, false, false, false, false, false, false, false, false] rfl rfl (by kernel_rfl) (fun _ _ _ h => h) (Or.inl ⟨by rfl, ?_⟩) ?_ ?_
        rotate_left
        · intro w'
          go_simp
          with_reducible rfl
        rotate_left
        · simp only [Act.put, List.setIfInBounds_toArray, List.set_cons_zero, List.set_cons_succ, i64_w, i32_w]
          rfl
        refine pure_ (i := 14) (N := some 59) (v := ?_) (a' := ?_) #[true, true, true, true, true, true, false, true, false, true, true, true, false, true, true, false, false, false, false, false, false, false, false, false, false, false, false, false, false] rfl rfl (by kernel_rfl) (fun _ _ _ h => h) (Or.inl ⟨by rfl, ?_⟩) ?_ ?_
        rotate_left
        · intro w'
          go_simp
          with_reducible rfl
        rotate_left
        · simp only [Act.put, List.setIfInBounds_toArray, List.set_cons_zero, List.set_cons_succ, i64_w, i32_w]
          rfl
        refine pure_ (i := 15) (N := some 60) (v := ?_) (a' := ?_) #[true, true, true, true, true, true, false, true, false, true, true, true, false, true, true, true, false, false, false, false, false, false, false, false, false, false, false, false, false] rfl rfl (by kernel_rfl) (fun _ _ _ h => h) (Or.inl ⟨by rfl, ?_⟩) ?_ ?_
        rotate_left
        · intro w'
          go_simp
          with_reducible rfl
        rotate_left
        · simp only [Act.put, List.setIfInBounds_toArray, List.set_cons_zero, List.set_cons_succ, i64_w, i32_w]
          rfl
        refine take_ (i := 6) (N := some 51) (v := ?_) (a' := ?_) #[true, true, true, true, true, true, true, true, false, true, true, true, false, true, true, true, false, false, false, false, false, false, false, false, false, false, false, false, false] rfl rfl (by kernel_rfl) (fun _ _ _ h => h) (Or.inl ⟨by rfl, ?_⟩) hHeld ?_ ?_
        rotate_left
        · rintro w' ⟨s0, s1⟩
          go_simp
          with_reducible rfl
        rotate_left
        · simp only [Act.put, List.setIfInBounds_toArray, List.set_cons_zero, List.set_cons_succ, i64_w, i32_w]
          rfl
        refine pure_ (i := 8) (N := some 53) (v := ?_) (a' := ?_) #[true, true, true, true, true, true, true, true, true, true, true, true, false, true, true, true, false, false, false, false, false, false, false, false, false, false, false, false, false] rfl rfl (by kernel_rfl) (fun _ _ _ h => h) (Or.inl ⟨by rfl, ?_⟩) ?_ ?_
        rotate_left
        · intro w'
          go_simp
          with_reducible rfl
        rotate_left
        · simp only [Act.put, List.setIfInBounds_toArray, List.set_cons_zero, List.set_cons_succ, i64_w, i32_w]
          rfl
        refine take_ (i := 12) (N := some 57) (v := ?_) (a' := ?_) #[true, true, true, true, true, true, true, true, true, true, true, true, true, true, true, true, false, false, false, false, false, false, false, false, false, false, false, false, false] rfl rfl (by kernel_rfl) (fun _ _ _ h => h) (Or.inl ⟨by rfl, ?_⟩) hHeld ?_ ?_
        rotate_left
        · rintro w' ⟨s0, s1⟩
          go_simp
          with_reducible rfl
        rotate_left
        · simp only [Act.put, List.setIfInBounds_toArray, List.set_cons_zero, List.set_cons_succ, i64_w, i32_w]
          rfl
        refine take_ (i := 16) (N := some 61) (v := ?_) (a' := ?_) #[true, true, true, true, true, true, true, true, true, true, true, true, true, true, true, true, true, false, false, false, false, false, false, false, false, false, false, false, false] rfl rfl (by kernel_rfl) (fun _ _ _ h => h) (Or.inl ⟨by rfl, ?_⟩) hHeld ?_ ?_
        rotate_left
        · rintro w' ⟨s0, s1⟩
          go_simp
          with_reducible rfl
        rotate_left
        · simp only [Act.put, List.setIfInBounds_toArray, List.set_cons_zero, List.set_cons_succ, i64_w, i32_w]
          rfl
        refine pure_ (i := 17) (N := some 62) (v := ?_) (a' := ?_) #[true, true, true, true, true, true, true, true, true, true, true, true, true, true, true, true, true, true, false, false, false, false, false, false, false, false, false, false, false] rfl rfl (by kernel_rfl) (fun _ _ _ h => h) (Or.inl ⟨by rfl, ?_⟩) ?_ ?_
        rotate_left
        · intro w'
          go_simp
          with_reducible rfl
        rotate_left
        · simp only [Act.put, List.setIfInBounds_toArray, List.set_cons_zero, List.set_cons_succ, i64_w, i32_w]
          rfl
        refine pure_ (i := 18) (N := some 63) (v := ?_) (a' := ?_) #[true, true, true, true, true, true, true, true, true, true, true, true, true, true, true, true, true, true, true, false, false, false, false, false, false, false, false, false, false] rfl rfl (by kernel_rfl) (fun _ _ _ h => h) (Or.inl ⟨by rfl, ?_⟩) ?_ ?_
        rotate_left
        · intro w'
          go_simp
          with_reducible rfl
        rotate_left
        · simp only [Act.put, List.setIfInBounds_toArray, List.set_cons_zero, List.set_cons_succ, i64_w, i32_w]
          rfl
        refine pure_ (i := 19) (N := some 64) (v := ?_) (a' := ?_) #[true, true, true, true, true, true, true, true, true, true, true, true, true, true, true, true, true, true, true, true, false, false, false, false, false, false, false, false, false] rfl rfl (by kernel_rfl) (fun _ _ _ h => h) (Or.inl ⟨by rfl, ?_⟩) ?_ ?_
        rotate_left
        · intro w'
          go_simp
          with_reducible rfl
        rotate_left
        · simp only [Act.put, List.setIfInBounds_toArray, List.set_cons_zero, List.set_cons_succ, i64_w, i32_w]
          rfl
        refine pure_ (i := 20) (N := some 65) (v := ?_) (a' := ?_) #[true, true, true, true, true, true, true, true, true, true, true, true, true, true, true, true, true, true, true, true, true, false, false, false, false, false, false, false, false] rfl rfl (by kernel_rfl) (fun _ _ _ h => h) (Or.inl ⟨by rfl, ?_⟩) ?_ ?_
        rotate_left
        · intro w'
          go_simp
          with_reducible rfl
        rotate_left
        · simp only [Act.put, List.setIfInBounds_toArray, List.set_cons_zero, List.set_cons_succ, i64_w, i32_w]
          rfl
        refine pure_ (i := 21) (N := some 66) (v := ?_) (a' := ?_) #[true, true, true, true, true, true, true, true, true, true, true, true, true, true, true, true, true, true, true, true, true, true, false, false, false, false, false, false, false] rfl rfl (by kernel_rfl) (fun _ _ _ h => h) (Or.inl ⟨by rfl, ?_⟩) ?_ ?_
        rotate_left
        · intro w'
          go_simp
          with_reducible rfl
        rotate_left
        · simp only [Act.put, List.setIfInBounds_toArray, List.set_cons_zero, List.set_cons_succ, i64_w, i32_w]
          rfl
        refine last_ (i := 22) (N := none) #[true, true, true, true, true, true, true, true, true, true, true, true, true, true, true, true, true, true, true, true, true, true, true, false, false, false, false, false, false] rfl rfl (by kernel_rfl) (by decide) (fun K hK => ?_)
        refine skip_ (w1 := ?_) (by rfl) rfl ?_ ?_
        rotate_left
        · go_simp
          rfl
        refine hK.out _ _ ?_
        clear hK K
        refine pure_ (i := 23) (N := some 67) (v := ?_) (a' := ?_) #[true, true, true, true, true, true, true, true, true, true, true, true, true, true, true, true, true, true, true, true, true, true, true, true, false, false, false, false, false] rfl rfl (by kernel_rfl) (fun _ _ _ h => h) (Or.inl ⟨by rfl, ?_⟩) ?_ ?_
        rotate_left
        · intro w'
          go_simp
          with_reducible rfl
        rotate_left
        · simp only [Act.put, List.setIfInBounds_toArray, List.set_cons_zero, List.set_cons_succ, i64_w, i32_w]
          rfl
        refine pure_ (i := 24) (N := some 68) (v := ?_) (a' := ?_) #[true, true, true, true, true, true, true, true, true, true, true, true, true, true, true, true, true, true, true, true, true, true, true, true, true, false, false, false, false] rfl rfl (by kernel_rfl) (fun _ _ _ h => h) (Or.inl ⟨by rfl, ?_⟩) ?_ ?_
        rotate_left
        · intro w'
          go_simp
          with_reducible rfl
        rotate_left
        · simp only [Act.put, List.setIfInBounds_toArray, List.set_cons_zero, List.set_cons_succ, i64_w, i32_w]
          rfl
        refine last_ (i := 25) (N := none) #[true, true, true, true, true, true, true, true, true, true, true, true, true, true, true, true, true, true, true, true, true, true, true, true, true, true, false, false, false] rfl rfl (by kernel_rfl) (by decide) (fun K hK => ?_)
        refine skip_ (w1 := ?_) (by rfl) rfl ?_ ?_
        rotate_left
        · go_simp
          rfl
        refine hK.out _ _ ?_
        clear hK K
        refine pure_ (i := 26) (N := some 69) (v := ?_) (a' := ?_) #[true, true, true, true, true, true, true, true, true, true, true, true, true, true, true, true, true, true, true, true, true, true, true, true, true, true, true, false, false] rfl rfl (by kernel_rfl) (fun _ _ _ h => h) (Or.inl ⟨by rfl, ?_⟩) ?_ ?_
        rotate_left
        · intro w'
          go_simp
          with_reducible rfl
        rotate_left
        · simp only [Act.put, List.setIfInBounds_toArray, List.set_cons_zero, List.set_cons_succ, i64_w, i32_w]
          rfl
        refine pure_ (i := 27) (N := some 70) (v := ?_) (a' := ?_) #[true, true, true, true, true, true, true, true, true, true, true, true, true, true, true, true, true, true, true, true, true, true, true, true, true, true, true, true, false] rfl rfl (by kernel_rfl) (fun _ _ _ h => h) (Or.inl ⟨by rfl, ?_⟩) ?_ ?_
        rotate_left
        · intro w'
          go_simp
          with_reducible rfl
        rotate_left
        · simp only [Act.put, List.setIfInBounds_toArray, List.set_cons_zero, List.set_cons_succ, i64_w, i32_w]
          rfl
        refine last_ (i := 28) (N := none) #[true, true, true, true, true, true, true, true, true, true, true, true, true, true, true, true, true, true, true, true, true, true, true, true, true, true, true, true, true] rfl rfl (by kernel_rfl) (by decide) (fun K hK => ?_)
        refine skip_ (w1 := ?_) (by rfl) rfl ?_ ?_
        rotate_left
        · go_simp
          rfl
        refine hK.out _ _ ?_
        clear hK K
        refine done_ (by kernel_rfl) ?_
        have hR3 : Kd.R (Kd.int .i64) 3 wr 0 (fun k => T k = (4, 0) ∨ wr.heap.size ≤ k) (.slice A3 m k3) (E.tr.take m) := by
          have h := HE1.out.tr
          rw [HE3.out, S2.out] at h
          exact Kd.R_take (Kd.R_mono h (fun _ hk => .inl hk)) (by rw [HN3.out]; exact hm3)
        have hgr : ∀ (W : World) (o : Option Nat), W.grownBy W o := fun W o => ⟨rfl, rfl, rfl, Nat.le_refl _, fun _ _ _ => rfl⟩
        have hk3 : ∀ x, (E1.ms x).isSome = true → x ∈ E.tr.take m := fun x hx => by
          have h1 := HE1.out.mst x hx
          rw [S2.out, ← List.take_append_drop m E.tr] at h1
          rcases List.mem_append.1 h1 with h1 | h1
          · exact h1
          · rw [HDS.out] at h1
            rw [← HE1'.out, s8, if_pos h1] at hx
            cases hx
        obtain ⟨a1, b1⟩ := HE1.out.turn_tr hR3 (hgr _ _) hk3
        have hR5 : Kd.R (Kd.int .i64) 3 (wr.setCell ⟨B, 3, none⟩ (.slice A3 m k3)) 0 (fun k => retag T wr (.slice A3 m k3) (4, 0) k = (5, 0) ∨ (wr.setCell ⟨B, 3, none⟩ (.slice A3 m k3)).heap.size ≤ k) (.slice (some ad) N5 k5) ss := by
          have h := a1.st
          have h : Kd.R (Kd.int .i64) 3 (wr.setCell ⟨B, 3, none⟩ (.slice A3 m k3)) 0 (fun k => retag T wr (.slice A3 m k3) (4, 0) k = (5, 0)) p.vS E1.st := h
          rw [HE5.out, S3.out, HSS.out] at h
          have h2 := Kd.R_take (m := N5) (Kd.R_mono (ok' := fun k => retag T wr (.slice A3 m k3) (4, 0) k = (5, 0) ∨ (wr.setCell ⟨B, 3, none⟩ (.slice A3 m k3)).heap.size ≤ k) h (fun _ hk => Or.inl hk)) (by simp [hN5])
          rw [show (ss ++ [(m : Int)]).take N5 = ss by rw [← hN5]; simp] at h2
          exact h2
        obtain ⟨a2, b2⟩ := a1.turn_st hR5 (hgr _ _)
        obtain ⟨a3, b3'⟩ := a2.turn_br (-1)
        obtain ⟨W6, hW6⟩ : ∃ W6, ((wr.setCell ⟨B, 3, none⟩ (.slice A3 m k3)).setCell ⟨B, 5, none⟩ (.slice (some ad) N5 k5)).setCell ⟨B, 6, none⟩ (.int .i64 (-1)) = W6 := ⟨_, rfl⟩
        rw [hW6] at a3 b3'
        have hbw6 : Below W6.heap.size W6 W6.drew := below_drew (Below.refl _ _)
        obtain ⟨T6, p6, E6, h6, m6, f6, e6⟩ : ∃ T6 p6 E6, EngIn W6.drew B T6 E6 p6 ∧ Moved T T6 w W6.drew ∧ p6.fw = p.fw ∧ E6 = E.popped m := ⟨_, _, _, a3.below hbw6, HM1.out.trans (b1.trans (b2.trans (b3'.trans (Moved.of_below hbw6)))), rfl, by
          unfold Eng.popped
          rw [HDS.out, HE1'.out, HSS.out, List.dropLast_concat]⟩
        have hlit6 : E6.Lits := by
          unfold Eng.Lits
          rw [e6]
          show ∀ c ∈ (E.dels (E.tr.drop m)).cls, _
          rw [HDS.out, HE1'.out, S1.out]
          exact HL.out
        have HCALL := K0 (eng_settle.calls k E6 B T6 p6 E3 _ h6 hlit6 (by rw [e6]; exact HS.out))
        have HM6 := K0 m6; have HW6 := K0 hW6; have HF6 := K0 f6; clear hW6 a1 b1 a2 b2 a3 b3' h6 m6 f6 e6 hlit6 hR3 hR5 hk3 hgr hbw6 d3 d5 g0 g5 g6 r5 r6 g35 g36 g33
        go_wp2_with fail
        rw [HW6.out]
        refine HCALL.out.mono ?_
        rintro e' w8 ⟨rfl, T8, p8, h8, m8, f8⟩
        have H8 := K0 h8
        have M8 := K0 (HM6.out.trans m8)
        have F8 := K0 (f8.trans HF6.out)
        clear h8 m8 f8 HCALL
        go_wp2
        go_ret
        exact ⟨rfl, T8, p8, H8.out, M8.out, F8.out⟩
end Go.Proofs.Ytkmlekfmccghjaa.P
