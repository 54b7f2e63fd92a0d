import Derived.Test.YtkmlekfmccghjaaKUnitPlays1
import Derived.Test.YtkmlekfmccghjaaKUnitPlays4
import Derived.Test.YtkmlekfmccghjaaKUnitPlays3
import Derived.Test.YtkmlekfmccghjaaKUnitPlays2
namespace Go.Proofs.Ytkmlekfmccghjaa.P
open Go.RowKit Go.Proofs.YtkmlekfmccghjaaW.PrintWords Go.Proofs.YtkmlekfmccghjaaW.PrintLast Go.Proofs.YtkmlekfmccghjaaW.PrintMore
attribute [local go_sem] max2_int min2_int max_two min_two max_three min_three max_four min_four
set_option linter.unusedVariables false
set_option linter.unusedSimpArgs false
mutual
def sequiturref20_On.l0 : Nat → Int → List (List Int) → List (List Int) → Bool → Option (Int × (List (List Int)) × (List (List Int)) × Bool)
  | 0, _, _, _, _ => none
  | k + 1, x210000, x210001, x210002, x210003 => sequiturref20_On.l1 k 0 0 x210000 x210001 x210002 x210003
def sequiturref20_On.l1 : Nat → Int → Int → Int → List (List Int) → List (List Int) → Bool → Option (Int × (List (List Int)) × (List (List Int)) × Bool)
  | 0, _, _, _, _, _, _ => none
  | k + 1, x3, x4, x210000, x210001, x210002, x210003 => if x4 < (x210001.length : Int) then (if 0 ≤ x4 then ((sequiturref20_open.f k x210000 x210001 x210002 x210003 (rd_L3 x210001 x4)).bind fun bt220 => (if bt220.2 = true then (some (x210000, x210001, x210002, true)) else (if bt220.1 = 0 then (sequiturref20_On.l1 k x3 (wrap64 (x4 + 1)) x210000 x210001 x210002 x210003) else (sequiturref20_On.l1 k bt220.1 (wrap64 (x4 + 1)) x210000 x210001 x210002 x210003)))) else (none)) else (if x3 = 0 then (some (x210000, x210001, x210002, x210003)) else ((sequiturref20_put.f x210000 x210001 x210002 x210003 x3).bind fun bt211 => (sequiturref20_On.l0 k bt211.1 bt211.2.1 bt211.2.2.1 bt211.2.2.2)))
end
def sequiturref20_On.f (k : Nat) (a0_0 : Int) (l0_1 : List (List Int)) (l0_2 : List (List Int)) (a0_3 : Bool) : Option (Int × (List (List Int)) × (List (List Int)) × Bool) := sequiturref20_On.l0 k a0_0 l0_1 l0_2 a0_3
def sequiturref20_On.T5 : Bool × List (List Nat × List Nat) := (true, [([], []), ([], []), ([1], [1]), ([], []), ([2, 3], [2, 3]), ([4], [4]), ([0, 5], [0, 5]), ([6], [6]), ([7], [7]), ([7], [7]), ([8, 6, 0, 1, 2, 3, 4, 5, 6, 7, 8], [8]), ([9, 10, 0, 1, 2, 3, 4, 5, 6, 7, 8, 9, 10], [9])])
def sequiturref20_On.B5 : List Nat := [0, 0, 2, 0, 14, 30, 63, 127, 255, 255, 511, 2047]
theorem sequiturref20_On.tab5 : rtab .any (opsOf Try.f40 5) = sequiturref20_On.T5 := by kernel_rfl
theorem sequiturref20_On.bits5 : waitsOk sequiturref20_On.T5.2 sequiturref20_On.B5 = true := by kernel_rfl
set_option maxHeartbeats 8000000 in
set_option maxRecDepth 100000 in
theorem sequiturref20_On.calls (k : Nat) (a0_0 : Int) (P0_1_ : Nat → Prop) (A0_1 : Option Addr) (c0_1 : Nat) (l0_1 : List (List Int)) (P0_2_ : Nat → Prop) (A0_2 : Option Addr) (c0_2 : Nat) (l0_2 : List (List Int)) (a0_3 : Bool) (r1 : Int) (r2 : List (List Int)) (r3 : List (List Int)) (r4 : Bool) (w : World) (hs0_1 : Kd.V (Kd.slice 3 (Kd.int .i64)) 37 w w.heap.size (fun k_ => P0_1_ k_) (.slice A0_1 l0_1.length c0_1) l0_1) (hs0_2 : Kd.V (Kd.slice 3 (Kd.int .i64)) 37 w w.heap.size (fun k_ => P0_2_ k_) (.slice A0_2 l0_2.length c0_2) l0_2) (h : sequiturref20_On.f k a0_0 l0_1 l0_2 a0_3 = some (r1, r2, r3, r4)) :
    Calls Try.prog 40 #[.agg #[.int .i64 a0_0, .slice A0_1 l0_1.length c0_1, .slice A0_2 l0_2.length c0_2, .bool a0_3]] w fun e w' => ∃ v1_ v2_ : Value, e = .returned (.agg #[.int .i64 r1, v1_, v2_, .bool r4]) ∧ Kd.V (Kd.slice 3 (Kd.int .i64)) 37 w' w.heap.size (fun k_ => ((P0_1_ k_ ∨ P0_2_ k_) ∨ w.heap.size ≤ k_)) v1_ r2 ∧ Kd.V (Kd.slice 3 (Kd.int .i64)) 37 w' w.heap.size (fun k_ => ((P0_1_ k_ ∨ P0_2_ k_) ∨ w.heap.size ≤ k_)) v2_ r3 ∧ Below w.heap.size w w' := by
  have hu34 := Try.underlying34
  have HO0_1 := K0 (show Kd.V (Kd.slice 3 (Kd.int .i64)) 37 w w.heap.size (fun k_ => ((P0_1_ k_ ∨ P0_2_ k_) ∨ w.heap.size ≤ k_)) (.slice A0_1 l0_1.length c0_1) l0_1 from Kd.V_mono hs0_1 (fun k_ hk => .inl (.inl hk)))
  have HO0_2 := K0 (show Kd.V (Kd.slice 3 (Kd.int .i64)) 37 w w.heap.size (fun k_ => ((P0_1_ k_ ∨ P0_2_ k_) ∨ w.heap.size ≤ k_)) (.slice A0_2 l0_2.length c0_2) l0_2 from Kd.V_mono hs0_2 (fun k_ hk => .inl (.inr hk)))
  have HB := K0 (Below.refl w.heap.size w)
  have H : (sequiturref20_On.l0 k a0_0 l0_1 l0_2 a0_3) = some (r1, r2, r3, r4) := h
  clear h
  have H' := K0 H
  clear H
  go_enter Try.func40, Try.ntmps40
  go_wp2_with (first | ((with_reducible refine gate_dst (N := 1) rfl ?_); refine box_event ?hg (N := 1) ?hd (cs := #[.int .i64 a0_0, .slice A0_1 l0_1.length c0_1, .slice A0_2 l0_2.length c0_2, .bool a0_3]) (t := 34) ?hr ?_; (case hd => rfl); (case hg => rfl); (case hr => first | (go_simp; done) | (go_simp; rfl)); intro gb209 hg w2 hbox hb; have n0_ := K0 (Kd.V_below (Kd.V_elderB (by (with_reducible repeat (first | apply Kd.V_alloc | apply Kd.V_drewN | apply Kd.V_drew)); exact HO0_1.out) gb209 (Nat.le_of_eq hg.symm)) hb); have n1_ := K0 (Kd.V_below (Kd.V_elderB (by (with_reducible repeat (first | apply Kd.V_alloc | apply Kd.V_drewN | apply Kd.V_drew)); exact HO0_2.out) gb209 (Nat.le_of_eq hg.symm)) hb); have n2_ := K0 (below_step (by repeat (first | (with_reducible first | exact HB.out | apply below_alloc | apply pw_below_drewN | apply below_drew1) | exact HB.out)) hb); have n3_ := K0 (hbox); have n4_ := K0 ((by rw [hg]; exact (below_size (by repeat (first | (with_reducible first | exact HB.out | apply below_alloc | apply pw_below_drewN | apply below_drew1) | exact HB.out))) : w.heap.size ≤ gb209)); have n5_ := K0 ((by rw [hg]; exact (below_size (by repeat (first | (with_reducible first | exact HB.out | apply below_alloc | apply pw_below_drewN | apply below_drew1) | exact HB.out))) : w.heap.size ≤ gb209)); clear HO0_1; clear HO0_2; clear HB; have HO0_1 := n0_; have HO0_2 := n1_; have HB := n2_; have BK209 := n3_; have GW209 := n4_; have GE209 := n5_; clear n0_ n1_ n2_ n3_ n4_ n5_; clear hb hbox hg) | ((with_reducible refine gate_dst (N := 2) rfl ?_); refine box_event ?hg (N := 2) ?hd (cs := #[.int .i64 0, .slice none 0 0, .slice none 0 0, .bool false]) (t := 34) ?hr ?_; (case hd => rfl); (case hg => rfl); (case hr => first | (go_simp; done) | (go_simp; rfl)); intro gb210 hg w3 hbox hb; have n0_ := K0 (Kd.V_below (Kd.V_elderB (by (with_reducible repeat (first | apply Kd.V_alloc | apply Kd.V_drewN | apply Kd.V_drew)); exact HO0_1.out) gb210 (Nat.le_of_eq hg.symm)) hb); have n1_ := K0 (Kd.V_below (Kd.V_elderB (by (with_reducible repeat (first | apply Kd.V_alloc | apply Kd.V_drewN | apply Kd.V_drew)); exact HO0_2.out) gb210 (Nat.le_of_eq hg.symm)) hb); have n2_ := K0 (blk_below (g := gb209) (o := .cells #[.int .i64 a0_0, .slice A0_1 l0_1.length c0_1, .slice A0_2 l0_2.length c0_2, .bool a0_3] 34 (0, 0)) (by (with_reducible repeat (first | refine blk_drewN ?_ _ | refine blk_drew ?_ | refine blk_alloc ?_ _)); exact BK209.out) hb); have n3_ := K0 (below_step (by repeat (first | (with_reducible first | exact HB.out | apply below_alloc | apply pw_below_drewN | apply below_drew1 | refine below_set ?_ GE209.out) | exact HB.out)) hb); have n4_ := K0 (hbox); have n5_ := K0 ((by rw [hg]; exact (below_size (by repeat (first | (with_reducible first | exact HB.out | apply below_alloc | apply pw_below_drewN | apply below_drew1 | refine below_set ?_ GE209.out) | exact HB.out))) : w.heap.size ≤ gb210)); have n6_ := K0 ((by rw [hg]; exact (below_size (by repeat (first | (with_reducible first | exact HB.out | apply below_alloc | apply pw_below_drewN | apply below_drew1 | refine below_set ?_ GE209.out) | exact HB.out))) : w.heap.size ≤ gb210)); have n7_ := K0 ((by rw [hg]; exact Nat.ne_of_lt (blk_lt (g := gb209) (o := .cells #[.int .i64 a0_0, .slice A0_1 l0_1.length c0_1, .slice A0_2 l0_2.length c0_2, .bool a0_3] 34 (0, 0)) (by (with_reducible repeat (first | refine blk_drewN ?_ _ | refine blk_drew ?_ | refine blk_alloc ?_ _)); exact BK209.out)) : gb209 ≠ gb210)); have n8_ := K0 ((by rw [hg]; exact Nat.ne_of_gt (blk_lt (g := gb209) (o := .cells #[.int .i64 a0_0, .slice A0_1 l0_1.length c0_1, .slice A0_2 l0_2.length c0_2, .bool a0_3] 34 (0, 0)) (by (with_reducible repeat (first | refine blk_drewN ?_ _ | refine blk_drew ?_ | refine blk_alloc ?_ _)); exact BK209.out)) : gb210 ≠ gb209)); clear HO0_1; clear HO0_2; clear BK209; clear HB; have HO0_1 := n0_; have HO0_2 := n1_; have BK209 := n2_; have HB := n3_; have BK210 := n4_; have GW210 := n5_; have GE210 := n6_; have NB209_210 := n7_; have NB210_209 := n8_; clear n0_ n1_ n2_ n3_ n4_ n5_ n6_ n7_ n8_; clear hb hbox hg))
  go_simp
  go_loopg [] k (fun kq w' => ∃ (x210000_1 : Int) (x210001_1 : List (List Int)) (x210002_1 : List (List Int)) (x210003_1 : Bool) (x211000_1 : Int) (x211003_1 : Bool) (u210001 : Value) (u210002 : Value), Aside0 (sequiturref20_On.l0 kq x210000_1 x210001_1 x210002_1 x210003_1 = some (r1, r2, r3, r4)) ∧ Aside0 (kq ≤ k) ∧ Aside0 (Kd.V (Kd.slice 3 (Kd.int .i64)) 37 w' w.heap.size (fun k_ => ((P0_1_ k_ ∨ P0_2_ k_) ∨ w.heap.size ≤ k_) ∧ k_ ≠ gb209 ∧ k_ ≠ gb210) u210001 x210001_1) ∧ Aside0 (Kd.V (Kd.slice 3 (Kd.int .i64)) 37 w' w.heap.size (fun k_ => ((P0_1_ k_ ∨ P0_2_ k_) ∨ w.heap.size ≤ k_) ∧ k_ ≠ gb209 ∧ k_ ≠ gb210) u210002 x210002_1) ∧ Aside0 (w'.heap[gb209]? = some (.cells #[.int .i64 x210000_1, u210001, u210002, .bool x210003_1] 34 (0, 0))) ∧ Aside0 (w'.heap[gb210]? = some (.cells #[.int .i64 x211000_1, (.slice none 0 0), (.slice none 0 0), .bool x211003_1] 34 (0, 0))) ∧ Aside0 (Below w.heap.size w w'))
  case atStart => exact ⟨(a0_0), (l0_1), (l0_2), (a0_3), (0), (false), (.slice A0_1 l0_1.length c0_1), (.slice A0_2 l0_2.length c0_2), H', ⟨Nat.le_refl _⟩, ⟨by (with_reducible repeat (first | apply Kd.V_alloc | apply Kd.V_drewN | apply Kd.V_drew)); exact Kd.V_mono HO0_1.out (fun _ hk => ⟨hk.1.1, ⟨hk.1.2, hk.2⟩⟩)⟩, ⟨by (with_reducible repeat (first | apply Kd.V_alloc | apply Kd.V_drewN | apply Kd.V_drew)); exact Kd.V_mono HO0_2.out (fun _ hk => ⟨hk.1.1, ⟨hk.1.2, hk.2⟩⟩)⟩, ⟨by (with_reducible repeat (first | refine blk_drewN ?_ _ | refine blk_drew ?_ | refine blk_alloc ?_ _)); exact BK209.out⟩, ⟨by (with_reducible repeat (first | refine blk_drewN ?_ _ | refine blk_drew ?_ | refine blk_alloc ?_ _)); exact BK210.out⟩, ⟨by repeat (first | (with_reducible first | exact HB.out | apply below_alloc | apply pw_below_drewN | apply below_drew1 | refine below_set ?_ GE209.out | refine below_set ?_ GE210.out) | exact HB.out)⟩⟩
  case round =>
    clear H'; try clear p2
    obtain ⟨x210000_1, x210001_1, x210002_1, x210003_1, x211000_1, x211003_1, u210001, u210002, HA, HK1, HO_210001, HO_210002, BK209, BK210, HB⟩ := hrel
    cases gk with
    | zero => exact absurd HA.out (by simp [sequiturref20_On.l0])
    | succ k1 =>
      have H := HA.out
      clear HA
      simp only [sequiturref20_On.l0] at H
      have H' := K0 H
      clear H
      go_wp2
      go_loopg [3, 4] k1 (fun kq v3 v4 w' => ∃ (x3_2 : Int) (x4_2 : Int) (x210003_2 : Bool) (x211000_2 : Int) (x211003_2 : Bool), v3 = .int .i64 x3_2 ∧ v4 = .int .i64 x4_2 ∧ Aside0 (sequiturref20_On.l1 kq x3_2 x4_2 x210000_1 x210001_1 x210002_1 x210003_2 = some (r1, r2, r3, r4)) ∧ Aside0 (kq ≤ k1) ∧ Aside0 (Kd.V (Kd.slice 3 (Kd.int .i64)) 37 w' w.heap.size (fun k_ => ((P0_1_ k_ ∨ P0_2_ k_) ∨ w.heap.size ≤ k_) ∧ k_ ≠ gb209 ∧ k_ ≠ gb210) u210001 x210001_1) ∧ Aside0 (Kd.V (Kd.slice 3 (Kd.int .i64)) 37 w' w.heap.size (fun k_ => ((P0_1_ k_ ∨ P0_2_ k_) ∨ w.heap.size ≤ k_) ∧ k_ ≠ gb209 ∧ k_ ≠ gb210) u210002 x210002_1) ∧ Aside0 (w'.heap[gb209]? = some (.cells #[.int .i64 x210000_1, u210001, u210002, .bool x210003_2] 34 (0, 0))) ∧ Aside0 (w'.heap[gb210]? = some (.cells #[.int .i64 x211000_2, (.slice none 0 0), (.slice none 0 0), .bool x211003_2] 34 (0, 0))) ∧ Aside0 (Below w.heap.size w w'))
      case atStart => exact ⟨(0), (0), (x210003_1), (x211000_1), (x211003_1), (by first | rfl | (simp; done) | (simp [*]; done)), (by first | rfl | (simp; done) | (simp [*]; done)), H', ⟨Nat.le_refl _⟩, ⟨by (with_reducible repeat (first | apply Kd.V_alloc | apply Kd.V_drewN | apply Kd.V_drew)); exact HO_210001.out⟩, ⟨by (with_reducible repeat (first | apply Kd.V_alloc | apply Kd.V_drewN | apply Kd.V_drew)); exact HO_210002.out⟩, ⟨by (with_reducible repeat (first | refine blk_drewN ?_ _ | refine blk_drew ?_ | refine blk_alloc ?_ _)); exact BK209.out⟩, ⟨by (with_reducible repeat (first | refine blk_drewN ?_ _ | refine blk_drew ?_ | refine blk_alloc ?_ _)); exact BK210.out⟩, ⟨by repeat (first | (with_reducible first | exact HB.out | apply below_alloc | apply pw_below_drewN | apply below_drew1 | refine below_set ?_ GE209.out | refine below_set ?_ GE210.out) | exact HB.out)⟩⟩
      case round =>
        clear H'; try clear p2; try clear p2
        obtain ⟨x3_2, x4_2, x210003_2, x211000_2, x211003_2, rfl, rfl, HA, HK2, HO_210001, HO_210002, BK209, BK210, HB⟩ := hrel
        cases gk with
        | zero => exact absurd HA.out (by simp [sequiturref20_On.l1])
        | succ k2 =>
          have H := HA.out
          clear HA
          simp only [sequiturref20_On.l1] at H
          by_cases c4 : x4_2 < (x210001_1.length : Int)
          case neg =>
            rw [if_neg c4] at H
            have c4b0 : decide (x4_2 < (x210001_1.length : Int)) = false := decide_eq_false c4
            clear c4
            by_cases c29 : x3_2 = 0
            case pos =>
              rw [if_pos c29] at H
              have c29b0 : (x3_2 == 0) = true := beq_iff_eq.mpr c29
              have c29b1 : (x3_2 != 0) = false := bne_eq_false_iff_eq.mpr c29
              clear c29
              as_aux_lemma =>
                simp only [Option.some.injEq, Prod.mk.injEq] at H
                obtain ⟨rfl, rfl, rfl, rfl⟩ := H
                have hnb30 := NB209_210.out; have hnc30 := NB210_209.out
                have hcz31_0 : wr.cell? ⟨gb209, 0, none⟩ = some (.int .i64 x210000_1) := (blk_cell BK209.out 0).trans rfl
                have hcz31_1 : wr.cell? ⟨gb209, 1, none⟩ = some (u210001) := (blk_cell BK209.out 1).trans rfl
                have hcz31_2 : wr.cell? ⟨gb209, 2, none⟩ = some (u210002) := (blk_cell BK209.out 2).trans rfl
                have hcz31_3 : wr.cell? ⟨gb209, 3, none⟩ = some (.bool x210003_2) := (blk_cell BK209.out 3).trans rfl
                have hfz31_0 := blk_frozen BK209.out 0; have hfz31_1 := blk_frozen BK209.out 1; have hfz31_2 := blk_frozen BK209.out 2; have hfz31_3 := blk_frozen BK209.out 3
                obtain ⟨Ao32, co32, eo32⟩ := Kd.V_slice HO_210001.out
                subst eo32
                have hcz33_0 : wr.cell? ⟨gb210, 0, none⟩ = some (.int .i64 x211000_2) := (blk_cell BK210.out 0).trans rfl
                have hcz33_1 : wr.cell? ⟨gb210, 1, none⟩ = some (.slice none 0 0) := (blk_cell BK210.out 1).trans rfl
                have hcz33_2 : wr.cell? ⟨gb210, 2, none⟩ = some (.slice none 0 0) := (blk_cell BK210.out 2).trans rfl
                have hcz33_3 : wr.cell? ⟨gb210, 3, none⟩ = some (.bool x211003_2) := (blk_cell BK210.out 3).trans rfl
                have hfz33_0 := blk_frozen BK210.out 0; have hfz33_1 := blk_frozen BK210.out 1; have hfz33_2 := blk_frozen BK210.out 2; have hfz33_3 := blk_frozen BK210.out 3
                obtain ⟨Ao34, co34, eo34⟩ := Kd.V_slice HO_210002.out
                subst eo34
                go_wp2
                refine bodyPost_ret (results_cell_row rfl _ _ gb210 34 #[.int .i64 x210000_1, .slice Ao32 x210001_1.length co32, .slice Ao34 x210002_1.length co34, .bool x210003_2] (0, 0) _ rfl (by (with_reducible repeat (first | refine blk_drewN ?_ _ | refine blk_drew ?_ | refine blk_alloc ?_ _)); refine blk_put (cs := #[.int .i64 x210000_1, .slice Ao32 x210001_1.length co32, .slice Ao34 x210002_1.length co34, .bool x211003_2]) ?_ 3 _ rfl; (with_reducible repeat (first | refine blk_drewN ?_ _ | refine blk_drew ?_ | refine blk_alloc ?_ _)); refine blk_put (cs := #[.int .i64 x210000_1, .slice Ao32 x210001_1.length co32, .slice none 0 0, .bool x211003_2]) ?_ 2 _ rfl; (with_reducible repeat (first | refine blk_drewN ?_ _ | refine blk_drew ?_ | refine blk_alloc ?_ _)); refine blk_put (cs := #[.int .i64 x210000_1, .slice none 0 0, .slice none 0 0, .bool x211003_2]) ?_ 1 _ rfl; (with_reducible repeat (first | refine blk_drewN ?_ _ | refine blk_drew ?_ | refine blk_alloc ?_ _)); refine blk_put (cs := #[.int .i64 x211000_2, .slice none 0 0, .slice none 0 0, .bool x211003_2]) ?_ 0 _ rfl; (with_reducible repeat (first | refine blk_drewN ?_ _ | refine blk_drew ?_ | refine blk_alloc ?_ _)); exact BK210.out) Try.underlying34 rfl (by kernel_rfl)) rfl ?_
                exact ⟨_, _, by first | rfl | (simp [errW_none, errW_some] <;> rfl) | (simp [*, errW_none, errW_some] <;> rfl), by (with_reducible repeat (first | apply Kd.V_alloc | apply Kd.V_drewN | apply Kd.V_drew)); exact Kd.V_mono (Kd.V_far (p := ⟨gb210, 3, none⟩) (Kd.V_far (p := ⟨gb210, 2, none⟩) (Kd.V_far (p := ⟨gb210, 1, none⟩) (Kd.V_far (p := ⟨gb210, 0, none⟩) (Kd.V_mono HO_210001.out (fun k_ hk => (⟨hk, hk.2.2⟩ : _ ∧ k_ ≠ gb210))) (fun _ hk => hk.2) (.int .i64 x210000_1)) (fun _ hk => hk.2) (.slice Ao32 x210001_1.length co32)) (fun _ hk => hk.2) (.slice Ao34 x210002_1.length co34)) (fun _ hk => hk.2) (.bool x210003_2)) (fun _ hk => hk.1.1), by (with_reducible repeat (first | apply Kd.V_alloc | apply Kd.V_drewN | apply Kd.V_drew)); exact Kd.V_mono (Kd.V_far (p := ⟨gb210, 3, none⟩) (Kd.V_far (p := ⟨gb210, 2, none⟩) (Kd.V_far (p := ⟨gb210, 1, none⟩) (Kd.V_far (p := ⟨gb210, 0, none⟩) (Kd.V_mono HO_210002.out (fun k_ hk => (⟨hk, hk.2.2⟩ : _ ∧ k_ ≠ gb210))) (fun _ hk => hk.2) (.int .i64 x210000_1)) (fun _ hk => hk.2) (.slice Ao32 x210001_1.length co32)) (fun _ hk => hk.2) (.slice Ao34 x210002_1.length co34)) (fun _ hk => hk.2) (.bool x210003_2)) (fun _ hk => hk.1.1), by repeat (first | (with_reducible first | exact HB.out | apply below_alloc | apply pw_below_drewN | apply below_drew1 | refine below_set ?_ GE209.out | refine below_set ?_ GE210.out) | exact HB.out)⟩
            rw [if_neg c29] at H
            have c29b0 : (x3_2 == 0) = false := beq_eq_false_iff_ne.mpr c29
            have c29b1 : (x3_2 != 0) = true := bne_iff_ne.mpr c29
            replace H := Option.bind_eq_some_iff.mp H
            obtain ⟨⟨t211, t212, t215, t218⟩, A350, H⟩ := H
            replace H : (sequiturref20_On.l0 k2 t211 t212 t215 t218) = some (r1, r2, r3, r4) := H
            have A35 := K0 A350; clear A350
            as_aux_lemma =>
              have H' := K0 H
              clear H; have hnb36 := NB209_210.out; have hnc36 := NB210_209.out
              have hcz37_0 : wr.cell? ⟨gb209, 0, none⟩ = some (.int .i64 x210000_1) := (blk_cell BK209.out 0).trans rfl
              have hcz37_1 : wr.cell? ⟨gb209, 1, none⟩ = some (u210001) := (blk_cell BK209.out 1).trans rfl
              have hcz37_2 : wr.cell? ⟨gb209, 2, none⟩ = some (u210002) := (blk_cell BK209.out 2).trans rfl
              have hcz37_3 : wr.cell? ⟨gb209, 3, none⟩ = some (.bool x210003_2) := (blk_cell BK209.out 3).trans rfl
              have hfz37_0 := blk_frozen BK209.out 0; have hfz37_1 := blk_frozen BK209.out 1; have hfz37_2 := blk_frozen BK209.out 2; have hfz37_3 := blk_frozen BK209.out 3
              obtain ⟨Ao38, co38, eo38⟩ := Kd.V_slice HO_210001.out
              subst eo38
              obtain ⟨Ao39, co39, eo39⟩ := Kd.V_slice HO_210002.out
              subst eo39
              go_wp2_with (first | ((with_reducible refine gate_callee (f := 78) rfl ?_); refine goesL_ (some 35) rfl rfl Try.func78 (by kernel_rfl) rfl #[.agg #[.int .i64 x210000_1, .slice Ao38 x210001_1.length co38, .slice Ao39 x210002_1.length co39, .bool x210003_2], .int .i64 x3_2] rfl (by (try simp only [List.map_toArray, List.map_cons, List.map_nil]); first | done | rfl | (simp only [List.length_drop, List.length_take]; rfl)) ?_; (with_reducible refine (sequiturref20_put.calls x210000_1 (fun k_ => (((P0_1_ k_ ∨ P0_2_ k_) ∨ w.heap.size ≤ k_) ∧ (k_ ≠ gb209 ∧ k_ ≠ gb210))) _ _ x210001_1 (fun k_ => (((P0_1_ k_ ∨ P0_2_ k_) ∨ w.heap.size ≤ k_) ∧ (k_ ≠ gb209 ∧ k_ ≠ gb210))) _ _ x210002_1 x210003_2 x3_2 t211 t212 t215 t218 _ ?side1 ?side2 A35.out).mono ?_); (case side1 => exact HO_210001.out); (case side2 => exact HO_210002.out); rintro e w40 ⟨v213, v216, rfl, ho0, ho1, hb⟩; refine ⟨_, rfl, ?_⟩; have n0_ := K0 (Kd.V_elder' (by (with_reducible repeat (first | apply Kd.V_alloc | apply Kd.V_drewN | apply Kd.V_drew)); exact HO_210001.out) (Kd.N_base ho1) hb); have n1_ := K0 (Kd.V_elder' (by (with_reducible repeat (first | apply Kd.V_alloc | apply Kd.V_drewN | apply Kd.V_drew)); exact HO_210002.out) (Kd.N_base ho1) hb); have n2_ := K0 (Kd.V_lower (Kd.V_mono (ok' := fun k_ => ((P0_1_ k_ ∨ P0_2_ k_) ∨ w.heap.size ≤ k_) ∧ some k_ ≠ (v216 : Value).ownBlock ∧ k_ ≠ gb209 ∧ k_ ≠ gb210) ho0 (fun k_ hk_ => ⟨Or.elim hk_.1 (fun hs_ => Or.elim hs_ (fun hs_ => hs_.1) (fun hs_ => hs_.1)) (fun hn_ => (.inr (Nat.le_trans (below_size (by repeat (first | (with_reducible first | exact HB.out | apply below_alloc | apply pw_below_drewN | apply below_drew1 | refine below_set ?_ GE209.out | refine below_set ?_ GE210.out) | exact HB.out))) hn_))), hk_.2, Or.elim hk_.1 (fun hs_ => Or.elim hs_ (fun hs_ => hs_.2.1) (fun hs_ => hs_.2.1)) (fun hn_ => (Kd.freshB (g := gb209) (o := .cells #[.int .i64 x210000_1, .slice Ao38 x210001_1.length co38, .slice Ao39 x210002_1.length co39, .bool x210003_2] 34 (0, 0)) (by (with_reducible repeat (first | refine blk_drewN ?_ _ | refine blk_drew ?_ | refine blk_alloc ?_ _)); exact BK209.out) k_ hn_)), Or.elim hk_.1 (fun hs_ => Or.elim hs_ (fun hs_ => hs_.2.2) (fun hs_ => hs_.2.2)) (fun hn_ => (Kd.freshB (g := gb210) (o := .cells #[.int .i64 x211000_2, .slice none 0 0, .slice none 0 0, .bool x211003_2] 34 (0, 0)) (by (with_reducible repeat (first | refine blk_drewN ?_ _ | refine blk_drew ?_ | refine blk_alloc ?_ _)); exact BK210.out) k_ hn_))⟩)) (below_size (by repeat (first | (with_reducible first | exact HB.out | apply below_alloc | apply pw_below_drewN | apply below_drew1 | refine below_set ?_ GE209.out | refine below_set ?_ GE210.out) | exact HB.out)))); have n3_ := K0 (Kd.N_lower (Kd.N_mono (ok' := fun k_ => ((P0_1_ k_ ∨ P0_2_ k_) ∨ w.heap.size ≤ k_) ∧ k_ ≠ gb209 ∧ k_ ≠ gb210) ho1 (fun k_ hk_ => ⟨Or.elim hk_ (fun hs_ => Or.elim hs_ (fun hs_ => hs_.1) (fun hs_ => hs_.1)) (fun hn_ => (.inr (Nat.le_trans (below_size (by repeat (first | (with_reducible first | exact HB.out | apply below_alloc | apply pw_below_drewN | apply below_drew1 | refine below_set ?_ GE209.out | refine below_set ?_ GE210.out) | exact HB.out))) hn_))), Or.elim hk_ (fun hs_ => Or.elim hs_ (fun hs_ => hs_.2.1) (fun hs_ => hs_.2.1)) (fun hn_ => (Kd.freshB (g := gb209) (o := .cells #[.int .i64 x210000_1, .slice Ao38 x210001_1.length co38, .slice Ao39 x210002_1.length co39, .bool x210003_2] 34 (0, 0)) (by (with_reducible repeat (first | refine blk_drewN ?_ _ | refine blk_drew ?_ | refine blk_alloc ?_ _)); exact BK209.out) k_ hn_)), Or.elim hk_ (fun hs_ => Or.elim hs_ (fun hs_ => hs_.2.2) (fun hs_ => hs_.2.2)) (fun hn_ => (Kd.freshB (g := gb210) (o := .cells #[.int .i64 x211000_2, .slice none 0 0, .slice none 0 0, .bool x211003_2] 34 (0, 0)) (by (with_reducible repeat (first | refine blk_drewN ?_ _ | refine blk_drew ?_ | refine blk_alloc ?_ _)); exact BK210.out) k_ hn_))⟩)) (below_size (by repeat (first | (with_reducible first | exact HB.out | apply below_alloc | apply pw_below_drewN | apply below_drew1 | refine below_set ?_ GE209.out | refine below_set ?_ GE210.out) | exact HB.out)))); have n4_ := K0 (blk_below (g := gb209) (o := .cells #[.int .i64 x210000_1, .slice Ao38 x210001_1.length co38, .slice Ao39 x210002_1.length co39, .bool x210003_2] 34 (0, 0)) (by (with_reducible repeat (first | refine blk_drewN ?_ _ | refine blk_drew ?_ | refine blk_alloc ?_ _)); exact BK209.out) hb); have n5_ := K0 (blk_below (g := gb210) (o := .cells #[.int .i64 x211000_2, .slice none 0 0, .slice none 0 0, .bool x211003_2] 34 (0, 0)) (by (with_reducible repeat (first | refine blk_drewN ?_ _ | refine blk_drew ?_ | refine blk_alloc ?_ _)); exact BK210.out) hb); have n6_ := K0 (below_step (by repeat (first | (with_reducible first | exact HB.out | apply below_alloc | apply pw_below_drewN | apply below_drew1 | refine below_set ?_ GE209.out | refine below_set ?_ GE210.out) | exact HB.out)) hb); clear HO_210001; clear HO_210002; clear BK209; clear BK210; clear HB; have HO_210001 := n0_; have HO_210002 := n1_; have HO214 := n2_; have HO217 := n3_; have BK209 := n4_; have BK210 := n5_; have HB := n6_; clear n0_ n1_ n2_ n3_ n4_ n5_ n6_; (try clear hb); (try clear hb2); (try clear hk); (try clear hi); (try clear ho0); (try clear ho1); have hcz41_0 : w40.cell? ⟨gb209, 0, none⟩ = some (.int .i64 x210000_1) := (blk_cell BK209.out 0).trans rfl; have hcz41_1 : w40.cell? ⟨gb209, 1, none⟩ = some (.slice Ao38 x210001_1.length co38) := (blk_cell BK209.out 1).trans rfl; have hcz41_2 : w40.cell? ⟨gb209, 2, none⟩ = some (.slice Ao39 x210002_1.length co39) := (blk_cell BK209.out 2).trans rfl; have hcz41_3 : w40.cell? ⟨gb209, 3, none⟩ = some (.bool x210003_2) := (blk_cell BK209.out 3).trans rfl; have hfz41_0 := blk_frozen BK209.out 0; have hfz41_1 := blk_frozen BK209.out 1; have hfz41_2 := blk_frozen BK209.out 2; have hfz41_3 := blk_frozen BK209.out 3; obtain ⟨Ao42, co42, eo42⟩ := Kd.V_slice HO214.out; subst eo42; obtain ⟨Ao43, co43, eo43⟩ := Kd.N_slice HO217.out; subst eo43))
              go_roundg k2
              case measure => have := HK1.out; have := HK2.out; omega
              case rel => exact ⟨(t211), (t212), (t215), (t218), (x211000_2), (x211003_2), (.slice Ao42 t212.length co42), (.slice Ao43 t215.length co43), H', ⟨by have := HK1.out; have := HK2.out; omega⟩, ⟨by (with_reducible repeat (first | apply Kd.V_alloc | apply Kd.V_drewN | apply Kd.V_drew)); exact Kd.V_mono (Kd.V_far (p := ⟨gb209, 3, none⟩) (Kd.V_far (p := ⟨gb209, 2, none⟩) (Kd.V_far (p := ⟨gb209, 1, none⟩) (Kd.V_far (p := ⟨gb209, 0, none⟩) (Kd.V_mono HO214.out (fun k_ hk => (⟨hk, hk.2.2.1⟩ : _ ∧ k_ ≠ gb209))) (fun _ hk => hk.2) (.int .i64 t211)) (fun _ hk => hk.2) (.slice Ao42 t212.length co42)) (fun _ hk => hk.2) (.slice Ao43 t215.length co43)) (fun _ hk => hk.2) (.bool t218)) (fun _ hk => ⟨hk.1.1, ⟨hk.1.2.2.1, hk.1.2.2.2⟩⟩)⟩, ⟨Kd.N_V (by (with_reducible repeat (first | apply Kd.N_alloc | apply Kd.N_drewN | apply Kd.N_drew)); exact Kd.N_mono (Kd.N_far (p := ⟨gb209, 3, none⟩) (Kd.N_far (p := ⟨gb209, 2, none⟩) (Kd.N_far (p := ⟨gb209, 1, none⟩) (Kd.N_far (p := ⟨gb209, 0, none⟩) (Kd.N_mono HO217.out (fun k_ hk => (⟨hk, hk.2.1⟩ : _ ∧ k_ ≠ gb209))) (fun _ hk => hk.2) (.int .i64 t211)) (fun _ hk => hk.2) (.slice Ao42 t212.length co42)) (fun _ hk => hk.2) (.slice Ao43 t215.length co43)) (fun _ hk => hk.2) (.bool t218)) (fun _ hk => ⟨hk.1.1, ⟨hk.1.2.1, hk.1.2.2⟩⟩))⟩, ⟨by (with_reducible repeat (first | refine blk_drewN ?_ _ | refine blk_drew ?_ | refine blk_alloc ?_ _)); refine blk_put (cs := #[.int .i64 t211, .slice Ao42 t212.length co42, .slice Ao43 t215.length co43, .bool x210003_2]) ?_ 3 _ rfl; (with_reducible repeat (first | refine blk_drewN ?_ _ | refine blk_drew ?_ | refine blk_alloc ?_ _)); refine blk_put (cs := #[.int .i64 t211, .slice Ao42 t212.length co42, .slice Ao39 x210002_1.length co39, .bool x210003_2]) ?_ 2 _ rfl; (with_reducible repeat (first | refine blk_drewN ?_ _ | refine blk_drew ?_ | refine blk_alloc ?_ _)); refine blk_put (cs := #[.int .i64 t211, .slice Ao38 x210001_1.length co38, .slice Ao39 x210002_1.length co39, .bool x210003_2]) ?_ 1 _ rfl; (with_reducible repeat (first | refine blk_drewN ?_ _ | refine blk_drew ?_ | refine blk_alloc ?_ _)); refine blk_put (cs := #[.int .i64 x210000_1, .slice Ao38 x210001_1.length co38, .slice Ao39 x210002_1.length co39, .bool x210003_2]) ?_ 0 _ rfl; (with_reducible repeat (first | refine blk_drewN ?_ _ | refine blk_drew ?_ | refine blk_alloc ?_ _)); exact BK209.out⟩, ⟨by (with_reducible repeat (first | refine blk_drewN ?_ _ | refine blk_drew ?_ | refine blk_alloc ?_ _)); refine blk_far ?_ NB210_209.out _; (with_reducible repeat (first | refine blk_drewN ?_ _ | refine blk_drew ?_ | refine blk_alloc ?_ _)); refine blk_far ?_ NB210_209.out _; (with_reducible repeat (first | refine blk_drewN ?_ _ | refine blk_drew ?_ | refine blk_alloc ?_ _)); refine blk_far ?_ NB210_209.out _; (with_reducible repeat (first | refine blk_drewN ?_ _ | refine blk_drew ?_ | refine blk_alloc ?_ _)); refine blk_far ?_ NB210_209.out _; (with_reducible repeat (first | refine blk_drewN ?_ _ | refine blk_drew ?_ | refine blk_alloc ?_ _)); exact BK210.out⟩, ⟨by repeat (first | (with_reducible first | exact HB.out | apply below_alloc | apply pw_below_drewN | apply below_drew1 | refine below_set ?_ GE209.out | refine below_set ?_ GE210.out) | exact HB.out)⟩⟩
          rw [if_pos c4] at H
          have c4b0 : decide (x4_2 < (x210001_1.length : Int)) = true := decide_eq_true c4
          clear c4
          by_cases c5 : 0 ≤ x4_2
          case neg =>
            rw [if_neg c5] at H
            exact absurd H (by simp)
          rw [if_pos c5] at H
          have c5b0 : decide (0 ≤ x4_2) = true := decide_eq_true c5
          clear c5
          replace H := Option.bind_eq_some_iff.mp H
          obtain ⟨⟨t220, t221⟩, A60, H⟩ := H
          replace H : (if t221 = true then (some (x210000_1, x210001_1, x210002_1, true)) else (if t220 = 0 then (sequiturref20_On.l1 k2 x3_2 (wrap64 (x4_2 + 1)) x210000_1 x210001_1 x210002_1 x210003_2) else (sequiturref20_On.l1 k2 t220 (wrap64 (x4_2 + 1)) x210000_1 x210001_1 x210002_1 x210003_2))) = some (r1, r2, r3, r4) := H
          have A6 := K0 A60; clear A60
          by_cases c7 : t221 = true
          case pos =>
            subst c7
            have H1 : (some (x210000_1, x210001_1, x210002_1, true)) = some (r1, r2, r3, r4) := by rw [if_pos rfl] at H; exact H
            clear H
            have H := H1
            clear H1
            as_aux_lemma =>
              simp only [Option.some.injEq, Prod.mk.injEq] at H
              obtain ⟨rfl, rfl, rfl, rfl⟩ := H
              have hnb8 := NB209_210.out; have hnc8 := NB210_209.out
              have hcz9_0 : wr.cell? ⟨gb209, 0, none⟩ = some (.int .i64 x210000_1) := (blk_cell BK209.out 0).trans rfl
              have hcz9_1 : wr.cell? ⟨gb209, 1, none⟩ = some (u210001) := (blk_cell BK209.out 1).trans rfl
              have hcz9_2 : wr.cell? ⟨gb209, 2, none⟩ = some (u210002) := (blk_cell BK209.out 2).trans rfl
              have hcz9_3 : wr.cell? ⟨gb209, 3, none⟩ = some (.bool x210003_2) := (blk_cell BK209.out 3).trans rfl
              have hfz9_0 := blk_frozen BK209.out 0; have hfz9_1 := blk_frozen BK209.out 1; have hfz9_2 := blk_frozen BK209.out 2; have hfz9_3 := blk_frozen BK209.out 3
              obtain ⟨Ao10, co10, eo10⟩ := Kd.V_slice HO_210001.out
              subst eo10
              try go_wp2
              have n0_ := K0 (Kd.V_drew HO_210001.out); have n1_ := K0 (Kd.V_drew HO_210002.out); have n2_ := K0 (blk_drew BK209.out); have n3_ := K0 (blk_drew BK210.out); have n4_ := K0 (below_drew1 HB.out); clear HO_210001 HO_210002 BK209 BK210 HB; have HO_210001 := n0_; have HO_210002 := n1_; have BK209 := n2_; have BK210 := n3_; have HB := n4_; clear n0_ n1_ n2_ n3_ n4_
              have p219 : 0 ≤ (x4_2 : Int) := of_decide_eq_true (by first | (with_reducible assumption) | assumption)
              have q219 : x4_2 < (x210001_1.length : Int) := of_decide_eq_true (by first | (with_reducible assumption) | assumption)
              obtain ⟨ad219, A219_0, c219_0, e219, hx219_0, hl219_0, hi219_0⟩ := at_L3 (Kd.V_reads' HO_210001.out).2.2 x4_2 p219 q219
              cases e219
              obtain ⟨ce219, hce219, hMe219, hcc219⟩ := Kd.V_get HO_210001.out [] x4_2 p219 (by first | exact q219 | exact of_decide_eq_true (by first | (with_reducible assumption) | assumption) | (have e_ := (Kd.V_reads' HO_210001.out).1; omega))
              obtain ⟨ua219_0, uc219_0, rfl, ul219_0, ge219_0⟩ := Kd.FK_slice_open hMe219
              have hv219_0 := hcc219 0 _ rfl
              rw [Nat.add_zero, show ((Kd.slice 3 (Kd.int .i64))).sz = 1 from rfl, Nat.mul_one] at hv219_0
              replace hv219_0 := Option.some.inj (hv219_0.symm.trans hx219_0)
              injection hv219_0 with hva_ hvn_ hvc_
              rw [hva_] at ge219_0
              rw [hvc_] at ul219_0
              have HL219_0 := K0 (show Kd.V (Kd.int .i64) 3 _ w.heap.size _ _ (rd_L3 x210001_1 x4_2) from Kd.V_mk ul219_0 ge219_0)
              clear hva_ hvn_ hvc_ ge219_0 ul219_0 hcc219 hce219; have HR219_0 := K0 hi219_0; have HC219_0 := K0 hl219_0; clear hi219_0 hl219_0; replace p219 := eq_true p219; replace q219 := eq_true q219
              obtain ⟨Ao12, co12, eo12⟩ := Kd.V_slice HO_210002.out
              (first | subst eo12 | (injection eo12 with f1_ f2_ f3_; have f4_ := f1_.symm; have f5_ := f3_.symm; clear f1_ f2_ f3_; subst f4_; subst f5_))
              refine start_ (n := 12) (S := fun w' => w'.cell? ⟨gb209, 0, none⟩ = some (.int .i64 x210000_1) ∧ w'.cell? ⟨gb209, 1, none⟩ = some (.slice (some ad219) x210001_1.length co10) ∧ w'.cell? ⟨gb209, 2, none⟩ = some (.slice Ao12 x210002_1.length co12) ∧ w'.cell? ⟨gb209, 3, none⟩ = some (.bool x210003_2) ∧ w'.cell? (ad219.add (x4_2).toNat) = some (.slice A219_0 (rd_L3 x210001_1 x4_2).length c219_0)) (ds := []) #[false, false, false, false, false, false, false, false, false, false, false, false] (by kernel_rfl) rfl rfl ⟨(blk_cell BK209.out 0).trans rfl, (blk_cell BK209.out 1).trans rfl, (blk_cell BK209.out 2).trans rfl, (blk_cell BK209.out 3).trans rfl, hx219_0⟩ (fun hHeld => ?_); refine with_tabW sequiturref20_On.tab5 sequiturref20_On.bits5 (fun HT_ HW_ => ?_)
              generalize wr.drew = w11 at HO_210001 HO_210002 BK209 BK210 HB HL219_0 HR219_0 hx219_0 hHeld ⊢
              refine pure_ (i := 1) (N := some 16) (v := ?_) (a' := ?_) #[false, true, false, false, false, false, false, false, false, false, false, false] rfl rfl (any_of HT_.out (by kernel_rfl)) (fun _ _ _ h => h) (Or.inl ⟨by rfl, ?_⟩) ?_ ?_
              rotate_left
              · intro w'
                go_simp
                with_reducible rfl
              rotate_left
              · simp only [Act.put, List.setIfInBounds_toArray, List.set_cons_zero, List.set_cons_succ, i64_w, i32_w]
                rfl
              refine pure_ (i := 3) (N := some 18) (v := ?_) (a' := ?_) #[false, true, false, true, false, false, false, false, false, false, false, false] rfl rfl (any_of HT_.out (by kernel_rfl)) (fun _ _ _ h => h) (Or.inl ⟨by rfl, ?_⟩) ?_ ?_
              rotate_left
              · intro w'
                go_simp
                with_reducible rfl
              rotate_left
              · simp only [Act.put, List.setIfInBounds_toArray, List.set_cons_zero, List.set_cons_succ, i64_w, i32_w]
                rfl
              refine take_ (i := 0) (N := some 15) (v := ?_) (a' := ?_) #[true, true, false, true, false, false, false, false, false, false, false, false] rfl rfl (take_ofW HT_.out HW_.out (by kernel_rfl)) (fun _ _ _ h => h) (Or.inl ⟨by rfl, ?_⟩) hHeld ?_ ?_
              rotate_left
              · rintro w' ⟨s0, s1, s2, s3, s4⟩
                go_simp
                with_reducible rfl
              rotate_left
              · simp only [Act.put, List.setIfInBounds_toArray, List.set_cons_zero, List.set_cons_succ, i64_w, i32_w]
                rfl
              refine take_ (i := 2) (N := some 17) (v := ?_) (a' := ?_) #[true, true, true, true, false, false, false, false, false, false, false, false] rfl rfl (take_ofW HT_.out HW_.out (by kernel_rfl)) (fun _ _ _ h => h) (Or.inl ⟨by rfl, ?_⟩) hHeld ?_ ?_
              rotate_left
              · rintro w' ⟨s0, s1, s2, s3, s4⟩
                go_simp
                with_reducible rfl
              rotate_left
              · simp only [Act.put, List.setIfInBounds_toArray, List.set_cons_zero, List.set_cons_succ, i64_w, i32_w]
                rfl
              refine pure_ (i := 4) (N := some 19) (v := ?_) (a' := ?_) #[true, true, true, true, true, false, false, false, false, false, false, false] rfl rfl (any_of HT_.out (by kernel_rfl)) (fun _ _ _ h => h) (Or.inl ⟨by rfl, ?_⟩) ?_ ?_
              rotate_left
              · intro w'
                go_simp
                with_reducible rfl
              rotate_left
              · simp only [Act.put, List.setIfInBounds_toArray, List.set_cons_zero, List.set_cons_succ, i64_w, i32_w]
                rfl
              refine take_ (i := 5) (N := some 20) (v := ?_) (a' := ?_) #[true, true, true, true, true, true, false, false, false, false, false, false] rfl rfl (take_ofW HT_.out HW_.out (by kernel_rfl)) (fun _ _ _ h => h) (Or.inl ⟨by rfl, ?_⟩) hHeld ?_ ?_
              rotate_left
              · rintro w' ⟨s0, s1, s2, s3, s4⟩
                go_simp
                with_reducible rfl
              rotate_left
              · simp only [Act.put, List.setIfInBounds_toArray, List.set_cons_zero, List.set_cons_succ, i64_w, i32_w]
                rfl
              refine one_ (i := 6) (N := some 21) #[true, true, true, true, true, true, true, false, false, false, false, false] rfl rfl (one_of HT_.out (by kernel_rfl)) (by decide) (fun K hK => ?_)
              refine goes_ Try.func77 (by kernel_rfl) rfl #[.agg #[.int .i64 x210000_1, .slice (some ad219) x210001_1.length co10, .slice Ao12 x210002_1.length co12, .bool x210003_2], .slice A219_0 (rd_L3 x210001_1 x4_2).length c219_0] (by rfl) rfl rfl (by (try simp only [List.map_toArray, List.map_cons, List.map_nil]); first | done | rfl | (simp only [List.length_drop, List.length_take]; rfl)) ?_
              with_reducible refine (sequiturref20_open.calls k2 x210000_1 _ _ x210001_1 _ _ x210002_1 x210003_2 _ _ (rd_L3 x210001_1 x4_2) t220 true _ ?side1 ?side2 ?side3 ?side4 ?side5 ?side6 A6.out).mono ?_
              (case side1 => repeat (first | exact (Kd.V_reads' HO_210001.out).2.2 | (with_reducible refine Kd.C_alloc ?_ _) | (with_reducible refine Kd.C_drewN ?_ _) | (with_reducible refine Kd.C_drew ?_)))
              (case side2 => exact (Kd.V_reads' HO_210001.out).2.1)
              (case side3 => repeat (first | exact (Kd.V_reads' HO_210002.out).2.2 | (with_reducible refine Kd.C_alloc ?_ _) | (with_reducible refine Kd.C_drewN ?_ _) | (with_reducible refine Kd.C_drew ?_)))
              (case side4 => exact (Kd.V_reads' HO_210002.out).2.1)
              (case side5 => repeat (first | exact (by repeat (first | (with_reducible exact HR219_0.out) | (with_reducible refine Kd.C_alloc ?_ _) | (with_reducible refine Kd.C_drewN ?_ _) | (with_reducible refine Kd.C_drew ?_) | exact HR219_0.out)) | (with_reducible refine Kd.C_alloc ?_ _) | (with_reducible refine Kd.C_drewN ?_ _) | (with_reducible refine Kd.C_drew ?_)))
              (case side6 => exact HC219_0.out)
              rintro e w13 ⟨rfl, hb⟩
              have HS4_ := (hb.cell (World.block_lt_of_cell? _ _ (hHeld.2.2.2.2))).trans (hHeld.2.2.2.2)
              refine ⟨_, rfl, ?_⟩
              have n0_ := K0 (Kd.V_below (by (with_reducible repeat (first | apply Kd.V_alloc | apply Kd.V_drewN | apply Kd.V_drew)); exact HO_210001.out) hb); have n1_ := K0 (Kd.V_below (by (with_reducible repeat (first | apply Kd.V_alloc | apply Kd.V_drewN | apply Kd.V_drew)); exact HO_210002.out) hb); have n2_ := K0 (Kd.V_below (by (with_reducible repeat (first | apply Kd.V_alloc | apply Kd.V_drewN | apply Kd.V_drew)); exact HL219_0.out) hb); have n3_ := K0 (blk_below (g := gb209) (o := .cells #[.int .i64 x210000_1, .slice (some ad219) x210001_1.length co10, .slice Ao12 x210002_1.length co12, .bool x210003_2] 34 (0, 0)) (by (with_reducible repeat (first | refine blk_drewN ?_ _ | refine blk_drew ?_ | refine blk_alloc ?_ _)); exact BK209.out) hb); have n4_ := K0 (blk_below (g := gb210) (o := .cells #[.int .i64 x211000_2, .slice none 0 0, .slice none 0 0, .bool x211003_2] 34 (0, 0)) (by (with_reducible repeat (first | refine blk_drewN ?_ _ | refine blk_drew ?_ | refine blk_alloc ?_ _)); exact BK210.out) hb); have n5_ := K0 (Kd.C_below (by repeat (first | (with_reducible exact HR219_0.out) | (with_reducible refine Kd.C_alloc ?_ _) | (with_reducible refine Kd.C_drewN ?_ _) | (with_reducible refine Kd.C_drew ?_) | exact HR219_0.out)) hb); have n6_ := K0 (below_step (by repeat (first | (with_reducible first | exact HB.out | apply below_alloc | apply pw_below_drewN | apply below_drew1 | refine below_set ?_ GE209.out | refine below_set ?_ GE210.out) | exact HB.out)) hb); clear HO_210001 HO_210002 HL219_0 BK209 BK210 HR219_0 HB; have HO_210001 := n0_; have HO_210002 := n1_; have HL219_0 := n2_; have BK209 := n3_; have BK210 := n4_; have HR219_0 := n5_; have HB := n6_; clear n0_ n1_ n2_ n3_ n4_ n5_ n6_
              (try clear hb)
              (try clear hb2)
              (try clear hk)
              (try clear hi)
              refine hK.out _ _ ⟨(blk_cell BK209.out 0).trans rfl, (blk_cell BK209.out 1).trans rfl, (blk_cell BK209.out 2).trans rfl, (blk_cell BK209.out 3).trans rfl, HS4_⟩ (fun hHeld => ?_)
              clear hK K
              refine norm_ (a' := ?_) ?_ ?_
              rotate_left
              · show Act.put _ (some 21) _ = _
                simp only [Act.put, List.setIfInBounds_toArray, List.set_cons_zero, List.set_cons_succ, i64_w, i32_w]
                rfl
              refine pure_ (i := 7) (N := some 14) (v := ?_) (a' := ?_) #[true, true, true, true, true, true, true, true, false, false, false, false] rfl rfl (any_of HT_.out (by kernel_rfl)) (fun _ _ _ h => h) (Or.inl ⟨by rfl, ?_⟩) ?_ ?_
              rotate_left
              · intro w'
                go_simp
                with_reducible rfl
              rotate_left
              · simp only [Act.put, List.setIfInBounds_toArray, List.set_cons_zero, List.set_cons_succ, i64_w, i32_w]
                rfl
              refine pure_ (i := 8) (N := some 22) (v := ?_) (a' := ?_) #[true, true, true, true, true, true, true, true, true, false, false, false] rfl rfl (any_of HT_.out (by kernel_rfl)) (fun _ _ _ h => h) (Or.inl ⟨by rfl, ?_⟩) ?_ ?_
              rotate_left
              · intro w'
                go_simp
                with_reducible rfl
              rotate_left
              · simp only [Act.put, List.setIfInBounds_toArray, List.set_cons_zero, List.set_cons_succ, i64_w, i32_w]
                rfl
              refine pure_ (i := 9) (N := some 23) (v := ?_) (a' := ?_) #[true, true, true, true, true, true, true, true, true, true, false, false] rfl rfl (any_of HT_.out (by kernel_rfl)) (fun _ _ _ h => h) (Or.inl ⟨by rfl, ?_⟩) ?_ ?_
              rotate_left
              · intro w'
                go_simp
                with_reducible rfl
              rotate_left
              · simp only [Act.put, List.setIfInBounds_toArray, List.set_cons_zero, List.set_cons_succ, i64_w, i32_w]
                rfl
              refine pure_ (i := 10) (N := some 5) (v := ?_) (a' := ?_) #[true, true, true, true, true, true, true, true, true, true, true, false] rfl rfl (any_of HT_.out (by kernel_rfl)) (fun _ _ _ h => h) (Or.inl ⟨by rfl, ?_⟩) ?_ ?_
              rotate_left
              · intro w'
                go_simp
                with_reducible rfl
              rotate_left
              · simp only [Act.put, List.setIfInBounds_toArray, List.set_cons_zero, List.set_cons_succ, i64_w, i32_w]
                rfl
              refine pure_ (i := 11) (N := some 6) (v := ?_) (a' := ?_) #[true, true, true, true, true, true, true, true, true, true, true, true] rfl rfl (any_of HT_.out (by kernel_rfl)) (fun _ _ _ h => h) (Or.inl ⟨by rfl, ?_⟩) ?_ ?_
              rotate_left
              · intro w'
                go_simp
                with_reducible rfl
              rotate_left
              · simp only [Act.put, List.setIfInBounds_toArray, List.set_cons_zero, List.set_cons_succ, i64_w, i32_w]
                rfl
              refine done_ (done_of HT_.out (by kernel_rfl)) ?_
              have hcz14_0 : w13.cell? ⟨gb209, 0, none⟩ = some (.int .i64 x210000_1) := (blk_cell BK209.out 0).trans rfl
              have hcz14_1 : w13.cell? ⟨gb209, 1, none⟩ = some (.slice (some ad219) x210001_1.length co10) := (blk_cell BK209.out 1).trans rfl
              have hcz14_2 : w13.cell? ⟨gb209, 2, none⟩ = some (.slice Ao12 x210002_1.length co12) := (blk_cell BK209.out 2).trans rfl
              have hcz14_3 : w13.cell? ⟨gb209, 3, none⟩ = some (.bool x210003_2) := (blk_cell BK209.out 3).trans rfl
              have hfz14_0 := blk_frozen BK209.out 0; have hfz14_1 := blk_frozen BK209.out 1; have hfz14_2 := blk_frozen BK209.out 2; have hfz14_3 := blk_frozen BK209.out 3
              have hcz15_0 : w13.cell? ⟨gb210, 0, none⟩ = some (.int .i64 x211000_2) := (blk_cell BK210.out 0).trans rfl
              have hcz15_1 : w13.cell? ⟨gb210, 1, none⟩ = some (.slice none 0 0) := (blk_cell BK210.out 1).trans rfl
              have hcz15_2 : w13.cell? ⟨gb210, 2, none⟩ = some (.slice none 0 0) := (blk_cell BK210.out 2).trans rfl
              have hcz15_3 : w13.cell? ⟨gb210, 3, none⟩ = some (.bool x211003_2) := (blk_cell BK210.out 3).trans rfl
              have hfz15_0 := blk_frozen BK210.out 0; have hfz15_1 := blk_frozen BK210.out 1; have hfz15_2 := blk_frozen BK210.out 2; have hfz15_3 := blk_frozen BK210.out 3
              try go_wp2
              refine bodyPost_ret (results_cell_row rfl _ _ gb210 34 #[.int .i64 x210000_1, .slice (some ad219) x210001_1.length co10, .slice Ao12 x210002_1.length co12, .bool true] (0, 0) _ rfl (by (with_reducible repeat (first | refine blk_drewN ?_ _ | refine blk_drew ?_ | refine blk_alloc ?_ _)); refine blk_put (cs := #[.int .i64 x210000_1, .slice (some ad219) x210001_1.length co10, .slice Ao12 x210002_1.length co12, .bool x211003_2]) ?_ 3 _ rfl; (with_reducible repeat (first | refine blk_drewN ?_ _ | refine blk_drew ?_ | refine blk_alloc ?_ _)); refine blk_put (cs := #[.int .i64 x210000_1, .slice (some ad219) x210001_1.length co10, .slice none 0 0, .bool x211003_2]) ?_ 2 _ rfl; (with_reducible repeat (first | refine blk_drewN ?_ _ | refine blk_drew ?_ | refine blk_alloc ?_ _)); refine blk_put (cs := #[.int .i64 x210000_1, .slice none 0 0, .slice none 0 0, .bool x211003_2]) ?_ 1 _ rfl; (with_reducible repeat (first | refine blk_drewN ?_ _ | refine blk_drew ?_ | refine blk_alloc ?_ _)); refine blk_put (cs := #[.int .i64 x211000_2, .slice none 0 0, .slice none 0 0, .bool x211003_2]) ?_ 0 _ rfl; (with_reducible repeat (first | refine blk_drewN ?_ _ | refine blk_drew ?_ | refine blk_alloc ?_ _)); refine blk_far ?_ NB210_209.out _; (with_reducible repeat (first | refine blk_drewN ?_ _ | refine blk_drew ?_ | refine blk_alloc ?_ _)); exact BK210.out) Try.underlying34 rfl (by kernel_rfl)) rfl ?_
              exact ⟨_, _, by first | rfl | (simp [errW_none, errW_some] <;> rfl) | (simp [*, errW_none, errW_some] <;> rfl), by (with_reducible repeat (first | apply Kd.V_alloc | apply Kd.V_drewN | apply Kd.V_drew)); exact Kd.V_mono (Kd.V_far (p := ⟨gb210, 3, none⟩) (Kd.V_far (p := ⟨gb210, 2, none⟩) (Kd.V_far (p := ⟨gb210, 1, none⟩) (Kd.V_far (p := ⟨gb210, 0, none⟩) (Kd.V_far (p := ⟨gb209, 3, none⟩) (Kd.V_mono (Kd.V_mono HO_210001.out (fun k_ hk => (⟨hk, hk.2.1⟩ : _ ∧ k_ ≠ gb209))) (fun k_ hk => (⟨hk, hk.1.2.2⟩ : _ ∧ k_ ≠ gb210))) (fun _ hk => hk.1.2) (.bool true)) (fun _ hk => hk.2) (.int .i64 x210000_1)) (fun _ hk => hk.2) (.slice (some ad219) x210001_1.length co10)) (fun _ hk => hk.2) (.slice Ao12 x210002_1.length co12)) (fun _ hk => hk.2) (.bool true)) (fun _ hk => hk.1.1.1), by (with_reducible repeat (first | apply Kd.V_alloc | apply Kd.V_drewN | apply Kd.V_drew)); exact Kd.V_mono (Kd.V_far (p := ⟨gb210, 3, none⟩) (Kd.V_far (p := ⟨gb210, 2, none⟩) (Kd.V_far (p := ⟨gb210, 1, none⟩) (Kd.V_far (p := ⟨gb210, 0, none⟩) (Kd.V_far (p := ⟨gb209, 3, none⟩) (Kd.V_mono (Kd.V_mono HO_210002.out (fun k_ hk => (⟨hk, hk.2.1⟩ : _ ∧ k_ ≠ gb209))) (fun k_ hk => (⟨hk, hk.1.2.2⟩ : _ ∧ k_ ≠ gb210))) (fun _ hk => hk.1.2) (.bool true)) (fun _ hk => hk.2) (.int .i64 x210000_1)) (fun _ hk => hk.2) (.slice (some ad219) x210001_1.length co10)) (fun _ hk => hk.2) (.slice Ao12 x210002_1.length co12)) (fun _ hk => hk.2) (.bool true)) (fun _ hk => hk.1.1.1), by repeat (first | (with_reducible first | exact HB.out | apply below_alloc | apply pw_below_drewN | apply below_drew1 | refine below_set ?_ GE209.out | refine below_set ?_ GE210.out) | exact HB.out)⟩
          replace c7 := Bool.eq_false_iff.mpr c7
          subst c7
          have H1 : (if t220 = 0 then (sequiturref20_On.l1 k2 x3_2 (wrap64 (x4_2 + 1)) x210000_1 x210001_1 x210002_1 x210003_2) else (sequiturref20_On.l1 k2 t220 (wrap64 (x4_2 + 1)) x210000_1 x210001_1 x210002_1 x210003_2)) = some (r1, r2, r3, r4) := by rw [if_neg (show ¬ (false = true) by decide)] at H; exact H
          clear H
          have H := H1
          clear H1
          by_cases c16 : t220 = 0
          case neg =>
            rw [if_neg c16] at H
            have c16b0 : (t220 == 0) = false := beq_eq_false_iff_ne.mpr c16
            have c16b1 : (t220 != 0) = true := bne_iff_ne.mpr c16
            as_aux_lemma =>
              have H' := K0 H
              clear H; have hnb23 := NB209_210.out; have hnc23 := NB210_209.out
              have hcz24_0 : wr.cell? ⟨gb209, 0, none⟩ = some (.int .i64 x210000_1) := (blk_cell BK209.out 0).trans rfl
              have hcz24_1 : wr.cell? ⟨gb209, 1, none⟩ = some (u210001) := (blk_cell BK209.out 1).trans rfl
              have hcz24_2 : wr.cell? ⟨gb209, 2, none⟩ = some (u210002) := (blk_cell BK209.out 2).trans rfl
              have hcz24_3 : wr.cell? ⟨gb209, 3, none⟩ = some (.bool x210003_2) := (blk_cell BK209.out 3).trans rfl
              have hfz24_0 := blk_frozen BK209.out 0; have hfz24_1 := blk_frozen BK209.out 1; have hfz24_2 := blk_frozen BK209.out 2; have hfz24_3 := blk_frozen BK209.out 3
              obtain ⟨Ao25, co25, eo25⟩ := Kd.V_slice HO_210001.out
              subst eo25
              try go_wp2
              have n0_ := K0 (Kd.V_drew HO_210001.out); have n1_ := K0 (Kd.V_drew HO_210002.out); have n2_ := K0 (blk_drew BK209.out); have n3_ := K0 (blk_drew BK210.out); have n4_ := K0 (below_drew1 HB.out); clear HO_210001 HO_210002 BK209 BK210 HB; have HO_210001 := n0_; have HO_210002 := n1_; have BK209 := n2_; have BK210 := n3_; have HB := n4_; clear n0_ n1_ n2_ n3_ n4_
              have p219 : 0 ≤ (x4_2 : Int) := of_decide_eq_true (by first | (with_reducible assumption) | assumption)
              have q219 : x4_2 < (x210001_1.length : Int) := of_decide_eq_true (by first | (with_reducible assumption) | assumption)
              obtain ⟨ad219, A219_0, c219_0, e219, hx219_0, hl219_0, hi219_0⟩ := at_L3 (Kd.V_reads' HO_210001.out).2.2 x4_2 p219 q219
              cases e219
              obtain ⟨ce219, hce219, hMe219, hcc219⟩ := Kd.V_get HO_210001.out [] x4_2 p219 (by first | exact q219 | exact of_decide_eq_true (by first | (with_reducible assumption) | assumption) | (have e_ := (Kd.V_reads' HO_210001.out).1; omega))
              obtain ⟨ua219_0, uc219_0, rfl, ul219_0, ge219_0⟩ := Kd.FK_slice_open hMe219
              have hv219_0 := hcc219 0 _ rfl
              rw [Nat.add_zero, show ((Kd.slice 3 (Kd.int .i64))).sz = 1 from rfl, Nat.mul_one] at hv219_0
              replace hv219_0 := Option.some.inj (hv219_0.symm.trans hx219_0)
              injection hv219_0 with hva_ hvn_ hvc_
              rw [hva_] at ge219_0
              rw [hvc_] at ul219_0
              have HL219_0 := K0 (show Kd.V (Kd.int .i64) 3 _ w.heap.size _ _ (rd_L3 x210001_1 x4_2) from Kd.V_mk ul219_0 ge219_0)
              clear hva_ hvn_ hvc_ ge219_0 ul219_0 hcc219 hce219; have HR219_0 := K0 hi219_0; have HC219_0 := K0 hl219_0; clear hi219_0 hl219_0; replace p219 := eq_true p219; replace q219 := eq_true q219
              obtain ⟨Ao27, co27, eo27⟩ := Kd.V_slice HO_210002.out
              (first | subst eo27 | (injection eo27 with f1_ f2_ f3_; have f4_ := f1_.symm; have f5_ := f3_.symm; clear f1_ f2_ f3_; subst f4_; subst f5_))
              refine start_ (n := 12) (S := fun w' => w'.cell? ⟨gb209, 0, none⟩ = some (.int .i64 x210000_1) ∧ w'.cell? ⟨gb209, 1, none⟩ = some (.slice (some ad219) x210001_1.length co25) ∧ w'.cell? ⟨gb209, 2, none⟩ = some (.slice Ao27 x210002_1.length co27) ∧ w'.cell? ⟨gb209, 3, none⟩ = some (.bool x210003_2) ∧ w'.cell? (ad219.add (x4_2).toNat) = some (.slice A219_0 (rd_L3 x210001_1 x4_2).length c219_0)) (ds := []) #[false, false, false, false, false, false, false, false, false, false, false, false] (by kernel_rfl) rfl rfl ⟨(blk_cell BK209.out 0).trans rfl, (blk_cell BK209.out 1).trans rfl, (blk_cell BK209.out 2).trans rfl, (blk_cell BK209.out 3).trans rfl, hx219_0⟩ (fun hHeld => ?_); refine with_tabW sequiturref20_On.tab5 sequiturref20_On.bits5 (fun HT_ HW_ => ?_)
              generalize wr.drew = w26 at HO_210001 HO_210002 BK209 BK210 HB HL219_0 HR219_0 hx219_0 hHeld ⊢
              refine pure_ (i := 1) (N := some 16) (v := ?_) (a' := ?_) #[false, true, false, false, false, false, false, false, false, false, false, false] rfl rfl (any_of HT_.out (by kernel_rfl)) (fun _ _ _ h => h) (Or.inl ⟨by rfl, ?_⟩) ?_ ?_
              rotate_left
              · intro w'
                go_simp
                with_reducible rfl
              rotate_left
              · simp only [Act.put, List.setIfInBounds_toArray, List.set_cons_zero, List.set_cons_succ, i64_w, i32_w]
                rfl
              refine pure_ (i := 3) (N := some 18) (v := ?_) (a' := ?_) #[false, true, false, true, false, false, false, false, false, false, false, false] rfl rfl (any_of HT_.out (by kernel_rfl)) (fun _ _ _ h => h) (Or.inl ⟨by rfl, ?_⟩) ?_ ?_
              rotate_left
              · intro w'
                go_simp
                with_reducible rfl
              rotate_left
              · simp only [Act.put, List.setIfInBounds_toArray, List.set_cons_zero, List.set_cons_succ, i64_w, i32_w]
                rfl
              refine take_ (i := 0) (N := some 15) (v := ?_) (a' := ?_) #[true, true, false, true, false, false, false, false, false, false, false, false] rfl rfl (take_ofW HT_.out HW_.out (by kernel_rfl)) (fun _ _ _ h => h) (Or.inl ⟨by rfl, ?_⟩) hHeld ?_ ?_
              rotate_left
              · rintro w' ⟨s0, s1, s2, s3, s4⟩
                go_simp
                with_reducible rfl
              rotate_left
              · simp only [Act.put, List.setIfInBounds_toArray, List.set_cons_zero, List.set_cons_succ, i64_w, i32_w]
                rfl
              refine take_ (i := 2) (N := some 17) (v := ?_) (a' := ?_) #[true, true, true, true, false, false, false, false, false, false, false, false] rfl rfl (take_ofW HT_.out HW_.out (by kernel_rfl)) (fun _ _ _ h => h) (Or.inl ⟨by rfl, ?_⟩) hHeld ?_ ?_
              rotate_left
              · rintro w' ⟨s0, s1, s2, s3, s4⟩
                go_simp
                with_reducible rfl
              rotate_left
              · simp only [Act.put, List.setIfInBounds_toArray, List.set_cons_zero, List.set_cons_succ, i64_w, i32_w]
                rfl
              refine pure_ (i := 4) (N := some 19) (v := ?_) (a' := ?_) #[true, true, true, true, true, false, false, false, false, false, false, false] rfl rfl (any_of HT_.out (by kernel_rfl)) (fun _ _ _ h => h) (Or.inl ⟨by rfl, ?_⟩) ?_ ?_
              rotate_left
              · intro w'
                go_simp
                with_reducible rfl
              rotate_left
              · simp only [Act.put, List.setIfInBounds_toArray, List.set_cons_zero, List.set_cons_succ, i64_w, i32_w]
                rfl
              refine take_ (i := 5) (N := some 20) (v := ?_) (a' := ?_) #[true, true, true, true, true, true, false, false, false, false, false, false] rfl rfl (take_ofW HT_.out HW_.out (by kernel_rfl)) (fun _ _ _ h => h) (Or.inl ⟨by rfl, ?_⟩) hHeld ?_ ?_
              rotate_left
              · rintro w' ⟨s0, s1, s2, s3, s4⟩
                go_simp
                with_reducible rfl
              rotate_left
              · simp only [Act.put, List.setIfInBounds_toArray, List.set_cons_zero, List.set_cons_succ, i64_w, i32_w]
                rfl
              refine one_ (i := 6) (N := some 21) #[true, true, true, true, true, true, true, false, false, false, false, false] rfl rfl (one_of HT_.out (by kernel_rfl)) (by decide) (fun K hK => ?_)
              refine goes_ Try.func77 (by kernel_rfl) rfl #[.agg #[.int .i64 x210000_1, .slice (some ad219) x210001_1.length co25, .slice Ao27 x210002_1.length co27, .bool x210003_2], .slice A219_0 (rd_L3 x210001_1 x4_2).length c219_0] (by rfl) rfl rfl (by (try simp only [List.map_toArray, List.map_cons, List.map_nil]); first | done | rfl | (simp only [List.length_drop, List.length_take]; rfl)) ?_
              with_reducible refine (sequiturref20_open.calls k2 x210000_1 _ _ x210001_1 _ _ x210002_1 x210003_2 _ _ (rd_L3 x210001_1 x4_2) t220 false _ ?side1 ?side2 ?side3 ?side4 ?side5 ?side6 A6.out).mono ?_
              (case side1 => repeat (first | exact (Kd.V_reads' HO_210001.out).2.2 | (with_reducible refine Kd.C_alloc ?_ _) | (with_reducible refine Kd.C_drewN ?_ _) | (with_reducible refine Kd.C_drew ?_)))
              (case side2 => exact (Kd.V_reads' HO_210001.out).2.1)
              (case side3 => repeat (first | exact (Kd.V_reads' HO_210002.out).2.2 | (with_reducible refine Kd.C_alloc ?_ _) | (with_reducible refine Kd.C_drewN ?_ _) | (with_reducible refine Kd.C_drew ?_)))
              (case side4 => exact (Kd.V_reads' HO_210002.out).2.1)
              (case side5 => repeat (first | exact (by repeat (first | (with_reducible exact HR219_0.out) | (with_reducible refine Kd.C_alloc ?_ _) | (with_reducible refine Kd.C_drewN ?_ _) | (with_reducible refine Kd.C_drew ?_) | exact HR219_0.out)) | (with_reducible refine Kd.C_alloc ?_ _) | (with_reducible refine Kd.C_drewN ?_ _) | (with_reducible refine Kd.C_drew ?_)))
              (case side6 => exact HC219_0.out)
              rintro e w28 ⟨rfl, hb⟩
              have HS4_ := (hb.cell (World.block_lt_of_cell? _ _ (hHeld.2.2.2.2))).trans (hHeld.2.2.2.2)
              refine ⟨_, rfl, ?_⟩
              have n0_ := K0 (Kd.V_below (by (with_reducible repeat (first | apply Kd.V_alloc | apply Kd.V_drewN | apply Kd.V_drew)); exact HO_210001.out) hb); have n1_ := K0 (Kd.V_below (by (with_reducible repeat (first | apply Kd.V_alloc | apply Kd.V_drewN | apply Kd.V_drew)); exact HO_210002.out) hb); have n2_ := K0 (Kd.V_below (by (with_reducible repeat (first | apply Kd.V_alloc | apply Kd.V_drewN | apply Kd.V_drew)); exact HL219_0.out) hb); have n3_ := K0 (blk_below (g := gb209) (o := .cells #[.int .i64 x210000_1, .slice (some ad219) x210001_1.length co25, .slice Ao27 x210002_1.length co27, .bool x210003_2] 34 (0, 0)) (by (with_reducible repeat (first | refine blk_drewN ?_ _ | refine blk_drew ?_ | refine blk_alloc ?_ _)); exact BK209.out) hb); have n4_ := K0 (blk_below (g := gb210) (o := .cells #[.int .i64 x211000_2, .slice none 0 0, .slice none 0 0, .bool x211003_2] 34 (0, 0)) (by (with_reducible repeat (first | refine blk_drewN ?_ _ | refine blk_drew ?_ | refine blk_alloc ?_ _)); exact BK210.out) hb); have n5_ := K0 (Kd.C_below (by repeat (first | (with_reducible exact HR219_0.out) | (with_reducible refine Kd.C_alloc ?_ _) | (with_reducible refine Kd.C_drewN ?_ _) | (with_reducible refine Kd.C_drew ?_) | exact HR219_0.out)) hb); have n6_ := K0 (below_step (by repeat (first | (with_reducible first | exact HB.out | apply below_alloc | apply pw_below_drewN | apply below_drew1 | refine below_set ?_ GE209.out | refine below_set ?_ GE210.out) | exact HB.out)) hb); clear HO_210001 HO_210002 HL219_0 BK209 BK210 HR219_0 HB; have HO_210001 := n0_; have HO_210002 := n1_; have HL219_0 := n2_; have BK209 := n3_; have BK210 := n4_; have HR219_0 := n5_; have HB := n6_; clear n0_ n1_ n2_ n3_ n4_ n5_ n6_
              (try clear hb)
              (try clear hb2)
              (try clear hk)
              (try clear hi)
              refine hK.out _ _ ⟨(blk_cell BK209.out 0).trans rfl, (blk_cell BK209.out 1).trans rfl, (blk_cell BK209.out 2).trans rfl, (blk_cell BK209.out 3).trans rfl, HS4_⟩ (fun hHeld => ?_)
              clear hK K
              refine norm_ (a' := ?_) ?_ ?_
              rotate_left
              · show Act.put _ (some 21) _ = _
                simp only [Act.put, List.setIfInBounds_toArray, List.set_cons_zero, List.set_cons_succ, i64_w, i32_w]
                rfl
              refine pure_ (i := 7) (N := some 14) (v := ?_) (a' := ?_) #[true, true, true, true, true, true, true, true, false, false, false, false] rfl rfl (any_of HT_.out (by kernel_rfl)) (fun _ _ _ h => h) (Or.inl ⟨by rfl, ?_⟩) ?_ ?_
              rotate_left
              · intro w'
                go_simp
                with_reducible rfl
              rotate_left
              · simp only [Act.put, List.setIfInBounds_toArray, List.set_cons_zero, List.set_cons_succ, i64_w, i32_w]
                rfl
              refine pure_ (i := 8) (N := some 22) (v := ?_) (a' := ?_) #[true, true, true, true, true, true, true, true, true, false, false, false] rfl rfl (any_of HT_.out (by kernel_rfl)) (fun _ _ _ h => h) (Or.inl ⟨by rfl, ?_⟩) ?_ ?_
              rotate_left
              · intro w'
                go_simp
                with_reducible rfl
              rotate_left
              · simp only [Act.put, List.setIfInBounds_toArray, List.set_cons_zero, List.set_cons_succ, i64_w, i32_w]
                rfl
              refine pure_ (i := 9) (N := some 23) (v := ?_) (a' := ?_) #[true, true, true, true, true, true, true, true, true, true, false, false] rfl rfl (any_of HT_.out (by kernel_rfl)) (fun _ _ _ h => h) (Or.inl ⟨by rfl, ?_⟩) ?_ ?_
              rotate_left
              · intro w'
                go_simp
                with_reducible rfl
              rotate_left
              · simp only [Act.put, List.setIfInBounds_toArray, List.set_cons_zero, List.set_cons_succ, i64_w, i32_w]
                rfl
              refine pure_ (i := 10) (N := some 5) (v := ?_) (a' := ?_) #[true, true, true, true, true, true, true, true, true, true, true, false] rfl rfl (any_of HT_.out (by kernel_rfl)) (fun _ _ _ h => h) (Or.inl ⟨by rfl, ?_⟩) ?_ ?_
              rotate_left
              · intro w'
                go_simp
                with_reducible rfl
              rotate_left
              · simp only [Act.put, List.setIfInBounds_toArray, List.set_cons_zero, List.set_cons_succ, i64_w, i32_w]
                rfl
              refine pure_ (i := 11) (N := some 6) (v := ?_) (a' := ?_) #[true, true, true, true, true, true, true, true, true, true, true, true] rfl rfl (any_of HT_.out (by kernel_rfl)) (fun _ _ _ h => h) (Or.inl ⟨by rfl, ?_⟩) ?_ ?_
              rotate_left
              · intro w'
                go_simp
                with_reducible rfl
              rotate_left
              · simp only [Act.put, List.setIfInBounds_toArray, List.set_cons_zero, List.set_cons_succ, i64_w, i32_w]
                rfl
              refine done_ (done_of HT_.out (by kernel_rfl)) ?_
              try go_wp2
              go_roundg k2
              case measure => have := HK1.out; have := HK2.out; omega
              case rel => exact ⟨(t220), (wrap64 (x4_2 + 1)), (x210003_2), (x211000_2), (x211003_2), (by first | rfl | (simp; done) | (simp [*]; done)), (by first | rfl | (simp; done) | (simp [*]; done)), H', ⟨by have := HK1.out; have := HK2.out; omega⟩, ⟨by (with_reducible repeat (first | apply Kd.V_alloc | apply Kd.V_drewN | apply Kd.V_drew)); exact HO_210001.out⟩, ⟨by (with_reducible repeat (first | apply Kd.V_alloc | apply Kd.V_drewN | apply Kd.V_drew)); exact HO_210002.out⟩, ⟨by (with_reducible repeat (first | refine blk_drewN ?_ _ | refine blk_drew ?_ | refine blk_alloc ?_ _)); exact BK209.out⟩, ⟨by (with_reducible repeat (first | refine blk_drewN ?_ _ | refine blk_drew ?_ | refine blk_alloc ?_ _)); exact BK210.out⟩, ⟨by repeat (first | (with_reducible first | exact HB.out | apply below_alloc | apply pw_below_drewN | apply below_drew1 | refine below_set ?_ GE209.out | refine below_set ?_ GE210.out) | exact HB.out)⟩⟩
          rw [if_pos c16] at H
          have c16b0 : (t220 == 0) = true := beq_iff_eq.mpr c16
          have c16b1 : (t220 != 0) = false := bne_eq_false_iff_eq.mpr c16
          clear c16
          as_aux_lemma =>
            have H' := K0 H
            clear H; have hnb17 := NB209_210.out; have hnc17 := NB210_209.out
            have hcz18_0 : wr.cell? ⟨gb209, 0, none⟩ = some (.int .i64 x210000_1) := (blk_cell BK209.out 0).trans rfl
            have hcz18_1 : wr.cell? ⟨gb209, 1, none⟩ = some (u210001) := (blk_cell BK209.out 1).trans rfl
            have hcz18_2 : wr.cell? ⟨gb209, 2, none⟩ = some (u210002) := (blk_cell BK209.out 2).trans rfl
            have hcz18_3 : wr.cell? ⟨gb209, 3, none⟩ = some (.bool x210003_2) := (blk_cell BK209.out 3).trans rfl
            have hfz18_0 := blk_frozen BK209.out 0; have hfz18_1 := blk_frozen BK209.out 1; have hfz18_2 := blk_frozen BK209.out 2; have hfz18_3 := blk_frozen BK209.out 3
            obtain ⟨Ao19, co19, eo19⟩ := Kd.V_slice HO_210001.out
            subst eo19
            try go_wp2
            have n0_ := K0 (Kd.V_drew HO_210001.out); have n1_ := K0 (Kd.V_drew HO_210002.out); have n2_ := K0 (blk_drew BK209.out); have n3_ := K0 (blk_drew BK210.out); have n4_ := K0 (below_drew1 HB.out); clear HO_210001 HO_210002 BK209 BK210 HB; have HO_210001 := n0_; have HO_210002 := n1_; have BK209 := n2_; have BK210 := n3_; have HB := n4_; clear n0_ n1_ n2_ n3_ n4_
            have p219 : 0 ≤ (x4_2 : Int) := of_decide_eq_true (by first | (with_reducible assumption) | assumption)
            have q219 : x4_2 < (x210001_1.length : Int) := of_decide_eq_true (by first | (with_reducible assumption) | assumption)
            obtain ⟨ad219, A219_0, c219_0, e219, hx219_0, hl219_0, hi219_0⟩ := at_L3 (Kd.V_reads' HO_210001.out).2.2 x4_2 p219 q219
            cases e219
            obtain ⟨ce219, hce219, hMe219, hcc219⟩ := Kd.V_get HO_210001.out [] x4_2 p219 (by first | exact q219 | exact of_decide_eq_true (by first | (with_reducible assumption) | assumption) | (have e_ := (Kd.V_reads' HO_210001.out).1; omega))
            obtain ⟨ua219_0, uc219_0, rfl, ul219_0, ge219_0⟩ := Kd.FK_slice_open hMe219
            have hv219_0 := hcc219 0 _ rfl
            rw [Nat.add_zero, show ((Kd.slice 3 (Kd.int .i64))).sz = 1 from rfl, Nat.mul_one] at hv219_0
            replace hv219_0 := Option.some.inj (hv219_0.symm.trans hx219_0)
            injection hv219_0 with hva_ hvn_ hvc_
            rw [hva_] at ge219_0
            rw [hvc_] at ul219_0
            have HL219_0 := K0 (show Kd.V (Kd.int .i64) 3 _ w.heap.size _ _ (rd_L3 x210001_1 x4_2) from Kd.V_mk ul219_0 ge219_0)
            clear hva_ hvn_ hvc_ ge219_0 ul219_0 hcc219 hce219; have HR219_0 := K0 hi219_0; have HC219_0 := K0 hl219_0; clear hi219_0 hl219_0; replace p219 := eq_true p219; replace q219 := eq_true q219
            obtain ⟨Ao21, co21, eo21⟩ := Kd.V_slice HO_210002.out
            (first | subst eo21 | (injection eo21 with f1_ f2_ f3_; have f4_ := f1_.symm; have f5_ := f3_.symm; clear f1_ f2_ f3_; subst f4_; subst f5_))
            refine start_ (n := 12) (S := fun w' => w'.cell? ⟨gb209, 0, none⟩ = some (.int .i64 x210000_1) ∧ w'.cell? ⟨gb209, 1, none⟩ = some (.slice (some ad219) x210001_1.length co19) ∧ w'.cell? ⟨gb209, 2, none⟩ = some (.slice Ao21 x210002_1.length co21) ∧ w'.cell? ⟨gb209, 3, none⟩ = some (.bool x210003_2) ∧ w'.cell? (ad219.add (x4_2).toNat) = some (.slice A219_0 (rd_L3 x210001_1 x4_2).length c219_0)) (ds := []) #[false, false, false, false, false, false, false, false, false, false, false, false] (by kernel_rfl) rfl rfl ⟨(blk_cell BK209.out 0).trans rfl, (blk_cell BK209.out 1).trans rfl, (blk_cell BK209.out 2).trans rfl, (blk_cell BK209.out 3).trans rfl, hx219_0⟩ (fun hHeld => ?_); refine with_tabW sequiturref20_On.tab5 sequiturref20_On.bits5 (fun HT_ HW_ => ?_)
            generalize wr.drew = w20 at HO_210001 HO_210002 BK209 BK210 HB HL219_0 HR219_0 hx219_0 hHeld ⊢
            refine pure_ (i := 1) (N := some 16) (v := ?_) (a' := ?_) #[false, true, false, false, false, false, false, false, false, false, false, false] rfl rfl (any_of HT_.out (by kernel_rfl)) (fun _ _ _ h => h) (Or.inl ⟨by rfl, ?_⟩) ?_ ?_
            rotate_left
            · intro w'
              go_simp
              with_reducible rfl
            rotate_left
            · simp only [Act.put, List.setIfInBounds_toArray, List.set_cons_zero, List.set_cons_succ, i64_w, i32_w]
              rfl
            refine pure_ (i := 3) (N := some 18) (v := ?_) (a' := ?_) #[false, true, false, true, false, false, false, false, false, false, false, false] rfl rfl (any_of HT_.out (by kernel_rfl)) (fun _ _ _ h => h) (Or.inl ⟨by rfl, ?_⟩) ?_ ?_
            rotate_left
            · intro w'
              go_simp
              with_reducible rfl
            rotate_left
            · simp only [Act.put, List.setIfInBounds_toArray, List.set_cons_zero, List.set_cons_succ, i64_w, i32_w]
              rfl
            refine take_ (i := 0) (N := some 15) (v := ?_) (a' := ?_) #[true, true, false, true, false, false, false, false, false, false, false, false] rfl rfl (take_ofW HT_.out HW_.out (by kernel_rfl)) (fun _ _ _ h => h) (Or.inl ⟨by rfl, ?_⟩) hHeld ?_ ?_
            rotate_left
            · rintro w' ⟨s0, s1, s2, s3, s4⟩
              go_simp
              with_reducible rfl
            rotate_left
            · simp only [Act.put, List.setIfInBounds_toArray, List.set_cons_zero, List.set_cons_succ, i64_w, i32_w]
              rfl
            refine take_ (i := 2) (N := some 17) (v := ?_) (a' := ?_) #[true, true, true, true, false, false, false, false, false, false, false, false] rfl rfl (take_ofW HT_.out HW_.out (by kernel_rfl)) (fun _ _ _ h => h) (Or.inl ⟨by rfl, ?_⟩) hHeld ?_ ?_
            rotate_left
            · rintro w' ⟨s0, s1, s2, s3, s4⟩
              go_simp
              with_reducible rfl
            rotate_left
            · simp only [Act.put, List.setIfInBounds_toArray, List.set_cons_zero, List.set_cons_succ, i64_w, i32_w]
              rfl
            refine pure_ (i := 4) (N := some 19) (v := ?_) (a' := ?_) #[true, true, true, true, true, false, false, false, false, false, false, false] rfl rfl (any_of HT_.out (by kernel_rfl)) (fun _ _ _ h => h) (Or.inl ⟨by rfl, ?_⟩) ?_ ?_
            rotate_left
            · intro w'
              go_simp
              with_reducible rfl
            rotate_left
            · simp only [Act.put, List.setIfInBounds_toArray, List.set_cons_zero, List.set_cons_succ, i64_w, i32_w]
              rfl
            refine take_ (i := 5) (N := some 20) (v := ?_) (a' := ?_) #[true, true, true, true, true, true, false, false, false, false, false, false] rfl rfl (take_ofW HT_.out HW_.out (by kernel_rfl)) (fun _ _ _ h => h) (Or.inl ⟨by rfl, ?_⟩) hHeld ?_ ?_
            rotate_left
            · rintro w' ⟨s0, s1, s2, s3, s4⟩
              go_simp
              with_reducible rfl
            rotate_left
            · simp only [Act.put, List.setIfInBounds_toArray, List.set_cons_zero, List.set_cons_succ, i64_w, i32_w]
              rfl
            refine one_ (i := 6) (N := some 21) #[true, true, true, true, true, true, true, false, false, false, false, false] rfl rfl (one_of HT_.out (by kernel_rfl)) (by decide) (fun K hK => ?_)
            refine goes_ Try.func77 (by kernel_rfl) rfl #[.agg #[.int .i64 x210000_1, .slice (some ad219) x210001_1.length co19, .slice Ao21 x210002_1.length co21, .bool x210003_2], .slice A219_0 (rd_L3 x210001_1 x4_2).length c219_0] (by rfl) rfl rfl (by (try simp only [List.map_toArray, List.map_cons, List.map_nil]); first | done | rfl | (simp only [List.length_drop, List.length_take]; rfl)) ?_
            with_reducible refine (sequiturref20_open.calls k2 x210000_1 _ _ x210001_1 _ _ x210002_1 x210003_2 _ _ (rd_L3 x210001_1 x4_2) t220 false _ ?side1 ?side2 ?side3 ?side4 ?side5 ?side6 A6.out).mono ?_
            (case side1 => repeat (first | exact (Kd.V_reads' HO_210001.out).2.2 | (with_reducible refine Kd.C_alloc ?_ _) | (with_reducible refine Kd.C_drewN ?_ _) | (with_reducible refine Kd.C_drew ?_)))
            (case side2 => exact (Kd.V_reads' HO_210001.out).2.1)
            (case side3 => repeat (first | exact (Kd.V_reads' HO_210002.out).2.2 | (with_reducible refine Kd.C_alloc ?_ _) | (with_reducible refine Kd.C_drewN ?_ _) | (with_reducible refine Kd.C_drew ?_)))
            (case side4 => exact (Kd.V_reads' HO_210002.out).2.1)
            (case side5 => repeat (first | exact (by repeat (first | (with_reducible exact HR219_0.out) | (with_reducible refine Kd.C_alloc ?_ _) | (with_reducible refine Kd.C_drewN ?_ _) | (with_reducible refine Kd.C_drew ?_) | exact HR219_0.out)) | (with_reducible refine Kd.C_alloc ?_ _) | (with_reducible refine Kd.C_drewN ?_ _) | (with_reducible refine Kd.C_drew ?_)))
            (case side6 => exact HC219_0.out)
            rintro e w22 ⟨rfl, hb⟩
            have HS4_ := (hb.cell (World.block_lt_of_cell? _ _ (hHeld.2.2.2.2))).trans (hHeld.2.2.2.2)
            refine ⟨_, rfl, ?_⟩
            have n0_ := K0 (Kd.V_below (by (with_reducible repeat (first | apply Kd.V_alloc | apply Kd.V_drewN | apply Kd.V_drew)); exact HO_210001.out) hb); have n1_ := K0 (Kd.V_below (by (with_reducible repeat (first | apply Kd.V_alloc | apply Kd.V_drewN | apply Kd.V_drew)); exact HO_210002.out) hb); have n2_ := K0 (Kd.V_below (by (with_reducible repeat (first | apply Kd.V_alloc | apply Kd.V_drewN | apply Kd.V_drew)); exact HL219_0.out) hb); have n3_ := K0 (blk_below (g := gb209) (o := .cells #[.int .i64 x210000_1, .slice (some ad219) x210001_1.length co19, .slice Ao21 x210002_1.length co21, .bool x210003_2] 34 (0, 0)) (by (with_reducible repeat (first | refine blk_drewN ?_ _ | refine blk_drew ?_ | refine blk_alloc ?_ _)); exact BK209.out) hb); have n4_ := K0 (blk_below (g := gb210) (o := .cells #[.int .i64 x211000_2, .slice none 0 0, .slice none 0 0, .bool x211003_2] 34 (0, 0)) (by (with_reducible repeat (first | refine blk_drewN ?_ _ | refine blk_drew ?_ | refine blk_alloc ?_ _)); exact BK210.out) hb); have n5_ := K0 (Kd.C_below (by repeat (first | (with_reducible exact HR219_0.out) | (with_reducible refine Kd.C_alloc ?_ _) | (with_reducible refine Kd.C_drewN ?_ _) | (with_reducible refine Kd.C_drew ?_) | exact HR219_0.out)) hb); have n6_ := K0 (below_step (by repeat (first | (with_reducible first | exact HB.out | apply below_alloc | apply pw_below_drewN | apply below_drew1 | refine below_set ?_ GE209.out | refine below_set ?_ GE210.out) | exact HB.out)) hb); clear HO_210001 HO_210002 HL219_0 BK209 BK210 HR219_0 HB; have HO_210001 := n0_; have HO_210002 := n1_; have HL219_0 := n2_; have BK209 := n3_; have BK210 := n4_; have HR219_0 := n5_; have HB := n6_; clear n0_ n1_ n2_ n3_ n4_ n5_ n6_
            (try clear hb)
            (try clear hb2)
            (try clear hk)
            (try clear hi)
            refine hK.out _ _ ⟨(blk_cell BK209.out 0).trans rfl, (blk_cell BK209.out 1).trans rfl, (blk_cell BK209.out 2).trans rfl, (blk_cell BK209.out 3).trans rfl, HS4_⟩ (fun hHeld => ?_)
            clear hK K
            refine norm_ (a' := ?_) ?_ ?_
            rotate_left
            · show Act.put _ (some 21) _ = _
              simp only [Act.put, List.setIfInBounds_toArray, List.set_cons_zero, List.set_cons_succ, i64_w, i32_w]
              rfl
            refine pure_ (i := 7) (N := some 14) (v := ?_) (a' := ?_) #[true, true, true, true, true, true, true, true, false, false, false, false] rfl rfl (any_of HT_.out (by kernel_rfl)) (fun _ _ _ h => h) (Or.inl ⟨by rfl, ?_⟩) ?_ ?_
            rotate_left
            · intro w'
              go_simp
              with_reducible rfl
            rotate_left
            · simp only [Act.put, List.setIfInBounds_toArray, List.set_cons_zero, List.set_cons_succ, i64_w, i32_w]
              rfl
            refine pure_ (i := 8) (N := some 22) (v := ?_) (a' := ?_) #[true, true, true, true, true, true, true, true, true, false, false, false] rfl rfl (any_of HT_.out (by kernel_rfl)) (fun _ _ _ h => h) (Or.inl ⟨by rfl, ?_⟩) ?_ ?_
            rotate_left
            · intro w'
              go_simp
              with_reducible rfl
            rotate_left
            · simp only [Act.put, List.setIfInBounds_toArray, List.set_cons_zero, List.set_cons_succ, i64_w, i32_w]
              rfl
            refine pure_ (i := 9) (N := some 23) (v := ?_) (a' := ?_) #[true, true, true, true, true, true, true, true, true, true, false, false] rfl rfl (any_of HT_.out (by kernel_rfl)) (fun _ _ _ h => h) (Or.inl ⟨by rfl, ?_⟩) ?_ ?_
            rotate_left
            · intro w'
              go_simp
              with_reducible rfl
            rotate_left
            · simp only [Act.put, List.setIfInBounds_toArray, List.set_cons_zero, List.set_cons_succ, i64_w, i32_w]
              rfl
            refine pure_ (i := 10) (N := some 5) (v := ?_) (a' := ?_) #[true, true, true, true, true, true, true, true, true, true, true, false] rfl rfl (any_of HT_.out (by kernel_rfl)) (fun _ _ _ h => h) (Or.inl ⟨by rfl, ?_⟩) ?_ ?_
            rotate_left
            · intro w'
              go_simp
              with_reducible rfl
            rotate_left
            · simp only [Act.put, List.setIfInBounds_toArray, List.set_cons_zero, List.set_cons_succ, i64_w, i32_w]
              rfl
            refine pure_ (i := 11) (N := some 6) (v := ?_) (a' := ?_) #[true, true, true, true, true, true, true, true, true, true, true, true] rfl rfl (any_of HT_.out (by kernel_rfl)) (fun _ _ _ h => h) (Or.inl ⟨by rfl, ?_⟩) ?_ ?_
            rotate_left
            · intro w'
              go_simp
              with_reducible rfl
            rotate_left
            · simp only [Act.put, List.setIfInBounds_toArray, List.set_cons_zero, List.set_cons_succ, i64_w, i32_w]
              rfl
            refine done_ (done_of HT_.out (by kernel_rfl)) ?_
            try go_wp2
            go_roundg k2
            case measure => have := HK1.out; have := HK2.out; omega
            case rel => exact ⟨(x3_2), (wrap64 (x4_2 + 1)), (x210003_2), (x211000_2), (x211003_2), (by first | rfl | (simp; done) | (simp [*]; done)), (by first | rfl | (simp; done) | (simp [*]; done)), H', ⟨by have := HK1.out; have := HK2.out; omega⟩, ⟨by (with_reducible repeat (first | apply Kd.V_alloc | apply Kd.V_drewN | apply Kd.V_drew)); exact HO_210001.out⟩, ⟨by (with_reducible repeat (first | apply Kd.V_alloc | apply Kd.V_drewN | apply Kd.V_drew)); exact HO_210002.out⟩, ⟨by (with_reducible repeat (first | refine blk_drewN ?_ _ | refine blk_drew ?_ | refine blk_alloc ?_ _)); exact BK209.out⟩, ⟨by (with_reducible repeat (first | refine blk_drewN ?_ _ | refine blk_drew ?_ | refine blk_alloc ?_ _)); exact BK210.out⟩, ⟨by repeat (first | (with_reducible first | exact HB.out | apply below_alloc | apply pw_below_drewN | apply below_drew1 | refine below_set ?_ GE209.out | refine below_set ?_ GE210.out) | exact HB.out)⟩⟩
def sequiturref20_New.l0 : Nat → Int → Int → List (List Int) → Int → List (List Int) → List (List Int) → Bool → Option (Int × (List (List Int)) × (List (List Int)) × Bool)
  | 0, _, _, _, _, _, _, _ => none
  | k + 1, x4, x223000, x223001, x228000, x228001, x228002, x228003 => if x4 < (x223001.length : Int) then (if 0 ≤ x4 then ((sequiturref17_Clean.f k (rd_L3 x223001 x4)).bind fun bt229 => (if x228001.length < 5864062014805 then (sequiturref20_New.l0 k (wrap64 (x4 + 1)) x223000 x223001 x228000 (x228001 ++ [bt229.1]) x228002 x228003) else (none))) else (none)) else ((sequiturref20_On.f k x228000 x228001 x228002 x228003).bind fun bt236 => (some (bt236.1, bt236.2.1, bt236.2.2.1, bt236.2.2.2)))
def sequiturref20_New.f (k : Nat) (a0_0 : Int) (l0_1 : List (List Int)) : Option (Int × (List (List Int)) × (List (List Int)) × Bool) := sequiturref20_New.l0 k 0 a0_0 l0_1 a0_0 ([] : List (List Int)) (([[]] : List (List Int))) false
set_option maxHeartbeats 8000000 in
set_option maxRecDepth 100000 in
theorem sequiturref20_New.calls (k : Nat) (a0_0 : Int) (A0_1 : Option Addr) (c0_1 : Nat) (l0_1 : List (List Int)) (r1 : Int) (r2 : List (List Int)) (r3 : List (List Int)) (r4 : Bool) (w : World) (hr0_1 : Kd.C (Kd.slice 3 (Kd.int .i64)) w A0_1 l0_1.length l0_1) (hc0_1 : l0_1.length ≤ c0_1) (h : sequiturref20_New.f k a0_0 l0_1 = some (r1, r2, r3, r4)) :
    Calls Try.prog 12 #[.agg #[.int .i64 a0_0, .slice A0_1 l0_1.length c0_1]] w fun e w' => ∃ v1_ v2_ : Value, e = .returned (.agg #[.int .i64 r1, v1_, v2_, .bool r4]) ∧ Kd.V (Kd.slice 3 (Kd.int .i64)) 37 w' w.heap.size (fun k_ => (w.heap.size ≤ k_)) v1_ r2 ∧ Kd.V (Kd.slice 3 (Kd.int .i64)) 37 w' w.heap.size (fun k_ => (w.heap.size ≤ k_)) v2_ r3 ∧ Below w.heap.size w w' := by
  have hu24 := Try.underlying24
  have hu34 := Try.underlying34
  have HR0_1 := K0 hr0_1; have HC0_1 := K0 hc0_1; clear hr0_1 hc0_1
  have HB := K0 (Below.refl w.heap.size w)
  have H : (sequiturref20_New.l0 k 0 a0_0 l0_1 a0_0 ([] : List (List Int)) (([[]] : List (List Int))) false) = some (r1, r2, r3, r4) := h
  clear h
  obtain ⟨y224, hy224⟩ : ∃ y_ : List (List Int), y_ = (([[]] : List (List Int))) := ⟨_, rfl⟩
  replace H : (sequiturref20_New.l0 k 0 a0_0 l0_1 a0_0 ([] : List (List Int)) y224 false) = some (r1, r2, r3, r4) := by first | (rw [hy224]; with_reducible exact H) | (have H2_ := (Option.bind_some _ _).symm.trans H; rw [hy224]; with_reducible exact H2_) | (have H2_ := (Option.bind_some _ _).symm.trans H; with_reducible exact H2_) | with_reducible exact H | (rw [hy224]; exact H) | exact H
  have Ny224 := K0 hy224; clear hy224
  have H' := K0 H
  clear H
  go_enter Try.func12, Try.ntmps12
  go_wp2_with (first | ((with_reducible refine gate_dst (N := 1) rfl ?_); refine box_event ?hg (N := 1) ?hd (cs := #[.int .i64 a0_0, .slice A0_1 l0_1.length c0_1]) (t := 24) ?hr ?_; (case hd => rfl); (case hg => rfl); (case hr => first | (go_simp; done) | (go_simp; rfl)); intro gb222 hg w2 hbox hb; have n0_ := K0 (below_step (by repeat (first | (with_reducible first | exact HB.out | apply below_alloc | apply pw_below_drewN | apply below_drew1) | exact HB.out)) hb); have n1_ := K0 (hbox); have n2_ := K0 ((by rw [hg]; exact (below_size (by repeat (first | (with_reducible first | exact HB.out | apply below_alloc | apply pw_below_drewN | apply below_drew1) | exact HB.out))) : w.heap.size ≤ gb222)); have n3_ := K0 ((by rw [hg]; exact (below_size (by repeat (first | (with_reducible first | exact HB.out | apply below_alloc | apply pw_below_drewN | apply below_drew1) | exact HB.out))) : w.heap.size ≤ gb222)); clear HB; have HB := n0_; have BK222 := n1_; have GW222 := n2_; have GE222 := n3_; clear n0_ n1_ n2_ n3_; clear hb hbox hg) | ((with_reducible refine gate_dst (N := 2) rfl ?_); refine box_event ?hg (N := 2) ?hd (cs := #[.int .i64 0, .slice none 0 0, .slice none 0 0, .bool false]) (t := 34) ?hr ?_; (case hd => rfl); (case hg => rfl); (case hr => first | (go_simp; done) | (go_simp; rfl)); intro gb223 hg w3 hbox hb; have n0_ := K0 (blk_below (g := gb222) (o := .cells #[.int .i64 a0_0, .slice A0_1 l0_1.length c0_1] 24 (0, 0)) (by (with_reducible repeat (first | refine blk_drewN ?_ _ | refine blk_drew ?_ | refine blk_alloc ?_ _)); exact BK222.out) hb); have n1_ := K0 (below_step (by repeat (first | (with_reducible first | exact HB.out | apply below_alloc | apply pw_below_drewN | apply below_drew1 | refine below_set ?_ GE222.out) | exact HB.out)) hb); have n2_ := K0 (hbox); have n3_ := K0 ((by rw [hg]; exact (below_size (by repeat (first | (with_reducible first | exact HB.out | apply below_alloc | apply pw_below_drewN | apply below_drew1 | refine below_set ?_ GE222.out) | exact HB.out))) : w.heap.size ≤ gb223)); have n4_ := K0 ((by rw [hg]; exact (below_size (by repeat (first | (with_reducible first | exact HB.out | apply below_alloc | apply pw_below_drewN | apply below_drew1 | refine below_set ?_ GE222.out) | exact HB.out))) : w.heap.size ≤ gb223)); have n5_ := K0 ((by rw [hg]; exact Nat.ne_of_lt (blk_lt (g := gb222) (o := .cells #[.int .i64 a0_0, .slice A0_1 l0_1.length c0_1] 24 (0, 0)) (by (with_reducible repeat (first | refine blk_drewN ?_ _ | refine blk_drew ?_ | refine blk_alloc ?_ _)); exact BK222.out)) : gb222 ≠ gb223)); have n6_ := K0 ((by rw [hg]; exact Nat.ne_of_gt (blk_lt (g := gb222) (o := .cells #[.int .i64 a0_0, .slice A0_1 l0_1.length c0_1] 24 (0, 0)) (by (with_reducible repeat (first | refine blk_drewN ?_ _ | refine blk_drew ?_ | refine blk_alloc ?_ _)); exact BK222.out)) : gb223 ≠ gb222)); clear BK222; clear HB; have BK222 := n0_; have HB := n1_; have BK223 := n2_; have GW223 := n3_; have GE223 := n4_; have NB222_223 := n5_; have NB223_222 := n6_; clear n0_ n1_ n2_ n3_ n4_ n5_ n6_; clear hb hbox hg; have hnb4 := NB222_223.out; have hnc4 := NB223_222.out; have hcz5_0 : w3.cell? ⟨gb222, 0, none⟩ = some (.int .i64 a0_0) := (blk_cell BK222.out 0).trans rfl; have hcz5_1 : w3.cell? ⟨gb222, 1, none⟩ = some (.slice A0_1 l0_1.length c0_1) := (blk_cell BK222.out 1).trans rfl; have hfz5_0 := blk_frozen BK222.out 0; have hfz5_1 := blk_frozen BK222.out 1) | ((with_reducible refine gate_dst (N := 9) rfl ?_); refine Kd.S_lit (Kd.slice 3 (Kd.int .i64)) _ 37 ?hg (N := 9) ?hd (xs := ([[]] : List (List Int))) (inner := [.slice none 0 0]) (ok := fun _ => True) (okp := fun _ => True) ?hr ?hp (fun _ hk => hk) trivial (Below.refl _ _) (Nat.le_refl _) (by simp) ?_; (case hd => rfl); (case hg => rfl); (case hr => first | (go_simp; done) | (go_simp; rfl)); (case hp => exact (Reps.one (show Kd.M (Kd.slice 3 (Kd.int .i64)) _ _ _ [] [.slice none 0 0] from ⟨_, rfl, Kd.R_nil _ _ _ _ _⟩) (Reps.none _ _))); intro v225 w6 ho7 hb hg_ hnew_; clear hg_ hnew_; (first | rw [← Ny224.out] at ho7 | (simp only [Int.reduceToNat] at ho7; rw [← Ny224.out] at ho7)); have n0_ := K0 (Kd.S_lower (Kd.S_newM (M := fun k_ => (w.heap.size ≤ k_)) ho7 (below_size (by repeat (first | (with_reducible first | exact HB.out | apply below_alloc | apply pw_below_drewN | apply below_drew1 | refine below_set ?_ GE222.out | refine below_set ?_ GE223.out) | exact HB.out))) (fun k_ h_ => h_)) (below_size (by repeat (first | (with_reducible first | exact HB.out | apply below_alloc | apply pw_below_drewN | apply below_drew1 | refine below_set ?_ GE222.out | refine below_set ?_ GE223.out) | exact HB.out)))); have n1_ := K0 (blk_below (g := gb222) (o := .cells #[.int .i64 a0_0, .slice A0_1 l0_1.length c0_1] 24 (0, 0)) (by (with_reducible repeat (first | refine blk_drewN ?_ _ | refine blk_drew ?_ | refine blk_alloc ?_ _)); exact BK222.out) hb); have n2_ := K0 (blk_below (g := gb223) (o := .cells #[.int .i64 0, .slice none 0 0, .slice none 0 0, .bool false] 34 (0, 0)) (by (with_reducible repeat (first | refine blk_drewN ?_ _ | refine blk_drew ?_ | refine blk_alloc ?_ _)); exact BK223.out) hb); have n3_ := K0 (below_step (by repeat (first | (with_reducible first | exact HB.out | apply below_alloc | apply pw_below_drewN | apply below_drew1 | refine below_set ?_ GE222.out | refine below_set ?_ GE223.out) | exact HB.out)) hb); clear BK222; clear BK223; clear HB; have HO226 := n0_; have BK222 := n1_; have BK223 := n2_; have HB := n3_; clear n0_ n1_ n2_ n3_; clear hb ho7; obtain ⟨Ao8, co8, eo8⟩ := Kd.S_slice HO226.out; subst eo8) | ((with_reducible refine gate_dst (N := 3) rfl ?_); refine box_event ?hg (N := 3) ?hd (cs := #[.int .i64 0, .slice none 0 0, .slice none 0 0, .bool false]) (t := 34) ?hr ?_; (case hd => rfl); (case hg => rfl); (case hr => first | (go_simp; done) | (go_simp; rfl)); intro gb227 hg w9 hbox hb; have n0_ := K0 (Kd.S_below (by (with_reducible repeat (first | apply Kd.S_alloc | apply Kd.S_drewN | apply Kd.S_drew)); exact HO226.out) hb); have n1_ := K0 (blk_below (g := gb222) (o := .cells #[.int .i64 a0_0, .slice A0_1 l0_1.length c0_1] 24 (0, 0)) (by (with_reducible repeat (first | refine blk_drewN ?_ _ | refine blk_drew ?_ | refine blk_alloc ?_ _)); exact BK222.out) hb); have n2_ := K0 (blk_below (g := gb223) (o := .cells #[.int .i64 0, .slice none 0 0, .slice none 0 0, .bool false] 34 (0, 0)) (by (with_reducible repeat (first | refine blk_drewN ?_ _ | refine blk_drew ?_ | refine blk_alloc ?_ _)); exact BK223.out) hb); have n3_ := K0 (below_step (by repeat (first | (with_reducible first | exact HB.out | apply below_alloc | apply pw_below_drewN | apply below_drew1 | refine below_set ?_ GE222.out | refine below_set ?_ GE223.out) | exact HB.out)) hb); have n4_ := K0 (hbox); have n5_ := K0 ((by rw [hg]; exact (below_size (by repeat (first | (with_reducible first | exact HB.out | apply below_alloc | apply pw_below_drewN | apply below_drew1 | refine below_set ?_ GE222.out | refine below_set ?_ GE223.out) | exact HB.out))) : w.heap.size ≤ gb227)); have n6_ := K0 ((by rw [hg]; exact (below_size (by repeat (first | (with_reducible first | exact HB.out | apply below_alloc | apply pw_below_drewN | apply below_drew1 | refine below_set ?_ GE222.out | refine below_set ?_ GE223.out) | exact HB.out))) : w.heap.size ≤ gb227)); have n7_ := K0 ((by rw [hg]; exact Nat.ne_of_lt (blk_lt (g := gb222) (o := .cells #[.int .i64 a0_0, .slice A0_1 l0_1.length c0_1] 24 (0, 0)) (by (with_reducible repeat (first | refine blk_drewN ?_ _ | refine blk_drew ?_ | refine blk_alloc ?_ _)); exact BK222.out)) : gb222 ≠ gb227)); have n8_ := K0 ((by rw [hg]; exact Nat.ne_of_gt (blk_lt (g := gb222) (o := .cells #[.int .i64 a0_0, .slice A0_1 l0_1.length c0_1] 24 (0, 0)) (by (with_reducible repeat (first | refine blk_drewN ?_ _ | refine blk_drew ?_ | refine blk_alloc ?_ _)); exact BK222.out)) : gb227 ≠ gb222)); have n9_ := K0 ((by rw [hg]; exact Nat.ne_of_lt (blk_lt (g := gb223) (o := .cells #[.int .i64 0, .slice none 0 0, .slice none 0 0, .bool false] 34 (0, 0)) (by (with_reducible repeat (first | refine blk_drewN ?_ _ | refine blk_drew ?_ | refine blk_alloc ?_ _)); exact BK223.out)) : gb223 ≠ gb227)); have n10_ := K0 ((by rw [hg]; exact Nat.ne_of_gt (blk_lt (g := gb223) (o := .cells #[.int .i64 0, .slice none 0 0, .slice none 0 0, .bool false] 34 (0, 0)) (by (with_reducible repeat (first | refine blk_drewN ?_ _ | refine blk_drew ?_ | refine blk_alloc ?_ _)); exact BK223.out)) : gb227 ≠ gb223)); clear HO226; clear BK222; clear BK223; clear HB; have HO226 := n0_; have BK222 := n1_; have BK223 := n2_; have HB := n3_; have BK227 := n4_; have GW227 := n5_; have GE227 := n6_; have NB222_227 := n7_; have NB227_222 := n8_; have NB223_227 := n9_; have NB227_223 := n10_; clear n0_ n1_ n2_ n3_ n4_ n5_ n6_ n7_ n8_ n9_ n10_; clear hb hbox hg; have hnb10 := NB227_222.out; have hnc10 := NB222_227.out; have hnb11 := NB227_223.out; have hnc11 := NB223_227.out; have hcz12_0 : w9.cell? ⟨gb227, 0, none⟩ = some (.int .i64 0) := (blk_cell BK227.out 0).trans rfl; have hcz12_1 : w9.cell? ⟨gb227, 1, none⟩ = some (.slice none 0 0) := (blk_cell BK227.out 1).trans rfl; have hcz12_2 : w9.cell? ⟨gb227, 2, none⟩ = some (.slice none 0 0) := (blk_cell BK227.out 2).trans rfl; have hcz12_3 : w9.cell? ⟨gb227, 3, none⟩ = some (.bool false) := (blk_cell BK227.out 3).trans rfl; have hfz12_0 := blk_frozen BK227.out 0; have hfz12_1 := blk_frozen BK227.out 1; have hfz12_2 := blk_frozen BK227.out 2; have hfz12_3 := blk_frozen BK227.out 3))
  go_loopg [4] k (fun kq v4 w' => ∃ (x4_1 : Int) (x228001_1 : List (List Int)) (u228001 : Value), v4 = .int .i64 x4_1 ∧ Aside0 (sequiturref20_New.l0 kq x4_1 a0_0 l0_1 a0_0 x228001_1 y224 false = some (r1, r2, r3, r4)) ∧ Aside0 (kq ≤ k) ∧ Aside0 (Kd.S (Kd.slice 3 (Kd.int .i64)) 37 w' w.heap.size (fun k_ => (w.heap.size ≤ k_) ∧ some k_ ≠ ((.slice Ao8 y224.length co8) : Value).ownBlock) u228001 x228001_1) ∧ Aside0 (Kd.S (Kd.slice 3 (Kd.int .i64)) 37 w' w.heap.size (fun k_ => (w.heap.size ≤ k_) ∧ some k_ ≠ (u228001 : Value).ownBlock) (.slice Ao8 y224.length co8) y224) ∧ Aside0 (w'.heap[gb222]? = some (.cells #[.int .i64 a0_0, (.slice A0_1 l0_1.length c0_1)] 24 (0, 0))) ∧ Aside0 (w'.heap[gb223]? = some (.cells #[.int .i64 0, (.slice none 0 0), (.slice none 0 0), .bool false] 34 (0, 0))) ∧ Aside0 (w'.heap[gb227]? = some (.cells #[.int .i64 a0_0, u228001, (.slice Ao8 y224.length co8), .bool false] 34 (0, 0))) ∧ Aside0 (Below w.heap.size w w'))
  case atStart => exact ⟨(0), (([] : List (List Int))), (.slice none 0 0), (by first | rfl | (simp; done) | (simp [*]; done)), H', ⟨Nat.le_refl _⟩, ⟨by first | exact Kd.S_nil _ _ _ _ _ | exact Kd.N_nil _ _ _ _ _ | exact Kd.V_nil _ _ _ _ _ | exact Kd.Q_nil _ _ _ _ _ | exact Kd.R_nil _ _ _ _ _⟩, ⟨by (with_reducible repeat (first | apply Kd.S_alloc | apply Kd.S_drewN | apply Kd.S_drew)); exact Kd.S_mono (Kd.S_far (p := ⟨gb227, 3, none⟩) (Kd.S_far (p := ⟨gb227, 2, none⟩) (Kd.S_far (p := ⟨gb227, 1, none⟩) (Kd.S_far (p := ⟨gb227, 0, none⟩) (Kd.S_types HO226.out BK227.out (by decide)) (fun _ hk => hk.2) (.int .i64 a0_0)) (fun _ hk => hk.2) (.slice none 0 0)) (fun _ hk => hk.2) (.slice Ao8 y224.length co8)) (fun _ hk => hk.2) (.bool false)) (fun _ hk => ⟨hk.1.1, (by simp [Value.ownBlock])⟩)⟩, ⟨by (with_reducible repeat (first | refine blk_drewN ?_ _ | refine blk_drew ?_ | refine blk_alloc ?_ _)); refine blk_far ?_ NB222_227.out _; (with_reducible repeat (first | refine blk_drewN ?_ _ | refine blk_drew ?_ | refine blk_alloc ?_ _)); refine blk_far ?_ NB222_227.out _; (with_reducible repeat (first | refine blk_drewN ?_ _ | refine blk_drew ?_ | refine blk_alloc ?_ _)); refine blk_far ?_ NB222_227.out _; (with_reducible repeat (first | refine blk_drewN ?_ _ | refine blk_drew ?_ | refine blk_alloc ?_ _)); refine blk_far ?_ NB222_227.out _; (with_reducible repeat (first | refine blk_drewN ?_ _ | refine blk_drew ?_ | refine blk_alloc ?_ _)); exact BK222.out⟩, ⟨by (with_reducible repeat (first | refine blk_drewN ?_ _ | refine blk_drew ?_ | refine blk_alloc ?_ _)); refine blk_far ?_ NB223_227.out _; (with_reducible repeat (first | refine blk_drewN ?_ _ | refine blk_drew ?_ | refine blk_alloc ?_ _)); refine blk_far ?_ NB223_227.out _; (with_reducible repeat (first | refine blk_drewN ?_ _ | refine blk_drew ?_ | refine blk_alloc ?_ _)); refine blk_far ?_ NB223_227.out _; (with_reducible repeat (first | refine blk_drewN ?_ _ | refine blk_drew ?_ | refine blk_alloc ?_ _)); refine blk_far ?_ NB223_227.out _; (with_reducible repeat (first | refine blk_drewN ?_ _ | refine blk_drew ?_ | refine blk_alloc ?_ _)); exact BK223.out⟩, ⟨by (with_reducible repeat (first | refine blk_drewN ?_ _ | refine blk_drew ?_ | refine blk_alloc ?_ _)); refine blk_put (cs := #[.int .i64 a0_0, .slice none 0 0, .slice Ao8 y224.length co8, .bool false]) ?_ 3 _ rfl; (with_reducible repeat (first | refine blk_drewN ?_ _ | refine blk_drew ?_ | refine blk_alloc ?_ _)); refine blk_put (cs := #[.int .i64 a0_0, .slice none 0 0, .slice none 0 0, .bool false]) ?_ 2 _ rfl; (with_reducible repeat (first | refine blk_drewN ?_ _ | refine blk_drew ?_ | refine blk_alloc ?_ _)); refine blk_put (cs := #[.int .i64 a0_0, .slice none 0 0, .slice none 0 0, .bool false]) ?_ 1 _ rfl; (with_reducible repeat (first | refine blk_drewN ?_ _ | refine blk_drew ?_ | refine blk_alloc ?_ _)); refine blk_put (cs := #[.int .i64 0, .slice none 0 0, .slice none 0 0, .bool false]) ?_ 0 _ rfl; (with_reducible repeat (first | refine blk_drewN ?_ _ | refine blk_drew ?_ | refine blk_alloc ?_ _)); exact BK227.out⟩, ⟨by repeat (first | (with_reducible first | exact HB.out | apply below_alloc | apply pw_below_drewN | apply below_drew1 | refine below_set ?_ GE222.out | refine below_set ?_ GE223.out | refine below_set ?_ GE227.out) | exact HB.out)⟩⟩
  case round =>
    clear H'; try clear c1; try clear p2; try clear c4; try clear c10; try clear c11; try clear c12; try clear hcz12_0; try clear hcz12_1; try clear hcz12_2; try clear hcz12_3; try clear hcz5_0; try clear hcz5_1; try clear hfz12_0; try clear hfz12_1; try clear hfz12_2; try clear hfz12_3; try clear hfz5_0; try clear hfz5_1
    obtain ⟨x4_1, x228001_1, u228001, rfl, HA, HK1, HO_228001, HO_228002, BK222, BK223, BK227, HB⟩ := hrel
    cases gk with
    | zero => exact absurd HA.out (by simp [sequiturref20_New.l0])
    | succ k1 =>
      have H := HA.out
      clear HA
      simp only [sequiturref20_New.l0] at H
      by_cases c13 : x4_1 < (l0_1.length : Int)
      case neg =>
        rw [if_neg c13] at H
        have c13b0 : decide (x4_1 < (l0_1.length : Int)) = false := decide_eq_false c13
        clear c13
        replace H := Option.bind_eq_some_iff.mp H
        obtain ⟨⟨t236, t237, t240, t243⟩, A270, H⟩ := H
        replace H : (some (t236, t237, t240, t243)) = some (r1, r2, r3, r4) := H
        have A27 := K0 A270; clear A270
        as_aux_lemma =>
          simp only [Option.some.injEq, Prod.mk.injEq] at H
          obtain ⟨rfl, rfl, rfl, rfl⟩ := H
          have hnb28 := NB222_223.out; have hnc28 := NB223_222.out; have hnb29 := NB222_227.out; have hnc29 := NB227_222.out
          have hcz30_0 : wr.cell? ⟨gb222, 0, none⟩ = some (.int .i64 a0_0) := (blk_cell BK222.out 0).trans rfl
          have hcz30_1 : wr.cell? ⟨gb222, 1, none⟩ = some (.slice A0_1 l0_1.length c0_1) := (blk_cell BK222.out 1).trans rfl
          have hfz30_0 := blk_frozen BK222.out 0; have hfz30_1 := blk_frozen BK222.out 1; have hnb31 := NB227_223.out; have hnc31 := NB223_227.out
          have hcz32_0 : wr.cell? ⟨gb227, 0, none⟩ = some (.int .i64 a0_0) := (blk_cell BK227.out 0).trans rfl
          have hcz32_1 : wr.cell? ⟨gb227, 1, none⟩ = some (u228001) := (blk_cell BK227.out 1).trans rfl
          have hcz32_2 : wr.cell? ⟨gb227, 2, none⟩ = some (.slice Ao8 y224.length co8) := (blk_cell BK227.out 2).trans rfl
          have hcz32_3 : wr.cell? ⟨gb227, 3, none⟩ = some (.bool false) := (blk_cell BK227.out 3).trans rfl
          have hfz32_0 := blk_frozen BK227.out 0; have hfz32_1 := blk_frozen BK227.out 1; have hfz32_2 := blk_frozen BK227.out 2; have hfz32_3 := blk_frozen BK227.out 3
          obtain ⟨Ao33, co33, eo33⟩ := Kd.S_slice HO_228001.out
          subst eo33
          go_wp2_with (first | ((with_reducible refine gate_callee (f := 40) rfl ?_); refine goesL_ (some 34) rfl rfl Try.func40 (by kernel_rfl) rfl #[.agg #[.int .i64 a0_0, .slice Ao33 x228001_1.length co33, .slice Ao8 y224.length co8, .bool false]] rfl (by (try simp only [List.map_toArray, List.map_cons, List.map_nil]); first | done | rfl | (simp only [List.length_drop, List.length_take]; rfl)) ?_; (with_reducible refine (sequiturref20_On.calls k1 a0_0 (fun k_ => (((((w.heap.size ≤ k_) ∧ some k_ ≠ (.slice Ao8 y224.length co8 : Value).ownBlock) ∧ k_ ≠ gb222) ∧ k_ ≠ gb223) ∧ k_ ≠ gb227)) _ _ x228001_1 (fun k_ => (((((w.heap.size ≤ k_) ∧ some k_ ≠ (.slice Ao33 x228001_1.length co33 : Value).ownBlock) ∧ k_ ≠ gb222) ∧ k_ ≠ gb223) ∧ k_ ≠ gb227)) _ _ y224 false t236 t237 t240 t243 _ ?side1 ?side2 A27.out).mono ?_); (case side1 => exact Kd.S_V (Kd.S_types (Kd.S_types (Kd.S_types (HO_228001.out) BK222.out (by decide)) BK223.out (by decide)) BK227.out (by decide))); (case side2 => exact Kd.S_V (Kd.S_types (Kd.S_types (Kd.S_types (HO_228002.out) BK222.out (by decide)) BK223.out (by decide)) BK227.out (by decide))); rintro e w34 ⟨v238, v241, rfl, ho0, ho1, hb⟩; refine ⟨_, rfl, ?_⟩; have n0_ := K0 (Kd.S_below (by (with_reducible repeat (first | apply Kd.S_alloc | apply Kd.S_drewN | apply Kd.S_drew)); exact HO_228001.out) hb); have n1_ := K0 (Kd.S_below (by (with_reducible repeat (first | apply Kd.S_alloc | apply Kd.S_drewN | apply Kd.S_drew)); exact HO_228002.out) hb); have n2_ := K0 (Kd.V_lower (Kd.V_mono (ok' := fun k_ => (w.heap.size ≤ k_) ∧ k_ ≠ gb222 ∧ k_ ≠ gb223 ∧ k_ ≠ gb227) ho0 (fun k_ hk_ => ⟨Or.elim hk_ (fun hs_ => Or.elim hs_ (fun hs_ => hs_.1.1.1.1) (fun hs_ => hs_.1.1.1.1)) (fun hn_ => (Nat.le_trans (below_size (by repeat (first | (with_reducible first | exact HB.out | apply below_alloc | apply pw_below_drewN | apply below_drew1 | refine below_set ?_ GE222.out | refine below_set ?_ GE223.out | refine below_set ?_ GE227.out) | exact HB.out))) hn_)), Or.elim hk_ (fun hs_ => Or.elim hs_ (fun hs_ => hs_.1.1.2) (fun hs_ => hs_.1.1.2)) (fun hn_ => (Kd.freshB (g := gb222) (o := .cells #[.int .i64 a0_0, .slice A0_1 l0_1.length c0_1] 24 (0, 0)) (by (with_reducible repeat (first | refine blk_drewN ?_ _ | refine blk_drew ?_ | refine blk_alloc ?_ _)); exact BK222.out) k_ hn_)), Or.elim hk_ (fun hs_ => Or.elim hs_ (fun hs_ => hs_.1.2) (fun hs_ => hs_.1.2)) (fun hn_ => (Kd.freshB (g := gb223) (o := .cells #[.int .i64 0, .slice none 0 0, .slice none 0 0, .bool false] 34 (0, 0)) (by (with_reducible repeat (first | refine blk_drewN ?_ _ | refine blk_drew ?_ | refine blk_alloc ?_ _)); exact BK223.out) k_ hn_)), Or.elim hk_ (fun hs_ => Or.elim hs_ (fun hs_ => hs_.2) (fun hs_ => hs_.2)) (fun hn_ => (Kd.freshB (g := gb227) (o := .cells #[.int .i64 a0_0, .slice Ao33 x228001_1.length co33, .slice Ao8 y224.length co8, .bool false] 34 (0, 0)) (by (with_reducible repeat (first | refine blk_drewN ?_ _ | refine blk_drew ?_ | refine blk_alloc ?_ _)); exact BK227.out) k_ hn_))⟩)) (below_size (by repeat (first | (with_reducible first | exact HB.out | apply below_alloc | apply pw_below_drewN | apply below_drew1 | refine below_set ?_ GE222.out | refine below_set ?_ GE223.out | refine below_set ?_ GE227.out) | exact HB.out)))); have n3_ := K0 (Kd.V_lower (Kd.V_mono (ok' := fun k_ => (w.heap.size ≤ k_) ∧ k_ ≠ gb222 ∧ k_ ≠ gb223 ∧ k_ ≠ gb227) ho1 (fun k_ hk_ => ⟨Or.elim hk_ (fun hs_ => Or.elim hs_ (fun hs_ => hs_.1.1.1.1) (fun hs_ => hs_.1.1.1.1)) (fun hn_ => (Nat.le_trans (below_size (by repeat (first | (with_reducible first | exact HB.out | apply below_alloc | apply pw_below_drewN | apply below_drew1 | refine below_set ?_ GE222.out | refine below_set ?_ GE223.out | refine below_set ?_ GE227.out) | exact HB.out))) hn_)), Or.elim hk_ (fun hs_ => Or.elim hs_ (fun hs_ => hs_.1.1.2) (fun hs_ => hs_.1.1.2)) (fun hn_ => (Kd.freshB (g := gb222) (o := .cells #[.int .i64 a0_0, .slice A0_1 l0_1.length c0_1] 24 (0, 0)) (by (with_reducible repeat (first | refine blk_drewN ?_ _ | refine blk_drew ?_ | refine blk_alloc ?_ _)); exact BK222.out) k_ hn_)), Or.elim hk_ (fun hs_ => Or.elim hs_ (fun hs_ => hs_.1.2) (fun hs_ => hs_.1.2)) (fun hn_ => (Kd.freshB (g := gb223) (o := .cells #[.int .i64 0, .slice none 0 0, .slice none 0 0, .bool false] 34 (0, 0)) (by (with_reducible repeat (first | refine blk_drewN ?_ _ | refine blk_drew ?_ | refine blk_alloc ?_ _)); exact BK223.out) k_ hn_)), Or.elim hk_ (fun hs_ => Or.elim hs_ (fun hs_ => hs_.2) (fun hs_ => hs_.2)) (fun hn_ => (Kd.freshB (g := gb227) (o := .cells #[.int .i64 a0_0, .slice Ao33 x228001_1.length co33, .slice Ao8 y224.length co8, .bool false] 34 (0, 0)) (by (with_reducible repeat (first | refine blk_drewN ?_ _ | refine blk_drew ?_ | refine blk_alloc ?_ _)); exact BK227.out) k_ hn_))⟩)) (below_size (by repeat (first | (with_reducible first | exact HB.out | apply below_alloc | apply pw_below_drewN | apply below_drew1 | refine below_set ?_ GE222.out | refine below_set ?_ GE223.out | refine below_set ?_ GE227.out) | exact HB.out)))); have n4_ := K0 (blk_below (g := gb222) (o := .cells #[.int .i64 a0_0, .slice A0_1 l0_1.length c0_1] 24 (0, 0)) (by (with_reducible repeat (first | refine blk_drewN ?_ _ | refine blk_drew ?_ | refine blk_alloc ?_ _)); exact BK222.out) hb); have n5_ := K0 (blk_below (g := gb223) (o := .cells #[.int .i64 0, .slice none 0 0, .slice none 0 0, .bool false] 34 (0, 0)) (by (with_reducible repeat (first | refine blk_drewN ?_ _ | refine blk_drew ?_ | refine blk_alloc ?_ _)); exact BK223.out) hb); have n6_ := K0 (blk_below (g := gb227) (o := .cells #[.int .i64 a0_0, .slice Ao33 x228001_1.length co33, .slice Ao8 y224.length co8, .bool false] 34 (0, 0)) (by (with_reducible repeat (first | refine blk_drewN ?_ _ | refine blk_drew ?_ | refine blk_alloc ?_ _)); exact BK227.out) hb); have n7_ := K0 (below_step (by repeat (first | (with_reducible first | exact HB.out | apply below_alloc | apply pw_below_drewN | apply below_drew1 | refine below_set ?_ GE222.out | refine below_set ?_ GE223.out | refine below_set ?_ GE227.out) | exact HB.out)) hb); clear HO_228001; clear HO_228002; clear BK222; clear BK223; clear BK227; clear HB; have HO_228001 := n0_; have HO_228002 := n1_; have HO239 := n2_; have HO242 := n3_; have BK222 := n4_; have BK223 := n5_; have BK227 := n6_; have HB := n7_; clear n0_ n1_ n2_ n3_ n4_ n5_ n6_ n7_; (try clear hb); (try clear hb2); (try clear hk); (try clear hi); (try clear ho0); (try clear ho1); have hcz35_0 : w34.cell? ⟨gb223, 0, none⟩ = some (.int .i64 0) := (blk_cell BK223.out 0).trans rfl; have hcz35_1 : w34.cell? ⟨gb223, 1, none⟩ = some (.slice none 0 0) := (blk_cell BK223.out 1).trans rfl; have hcz35_2 : w34.cell? ⟨gb223, 2, none⟩ = some (.slice none 0 0) := (blk_cell BK223.out 2).trans rfl; have hcz35_3 : w34.cell? ⟨gb223, 3, none⟩ = some (.bool false) := (blk_cell BK223.out 3).trans rfl; have hfz35_0 := blk_frozen BK223.out 0; have hfz35_1 := blk_frozen BK223.out 1; have hfz35_2 := blk_frozen BK223.out 2; have hfz35_3 := blk_frozen BK223.out 3; obtain ⟨Ao36, co36, eo36⟩ := Kd.V_slice HO239.out; subst eo36; obtain ⟨Ao37, co37, eo37⟩ := Kd.V_slice HO242.out; subst eo37))
          refine bodyPost_ret (results_cell_row rfl _ _ gb223 34 #[.int .i64 t236, .slice Ao36 t237.length co36, .slice Ao37 t240.length co37, .bool t243] (0, 0) _ rfl (by (with_reducible repeat (first | refine blk_drewN ?_ _ | refine blk_drew ?_ | refine blk_alloc ?_ _)); refine blk_put (cs := #[.int .i64 t236, .slice Ao36 t237.length co36, .slice Ao37 t240.length co37, .bool false]) ?_ 3 _ rfl; (with_reducible repeat (first | refine blk_drewN ?_ _ | refine blk_drew ?_ | refine blk_alloc ?_ _)); refine blk_put (cs := #[.int .i64 t236, .slice Ao36 t237.length co36, .slice none 0 0, .bool false]) ?_ 2 _ rfl; (with_reducible repeat (first | refine blk_drewN ?_ _ | refine blk_drew ?_ | refine blk_alloc ?_ _)); refine blk_put (cs := #[.int .i64 t236, .slice none 0 0, .slice none 0 0, .bool false]) ?_ 1 _ rfl; (with_reducible repeat (first | refine blk_drewN ?_ _ | refine blk_drew ?_ | refine blk_alloc ?_ _)); refine blk_put (cs := #[.int .i64 0, .slice none 0 0, .slice none 0 0, .bool false]) ?_ 0 _ rfl; (with_reducible repeat (first | refine blk_drewN ?_ _ | refine blk_drew ?_ | refine blk_alloc ?_ _)); exact BK223.out) Try.underlying34 rfl (by kernel_rfl)) rfl ?_
          exact ⟨_, _, by first | rfl | (simp [errW_none, errW_some] <;> rfl) | (simp [*, errW_none, errW_some] <;> rfl), by (with_reducible repeat (first | apply Kd.V_alloc | apply Kd.V_drewN | apply Kd.V_drew)); exact Kd.V_mono (Kd.V_far (p := ⟨gb223, 3, none⟩) (Kd.V_far (p := ⟨gb223, 2, none⟩) (Kd.V_far (p := ⟨gb223, 1, none⟩) (Kd.V_far (p := ⟨gb223, 0, none⟩) (Kd.V_mono HO239.out (fun k_ hk => (⟨hk, hk.2.2.1⟩ : _ ∧ k_ ≠ gb223))) (fun _ hk => hk.2) (.int .i64 t236)) (fun _ hk => hk.2) (.slice Ao36 t237.length co36)) (fun _ hk => hk.2) (.slice Ao37 t240.length co37)) (fun _ hk => hk.2) (.bool t243)) (fun _ hk => hk.1.1), by (with_reducible repeat (first | apply Kd.V_alloc | apply Kd.V_drewN | apply Kd.V_drew)); exact Kd.V_mono (Kd.V_far (p := ⟨gb223, 3, none⟩) (Kd.V_far (p := ⟨gb223, 2, none⟩) (Kd.V_far (p := ⟨gb223, 1, none⟩) (Kd.V_far (p := ⟨gb223, 0, none⟩) (Kd.V_mono HO242.out (fun k_ hk => (⟨hk, hk.2.2.1⟩ : _ ∧ k_ ≠ gb223))) (fun _ hk => hk.2) (.int .i64 t236)) (fun _ hk => hk.2) (.slice Ao36 t237.length co36)) (fun _ hk => hk.2) (.slice Ao37 t240.length co37)) (fun _ hk => hk.2) (.bool t243)) (fun _ hk => hk.1.1), by repeat (first | (with_reducible first | exact HB.out | apply below_alloc | apply pw_below_drewN | apply below_drew1 | refine below_set ?_ GE222.out | refine below_set ?_ GE223.out | refine below_set ?_ GE227.out) | exact HB.out)⟩
      rw [if_pos c13] at H
      have c13b0 : decide (x4_1 < (l0_1.length : Int)) = true := decide_eq_true c13
      clear c13
      by_cases c14 : 0 ≤ x4_1
      case neg =>
        rw [if_neg c14] at H
        exact absurd H (by simp)
      rw [if_pos c14] at H
      have c14b0 : decide (0 ≤ x4_1) = true := decide_eq_true c14
      clear c14
      replace H := Option.bind_eq_some_iff.mp H
      obtain ⟨⟨t229, t230⟩, A150, H⟩ := H
      replace H : (if x228001_1.length < 5864062014805 then (sequiturref20_New.l0 k1 (wrap64 (x4_1 + 1)) a0_0 l0_1 a0_0 (x228001_1 ++ [t229]) y224 false) else (none)) = some (r1, r2, r3, r4) := H
      have A15 := K0 A150; clear A150
      by_cases c16 : x228001_1.length < 5864062014805
      case neg =>
        rw [if_neg c16] at H
        exact absurd H (by simp)
      rw [if_pos c16] at H
      have LMc16 := K0 c16; clear c16
      obtain ⟨y233, hy233⟩ : ∃ y_ : List (List Int), y_ = (x228001_1 ++ [t229]) := ⟨_, rfl⟩
      replace H : (sequiturref20_New.l0 k1 (wrap64 (x4_1 + 1)) a0_0 l0_1 a0_0 y233 y224 false) = some (r1, r2, r3, r4) := by first | (rw [hy233]; with_reducible exact H) | (have H2_ := (Option.bind_some _ _).symm.trans H; rw [hy233]; with_reducible exact H2_) | (have H2_ := (Option.bind_some _ _).symm.trans H; with_reducible exact H2_) | with_reducible exact H | (rw [hy233]; exact H) | exact H
      have Ny233 := K0 hy233; clear hy233
      as_aux_lemma =>
        have H' := K0 H
        clear H; have hnb17 := NB222_223.out; have hnc17 := NB223_222.out; have hnb18 := NB222_227.out; have hnc18 := NB227_222.out
        have hcz19_0 : wr.cell? ⟨gb222, 0, none⟩ = some (.int .i64 a0_0) := (blk_cell BK222.out 0).trans rfl
        have hcz19_1 : wr.cell? ⟨gb222, 1, none⟩ = some (.slice A0_1 l0_1.length c0_1) := (blk_cell BK222.out 1).trans rfl
        have hfz19_0 := blk_frozen BK222.out 0; have hfz19_1 := blk_frozen BK222.out 1
        have p228 : 0 ≤ (x4_1 : Int) := of_decide_eq_true (by first | (with_reducible assumption) | assumption)
        have q228 : x4_1 < (l0_1.length : Int) := of_decide_eq_true (by first | (with_reducible assumption) | assumption)
        obtain ⟨ad228, A228_0, c228_0, e228, hx228_0, hl228_0, hi228_0⟩ := at_L3 HR0_1.out x4_1 p228 q228
        cases e228
        replace hx228_0 := (HB.out.cell (World.block_lt_of_cell? w _ hx228_0)).trans hx228_0
        have HR228_0 := K0 hi228_0; have HC228_0 := K0 hl228_0; clear hi228_0 hl228_0; replace p228 := eq_true p228; replace q228 := eq_true q228
        go_wp2_with (first | ((with_reducible refine gate_callee (f := 39) rfl ?_); refine goesL_ (some 24) rfl rfl Try.func39 (by kernel_rfl) rfl #[.slice A228_0 (rd_L3 l0_1 x4_1).length c228_0] rfl (by (try simp only [List.map_toArray, List.map_cons, List.map_nil]); first | done | rfl | (simp only [List.length_drop, List.length_take]; rfl)) ?_; (with_reducible refine (sequiturref17_Clean.calls k1 _ _ (rd_L3 l0_1 x4_1) t229 t230 _ ?side1 ?side2 A15.out).mono ?_); (case side1 => repeat (first | exact (Kd.C_below HR228_0.out HB.out) | (with_reducible refine Kd.C_alloc ?_ _) | (with_reducible refine Kd.C_drewN ?_ _) | (with_reducible refine Kd.C_drew ?_))); (case side2 => exact HC228_0.out); rintro e w20 ⟨v231, rfl, ho0, hb⟩; refine ⟨_, rfl, ?_⟩; have n0_ := K0 (Kd.S_elder' (by (with_reducible repeat (first | apply Kd.S_alloc | apply Kd.S_drewN | apply Kd.S_drew)); exact HO_228001.out) (Kd.R_base ho0) hb); have n1_ := K0 (Kd.S_elder' (by (with_reducible repeat (first | apply Kd.S_alloc | apply Kd.S_drewN | apply Kd.S_drew)); exact HO_228002.out) (Kd.R_base ho0) hb); have n2_ := K0 (Kd.R_lower (Kd.R_newM (M := fun k_ => (w.heap.size ≤ k_)) ho0 (below_size (by repeat (first | (with_reducible first | exact HB.out | apply below_alloc | apply pw_below_drewN | apply below_drew1 | refine below_set ?_ GE222.out | refine below_set ?_ GE223.out | refine below_set ?_ GE227.out) | exact HB.out))) (fun k_ h_ => h_)) (below_size (by repeat (first | (with_reducible first | exact HB.out | apply below_alloc | apply pw_below_drewN | apply below_drew1 | refine below_set ?_ GE222.out | refine below_set ?_ GE223.out | refine below_set ?_ GE227.out) | exact HB.out)))); have n3_ := K0 (blk_below (g := gb222) (o := .cells #[.int .i64 a0_0, .slice (some ad228) l0_1.length c0_1] 24 (0, 0)) (by (with_reducible repeat (first | refine blk_drewN ?_ _ | refine blk_drew ?_ | refine blk_alloc ?_ _)); exact BK222.out) hb); have n4_ := K0 (blk_below (g := gb223) (o := .cells #[.int .i64 0, .slice none 0 0, .slice none 0 0, .bool false] 34 (0, 0)) (by (with_reducible repeat (first | refine blk_drewN ?_ _ | refine blk_drew ?_ | refine blk_alloc ?_ _)); exact BK223.out) hb); have n5_ := K0 (blk_below (g := gb227) (o := .cells #[.int .i64 a0_0, u228001, .slice Ao8 y224.length co8, .bool false] 34 (0, 0)) (by (with_reducible repeat (first | refine blk_drewN ?_ _ | refine blk_drew ?_ | refine blk_alloc ?_ _)); exact BK227.out) hb); have n6_ := K0 (below_step (by repeat (first | (with_reducible first | exact HB.out | apply below_alloc | apply pw_below_drewN | apply below_drew1 | refine below_set ?_ GE222.out | refine below_set ?_ GE223.out | refine below_set ?_ GE227.out) | exact HB.out)) hb); clear HO_228001; clear HO_228002; clear BK222; clear BK223; clear BK227; clear HB; have HO_228001 := n0_; have HO_228002 := n1_; have HO232 := n2_; have BK222 := n3_; have BK223 := n4_; have BK227 := n5_; have HB := n6_; clear n0_ n1_ n2_ n3_ n4_ n5_ n6_; (try clear hb); (try clear hb2); (try clear hk); (try clear hi); (try clear ho0); have hnb21 := NB227_223.out; have hnc21 := NB223_227.out; have hcz22_0 : w20.cell? ⟨gb227, 0, none⟩ = some (.int .i64 a0_0) := (blk_cell BK227.out 0).trans rfl; have hcz22_1 : w20.cell? ⟨gb227, 1, none⟩ = some (u228001) := (blk_cell BK227.out 1).trans rfl; have hcz22_2 : w20.cell? ⟨gb227, 2, none⟩ = some (.slice Ao8 y224.length co8) := (blk_cell BK227.out 2).trans rfl; have hcz22_3 : w20.cell? ⟨gb227, 3, none⟩ = some (.bool false) := (blk_cell BK227.out 3).trans rfl; have hfz22_0 := blk_frozen BK227.out 0; have hfz22_1 := blk_frozen BK227.out 1; have hfz22_2 := blk_frozen BK227.out 2; have hfz22_3 := blk_frozen BK227.out 3; obtain ⟨Ao24, co24, eo24⟩ := Kd.R_slice HO232.out; subst eo24) | ((with_reducible refine gate_builtin (b := .append) (xs := #[.tmp 28, .tmp 30]) rfl ?_); at_builtin; refine Kd.S_append (Kd.slice 3 (Kd.int .i64)) (w0 := w) w.heap.size rfl (.tmp 28) (.tmp 30) 22 37 (.slice none 0 0) 24 rfl Try.underlying22 info37 rfl (by decide) (by omega) u228001 x228001_1 t229 [.slice Ao24 t229.length co24] (fun k_ => (w.heap.size ≤ k_) ∧ some k_ ≠ (.slice Ao8 y224.length co8 : Value).ownBlock) (fun k_ => some k_ = (.slice Ao24 t229.length co24 : Value).ownBlock) rfl rfl ?aP (fun k_ hk_ => ((Kd.R_mono (ok' := fun k_ => ((fun k_ => (w.heap.size ≤ k_) ∧ some k_ ≠ (.slice Ao8 y224.length co8 : Value).ownBlock)) k_ ∧ some k_ ≠ (u228001 : Value).ownBlock) (Kd.R_apart' (Kd.R_apart' (HO232.out) (Kd.S_typed HO_228002.out) (by decide)) (Kd.S_typed HO_228001.out) (by decide)) (fun k_ hk => ⟨⟨hk.1.1.1, hk.1.2⟩, hk.2⟩))).1 k_ hk_.symm) ?aF ?aO ?aB ?aS ?aL ?_; (case aP => exact Kd.M_row (Kd.R_mono (Kd.R_tight rfl (Kd.R_mono (ok' := fun k_ => ((fun k_ => (w.heap.size ≤ k_) ∧ some k_ ≠ (.slice Ao8 y224.length co8 : Value).ownBlock)) k_ ∧ some k_ ≠ (u228001 : Value).ownBlock) (Kd.R_apart' (Kd.R_apart' (HO232.out) (Kd.S_typed HO_228002.out) (by decide)) (Kd.S_typed HO_228001.out) (by decide)) (fun k_ hk => ⟨⟨hk.1.1.1, hk.1.2⟩, hk.2⟩))) (fun _ h_ => h_))); (case aB => exact (by repeat (first | (with_reducible first | exact HB.out | apply below_alloc | apply pw_below_drewN | apply below_drew1 | refine below_set ?_ GE222.out | refine below_set ?_ GE223.out | refine below_set ?_ GE227.out) | exact HB.out))); (case aF => exact (fun k_ hk => ⟨(Nat.le_trans (below_size (by repeat (first | (with_reducible first | exact HB.out | apply below_alloc | apply pw_below_drewN | apply below_drew1 | refine below_set ?_ GE222.out | refine below_set ?_ GE223.out | refine below_set ?_ GE227.out) | exact HB.out))) hk), Kd.fresh' (Kd.S_lt (by (with_reducible repeat (first | apply Kd.S_alloc | apply Kd.S_drewN | apply Kd.S_drew)); exact HO_228002.out)) k_ hk⟩)); (case aO => exact (by (with_reducible repeat (first | apply Kd.S_alloc | apply Kd.S_drewN | apply Kd.S_drew)); exact Kd.S_mono HO_228001.out (fun k_ hk => ⟨⟨hk.1.1, hk.1.2⟩, fun e_ => hk.2 e_⟩))); (case aS => exact (below_size (by repeat (first | (with_reducible first | exact HB.out | apply below_alloc | apply pw_below_drewN | apply below_drew1 | refine below_set ?_ GE222.out | refine below_set ?_ GE223.out | refine below_set ?_ GE227.out) | exact HB.out)))); (case aL => have := LMc16.out; omega); intro v234 w23 ho hb hg hat; rw [← Ny233.out] at ho; have n0_ := K0 (Kd.S_after (ok := (fun k_ => (w.heap.size ≤ k_) ∧ some k_ ≠ (.slice Ao24 t229.length co24 : Value).ownBlock)) (by (with_reducible repeat (first | apply Kd.S_alloc | apply Kd.S_drewN | apply Kd.S_drew)); exact Kd.S_mono HO_228002.out (fun _ hk => ⟨⟨hk.1.1, hk.2⟩, hk.1.2⟩)) hg hat); have n1_ := K0 (blk_grown (g := gb222) (o := .cells #[.int .i64 a0_0, .slice (some ad228) l0_1.length c0_1] 24 (0, 0)) (by (with_reducible repeat (first | refine blk_drewN ?_ _ | refine blk_drew ?_ | refine blk_alloc ?_ _)); exact BK222.out) hg (Kd.S_ne HO_228001.out BK222.out (by decide))); have n2_ := K0 (blk_grown (g := gb223) (o := .cells #[.int .i64 0, .slice none 0 0, .slice none 0 0, .bool false] 34 (0, 0)) (by (with_reducible repeat (first | refine blk_drewN ?_ _ | refine blk_drew ?_ | refine blk_alloc ?_ _)); exact BK223.out) hg (Kd.S_ne HO_228001.out BK223.out (by decide))); have n3_ := K0 (blk_grown (g := gb227) (o := .cells #[.int .i64 a0_0, u228001, .slice Ao8 y224.length co8, .bool false] 34 (0, 0)) (by (with_reducible repeat (first | refine blk_drewN ?_ _ | refine blk_drew ?_ | refine blk_alloc ?_ _)); exact BK227.out) hg (Kd.S_ne HO_228001.out BK227.out (by decide))); have n4_ := K0 (hb); have n5_ := K0 (ho); clear HO_228002; clear BK222; clear BK223; clear BK227; clear HB; clear HO_228001; clear HO232; have HO_228002 := n0_; have BK222 := n1_; have BK223 := n2_; have BK227 := n3_; have HB := n4_; have HO235 := n5_; clear n0_ n1_ n2_ n3_ n4_ n5_; clear ho hb hg hat; obtain ⟨Ao25, co25, eo25⟩ := Kd.S_slice HO235.out; subst eo25; have hcz26_0 : w23.cell? ⟨gb227, 0, none⟩ = some (.int .i64 a0_0) := (blk_cell BK227.out 0).trans rfl; have hcz26_1 : w23.cell? ⟨gb227, 1, none⟩ = some (u228001) := (blk_cell BK227.out 1).trans rfl; have hcz26_2 : w23.cell? ⟨gb227, 2, none⟩ = some (.slice Ao8 y224.length co8) := (blk_cell BK227.out 2).trans rfl; have hcz26_3 : w23.cell? ⟨gb227, 3, none⟩ = some (.bool false) := (blk_cell BK227.out 3).trans rfl; have hfz26_0 := blk_frozen BK227.out 0; have hfz26_1 := blk_frozen BK227.out 1; have hfz26_2 := blk_frozen BK227.out 2; have hfz26_3 := blk_frozen BK227.out 3))
        go_roundg k1
        case measure => have := HK1.out; omega
        case rel => exact ⟨(wrap64 (x4_1 + 1)), (y233), (.slice Ao25 y233.length co25), (by first | rfl | (simp; done) | (simp [*]; done)), H', ⟨by have := HK1.out; omega⟩, ⟨by (with_reducible repeat (first | apply Kd.S_alloc | apply Kd.S_drewN | apply Kd.S_drew)); exact Kd.S_mono (Kd.S_far (p := ⟨gb227, 1, none⟩) (Kd.S_types HO235.out BK227.out (by decide)) (fun _ hk => hk.2) (.slice Ao25 y233.length co25)) (fun _ hk => ⟨hk.1.1, hk.1.2⟩)⟩, ⟨by (with_reducible repeat (first | apply Kd.S_alloc | apply Kd.S_drewN | apply Kd.S_drew)); exact Kd.S_mono (Kd.S_far (p := ⟨gb227, 1, none⟩) (Kd.S_types HO_228002.out BK227.out (by decide)) (fun _ hk => hk.2) (.slice Ao25 y233.length co25)) (fun _ hk => ⟨hk.1.1.1, hk.1.2⟩)⟩, ⟨by (with_reducible repeat (first | refine blk_drewN ?_ _ | refine blk_drew ?_ | refine blk_alloc ?_ _)); refine blk_far ?_ NB222_227.out _; (with_reducible repeat (first | refine blk_drewN ?_ _ | refine blk_drew ?_ | refine blk_alloc ?_ _)); exact BK222.out⟩, ⟨by (with_reducible repeat (first | refine blk_drewN ?_ _ | refine blk_drew ?_ | refine blk_alloc ?_ _)); refine blk_far ?_ NB223_227.out _; (with_reducible repeat (first | refine blk_drewN ?_ _ | refine blk_drew ?_ | refine blk_alloc ?_ _)); exact BK223.out⟩, ⟨by (with_reducible repeat (first | refine blk_drewN ?_ _ | refine blk_drew ?_ | refine blk_alloc ?_ _)); refine blk_put (cs := #[.int .i64 a0_0, u228001, .slice Ao8 y224.length co8, .bool false]) ?_ 1 _ rfl; (with_reducible repeat (first | refine blk_drewN ?_ _ | refine blk_drew ?_ | refine blk_alloc ?_ _)); exact BK227.out⟩, ⟨by repeat (first | (with_reducible first | exact HB.out | apply below_alloc | apply pw_below_drewN | apply below_drew1 | refine below_set ?_ GE222.out | refine below_set ?_ GE223.out | refine below_set ?_ GE227.out) | exact HB.out)⟩⟩
set_option maxRecDepth 100000 in
theorem eng_Levels.calls (E : Eng) (B : Nat) (T : Tag) (p : EngP) (w : World) (h : EngIn w B T E p) :
    Calls Try.prog 26 #[.pointer (some ⟨B, 0, none⟩)] w fun e w' => e = .returned (.int .i64 (E.st.length : Int)) ∧ w' = w := by
  have c5 := h.cells.2.2.2.2.2.1
  obtain ⟨A5, n5, e5⟩ := Kd.R_slice h.st
  rw [e5] at c5
  clear h e5
  go_enter Try.func26, Try.ntmps26
  go_wp2
  go_ret
  exact ⟨rfl, rfl⟩
def Eng.markV (E : Eng) (v : Int) : Option (Int × Int) := if v ≤ 0 then none else if (E.ms v).isSome = true then E.ms v else E.ms (wrap64 (-v))
set_option maxRecDepth 100000 in
set_option maxHeartbeats 2000000 in
theorem eng_mark.calls (E : Eng) (B : Nat) (T : Tag) (p : EngP) (v : Int) (w : World) (h : EngIn w B T E p) (hl : (Lit.int .i64 v).wf = true) :
    Calls Try.prog 62 #[.pointer (some ⟨B, 0, none⟩), .int .i64 v] w fun e w' => e = .returned (.tuple #[.agg #[.int .i64 ((E.markV v).getD (0, 0)).1, .int .i64 ((E.markV v).getD (0, 0)).2], .bool (E.markV v).isSome]) ∧ Below w.heap.size w w' := by
  have hu := Try.underlying104
  have P6 : IntKind.i64.wrap (-v) = wrap64 (-v) := Go.IntWalk.i64_left _
  by_cases hv : v ≤ 0
  · have e1 : E.markV v = none := if_pos hv
    rw [e1]
    have d1 : decide (v ≤ 0) = true := decide_eq_true hv
    clear h e1 P6
    go_enter Try.func62, Try.ntmps62
    go_wp2
    try simp only [Exit.inBlock, Exit.then]
    refine bodyPost_ret (v := .tuple #[.agg #[.int .i64 0, .int .i64 0], .bool false]) (by simp [results, Try.results62, go_sem]) rfl ⟨rfl, ?_⟩
    repeat (first | exact Below.refl _ _ | apply below_alloc | refine below_set ?_ (Nat.le_refl _))
  · have d1 : decide (v ≤ 0) = false := decide_eq_false hv
    have HE := K0 h
    obtain ⟨m1, hm1⟩ : ∃ m, (E.ms v).getD (0, 0) = m := ⟨_, rfl⟩
    obtain ⟨m2, hm2⟩ : ∃ m, (E.ms (wrap64 (-v))).getD (0, 0) = m := ⟨_, rfl⟩
    have q1 : ∀ W, Below w.heap.size w W → (Instr.lookup 69 (.map (some p.bm)) (.int .i64 v) true).run Try.prog W = .ok (.tuple #[.agg #[.int .i64 m1.1, .int .i64 m1.2], .bool (E.ms v).isSome]) W := fun W hW => by
      have := h.look hW hl
      rw [hm1] at this
      exact this
    have q2 : ∀ W, Below w.heap.size w W → (Instr.lookup 69 (.map (some p.bm)) (.int .i64 (wrap64 (-v))) true).run Try.prog W = .ok (.tuple #[.agg #[.int .i64 m2.1, .int .i64 m2.2], .bool (E.ms (wrap64 (-v))).isSome]) W := fun W hW => by
      have := h.look hW (wf_wrap v)
      rw [hm2] at this
      exact this
    have c4 := h.cells.2.2.2.2.1
    have HQ1 := K0 q1
    have HQ2 := K0 q2
    clear q1 q2
    have hb1 : Below w.heap.size w (w.alloc (.cells #[.int .i64 0, .int .i64 0] 104)) := below_alloc (Below.refl _ _) _
    have c41 := pw_cell_below hb1 c4
    have r1 := HQ1.out _ hb1
    have hb2 : Below w.heap.size w ((w.alloc (.cells #[.int .i64 0, .int .i64 0] 104)).alloc (.cells #[.int .i64 m1.1, .int .i64 m1.2] 104)) := below_alloc hb1 _
    have c42 := pw_cell_below hb2 c4
    have r2 := HQ2.out _ hb2
    cases hs1 : (E.ms v).isSome with
    | true =>
      have e1 : E.markV v = E.ms v := by unfold Eng.markV; rw [if_neg hv, if_pos hs1]
      rw [e1, hm1, hs1]
      rw [hs1] at r1
      clear h e1 hm1 hm2 hs1
      go_enter Try.func62, Try.ntmps62
      go_wp2
      try simp only [Exit.inBlock, Exit.then]
      refine bodyPost_ret (v := .tuple #[.agg #[.int .i64 m1.1, .int .i64 m1.2], .bool true]) (by simp [results, Try.results62, go_sem]) rfl ⟨rfl, ?_⟩
      repeat (first | exact Below.refl _ _ | apply below_alloc | refine below_set ?_ (Nat.le_refl _))
    | false =>
      have e1 : E.markV v = E.ms (wrap64 (-v)) := by unfold Eng.markV; rw [if_neg hv, if_neg (by rw [hs1]; decide)]
      rw [e1, hm2]
      rw [hs1] at r1
      clear h e1 hm1 hm2 hs1
      go_enter Try.func62, Try.ntmps62
      go_wp2
      try simp only [Exit.inBlock, Exit.then]
      refine bodyPost_ret (v := .tuple #[.agg #[.int .i64 m2.1, .int .i64 m2.2], .bool (E.ms (wrap64 (-v))).isSome]) (by simp [results, Try.results62, go_sem]) rfl ⟨rfl, ?_⟩
      repeat (first | exact Below.refl _ _ | apply below_alloc | refine below_set ?_ (Nat.le_refl _))
def Eng.level (E : Eng) (v : Int) : Int := match E.markV v with | some q => q.1 | none => -1
set_option maxRecDepth 100000 in
theorem eng_Level.calls (E : Eng) (B : Nat) (T : Tag) (p : EngP) (v : Int) (w : World) (h : EngIn w B T E p) (hl : (Lit.int .i64 v).wf = true) :
    Calls Try.prog 28 #[.pointer (some ⟨B, 0, none⟩), .int .i64 v] w fun e w' => e = .returned (.int .i64 (E.level v)) ∧ Below w.heap.size w w' := by
  have HM := K0 (eng_mark.calls E B T p v w h hl)
  have hu := Try.underlying104
  clear h
  unfold Eng.level
  cases hq : E.markV v with
  | none =>
    rw [hq] at HM
    clear hq
    go_enter Try.func28, Try.ntmps28
    go_wp2_with fail
    refine HM.out.mono ?_
    rintro e' w1 ⟨rfl, hb⟩
    have HB := K0 hb
    clear hb
    go_wp2
    go_ret
    exact ⟨rfl, by repeat (first | exact HB.out | apply below_alloc | apply pw_below_drewN | apply below_drew1)⟩
  | some q =>
    rw [hq] at HM
    clear hq
    go_enter Try.func28, Try.ntmps28
    go_wp2_with fail
    refine HM.out.mono ?_
    rintro e' w1 ⟨rfl, hb⟩
    have HB := K0 hb
    clear hb
    go_wp2
    go_ret
    exact ⟨rfl, by repeat (first | exact HB.out | apply below_alloc | apply pw_below_drewN | apply below_drew1)⟩
def Eng.why (E : Eng) (v : Int) : Int := match E.markV v with | some q => q.2 | none => -1
set_option maxRecDepth 100000 in
theorem eng_Why.calls (E : Eng) (B : Nat) (T : Tag) (p : EngP) (v : Int) (w : World) (h : EngIn w B T E p) (hl : (Lit.int .i64 v).wf = true) :
    Calls Try.prog 43 #[.pointer (some ⟨B, 0, none⟩), .int .i64 v] w fun e w' => e = .returned (.int .i64 (E.why v)) ∧ Below w.heap.size w w' := by
  have HM := K0 (eng_mark.calls E B T p v w h hl)
  have hu := Try.underlying104
  clear h
  unfold Eng.why
  cases hq : E.markV v with
  | none =>
    rw [hq] at HM
    clear hq
    go_enter Try.func43, Try.ntmps43
    go_wp2_with fail
    refine HM.out.mono ?_
    rintro e' w1 ⟨rfl, hb⟩
    have HB := K0 hb
    clear hb
    go_wp2
    go_ret
    exact ⟨rfl, by repeat (first | exact HB.out | apply below_alloc | apply pw_below_drewN | apply below_drew1)⟩
  | some q =>
    rw [hq] at HM
    clear hq
    go_enter Try.func43, Try.ntmps43
    go_wp2_with fail
    refine HM.out.mono ?_
    rintro e' w1 ⟨rfl, hb⟩
    have HB := K0 hb
    clear hb
    go_wp2
    go_ret
    exact ⟨rfl, by repeat (first | exact HB.out | apply below_alloc | apply pw_below_drewN | apply below_drew1)⟩
theorem EngIn.aside {w w1 : World} {B : Nat} {T : Tag} {E : Eng} {p : EngP} (h : EngIn w B T E p) (hs : w.heap.size ≤ w1.heap.size) (hm : ∀ k, k < w.heap.size → T k ≠ (0, 0) → w1.heap[k]? = w.heap[k]?) : EngIn w1 B T E p := by
  obtain ⟨k1, k2, k3, k4, k5, k6, k7, k8, k9, k10, k11⟩ := h.kept (S := fun t => t = (0, 0)) (T' := T) hm (fun _ _ => rfl)
  have no : ∀ {a b : Int}, a ≠ 0 → ¬ (((a, b) : Int × Int) = (0, 0)) := fun h1 e => h1 (congrArg Prod.fst e)
  exact { fresh := fun k hk => h.fresh k (Nat.le_trans hs hk), blk := k1 (no (by decide)), tB := k2, cls := k3 (no (by decide)), len := h.len, rows := k4 (no (by decide)), tr := k5 (no (by decide)), st := k6 (no (by decide)), ms := k7 (no (by decide)), tM := k8, mst := h.mst, wt := k9 (no (by decide)), tW := k10, grp := fun x => k11 x (no (by decide)), cov := h.cov, wsz := h.wsz }
theorem EngIn.grown {w w1 : World} {B : Nat} {T : Tag} {E : Eng} {p : EngP} (h : EngIn w B T E p) {o : Option Nat} (hg : w.grownBy w1 o) (hv : ∀ k, o = some k → T k = (0, 0)) : EngIn w1 B T E p :=
  h.aside hg.size (fun k hk hn => hg.block k hk (fun e => hn (hv k e.symm)))
structure Ask (wb : World) (fn : Nat) (args : Array Value) (v : Value) : Prop where
  go : ∀ W, Below wb.heap.size wb W → Calls Try.prog fn args W fun e W' => e = .returned v ∧ Below wb.heap.size wb W'
theorem ask_has {wb : World} {k : Nat} {A : Option Addr} {c : Nat} {l : List Int} (hC : Kd.C (Kd.int .i64) wb A l.length l) (hc : l.length ≤ c) {x : Int} {r : Bool} (h : sequiturref17_Has.f k l x = some r) : Ask wb 41 #[.slice A l.length c, .int .i64 x] (.bool r) :=
  ⟨fun W hb => (sequiturref17_Has.calls k A c l x r W (Kd.C_below hC hb) hc h).mono (fun _ _ hh => ⟨hh.1, below_step hb hh.2.below⟩)⟩
theorem ask_of {wb : World} {x r : Int} (h : sequiturref17_Of.f x = some r) : Ask wb 42 #[.int .i64 x] (.int .i64 r) :=
  ⟨fun W hb => (sequiturref17_Of.calls x r W h).mono (fun _ _ hh => ⟨hh.1, below_step hb hh.2.below⟩)⟩
section
variable {wb : World} {B : Nat} {T : Tag} {E : Eng} {p : EngP}
theorem ask_value (h : EngIn wb B T E p) {x : Int} (hx : (Lit.int .i64 x).wf = true) : Ask wb 27 #[.pointer (some ⟨B, 0, none⟩), .int .i64 x] (.int .i64 (E.val x)) :=
  ⟨fun W hb => (eng_Value.calls E B T p x W (h.below hb) hx).mono (fun _ _ hh => ⟨hh.1, below_step hb hh.2⟩)⟩
theorem ask_level (h : EngIn wb B T E p) {x : Int} (hx : (Lit.int .i64 x).wf = true) : Ask wb 28 #[.pointer (some ⟨B, 0, none⟩), .int .i64 x] (.int .i64 (E.level x)) :=
  ⟨fun W hb => (eng_Level.calls E B T p x W (h.below hb) hx).mono (fun _ _ hh => ⟨hh.1, below_step hb hh.2⟩)⟩
theorem ask_why (h : EngIn wb B T E p) {x : Int} (hx : (Lit.int .i64 x).wf = true) : Ask wb 43 #[.pointer (some ⟨B, 0, none⟩), .int .i64 x] (.int .i64 (E.why x)) :=
  ⟨fun W hb => (eng_Why.calls E B T p x W (h.below hb) hx).mono (fun _ _ hh => ⟨hh.1, below_step hb hh.2⟩)⟩
theorem ask_broken (h : EngIn wb B T E p) : Ask wb 24 #[.pointer (some ⟨B, 0, none⟩)] (.int .i64 E.br) :=
  ⟨fun W hb => (eng_Broken.calls E B T p W (h.below hb)).mono (fun _ _ hh => ⟨hh.1, hh.2 ▸ hb⟩)⟩
theorem ask_levels (h : EngIn wb B T E p) : Ask wb 26 #[.pointer (some ⟨B, 0, none⟩)] (.int .i64 (E.st.length : Int)) :=
  ⟨fun W hb => (eng_Levels.calls E B T p W (h.below hb)).mono (fun _ _ hh => ⟨hh.1, hh.2 ▸ hb⟩)⟩
end
end Go.Proofs.Ytkmlekfmccghjaa.P
