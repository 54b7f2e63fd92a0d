import Derived.Test.YtaibnbhgjnddnaaKSolveAssumes1
import Derived.Test.YtaibnbhgjnddnaaKSolveAssumes5
import Derived.Test.YtaibnbhgjnddnaaKSolveAssumes6
import Derived.Test.YtaibnbhgjnddnaaKSolveAssumes7
namespace Go.Proofs.Ytaibnbhgjnddnaa.P
open Go.RowKit Go.Proofs.YtaibnbhgjnddnaaW.PrintWords Go.Proofs.YtaibnbhgjnddnaaW.PrintLast Go.Proofs.YtaibnbhgjnddnaaW.PrintMore
attribute [local go_sem] max2_int min2_int max_two min_two max_three min_three max_four min_four
set_option linter.unusedVariables false
set_option linter.unusedSimpArgs false
attribute [local go_sem] asAgg Instr.field
mutual
def sequiturlaw22_told.j0 : Nat → List Int → List Int → Bool → Int → List (List Int) → Bool → List Bool → List (S64) → Int → Option (Bool)
  | 0, _, _, _, _, _, _, _, _, _ => none
  | k + 1, x2, x3, x21, x281000, x281001, x282000, x282001, x282002, x282003 => if x21 = true then (some false) else (if x282000 = true then (if (x282001.length : Int) = x281000 then (if (x282002.length : Int) = 0 then (if (x2.length : Int) = 0 then ((sequiturref22_Units.f k x281000 x281001 x3).bind fun bt282 => ((sequiturref19_Every.f k bt282.2 x282001).bind fun t286 => (some t286))) else (some false)) else (some false)) else (some false)) else (sequiturlaw22_told.l0 k x2 x3 ([] : List Int) 0 x281000 x281001 x282000 x282001 x282002 x282003))
def sequiturlaw22_told.l0 : Nat → List Int → List Int → List Int → Int → Int → List (List Int) → Bool → List Bool → List (S64) → Int → Option (Bool)
  | 0, _, _, _, _, _, _, _, _, _, _ => none
  | k + 1, x2, x3, x11, x12, x281000, x281001, x282000, x282001, x282002, x282003 => if x12 < (x2.length : Int) then (if 0 ≤ x12 then (if x11.length < 17592186044416 then (sequiturlaw22_told.l0 k x2 x3 (x11 ++ [wrap64 (-(rd x2 x12))]) (wrap64 (x12 + 1)) x281000 x281001 x282000 x282001 x282002 x282003) else (none)) else (none)) else (if (x282001.length : Int) = 0 then (if (x282002.length : Int) ≤ 4096 then ((sequiturref22_Within.f k x2 x3).bind fun t291 => (if t291 = true then ((sequiturref22_Log.f k x281000 x281001 x282002 x11).bind fun t292 => (some t292)) else (some false))) else (some false)) else (some false))
end
def sequiturlaw22_told.f0 (k : Nat) (a0_0 : Int) (l0_1 : List (List Int)) (a1_0 : Bool) (l1_1 : List Bool) (l1_2 : List (S64)) (a1_3 : Int) (l2 : List Int) (l3 : List Int) (a4 : Int) : Option (Bool) := if a1_3 < 0 then (sequiturlaw22_told.j0 k l2 l3 true a0_0 l0_1 a1_0 l1_1 l1_2 a1_3) else (sequiturlaw22_told.j0 k l2 l3 (decide (a1_3 > a4)) a0_0 l0_1 a1_0 l1_1 l1_2 a1_3)
def sequiturlaw22_told.T4 : Bool × List (List Nat × List Nat) := (true, [([], []), ([0], [0]), ([1], [1]), ([], []), ([3], [3]), ([2, 4], [2, 4]), ([5], [5]), ([6], [6]), ([7, 6], [6, 7]), ([8, 6], [6, 8]), ([9, 6], [6, 9]), ([6, 10], [6, 10]), ([11, 6], [11]), ([12], [12]), ([13, 12], [12, 13]), ([14, 12], [12, 14]), ([12, 15], [12, 15]), ([16, 12], [16]), ([17], [17]), ([17], [17]), ([18, 19, 17, 17], [17, 18, 19]), ([20, 17], [17, 20]), ([17], [17]), ([22, 17], [17, 22]), ([21, 23, 20, 17], [17, 21, 23]), ([17, 24], [17, 24]), ([25, 24, 0, 1, 2, 3, 4, 5, 6, 7, 8, 9, 10, 11, 12, 13, 14, 15, 16, 17, 18, 19, 20, 21, 22, 23, 24, 25], [25])])
def sequiturlaw22_told.B4 : List Nat := [0, 1, 3, 0, 8, 31, 63, 127, 255, 511, 1023, 2047, 4095, 8191, 16383, 32767, 65535, 131071, 262143, 262143, 1048575, 2097151, 262143, 4456447, 16777215, 33554431, 67108863]
theorem sequiturlaw22_told.tab4 : rtab .any (opsOf Try.f15 4) = sequiturlaw22_told.T4 := by kernel_rfl
theorem sequiturlaw22_told.bits4 : waitsOk sequiturlaw22_told.T4.2 sequiturlaw22_told.B4 = true := by kernel_rfl
set_option maxHeartbeats 8000000 in
set_option maxRecDepth 100000 in
theorem sequiturlaw22_told.calls0 (k : Nat) (a0_0 : Int) (A0_1 : Option Addr) (c0_1 : Nat) (l0_1 : List (List Int)) (a1_0 : Bool) (A1_1 : Option Addr) (c1_1 : Nat) (l1_1 : List Bool) (A1_2 : Option Addr) (c1_2 : Nat) (l1_2 : List (S64)) (a1_3 : Int) (A2 : Option Addr) (c2 : Nat) (l2 : List Int) (A3 : Option Addr) (c3 : Nat) (l3 : List Int) (a4 : Int) (r : Bool) (w : World) (hr0_1 : Kd.C (Kd.slice 3 (Kd.int .i64)) w A0_1 l0_1.length l0_1) (hc0_1 : l0_1.length ≤ c0_1) (hr1_1 : Kd.C Kd.bool w A1_1 l1_1.length l1_1) (hc1_1 : l1_1.length ≤ c1_1) (hr1_2 : Kd.C k64 w A1_2 l1_2.length l1_2) (hc1_2 : l1_2.length ≤ c1_2) (hr2 : Kd.C (Kd.int .i64) w A2 l2.length l2) (hc2 : l2.length ≤ c2) (hr3 : Kd.C (Kd.int .i64) w A3 l3.length l3) (hc3 : l3.length ≤ c3) (hT : r = true) (h : sequiturlaw22_told.f0 k a0_0 l0_1 a1_0 l1_1 l1_2 a1_3 l2 l3 a4 = some r) :
    Calls Try.prog 15 #[.agg #[.int .i64 a0_0, .slice A0_1 l0_1.length c0_1], .agg #[.bool a1_0, .slice A1_1 l1_1.length c1_1, .slice A1_2 l1_2.length c1_2, .int .i64 a1_3], .slice A2 l2.length c2, .slice A3 l3.length c3, .int .i64 a4] w fun e w' => e = .returned (.bool r) ∧ Below w.heap.size w w' := by
  have HT := K0 hT; clear hT
  have hu24 := Try.underlying24
  have hu33 := Try.underlying33
  have HR0_1 := K0 hr0_1; have HC0_1 := K0 hc0_1; clear hr0_1 hc0_1; have HR1_1 := K0 hr1_1; have HC1_1 := K0 hc1_1; clear hr1_1 hc1_1; have HR1_2 := K0 hr1_2; have HC1_2 := K0 hc1_2; clear hr1_2 hc1_2; have HR2 := K0 hr2; have HC2 := K0 hc2; clear hr2 hc2; have HR3 := K0 hr3; have HC3 := K0 hc3; clear hr3 hc3
  have HB := K0 (zqw w.heap.size w)
  have H : (if a1_3 < 0 then (sequiturlaw22_told.j0 k l2 l3 true a0_0 l0_1 a1_0 l1_1 l1_2 a1_3) else (sequiturlaw22_told.j0 k l2 l3 (decide (a1_3 > a4)) a0_0 l0_1 a1_0 l1_1 l1_2 a1_3)) = some r := h
  clear h; have HC6 := K0 H; clear H
  go_enter Try.func15, Try.ntmps15
  go_upto_region 1 with (first | ((with_reducible refine gate_dst (N := 5) rfl ?_); (try (refine gate_guard (by rfl) ?_; dsimp only)); refine box_event ?hg (N := 5) ?hd (cs := #[.int .i64 a0_0, .slice A0_1 l0_1.length c0_1]) (t := 24) ?hr ?_; (case hd => rfl); (case hg => rfl); (case hr => first | (go_simp; done) | (go_simp; rfl)); intro gb280 hg w7 hbox hb; have n0_ := K0 (zqo (by repeat (first | (with_reducible first | exact HB.out | apply zqb | apply zqa | apply zqc) | exact HB.out)) hb); have n1_ := K0 (hbox); have n2_ := K0 ((by rw [hg]; exact (zqp (by repeat (first | (with_reducible first | exact HB.out | apply zqb | apply zqa | apply zqc) | exact HB.out))) : w.heap.size ≤ gb280)); have n3_ := K0 ((by rw [hg]; exact (zqp (by repeat (first | (with_reducible first | exact HB.out | apply zqb | apply zqa | apply zqc) | exact HB.out))) : w.heap.size ≤ gb280)); clear HB; have HB := n0_; have BK280 := n1_; have GW280 := n2_; have GE280 := n3_; clear n0_ n1_ n2_ n3_; clear hb hbox hg) | ((with_reducible refine gate_dst (N := 6) rfl ?_); (try (refine gate_guard (by rfl) ?_; dsimp only)); refine box_event ?hg (N := 6) ?hd (cs := #[.bool a1_0, .slice A1_1 l1_1.length c1_1, .slice A1_2 l1_2.length c1_2, .int .i64 a1_3]) (t := 33) ?hr ?_; (case hd => rfl); (case hg => rfl); (case hr => first | (go_simp; done) | (go_simp; rfl)); intro gb281 hg w8 hbox hb; have n0_ := K0 (zqn (g := gb280) (o := .cells #[.int .i64 a0_0, .slice A0_1 l0_1.length c0_1] 24 (0, 0)) (by (with_reducible repeat (first | refine zqj ?_ _ | refine zqk ?_ | refine zqi ?_ _)); exact BK280.out) hb); have n1_ := K0 (zqo (by repeat (first | (with_reducible first | exact HB.out | apply zqb | apply zqa | apply zqc | refine zqd ?_ GE280.out) | exact HB.out)) hb); have n2_ := K0 (hbox); have n3_ := K0 ((by rw [hg]; exact (zqp (by repeat (first | (with_reducible first | exact HB.out | apply zqb | apply zqa | apply zqc | refine zqd ?_ GE280.out) | exact HB.out))) : w.heap.size ≤ gb281)); have n4_ := K0 ((by rw [hg]; exact (zqp (by repeat (first | (with_reducible first | exact HB.out | apply zqb | apply zqa | apply zqc | refine zqd ?_ GE280.out) | exact HB.out))) : w.heap.size ≤ gb281)); have n5_ := K0 ((by rw [hg]; exact Nat.ne_of_lt (blk_lt (g := gb280) (o := .cells #[.int .i64 a0_0, .slice A0_1 l0_1.length c0_1] 24 (0, 0)) (by (with_reducible repeat (first | refine zqj ?_ _ | refine zqk ?_ | refine zqi ?_ _)); exact BK280.out)) : gb280 ≠ gb281)); have n6_ := K0 ((by rw [hg]; exact Nat.ne_of_gt (blk_lt (g := gb280) (o := .cells #[.int .i64 a0_0, .slice A0_1 l0_1.length c0_1] 24 (0, 0)) (by (with_reducible repeat (first | refine zqj ?_ _ | refine zqk ?_ | refine zqi ?_ _)); exact BK280.out)) : gb281 ≠ gb280)); clear BK280; clear HB; have BK280 := n0_; have HB := n1_; have BK281 := n2_; have GW281 := n3_; have GE281 := n4_; have NB280_281 := n5_; have NB281_280 := n6_; clear n0_ n1_ n2_ n3_ n4_ n5_ n6_; clear hb hbox hg))
  (try simp only [Act.put, zqf, zqg, zqh])
  go_cut [21] (fun v21 wc => ∃ (kq : Nat) (x21_5 : Bool), v21 = .bool x21_5 ∧ Aside0 (sequiturlaw22_told.j0 kq l2 l3 x21_5 a0_0 l0_1 a1_0 l1_1 l1_2 a1_3 = some r) ∧ Aside0 (kq ≤ k) ∧ Aside0 (wc.heap[gb280]? = some (.cells #[.int .i64 a0_0, (.slice A0_1 l0_1.length c0_1)] 24 (0, 0))) ∧ Aside0 (wc.heap[gb281]? = some (.cells #[.bool a1_0, (.slice A1_1 l1_1.length c1_1), (.slice A1_2 l1_2.length c1_2), .int .i64 a1_3] 33 (0, 0))) ∧ Aside0 (Below w.heap.size w wc))
  case first =>
    have H := HC6.out
    clear HC6
    by_cases c9 : a1_3 < 0
    case pos =>
      rw [if_pos c9] at H
      have c9b0 : decide (a1_3 < 0) = true := zqt c9
      clear c9
      (first | rw [c9b0] | (simp only [i64_w, i32_w]; rw [c9b0]) | skip)
      as_aux_lemma =>
        have H' := K0 H
        clear H; have hnb10 := NB281_280.out; have hnc10 := NB280_281.out
        have hcz11_0 : w8.cell? ⟨gb281, 0, none⟩ = some (.bool a1_0) := (zql BK281.out 0).trans rfl
        have hcz11_1 : w8.cell? ⟨gb281, 1, none⟩ = some (.slice A1_1 l1_1.length c1_1) := (zql BK281.out 1).trans rfl
        have hcz11_2 : w8.cell? ⟨gb281, 2, none⟩ = some (.slice A1_2 l1_2.length c1_2) := (zql BK281.out 2).trans rfl
        have hcz11_3 : w8.cell? ⟨gb281, 3, none⟩ = some (.int .i64 a1_3) := (zql BK281.out 3).trans rfl
        have hfz11_0 := zqm BK281.out 0; have hfz11_1 := zqm BK281.out 1; have hfz11_2 := zqm BK281.out 2; have hfz11_3 := zqm BK281.out 3
        go_wp2
        go_meet
        case rel => exact ⟨_, (true), (by first | rfl | (simp; done) | (simp [*]; done)), H', ⟨by first | omega | exact zqx _⟩, ⟨by (with_reducible repeat (first | refine zqj ?_ _ | refine zqk ?_ | refine zqi ?_ _)); exact BK280.out⟩, ⟨by (with_reducible repeat (first | refine zqj ?_ _ | refine zqk ?_ | refine zqi ?_ _)); exact BK281.out⟩, ⟨by repeat (first | (with_reducible first | exact HB.out | apply zqb | apply zqa | apply zqc | refine zqd ?_ GE280.out | refine zqd ?_ GE281.out) | exact HB.out)⟩⟩
    rw [if_neg c9] at H
    have c9b0 : decide (a1_3 < 0) = false := zqu c9
    clear c9
    (first | rw [c9b0] | (simp only [i64_w, i32_w]; rw [c9b0]) | skip)
    as_aux_lemma =>
      have H' := K0 H
      clear H; have hnb12 := NB281_280.out; have hnc12 := NB280_281.out
      have hcz13_0 : w8.cell? ⟨gb281, 0, none⟩ = some (.bool a1_0) := (zql BK281.out 0).trans rfl
      have hcz13_1 : w8.cell? ⟨gb281, 1, none⟩ = some (.slice A1_1 l1_1.length c1_1) := (zql BK281.out 1).trans rfl
      have hcz13_2 : w8.cell? ⟨gb281, 2, none⟩ = some (.slice A1_2 l1_2.length c1_2) := (zql BK281.out 2).trans rfl
      have hcz13_3 : w8.cell? ⟨gb281, 3, none⟩ = some (.int .i64 a1_3) := (zql BK281.out 3).trans rfl
      have hfz13_0 := zqm BK281.out 0; have hfz13_1 := zqm BK281.out 1; have hfz13_2 := zqm BK281.out 2; have hfz13_3 := zqm BK281.out 3
      go_wp2
      go_meet
      case rel => exact ⟨_, (decide (a1_3 > a4)), (by first | rfl | (simp; done) | (simp [*]; done)), H', ⟨by first | omega | exact zqx _⟩, ⟨by (with_reducible repeat (first | refine zqj ?_ _ | refine zqk ?_ | refine zqi ?_ _)); exact BK280.out⟩, ⟨by (with_reducible repeat (first | refine zqj ?_ _ | refine zqk ?_ | refine zqi ?_ _)); exact BK281.out⟩, ⟨by repeat (first | (with_reducible first | exact HB.out | apply zqb | apply zqa | apply zqc | refine zqd ?_ GE280.out | refine zqd ?_ GE281.out) | exact HB.out)⟩⟩
  case rest =>
    clear HC6; try clear c1; try clear c2; try clear p2; try clear c3; try clear c9; try clear c9b0; try clear c10; try clear c12; try clear hcz11_0; try clear hcz11_1; try clear hcz11_2; try clear hcz11_3; try clear hcz13_0; try clear hcz13_1; try clear hcz13_2; try clear hcz13_3; try clear hfz11_0; try clear hfz11_1; try clear hfz11_2; try clear hfz11_3; try clear hfz13_0; try clear hfz13_1; try clear hfz13_2; try clear hfz13_3
    obtain ⟨kq, x21_5, rfl, HA, HJ5, BK280, BK281, HB⟩ := hcut
    cases kq with
    | zero => exact absurd HA.out (by simp [sequiturlaw22_told.j0])
    | succ kj5 =>
      have H := HA.out
      clear HA
      simp only [sequiturlaw22_told.j0] at H
      by_cases c14 : x21_5 = true
      case pos =>
        subst c14
        have H1 : (some false) = some r := by rw [if_pos rfl] at H; exact H
        clear H
        have H := H1
        clear H1
        exact absurd ((zqv (show some false = some r from H)).trans HT.out) (by decide)
      replace c14 := Bool.eq_false_iff.mpr c14
      subst c14
      have H1 : (if a1_0 = true then (if (l1_1.length : Int) = a0_0 then (if (l1_2.length : Int) = 0 then (if (l2.length : Int) = 0 then ((sequiturref22_Units.f kj5 a0_0 l0_1 l3).bind fun bt282 => ((sequiturref19_Every.f kj5 bt282.2 l1_1).bind fun t286 => (some t286))) else (some false)) else (some false)) else (some false)) else (sequiturlaw22_told.l0 kj5 l2 l3 ([] : List Int) 0 a0_0 l0_1 a1_0 l1_1 l1_2 a1_3)) = some r := by rw [if_neg (show ¬ (false = true) by decide)] at H; exact H
      clear H
      have H := H1
      clear H1
      by_cases c15 : a1_0 = true
      case neg =>
        replace c15 := Bool.eq_false_iff.mpr c15
        subst c15
        have H1 : (sequiturlaw22_told.l0 kj5 l2 l3 ([] : List Int) 0 a0_0 l0_1 false l1_1 l1_2 a1_3) = some r := by rw [if_neg (show ¬ (false = true) by decide)] at H; exact H
        clear H
        have H := H1
        clear H1
        have H' := K0 H
        clear H; have hnb26 := NB281_280.out; have hnc26 := NB280_281.out
        have hcz27_0 : wc.cell? ⟨gb281, 0, none⟩ = some (.bool false) := (zql BK281.out 0).trans rfl
        have hcz27_1 : wc.cell? ⟨gb281, 1, none⟩ = some (.slice A1_1 l1_1.length c1_1) := (zql BK281.out 1).trans rfl
        have hcz27_2 : wc.cell? ⟨gb281, 2, none⟩ = some (.slice A1_2 l1_2.length c1_2) := (zql BK281.out 2).trans rfl
        have hcz27_3 : wc.cell? ⟨gb281, 3, none⟩ = some (.int .i64 a1_3) := (zql BK281.out 3).trans rfl
        have hfz27_0 := zqm BK281.out 0; have hfz27_1 := zqm BK281.out 1; have hfz27_2 := zqm BK281.out 2; have hfz27_3 := zqm BK281.out 3
        go_wp2
        go_loopg [11, 12] kj5 (fun kq v11 v12 w' => ∃ (x11_2 : List Int) (x12_2 : Int), v12 = .int .i64 x12_2 ∧ Aside0 (sequiturlaw22_told.l0 kq l2 l3 x11_2 x12_2 a0_0 l0_1 false l1_1 l1_2 a1_3 = some r) ∧ Aside0 (kq ≤ kj5) ∧ Aside0 (Kd.R (Kd.int .i64) 3 w' w.heap.size (fun _ => True) v11 x11_2) ∧ Aside0 (w'.heap[gb280]? = some (.cells #[.int .i64 a0_0, (.slice A0_1 l0_1.length c0_1)] 24 (0, 0))) ∧ Aside0 (w'.heap[gb281]? = some (.cells #[.bool false, (.slice A1_1 l1_1.length c1_1), (.slice A1_2 l1_2.length c1_2), .int .i64 a1_3] 33 (0, 0))) ∧ Aside0 (Below w.heap.size w w'))
        case atStart => exact ⟨(([] : List Int)), (0), (by first | rfl | (simp; done) | (simp [*]; done)), H', ⟨zqx _⟩, ⟨by first | exact Kd.R_nil _ _ _ _ _ | exact Kd.N_nil _ _ _ _ _ | exact Kd.V_nil _ _ _ _ _ | exact Kd.Q_nil _ _ _ _ _ | exact Kd.S_nil _ _ _ _ _⟩, ⟨by (with_reducible repeat (first | refine zqj ?_ _ | refine zqk ?_ | refine zqi ?_ _)); exact BK280.out⟩, ⟨by (with_reducible repeat (first | refine zqj ?_ _ | refine zqk ?_ | refine zqi ?_ _)); exact BK281.out⟩, ⟨by repeat (first | (with_reducible first | exact HB.out | apply zqb | apply zqa | apply zqc | refine zqd ?_ GE280.out | refine zqd ?_ GE281.out) | exact HB.out)⟩⟩
        case round =>
          clear H'; try clear c1; try clear c2; try clear p2; try clear c3; try clear c9; try clear c9b0; try clear c10; try clear c12; try clear c14; try clear c15; try clear c16; try clear c16b0; try clear c16b1; try clear c17; try clear c17b0; try clear c17b1; try clear c17b2; try clear c18; try clear c18b0; try clear c18b1; try clear c18b2; try clear c21; try clear c26; try clear hcz11_0; try clear hcz11_1; try clear hcz11_2; try clear hcz11_3; try clear hcz13_0; try clear hcz13_1; try clear hcz13_2; try clear hcz13_3; try clear hcz22_0; try clear hcz22_1; try clear hcz22_2; try clear hcz22_3; try clear hcz27_0; try clear hcz27_1; try clear hcz27_2; try clear hcz27_3; try clear hfz11_0; try clear hfz11_1; try clear hfz11_2; try clear hfz11_3; try clear hfz13_0; try clear hfz13_1; try clear hfz13_2; try clear hfz13_3; try clear hfz22_0; try clear hfz22_1; try clear hfz22_2; try clear hfz22_3; try clear hfz27_0; try clear hfz27_1; try clear hfz27_2; try clear hfz27_3; try clear p2
          obtain ⟨x11_2, x12_2, rfl, HA, HK2, HO_11, BK280, BK281, HB⟩ := hrel
          cases gk with
          | zero => exact absurd HA.out (by simp [sequiturlaw22_told.l0])
          | succ k2 =>
            have H := HA.out
            clear HA
            simp only [sequiturlaw22_told.l0] at H
            by_cases c28 : x12_2 < (l2.length : Int)
            case pos =>
              rw [if_pos c28] at H
              have c28b0 : decide (x12_2 < (l2.length : Int)) = true := zqt c28
              clear c28
              by_cases c29 : 0 ≤ x12_2
              case neg =>
                rw [if_neg c29] at H
                exact absurd H (by simp)
              rw [if_pos c29] at H
              have c29b0 : decide (0 ≤ x12_2) = true := zqt c29
              clear c29
              by_cases c30 : x11_2.length < 17592186044416
              case neg =>
                rw [if_neg c30] at H
                exact absurd H (by simp)
              rw [if_pos c30] at H
              have LMc30 := K0 c30; clear c30
              obtain ⟨y288, hy288⟩ : ∃ y_ : List Int, y_ = (x11_2 ++ [wrap64 (-(rd l2 x12_2))]) := ⟨_, rfl⟩
              replace H : (sequiturlaw22_told.l0 k2 l2 l3 y288 (wrap64 (x12_2 + 1)) a0_0 l0_1 false l1_1 l1_2 a1_3) = some r := by first | (rw [hy288]; with_reducible exact H) | (have H2_ := (Option.bind_some _ _).symm.trans H; rw [hy288]; with_reducible exact H2_) | (have H2_ := (Option.bind_some _ _).symm.trans H; with_reducible exact H2_) | with_reducible exact H | (rw [hy288]; exact H) | exact H
              have Ny288 := K0 hy288; clear hy288
              as_aux_lemma =>
                have H' := K0 H
                clear H
                have p287 : 0 ≤ (x12_2 : Int) := zqe (by first | (with_reducible assumption) | assumption)
                have q287 : x12_2 < (l2.length : Int) := zqe (by first | (with_reducible assumption) | assumption)
                obtain ⟨ad287, e287, hx287_0⟩ := Kd.at_int HR2.out x12_2 p287 q287
                cases e287
                replace hx287_0 := (HB.out.cell (World.block_lt_of_cell? w _ hx287_0)).trans hx287_0
                replace p287 := eq_true p287; replace q287 := eq_true q287
                go_wp2_with (first | ((with_reducible refine gate_builtin (b := .append) (xs := #[.tmp 56, .tmp 62]) rfl ?_); (try (refine gate_guard (by rfl) ?_; dsimp only)); at_builtin; refine Kd.R_append (Kd.int .i64) (w0 := w) w.heap.size rfl (.tmp 56) (.tmp 62) 25 3 (.int .i64 0) 8 rfl Try.underlying25 info3 rfl (by decide) (by omega) u11 x11_2 (wrap64 (-(rd l2 x12_2))) [.int .i64 (wrap64 (-(rd l2 x12_2)))] (fun _ => True) (fun _ => False) rfl rfl ?aP (fun _ hk => hk.elim) ?aF ?aO ?aB ?aS ?aL ?_; (case aP => exact rfl); (case aB => exact (by repeat (first | (with_reducible first | exact HB.out | apply zqb | apply zqa | apply zqc | refine zqd ?_ GE280.out | refine zqd ?_ GE281.out) | exact HB.out))); (case aF => exact (fun _ _ => trivial)); (case aO => exact (by (with_reducible repeat (first | apply Kd.R_alloc | apply Kd.R_drewN | apply Kd.R_drew)); exact HO_11.out)); (case aS => exact (zqp (by repeat (first | (with_reducible first | exact HB.out | apply zqb | apply zqa | apply zqc | refine zqd ?_ GE280.out | refine zqd ?_ GE281.out) | exact HB.out)))); (case aL => have := LMc30.out; omega); intro v289 w31 ho hb hg hat; rw [← Ny288.out] at ho; have n0_ := K0 (blk_grown (g := gb280) (o := .cells #[.int .i64 a0_0, .slice A0_1 l0_1.length c0_1] 24 (0, 0)) (by (with_reducible repeat (first | refine zqj ?_ _ | refine zqk ?_ | refine zqi ?_ _)); exact BK280.out) hg (Kd.R_ne HO_11.out BK280.out (by decide))); have n1_ := K0 (blk_grown (g := gb281) (o := .cells #[.bool false, .slice A1_1 l1_1.length c1_1, .slice A1_2 l1_2.length c1_2, .int .i64 a1_3] 33 (0, 0)) (by (with_reducible repeat (first | refine zqj ?_ _ | refine zqk ?_ | refine zqi ?_ _)); exact BK281.out) hg (Kd.R_ne HO_11.out BK281.out (by decide))); have n2_ := K0 (hb); have n3_ := K0 (ho); clear BK280; clear BK281; clear HB; clear HO_11; have BK280 := n0_; have BK281 := n1_; have HB := n2_; have HO290 := n3_; clear n0_ n1_ n2_ n3_; clear ho hb hg hat))
                go_roundg k2
                case measure => have := HJ5.out; have := HK2.out; omega
                case rel => exact ⟨(y288), (wrap64 (x12_2 + 1)), (by first | rfl | (simp; done) | (simp [*]; done)), H', ⟨by have := HJ5.out; have := HK2.out; omega⟩, ⟨by (with_reducible repeat (first | apply Kd.R_alloc | apply Kd.R_drewN | apply Kd.R_drew)); exact HO290.out⟩, ⟨by (with_reducible repeat (first | refine zqj ?_ _ | refine zqk ?_ | refine zqi ?_ _)); exact BK280.out⟩, ⟨by (with_reducible repeat (first | refine zqj ?_ _ | refine zqk ?_ | refine zqi ?_ _)); exact BK281.out⟩, ⟨by repeat (first | (with_reducible first | exact HB.out | apply zqb | apply zqa | apply zqc | refine zqd ?_ GE280.out | refine zqd ?_ GE281.out) | exact HB.out)⟩⟩
            rw [if_neg c28] at H
            have c28b0 : decide (x12_2 < (l2.length : Int)) = false := zqu c28
            clear c28
            by_cases c32 : (l1_1.length : Int) = 0
            case neg =>
              rw [if_neg c32] at H
              have c32b0 : ((l1_1.length : Int) == 0) = false := beq_eq_false_iff_ne.mpr c32
              have c32b1 : ((l1_1.length : Int) != 0) = true := bne_iff_ne.mpr c32
              have c32b2 : ¬ (l1_1 = []) := fun h_ => c32 (by rw [h_]; rfl)
              exact absurd ((zqv (show some false = some r from H)).trans HT.out) (by decide)
            rw [if_pos c32] at H
            have c32b0 : ((l1_1.length : Int) == 0) = true := beq_iff_eq.mpr c32
            have c32b1 : ((l1_1.length : Int) != 0) = false := bne_eq_false_iff_eq.mpr c32
            clear c32
            by_cases c33 : (l1_2.length : Int) ≤ 4096
            case neg =>
              rw [if_neg c33] at H
              have c33b0 : decide ((l1_2.length : Int) ≤ 4096) = false := zqu c33
              have c33b1 : decide (l1_2.length ≤ 4096) = false := zqu (by omega)
              clear c33
              exact absurd ((zqv (show some false = some r from H)).trans HT.out) (by decide)
            rw [if_pos c33] at H
            have c33b0 : decide ((l1_2.length : Int) ≤ 4096) = true := zqt c33
            have c33b1 : decide (l1_2.length ≤ 4096) = true := zqt (by omega)
            clear c33
            replace H := Option.bind_eq_some_iff.mp H
            obtain ⟨t291, A340, H⟩ := H
            replace H : (if t291 = true then ((sequiturref22_Log.f k2 a0_0 l0_1 l1_2 x11_2).bind fun t292 => (some t292)) else (some false)) = some r := H
            have A34 := K0 A340; clear A340
            by_cases c35 : t291 = true
            case neg =>
              replace c35 := Bool.eq_false_iff.mpr c35
              subst c35
              have H1 : (some false) = some r := by rw [if_neg (show ¬ (false = true) by decide)] at H; exact H
              clear H
              have H := H1
              clear H1
              exact absurd ((zqv (show some false = some r from H)).trans HT.out) (by decide)
            subst c35
            have H1 : ((sequiturref22_Log.f k2 a0_0 l0_1 l1_2 x11_2).bind fun t292 => (some t292)) = some r := by rw [if_pos rfl] at H; exact H
            clear H
            have H := H1
            clear H1
            replace H := Option.bind_eq_some_iff.mp H
            obtain ⟨t292, A360, H⟩ := H
            replace H : (some t292) = some r := H
            have A36 := K0 A360; clear A360
            as_aux_lemma =>
              obtain rfl := zqv H
              have hnb37 := NB281_280.out; have hnc37 := NB280_281.out
              have hcz38_0 : wr.cell? ⟨gb281, 0, none⟩ = some (.bool false) := (zql BK281.out 0).trans rfl
              have hcz38_1 : wr.cell? ⟨gb281, 1, none⟩ = some (.slice A1_1 l1_1.length c1_1) := (zql BK281.out 1).trans rfl
              have hcz38_2 : wr.cell? ⟨gb281, 2, none⟩ = some (.slice A1_2 l1_2.length c1_2) := (zql BK281.out 2).trans rfl
              have hcz38_3 : wr.cell? ⟨gb281, 3, none⟩ = some (.int .i64 a1_3) := (zql BK281.out 3).trans rfl
              have hfz38_0 := zqm BK281.out 0; have hfz38_1 := zqm BK281.out 1; have hfz38_2 := zqm BK281.out 2; have hfz38_3 := zqm BK281.out 3
              go_wp2_with (first | (go_at_call 30; (with_reducible refine (sequiturref22_Within.calls k2 _ _ l2 _ _ l3 true _ ?side1 ?side2 ?side3 ?side4 A34.out).mono ?_); (case side1 => repeat (first | exact (Kd.C_below HR2.out HB.out) | (with_reducible refine Kd.C_alloc ?_ _) | (with_reducible refine Kd.C_drewN ?_ _) | (with_reducible refine Kd.C_drew ?_))); (case side2 => exact HC2.out); (case side3 => repeat (first | exact (Kd.C_below HR3.out HB.out) | (with_reducible refine Kd.C_alloc ?_ _) | (with_reducible refine Kd.C_drewN ?_ _) | (with_reducible refine Kd.C_drew ?_))); (case side4 => exact HC3.out); rintro e w' ⟨rfl, ⟨nd, rfl⟩⟩; have hcz39_0 : wr.cell? ⟨gb280, 0, none⟩ = some (.int .i64 a0_0) := (zql BK280.out 0).trans rfl; have hcz39_1 : wr.cell? ⟨gb280, 1, none⟩ = some (.slice A0_1 l0_1.length c0_1) := (zql BK280.out 1).trans rfl; have hfz39_0 := zqm BK280.out 0; have hfz39_1 := zqm BK280.out 1; obtain ⟨Ao40, co40, eo40⟩ := Kd.R_slice HO_11.out; subst eo40) | (go_at_call 31; (with_reducible refine (sequiturref22_Log.calls k2 a0_0 (fun k_ => k_ < w.heap.size) _ _ l0_1 (fun k_ => k_ < w.heap.size) _ _ l1_2 _ _ x11_2 t292 _ ?side1 ?side2 ?side3 ?side4 A36.out).mono ?_); (case side1 => exact Kd.V_mk HC0_1.out (Kd.F_below (Kd.C_F (Kd.heap_slice 3 (Kd.heap_int .i64)) HR0_1.out) (by repeat (first | (with_reducible first | exact HB.out | apply zqb | apply zqa | apply zqc | refine zqd ?_ GE280.out | refine zqd ?_ GE281.out) | exact HB.out)))); (case side2 => exact Kd.V_mk HC1_2.out (Kd.F_below (Kd.C_F k64_heap HR1_2.out) (by repeat (first | (with_reducible first | exact HB.out | apply zqb | apply zqa | apply zqc | refine zqd ?_ GE280.out | refine zqd ?_ GE281.out) | exact HB.out)))); (case side3 => repeat (first | exact (Kd.R_reads' HO_11.out).2.2 | (with_reducible refine Kd.C_alloc ?_ _) | (with_reducible refine Kd.C_drewN ?_ _) | (with_reducible refine Kd.C_drew ?_))); (case side4 => exact (Kd.R_reads' HO_11.out).2.1); rintro e w41 ⟨rfl, hb⟩; have n0_ := K0 (Kd.R_below (by (with_reducible repeat (first | apply Kd.R_alloc | apply Kd.R_drewN | apply Kd.R_drew)); exact HO_11.out) hb); have n1_ := K0 (zqn (g := gb280) (o := .cells #[.int .i64 a0_0, .slice A0_1 l0_1.length c0_1] 24 (0, 0)) (by (with_reducible repeat (first | refine zqj ?_ _ | refine zqk ?_ | refine zqi ?_ _)); exact BK280.out) hb); have n2_ := K0 (zqn (g := gb281) (o := .cells #[.bool false, .slice A1_1 l1_1.length c1_1, .slice A1_2 l1_2.length c1_2, .int .i64 a1_3] 33 (0, 0)) (by (with_reducible repeat (first | refine zqj ?_ _ | refine zqk ?_ | refine zqi ?_ _)); exact BK281.out) hb); have n3_ := K0 (zqo (by repeat (first | (with_reducible first | exact HB.out | apply zqb | apply zqa | apply zqc | refine zqd ?_ GE280.out | refine zqd ?_ GE281.out) | exact HB.out)) hb); clear HO_11; clear BK280; clear BK281; clear HB; have HO_11 := n0_; have BK280 := n1_; have BK281 := n2_; have HB := n3_; clear n0_ n1_ n2_ n3_; (try clear hb); (try clear hb2); (try clear hk); (try clear hi)))
              go_ret
              exact ⟨by first | rfl | (simp [errW_none, errW_some] <;> rfl) | (simp [*, errW_none, errW_some] <;> rfl), by repeat (first | (with_reducible first | exact HB.out | apply zqb | apply zqa | apply zqc | refine zqd ?_ GE280.out | refine zqd ?_ GE281.out) | exact HB.out)⟩
      subst c15
      have H1 : (if (l1_1.length : Int) = a0_0 then (if (l1_2.length : Int) = 0 then (if (l2.length : Int) = 0 then ((sequiturref22_Units.f kj5 a0_0 l0_1 l3).bind fun bt282 => ((sequiturref19_Every.f kj5 bt282.2 l1_1).bind fun t286 => (some t286))) else (some false)) else (some false)) else (some false)) = some r := by rw [if_pos rfl] at H; exact H
      clear H
      have H := H1
      clear H1
      by_cases c16 : (l1_1.length : Int) = a0_0
      case neg =>
        rw [if_neg c16] at H
        have c16b0 : ((l1_1.length : Int) == a0_0) = false := beq_eq_false_iff_ne.mpr c16
        have c16b1 : ((l1_1.length : Int) != a0_0) = true := bne_iff_ne.mpr c16
        exact absurd ((zqv (show some false = some r from H)).trans HT.out) (by decide)
      rw [if_pos c16] at H
      have c16b0 : ((l1_1.length : Int) == a0_0) = true := beq_iff_eq.mpr c16
      have c16b1 : ((l1_1.length : Int) != a0_0) = false := bne_eq_false_iff_eq.mpr c16
      clear c16
      by_cases c17 : (l1_2.length : Int) = 0
      case neg =>
        rw [if_neg c17] at H
        have c17b0 : ((l1_2.length : Int) == 0) = false := beq_eq_false_iff_ne.mpr c17
        have c17b1 : ((l1_2.length : Int) != 0) = true := bne_iff_ne.mpr c17
        have c17b2 : ¬ (l1_2 = []) := fun h_ => c17 (by rw [h_]; rfl)
        exact absurd ((zqv (show some false = some r from H)).trans HT.out) (by decide)
      rw [if_pos c17] at H
      have c17b0 : ((l1_2.length : Int) == 0) = true := beq_iff_eq.mpr c17
      have c17b1 : ((l1_2.length : Int) != 0) = false := bne_eq_false_iff_eq.mpr c17
      clear c17
      by_cases c18 : (l2.length : Int) = 0
      case neg =>
        rw [if_neg c18] at H
        have c18b0 : ((l2.length : Int) == 0) = false := beq_eq_false_iff_ne.mpr c18
        have c18b1 : ((l2.length : Int) != 0) = true := bne_iff_ne.mpr c18
        have c18b2 : ¬ (l2 = []) := fun h_ => c18 (by rw [h_]; rfl)
        exact absurd ((zqv (show some false = some r from H)).trans HT.out) (by decide)
      rw [if_pos c18] at H
      have c18b0 : ((l2.length : Int) == 0) = true := beq_iff_eq.mpr c18
      have c18b1 : ((l2.length : Int) != 0) = false := bne_eq_false_iff_eq.mpr c18
      clear c18
      replace H := Option.bind_eq_some_iff.mp H
      obtain ⟨⟨t282, t283⟩, A190, H⟩ := H
      replace H : ((sequiturref19_Every.f kj5 t283 l1_1).bind fun t286 => (some t286)) = some r := H
      have A19 := K0 A190; clear A190
      replace H := Option.bind_eq_some_iff.mp H
      obtain ⟨t286, A200, H⟩ := H
      replace H : (some t286) = some r := H
      have A20 := K0 A200; clear A200
      as_aux_lemma =>
        obtain rfl := zqv H
        have hnb21 := NB281_280.out; have hnc21 := NB280_281.out
        have hcz22_0 : wc.cell? ⟨gb281, 0, none⟩ = some (.bool true) := (zql BK281.out 0).trans rfl
        have hcz22_1 : wc.cell? ⟨gb281, 1, none⟩ = some (.slice A1_1 l1_1.length c1_1) := (zql BK281.out 1).trans rfl
        have hcz22_2 : wc.cell? ⟨gb281, 2, none⟩ = some (.slice A1_2 l1_2.length c1_2) := (zql BK281.out 2).trans rfl
        have hcz22_3 : wc.cell? ⟨gb281, 3, none⟩ = some (.int .i64 a1_3) := (zql BK281.out 3).trans rfl
        have hfz22_0 := zqm BK281.out 0; have hfz22_1 := zqm BK281.out 1; have hfz22_2 := zqm BK281.out 2; have hfz22_3 := zqm BK281.out 3
        try go_wp2
        have n0_ := K0 (zqk BK280.out); have n1_ := K0 (zqk BK281.out); have n2_ := K0 (zqc HB.out); clear BK280 BK281 HB; have BK280 := n0_; have BK281 := n1_; have HB := n2_; clear n0_ n1_ n2_
        refine start_ (n := 27) (S := fun w' => w'.cell? ⟨gb281, 0, none⟩ = some (.bool true) ∧ w'.cell? ⟨gb281, 1, none⟩ = some (.slice A1_1 l1_1.length c1_1) ∧ w'.cell? ⟨gb281, 2, none⟩ = some (.slice A1_2 l1_2.length c1_2) ∧ w'.cell? ⟨gb281, 3, none⟩ = some (.int .i64 a1_3) ∧ w'.cell? ⟨gb280, 0, none⟩ = some (.int .i64 a0_0) ∧ w'.cell? ⟨gb280, 1, none⟩ = some (.slice A0_1 l0_1.length c0_1)) (ds := []) #[false, false, false, false, false, false, false, false, false, false, false, false, false, false, false, false, false, false, false, false, false, false, false, false, false, false, false] (by kernel_rfl) rfl rfl ⟨(zql BK281.out 0).trans rfl, (zql BK281.out 1).trans rfl, (zql BK281.out 2).trans rfl, (zql BK281.out 3).trans rfl, (zql BK280.out 0).trans rfl, (zql BK280.out 1).trans rfl⟩ (fun hHeld => ?_); refine with_tabW sequiturlaw22_told.tab4 sequiturlaw22_told.bits4 (fun HT_ HW_ => ?_)
        generalize wc.drew = w23 at BK280 BK281 HB hHeld ⊢
        refine pure_ (i := 0) (N := some 24) (v := ?_) (a' := ?_) #[true, false, false, false, false, false, false, false, false, false, false, false, false, false, false, false, false, false, false, false, false, false, false, false, false, false, false] rfl rfl (any_of HT_.out (by kernel_rfl)) (fun _ _ _ h => h) (Or.inl ⟨by rfl, ?_⟩) ?_ ?_
        rotate_left
        · intro w'
          go_simp
          with_reducible rfl
        rotate_left
        · simp only [Act.put, zqf, zqg, zqh, i64_w, i32_w]
          rfl
        refine pure_ (i := 3) (N := some 27) (v := ?_) (a' := ?_) #[true, false, false, true, false, false, false, false, false, false, false, false, false, false, false, false, false, false, false, false, false, false, false, false, false, false, false] rfl rfl (any_of HT_.out (by kernel_rfl)) (fun _ _ _ h => h) (Or.inl ⟨by rfl, ?_⟩) ?_ ?_
        rotate_left
        · intro w'
          go_simp
          with_reducible rfl
        rotate_left
        · simp only [Act.put, zqf, zqg, zqh, i64_w, i32_w]
          rfl
        refine take_ (i := 1) (N := some 25) (v := ?_) (a' := ?_) #[true, true, false, true, false, false, false, false, false, false, false, false, false, false, false, false, false, false, false, false, false, false, false, false, false, false, false] rfl rfl (take_ofW HT_.out HW_.out (by kernel_rfl)) (fun _ _ _ h => h) (Or.inl ⟨by rfl, ?_⟩) hHeld ?_ ?_
        rotate_left
        · rintro w' ⟨s0, s1, s2, s3, s4, s5⟩
          go_simp
          with_reducible rfl
        rotate_left
        · simp only [Act.put, zqf, zqg, zqh, i64_w, i32_w]
          rfl
        refine pure_ (i := 2) (N := some 26) (v := ?_) (a' := ?_) #[true, true, true, true, false, false, false, false, false, false, false, false, false, false, false, false, false, false, false, false, false, false, false, false, false, false, false] rfl rfl (any_of HT_.out (by kernel_rfl)) (fun _ _ _ h => h) (Or.inl ⟨by rfl, ?_⟩) ?_ ?_
        rotate_left
        · intro w'
          go_simp
          with_reducible rfl
        rotate_left
        · simp only [Act.put, zqf, zqg, zqh, i64_w, i32_w]
          rfl
        refine take_ (i := 4) (N := some 28) (v := ?_) (a' := ?_) #[true, true, true, true, true, false, false, false, false, false, false, false, false, false, false, false, false, false, false, false, false, false, false, false, false, false, false] rfl rfl (take_ofW HT_.out HW_.out (by kernel_rfl)) (fun _ _ _ h => h) (Or.inl ⟨by rfl, ?_⟩) hHeld ?_ ?_
        rotate_left
        · rintro w' ⟨s0, s1, s2, s3, s4, s5⟩
          go_simp
          with_reducible rfl
        rotate_left
        · simp only [Act.put, zqf, zqg, zqh, i64_w, i32_w]
          rfl
        refine pure_ (i := 5) (N := some 29) (v := ?_) (a' := ?_) #[true, true, true, true, true, true, false, false, false, false, false, false, false, false, false, false, false, false, false, false, false, false, false, false, false, false, false] rfl rfl (any_of HT_.out (by kernel_rfl)) (fun _ _ _ h => h) (Or.inl ⟨by rfl, ?_⟩) ?_ ?_
        rotate_left
        · intro w'
          go_simp
          with_reducible rfl
        rotate_left
        · simp only [Act.put, zqf, zqg, zqh, i64_w, i32_w]
          rfl
        refine pure_ (i := 6) (N := some 30) (v := ?_) (a' := ?_) #[true, true, true, true, true, true, true, false, false, false, false, false, false, false, false, false, false, false, false, false, false, false, false, false, false, false, false] rfl rfl (any_of HT_.out (by kernel_rfl)) (fun _ _ _ h => h) (Or.inl ⟨by rfl, ?_⟩) ?_ ?_
        rotate_left
        · intro w'
          go_simp
          with_reducible rfl
        rotate_left
        · simp only [Act.put, zqf, zqg, zqh, i64_w, i32_w]
          rfl
        refine pure_ (i := 7) (N := some 31) (v := ?_) (a' := ?_) #[true, true, true, true, true, true, true, true, false, false, false, false, false, false, false, false, false, false, false, false, false, false, false, false, false, false, false] rfl rfl (any_of HT_.out (by kernel_rfl)) (fun _ _ _ h => h) (Or.inl ⟨by rfl, ?_⟩) ?_ ?_
        rotate_left
        · intro w'
          go_simp
          with_reducible rfl
        rotate_left
        · simp only [Act.put, zqf, zqg, zqh, i64_w, i32_w]
          rfl
        refine take_ (i := 8) (N := some 32) (v := ?_) (a' := ?_) #[true, true, true, true, true, true, true, true, true, false, false, false, false, false, false, false, false, false, false, false, false, false, false, false, false, false, false] rfl rfl (take_ofW HT_.out HW_.out (by kernel_rfl)) (fun _ _ _ h => h) (Or.inl ⟨by rfl, ?_⟩) hHeld ?_ ?_
        rotate_left
        · rintro w' ⟨s0, s1, s2, s3, s4, s5⟩
          go_simp
          with_reducible rfl
        rotate_left
        · simp only [Act.put, zqf, zqg, zqh, i64_w, i32_w]
          rfl
        refine pure_ (i := 9) (N := some 33) (v := ?_) (a' := ?_) #[true, true, true, true, true, true, true, true, true, true, false, false, false, false, false, false, false, false, false, false, false, false, false, false, false, false, false] rfl rfl (any_of HT_.out (by kernel_rfl)) (fun _ _ _ h => h) (Or.inl ⟨by rfl, ?_⟩) ?_ ?_
        rotate_left
        · intro w'
          go_simp
          with_reducible rfl
        rotate_left
        · simp only [Act.put, zqf, zqg, zqh, i64_w, i32_w]
          rfl
        refine pure_ (i := 10) (N := some 34) (v := ?_) (a' := ?_) #[true, true, true, true, true, true, true, true, true, true, true, false, false, false, false, false, false, false, false, false, false, false, false, false, false, false, false] rfl rfl (any_of HT_.out (by kernel_rfl)) (fun _ _ _ h => h) (Or.inl ⟨by rfl, ?_⟩) ?_ ?_
        rotate_left
        · intro w'
          go_simp
          with_reducible rfl
        rotate_left
        · simp only [Act.put, zqf, zqg, zqh, i64_w, i32_w]
          rfl
        refine pure_ (i := 11) (N := some 35) (v := ?_) (a' := ?_) #[true, true, true, true, true, true, true, true, true, true, true, true, false, false, false, false, false, false, false, false, false, false, false, false, false, false, false] rfl rfl (any_of HT_.out (by kernel_rfl)) (fun _ _ _ h => h) (Or.inl ⟨by rfl, ?_⟩) ?_ ?_
        rotate_left
        · intro w'
          go_simp
          with_reducible rfl
        rotate_left
        · simp only [Act.put, zqf, zqg, zqh, i64_w, i32_w]
          rfl
        refine pure_ (i := 12) (N := some 36) (v := ?_) (a' := ?_) #[true, true, true, true, true, true, true, true, true, true, true, true, true, false, false, false, false, false, false, false, false, false, false, false, false, false, false] rfl rfl (any_of HT_.out (by kernel_rfl)) (fun _ _ _ h => h) (Or.inl ⟨by rfl, ?_⟩) ?_ ?_
        rotate_left
        · intro w'
          go_simp
          with_reducible rfl
        rotate_left
        · simp only [Act.put, zqf, zqg, zqh, i64_w, i32_w]
          rfl
        refine pure_ (i := 13) (N := some 37) (v := ?_) (a' := ?_) #[true, true, true, true, true, true, true, true, true, true, true, true, true, true, false, false, false, false, false, false, false, false, false, false, false, false, false] rfl rfl (any_of HT_.out (by kernel_rfl)) (fun _ _ _ h => h) (Or.inl ⟨by rfl, ?_⟩) ?_ ?_
        rotate_left
        · intro w'
          go_simp
          with_reducible rfl
        rotate_left
        · simp only [Act.put, zqf, zqg, zqh, i64_w, i32_w]
          rfl
        refine pure_ (i := 14) (N := some 38) (v := ?_) (a' := ?_) #[true, true, true, true, true, true, true, true, true, true, true, true, true, true, true, false, false, false, false, false, false, false, false, false, false, false, false] rfl rfl (any_of HT_.out (by kernel_rfl)) (fun _ _ _ h => h) (Or.inl ⟨by rfl, ?_⟩) ?_ ?_
        rotate_left
        · intro w'
          go_simp
          with_reducible rfl
        rotate_left
        · simp only [Act.put, zqf, zqg, zqh, i64_w, i32_w]
          rfl
        refine pure_ (i := 15) (N := some 39) (v := ?_) (a' := ?_) #[true, true, true, true, true, true, true, true, true, true, true, true, true, true, true, true, false, false, false, false, false, false, false, false, false, false, false] rfl rfl (any_of HT_.out (by kernel_rfl)) (fun _ _ _ h => h) (Or.inl ⟨by rfl, ?_⟩) ?_ ?_
        rotate_left
        · intro w'
          go_simp
          with_reducible rfl
        rotate_left
        · simp only [Act.put, zqf, zqg, zqh, i64_w, i32_w]
          rfl
        refine pure_ (i := 16) (N := some 40) (v := ?_) (a' := ?_) #[true, true, true, true, true, true, true, true, true, true, true, true, true, true, true, true, true, false, false, false, false, false, false, false, false, false, false] rfl rfl (any_of HT_.out (by kernel_rfl)) (fun _ _ _ h => h) (Or.inl ⟨by rfl, ?_⟩) ?_ ?_
        rotate_left
        · intro w'
          go_simp
          with_reducible rfl
        rotate_left
        · simp only [Act.put, zqf, zqg, zqh, i64_w, i32_w]
          rfl
        refine pure_ (i := 17) (N := some 41) (v := ?_) (a' := ?_) #[true, true, true, true, true, true, true, true, true, true, true, true, true, true, true, true, true, true, false, false, false, false, false, false, false, false, false] rfl rfl (any_of HT_.out (by kernel_rfl)) (fun _ _ _ h => h) (Or.inl ⟨by rfl, ?_⟩) ?_ ?_
        rotate_left
        · intro w'
          go_simp
          with_reducible rfl
        rotate_left
        · simp only [Act.put, zqf, zqg, zqh, i64_w, i32_w]
          rfl
        refine pure_ (i := 19) (N := some 43) (v := ?_) (a' := ?_) #[true, true, true, true, true, true, true, true, true, true, true, true, true, true, true, true, true, true, false, true, false, false, false, false, false, false, false] rfl rfl (any_of HT_.out (by kernel_rfl)) (fun _ _ _ h => h) (Or.inl ⟨by rfl, ?_⟩) ?_ ?_
        rotate_left
        · intro w'
          go_simp
          with_reducible rfl
        rotate_left
        · simp only [Act.put, zqf, zqg, zqh, i64_w, i32_w]
          rfl
        refine pure_ (i := 22) (N := some 46) (v := ?_) (a' := ?_) #[true, true, true, true, true, true, true, true, true, true, true, true, true, true, true, true, true, true, false, true, false, false, true, false, false, false, false] rfl rfl (any_of HT_.out (by kernel_rfl)) (fun _ _ _ h => h) (Or.inl ⟨by rfl, ?_⟩) ?_ ?_
        rotate_left
        · intro w'
          go_simp
          with_reducible rfl
        rotate_left
        · simp only [Act.put, zqf, zqg, zqh, i64_w, i32_w]
          rfl
        refine take_ (i := 18) (N := some 42) (v := ?_) (a' := ?_) #[true, true, true, true, true, true, true, true, true, true, true, true, true, true, true, true, true, true, true, true, false, false, true, false, false, false, false] rfl rfl (take_ofW HT_.out HW_.out (by kernel_rfl)) (fun _ _ _ h => h) (Or.inl ⟨by rfl, ?_⟩) hHeld ?_ ?_
        rotate_left
        · rintro w' ⟨s0, s1, s2, s3, s4, s5⟩
          go_simp
          with_reducible rfl
        rotate_left
        · simp only [Act.put, zqf, zqg, zqh, i64_w, i32_w]
          rfl
        refine take_ (i := 23) (N := some 47) (v := ?_) (a' := ?_) #[true, true, true, true, true, true, true, true, true, true, true, true, true, true, true, true, true, true, true, true, false, false, true, true, false, false, false] rfl rfl (take_ofW HT_.out HW_.out (by kernel_rfl)) (fun _ _ _ h => h) (Or.inl ⟨by rfl, ?_⟩) hHeld ?_ ?_
        rotate_left
        · rintro w' ⟨s0, s1, s2, s3, s4, s5⟩
          go_simp
          with_reducible rfl
        rotate_left
        · simp only [Act.put, zqf, zqg, zqh, i64_w, i32_w]
          rfl
        refine one_ (i := 20) (N := some 44) #[true, true, true, true, true, true, true, true, true, true, true, true, true, true, true, true, true, true, true, true, true, false, true, true, false, false, false] rfl rfl (one_of HT_.out (by kernel_rfl)) (by decide) (fun K hK => ?_)
        refine goes_ Try.func14 (by kernel_rfl) rfl #[.agg #[.int .i64 a0_0, .slice A0_1 l0_1.length c0_1], .slice A3 l3.length c3] (by rfl) rfl rfl (by (try simp only [List.map_toArray, List.map_cons, List.map_nil]); first | done | rfl | (simp only [zqq, zqr]; rfl)) ?_
        with_reducible refine (sequiturref22_Units.calls kj5 a0_0 (fun k_ => k_ < w.heap.size) _ _ l0_1 _ _ l3 t282 t283 _ ?side1 ?side2 ?side3 A19.out).mono ?_
        (case side1 => exact Kd.V_mk HC0_1.out (Kd.F_below (Kd.C_F (Kd.heap_slice 3 (Kd.heap_int .i64)) HR0_1.out) (by repeat (first | (with_reducible first | exact HB.out | apply zqb | apply zqa | apply zqc | refine zqd ?_ GE280.out | refine zqd ?_ GE281.out) | exact HB.out))))
        (case side2 => repeat (first | exact (Kd.C_below HR3.out HB.out) | (with_reducible refine Kd.C_alloc ?_ _) | (with_reducible refine Kd.C_drewN ?_ _) | (with_reducible refine Kd.C_drew ?_)))
        (case side3 => exact HC3.out)
        rintro e w24 ⟨v284, rfl, ho0, hb⟩
        refine ⟨_, rfl, ?_⟩
        have n0_ := K0 (Kd.N_lower (Kd.N_mono (ok' := fun k_ => k_ ≠ gb280 ∧ k_ ≠ gb281) ho0 (fun k_ hk_ => ⟨Or.elim hk_ (fun hs_ => fun e_ => Nat.not_le.2 hs_ (by rw [e_]; exact GW280.out)) (fun hn_ => (Kd.freshB (g := gb280) (o := .cells #[.int .i64 a0_0, .slice A0_1 l0_1.length c0_1] 24 (0, 0)) (by (with_reducible repeat (first | refine zqj ?_ _ | refine zqk ?_ | refine zqi ?_ _)); exact BK280.out) k_ hn_)), Or.elim hk_ (fun hs_ => fun e_ => Nat.not_le.2 hs_ (by rw [e_]; exact GW281.out)) (fun hn_ => (Kd.freshB (g := gb281) (o := .cells #[.bool true, .slice A1_1 l1_1.length c1_1, .slice A1_2 l1_2.length c1_2, .int .i64 a1_3] 33 (0, 0)) (by (with_reducible repeat (first | refine zqj ?_ _ | refine zqk ?_ | refine zqi ?_ _)); exact BK281.out) k_ hn_))⟩)) (zqp (by repeat (first | (with_reducible first | exact HB.out | apply zqb | apply zqa | apply zqc | refine zqd ?_ GE280.out | refine zqd ?_ GE281.out) | exact HB.out)))); have n1_ := K0 (zqn (g := gb280) (o := .cells #[.int .i64 a0_0, .slice A0_1 l0_1.length c0_1] 24 (0, 0)) (by (with_reducible repeat (first | refine zqj ?_ _ | refine zqk ?_ | refine zqi ?_ _)); exact BK280.out) hb); have n2_ := K0 (zqn (g := gb281) (o := .cells #[.bool true, .slice A1_1 l1_1.length c1_1, .slice A1_2 l1_2.length c1_2, .int .i64 a1_3] 33 (0, 0)) (by (with_reducible repeat (first | refine zqj ?_ _ | refine zqk ?_ | refine zqi ?_ _)); exact BK281.out) hb); have n3_ := K0 (zqo (by repeat (first | (with_reducible first | exact HB.out | apply zqb | apply zqa | apply zqc | refine zqd ?_ GE280.out | refine zqd ?_ GE281.out) | exact HB.out)) hb); clear BK280 BK281 HB; have HO285 := n0_; have BK280 := n1_; have BK281 := n2_; have HB := n3_; clear n0_ n1_ n2_ n3_
        (try clear hb)
        (try clear hb2)
        (try clear hk)
        (try clear hi)
        (try clear ho0)
        obtain ⟨Ao25, co25, eo25⟩ := Kd.N_slice HO285.out
        (first | subst eo25 | (injection eo25 with f1_ f2_ f3_; have f4_ := f1_.symm; have f5_ := f3_.symm; clear f1_ f2_ f3_; subst f4_; subst f5_))
        refine hK.out _ _ ⟨(zql BK281.out 0).trans rfl, (zql BK281.out 1).trans rfl, (zql BK281.out 2).trans rfl, (zql BK281.out 3).trans rfl, (zql BK280.out 0).trans rfl, (zql BK280.out 1).trans rfl⟩ (fun hHeld => ?_)
        clear hK K
        refine norm_ (a' := ?_) ?_ ?_
        rotate_left
        · show Act.put _ (some 44) _ = _
          simp only [Act.put, zqf, zqg, zqh, i64_w, i32_w]
          rfl
        refine pure_ (i := 21) (N := some 45) (v := ?_) (a' := ?_) #[true, true, true, true, true, true, true, true, true, true, true, true, true, true, true, true, true, true, true, true, true, true, true, true, false, false, false] rfl rfl (any_of HT_.out (by kernel_rfl)) (fun _ _ _ h => h) (Or.inl ⟨by rfl, ?_⟩) ?_ ?_
        rotate_left
        · intro w'
          go_simp
          with_reducible rfl
        rotate_left
        · simp only [Act.put, zqf, zqg, zqh, i64_w, i32_w]
          rfl
        refine one_ (i := 24) (N := some 48) #[true, true, true, true, true, true, true, true, true, true, true, true, true, true, true, true, true, true, true, true, true, true, true, true, true, false, false] rfl rfl (one_of HT_.out (by kernel_rfl)) (by decide) (fun K hK => ?_)
        refine goes_ Try.func28 (by kernel_rfl) rfl #[.slice Ao25 t283.length co25, .slice A1_1 l1_1.length c1_1] (by rfl) rfl rfl (by (try simp only [List.map_toArray, List.map_cons, List.map_nil]); first | done | rfl | (simp only [zqq, zqr]; rfl)) ?_
        with_reducible refine (sequiturref19_Every.calls kj5 _ _ t283 _ _ l1_1 t286 _ ?side1 ?side2 ?side3 ?side4 A20.out).mono ?_
        (case side1 => repeat (first | exact (Kd.N_reads' HO285.out).2.2 | (with_reducible refine Kd.C_alloc ?_ _) | (with_reducible refine Kd.C_drewN ?_ _) | (with_reducible refine Kd.C_drew ?_)))
        (case side2 => exact (Kd.N_reads' HO285.out).2.1)
        (case side3 => repeat (first | exact (Kd.C_below HR1_1.out HB.out) | (with_reducible refine Kd.C_alloc ?_ _) | (with_reducible refine Kd.C_drewN ?_ _) | (with_reducible refine Kd.C_drew ?_)))
        (case side4 => exact HC1_1.out)
        rintro e w' ⟨rfl, ⟨nd, rfl⟩⟩
        refine ⟨_, rfl, ?_⟩
        refine hK.out _ _ ⟨(zql BK281.out 0).trans rfl, (zql BK281.out 1).trans rfl, (zql BK281.out 2).trans rfl, (zql BK281.out 3).trans rfl, (zql BK280.out 0).trans rfl, (zql BK280.out 1).trans rfl⟩ (fun hHeld => ?_)
        clear hK K
        refine norm_ (a' := ?_) ?_ ?_
        rotate_left
        · show Act.put _ (some 48) _ = _
          simp only [Act.put, zqf, zqg, zqh, i64_w, i32_w]
          rfl
        refine pure_ (i := 25) (N := some 49) (v := ?_) (a' := ?_) #[true, true, true, true, true, true, true, true, true, true, true, true, true, true, true, true, true, true, true, true, true, true, true, true, true, true, false] rfl rfl (any_of HT_.out (by kernel_rfl)) (fun _ _ _ h => h) (Or.inl ⟨by rfl, ?_⟩) ?_ ?_
        rotate_left
        · intro w'
          go_simp
          with_reducible rfl
        rotate_left
        · simp only [Act.put, zqf, zqg, zqh, i64_w, i32_w]
          rfl
        refine pure_ (i := 26) (N := some 10) (v := ?_) (a' := ?_) #[true, true, true, true, true, true, true, true, true, true, true, true, true, true, true, true, true, true, true, true, true, true, true, true, true, true, true] rfl rfl (any_of HT_.out (by kernel_rfl)) (fun _ _ _ h => h) (Or.inl ⟨by rfl, ?_⟩) ?_ ?_
        rotate_left
        · intro w'
          go_simp
          with_reducible rfl
        rotate_left
        · simp only [Act.put, zqf, zqg, zqh, i64_w, i32_w]
          rfl
        refine done_ (done_of HT_.out (by kernel_rfl)) ?_
        try go_wp2
        go_ret
        exact ⟨by first | rfl | (simp [errW_none, errW_some] <;> rfl) | (simp [*, errW_none, errW_some] <;> rfl), by repeat (first | (with_reducible first | exact HB.out | apply zqb | apply zqa | apply zqc | refine zqd ?_ GE280.out | refine zqd ?_ GE281.out) | exact HB.out)⟩
def sequiturlaw22_told.f (k : Nat) (a0_0 : Int) (l0_1 : List (List Int)) (a1_0 : Bool) (l1_1 : List Bool) (l1_2 : List (S64)) (a1_3 : Int) (l2 : List Int) (l3 : List Int) (a4 : Int) : Option Bool := (sequiturlaw22_told.f0 k a0_0 l0_1 a1_0 l1_1 l1_2 a1_3 l2 l3 a4).bind fun r => if r = true then some true else none
theorem sequiturlaw22_told.calls (k : Nat) (a0_0 : Int) (A0_1 : Option Addr) (c0_1 : Nat) (l0_1 : List (List Int)) (a1_0 : Bool) (A1_1 : Option Addr) (c1_1 : Nat) (l1_1 : List Bool) (A1_2 : Option Addr) (c1_2 : Nat) (l1_2 : List (S64)) (a1_3 : Int) (A2 : Option Addr) (c2 : Nat) (l2 : List Int) (A3 : Option Addr) (c3 : Nat) (l3 : List Int) (a4 : Int) (r : Bool) (w : World) (hr0_1 : Kd.C (Kd.slice 3 (Kd.int .i64)) w A0_1 l0_1.length l0_1) (hc0_1 : l0_1.length ≤ c0_1) (hr1_1 : Kd.C Kd.bool w A1_1 l1_1.length l1_1) (hc1_1 : l1_1.length ≤ c1_1) (hr1_2 : Kd.C k64 w A1_2 l1_2.length l1_2) (hc1_2 : l1_2.length ≤ c1_2) (hr2 : Kd.C (Kd.int .i64) w A2 l2.length l2) (hc2 : l2.length ≤ c2) (hr3 : Kd.C (Kd.int .i64) w A3 l3.length l3) (hc3 : l3.length ≤ c3) (h : sequiturlaw22_told.f k a0_0 l0_1 a1_0 l1_1 l1_2 a1_3 l2 l3 a4 = some r) :
    Calls Try.prog 15 #[.agg #[.int .i64 a0_0, .slice A0_1 l0_1.length c0_1], .agg #[.bool a1_0, .slice A1_1 l1_1.length c1_1, .slice A1_2 l1_2.length c1_2, .int .i64 a1_3], .slice A2 l2.length c2, .slice A3 l3.length c3, .int .i64 a4] w fun e w' => e = .returned (.bool r) ∧ Below w.heap.size w w' := by
  obtain ⟨r0, h0, h⟩ := Option.bind_eq_some_iff.1 (show (sequiturlaw22_told.f0 k a0_0 l0_1 a1_0 l1_1 l1_2 a1_3 l2 l3 a4).bind _ = some r from h)
  split at h
  · rename_i hr
    injection h with h
    subst hr h
    exact sequiturlaw22_told.calls0 k a0_0 A0_1 c0_1 l0_1 a1_0 A1_1 c1_1 l1_1 A1_2 c1_2 l1_2 a1_3 A2 c2 l2 A3 c3 l3 a4 true w hr0_1 hc0_1 hr1_1 hc1_1 hr1_2 hc1_2 hr2 hc2 hr3 hc3 rfl h0
  cases h
end Go.Proofs.Ytaibnbhgjnddnaa.P
namespace Go.Proofs.Ytaibnbhgjnddnaa.P
open Go.RowKit Go.Proofs.YtaibnbhgjnddnaaW.PrintWords Go.Proofs.YtaibnbhgjnddnaaW.PrintLast Go.Proofs.YtaibnbhgjnddnaaW.PrintMore
attribute [local go_sem] max2_int min2_int max_two min_two max_three min_three max_four min_four
set_option linter.unusedVariables false
set_option linter.unusedSimpArgs false
end Go.Proofs.Ytaibnbhgjnddnaa.P
