import Derived.Test.YtaibnbhgjnddnaaKSolveAssumes1
import Derived.Test.YtaibnbhgjnddnaaKSolveAssumes12
import Derived.Test.YtaibnbhgjnddnaaKSolveAssumes6
import Derived.Test.YtaibnbhgjnddnaaKSolveAssumes8
namespace Go.Proofs.Ytaibnbhgjnddnaa.P
open Go.RowKit Go.Proofs.YtaibnbhgjnddnaaW.PrintWords Go.Proofs.YtaibnbhgjnddnaaW.PrintLast Go.Proofs.YtaibnbhgjnddnaaW.PrintMore
attribute [local go_sem] max2_int min2_int max_two min_two max_three min_three max_four min_four
set_option linter.unusedVariables false
set_option linter.unusedSimpArgs false
mutual
noncomputable def sequiturlaw22_SolveAssumes.j0 : Nat → List Int → Bool → Int → List (List Int) → Option (Bool)
  | 0, _, _, _, _ => none
  | k + 1, x1, x22, x200000, x200001 => if x22 = true then ((sequiturlaw22_goes.f k).bind fun t203 => (some t203)) else ((solve_Under.f x200000 x200001 x1 4096).bind fun bt204 => (if bt204.2.2.2.2.2 = 0 then ((sequiturref22_Units.f k x200000 x200001 x1).bind fun bt217 => ((sequiturref22_Some.f k bt217.1 bt217.2).bind fun t221 => (if (bt204.1 != t221) = true then (sequiturlaw22_SolveAssumes.j1 k bt204.2.2.2.2.1 true x200000 x200001 bt204.1 bt204.2.1 bt204.2.2.1 bt204.2.2.2.1) else ((sequiturlaw22_told.f k x200000 x200001 bt204.1 bt204.2.1 bt204.2.2.1 bt204.2.2.2.1 bt204.2.2.2.2.1 x1 4096).bind fun t222 => (sequiturlaw22_SolveAssumes.j1 k bt204.2.2.2.2.1 (!t222) x200000 x200001 bt204.1 bt204.2.1 bt204.2.2.1 bt204.2.2.2.1))))) else (sequiturlaw22_SolveAssumes.j1 k bt204.2.2.2.2.1 true x200000 x200001 bt204.1 bt204.2.1 bt204.2.2.1 bt204.2.2.2.1)))
noncomputable def sequiturlaw22_SolveAssumes.j1 : Nat → List Int → Bool → Int → List (List Int) → Bool → List Bool → List (S64) → Int → Option (Bool)
  | 0, _, _, _, _, _, _, _, _ => none
  | k + 1, x6, x49, x200000, x200001, x217000, x217001, x217002, x217003 => if x49 = true then (some false) else (if x217000 = true then ((sequiturlaw22_goes.f k).bind fun t223 => (some t223)) else ((sequiturref22_Units.f k x200000 x200001 x6).bind fun bt224 => ((sequiturref22_Some.f k bt224.1 bt224.2).bind fun t228 => (if t228 = true then (some false) else ((sequiturlaw22_goes.f k).bind fun t229 => (some t229))))))
end
noncomputable def sequiturlaw22_SolveAssumes.f (k : Nat) (a0_0 : Int) (l0_1 : List (List Int)) (l1 : List Int) : Option (Bool) := (sequiturlaw22_few.f k a0_0 l0_1).bind fun t200 => (if t200 = true then ((sequiturlaw22_Small.f k a0_0 l0_1).bind fun t201 => (if t201 = true then ((sequiturref19_Clause.f k l1 a0_0).bind fun t202 => (sequiturlaw22_SolveAssumes.j0 k l1 (t202 != 0) a0_0 l0_1)) else (sequiturlaw22_SolveAssumes.j0 k l1 true a0_0 l0_1))) else (sequiturlaw22_SolveAssumes.j0 k l1 true a0_0 l0_1))
noncomputable def sequiturlaw22_SolveAssumes.T4 : Bool × List (List Nat × List Nat) := (true, [([], []), ([0], [0]), ([1], [1]), ([2], [2]), ([3, 2], [2, 3]), ([2], [2]), ([2], [2]), ([5, 6, 2, 2], [2, 5, 6]), ([7, 7, 2], [2, 7]), ([4, 8, 2], [2, 4, 8]), ([2, 9], [2, 9]), ([10, 8], [10]), ([11], [11]), ([11], [11]), ([11], [11]), ([11], [11]), ([12, 13, 14, 15, 11, 11], [11, 12, 13, 14, 15]), ([16, 11], [11, 16]), ([11, 17], [11, 17])])
noncomputable def sequiturlaw22_SolveAssumes.B4 : List Nat := [0, 1, 3, 7, 15, 7, 7, 103, 231, 511, 1023, 2047, 4095, 4095, 4095, 4095, 65535, 131071, 262143]
theorem sequiturlaw22_SolveAssumes.tab4 : rtab .any (opsOf Try.f3 4) = sequiturlaw22_SolveAssumes.T4 := by kernel_rfl
theorem sequiturlaw22_SolveAssumes.bits4 : waitsOk sequiturlaw22_SolveAssumes.T4.2 sequiturlaw22_SolveAssumes.B4 = true := by kernel_rfl
set_option maxHeartbeats 8000000 in
set_option maxRecDepth 100000 in
theorem sequiturlaw22_SolveAssumes.calls (k : Nat) (a0_0 : Int) (A0_1 : Option Addr) (c0_1 : Nat) (l0_1 : List (List Int)) (A1 : Option Addr) (c1 : Nat) (l1 : List Int) (r : Bool) (w : World) (hr0_1 : Kd.C (Kd.slice 3 (Kd.int .i64)) w A0_1 l0_1.length l0_1) (hc0_1 : l0_1.length ≤ c0_1) (hr1 : Kd.C (Kd.int .i64) w A1 l1.length l1) (hc1 : l1.length ≤ c1) (hT : r = true) (h : sequiturlaw22_SolveAssumes.f k a0_0 l0_1 l1 = some r) :
    Calls Try.prog 3 #[.agg #[.int .i64 a0_0, .slice A0_1 l0_1.length c0_1], .slice A1 l1.length c1] w fun e w' => e = .returned (.bool r) ∧ Below w.heap.size w w' := by
  have HT := K0 hT; clear hT
  have hu24 := Try.underlying24
  have hu33 := Try.underlying33
  have HR0_1 := K0 hr0_1; have HC0_1 := K0 hc0_1; clear hr0_1 hc0_1; have HR1 := K0 hr1; have HC1 := K0 hc1; clear hr1 hc1
  have HB := K0 (zqw w.heap.size w)
  have H : ((sequiturlaw22_few.f k a0_0 l0_1).bind fun t200 => (if t200 = true then ((sequiturlaw22_Small.f k a0_0 l0_1).bind fun t201 => (if t201 = true then ((sequiturref19_Clause.f k l1 a0_0).bind fun t202 => (sequiturlaw22_SolveAssumes.j0 k l1 (t202 != 0) a0_0 l0_1)) else (sequiturlaw22_SolveAssumes.j0 k l1 true a0_0 l0_1))) else (sequiturlaw22_SolveAssumes.j0 k l1 true a0_0 l0_1))) = some r := h
  clear h; have HC3 := K0 H; clear H
  go_enter Try.func3, Try.ntmps3
  go_upto_region 1 with (first | ((with_reducible refine gate_dst (N := 2) rfl ?_); refine box_event ?hg (N := 2) ?hd (cs := #[.int .i64 a0_0, .slice A0_1 l0_1.length c0_1]) (t := 24) ?hr ?_; (case hd => rfl); (case hg => rfl); (case hr => first | (go_simp; done) | (go_simp; rfl)); intro gb199 hg w4 hbox hb; have n0_ := K0 (zqo (by repeat (first | (with_reducible first | exact HB.out | apply zqb | apply zqa | apply zqc) | exact HB.out)) hb); have n1_ := K0 (hbox); have n2_ := K0 ((by rw [hg]; exact (zqp (by repeat (first | (with_reducible first | exact HB.out | apply zqb | apply zqa | apply zqc) | exact HB.out))) : w.heap.size ≤ gb199)); have n3_ := K0 ((by rw [hg]; exact (zqp (by repeat (first | (with_reducible first | exact HB.out | apply zqb | apply zqa | apply zqc) | exact HB.out))) : w.heap.size ≤ gb199)); clear HB; have HB := n0_; have BK199 := n1_; have GW199 := n2_; have GE199 := n3_; clear n0_ n1_ n2_ n3_; clear hb hbox hg))
  (try simp only [Act.put, zqf, zqg, zqh])
  go_cut [22] (fun v22 wc => ∃ (kq : Nat) (x22_2 : Bool), v22 = .bool x22_2 ∧ Aside0 (sequiturlaw22_SolveAssumes.j0 kq l1 x22_2 a0_0 l0_1 = some r) ∧ Aside0 (kq ≤ k) ∧ Aside0 (wc.heap[gb199]? = some (.cells #[.int .i64 a0_0, (.slice A0_1 l0_1.length c0_1)] 24 (0, 0))) ∧ Aside0 (Below w.heap.size w wc))
  case first =>
    have H := HC3.out
    clear HC3
    replace H := Option.bind_eq_some_iff.mp H
    obtain ⟨t200, A50, H⟩ := H
    replace H : (if t200 = true then ((sequiturlaw22_Small.f k a0_0 l0_1).bind fun t201 => (if t201 = true then ((sequiturref19_Clause.f k l1 a0_0).bind fun t202 => (sequiturlaw22_SolveAssumes.j0 k l1 (t202 != 0) a0_0 l0_1)) else (sequiturlaw22_SolveAssumes.j0 k l1 true a0_0 l0_1))) else (sequiturlaw22_SolveAssumes.j0 k l1 true a0_0 l0_1)) = some r := H
    have A5 := K0 A50; clear A50
    by_cases c6 : t200 = true
    case neg =>
      replace c6 := Bool.eq_false_iff.mpr c6
      subst c6
      have H1 : (sequiturlaw22_SolveAssumes.j0 k l1 true a0_0 l0_1) = some r := by rw [if_neg (show ¬ (false = true) by decide)] at H; exact H
      clear H
      have H := H1
      clear H1
      as_aux_lemma =>
        have H' := K0 H
        clear H
        have hcz19_0 : w4.cell? ⟨gb199, 0, none⟩ = some (.int .i64 a0_0) := (zql BK199.out 0).trans rfl
        have hcz19_1 : w4.cell? ⟨gb199, 1, none⟩ = some (.slice A0_1 l0_1.length c0_1) := (zql BK199.out 1).trans rfl
        have hfz19_0 := zqm BK199.out 0; have hfz19_1 := zqm BK199.out 1
        go_wp2_with (first | ((with_reducible refine gate_callee (f := 8) rfl ?_); refine goesL_ (some 9) rfl rfl Try.func8 (by kernel_rfl) rfl #[.agg #[.int .i64 a0_0, .slice A0_1 l0_1.length c0_1]] rfl (by (try simp only [List.map_toArray, List.map_cons, List.map_nil]); first | done | rfl | (simp only [zqq, zqr]; rfl)) ?_; (with_reducible refine (sequiturlaw22_few.calls k a0_0 _ _ l0_1 false _ ?side1 ?side2 A5.out).mono ?_); (case side1 => repeat (first | exact (Kd.C_below HR0_1.out HB.out) | (with_reducible refine Kd.C_alloc ?_ _) | (with_reducible refine Kd.C_drewN ?_ _) | (with_reducible refine Kd.C_drew ?_))); (case side2 => exact HC0_1.out); rintro e w20 ⟨rfl, hb⟩; refine ⟨_, rfl, ?_⟩; have n0_ := K0 (zqn (g := gb199) (o := .cells #[.int .i64 a0_0, .slice A0_1 l0_1.length c0_1] 24 (0, 0)) (by (with_reducible repeat (first | refine zqj ?_ _ | refine zqk ?_ | refine zqi ?_ _)); exact BK199.out) hb); have n1_ := K0 (zqo (by repeat (first | (with_reducible first | exact HB.out | apply zqb | apply zqa | apply zqc | refine zqd ?_ GE199.out) | exact HB.out)) hb); clear BK199; clear HB; have BK199 := n0_; have HB := n1_; clear n0_ n1_; (try clear hb); (try clear hb2); (try clear hk); (try clear hi)))
        go_meet
        case rel => exact ⟨_, (true), (by first | rfl | (simp; done) | (simp [*]; done)), H', ⟨by first | omega | exact zqx _⟩, ⟨by (with_reducible repeat (first | refine zqj ?_ _ | refine zqk ?_ | refine zqi ?_ _)); exact BK199.out⟩, ⟨by repeat (first | (with_reducible first | exact HB.out | apply zqb | apply zqa | apply zqc | refine zqd ?_ GE199.out) | exact HB.out)⟩⟩
    subst c6
    have H1 : ((sequiturlaw22_Small.f k a0_0 l0_1).bind fun t201 => (if t201 = true then ((sequiturref19_Clause.f k l1 a0_0).bind fun t202 => (sequiturlaw22_SolveAssumes.j0 k l1 (t202 != 0) a0_0 l0_1)) else (sequiturlaw22_SolveAssumes.j0 k l1 true a0_0 l0_1))) = some r := by rw [if_pos rfl] at H; exact H
    clear H
    have H := H1
    clear H1
    replace H := Option.bind_eq_some_iff.mp H
    obtain ⟨t201, A70, H⟩ := H
    replace H : (if t201 = true then ((sequiturref19_Clause.f k l1 a0_0).bind fun t202 => (sequiturlaw22_SolveAssumes.j0 k l1 (t202 != 0) a0_0 l0_1)) else (sequiturlaw22_SolveAssumes.j0 k l1 true a0_0 l0_1)) = some r := H
    have A7 := K0 A70; clear A70
    by_cases c8 : t201 = true
    case neg =>
      replace c8 := Bool.eq_false_iff.mpr c8
      subst c8
      have H1 : (sequiturlaw22_SolveAssumes.j0 k l1 true a0_0 l0_1) = some r := by rw [if_neg (show ¬ (false = true) by decide)] at H; exact H
      clear H
      have H := H1
      clear H1
      as_aux_lemma =>
        have H' := K0 H
        clear H
        have hcz15_0 : w4.cell? ⟨gb199, 0, none⟩ = some (.int .i64 a0_0) := (zql BK199.out 0).trans rfl
        have hcz15_1 : w4.cell? ⟨gb199, 1, none⟩ = some (.slice A0_1 l0_1.length c0_1) := (zql BK199.out 1).trans rfl
        have hfz15_0 := zqm BK199.out 0; have hfz15_1 := zqm BK199.out 1
        go_wp2_with (first | ((with_reducible refine gate_callee (f := 8) rfl ?_); refine goesL_ (some 9) rfl rfl Try.func8 (by kernel_rfl) rfl #[.agg #[.int .i64 a0_0, .slice A0_1 l0_1.length c0_1]] rfl (by (try simp only [List.map_toArray, List.map_cons, List.map_nil]); first | done | rfl | (simp only [zqq, zqr]; rfl)) ?_; (with_reducible refine (sequiturlaw22_few.calls k a0_0 _ _ l0_1 true _ ?side1 ?side2 A5.out).mono ?_); (case side1 => repeat (first | exact (Kd.C_below HR0_1.out HB.out) | (with_reducible refine Kd.C_alloc ?_ _) | (with_reducible refine Kd.C_drewN ?_ _) | (with_reducible refine Kd.C_drew ?_))); (case side2 => exact HC0_1.out); rintro e w16 ⟨rfl, hb⟩; refine ⟨_, rfl, ?_⟩; have n0_ := K0 (zqn (g := gb199) (o := .cells #[.int .i64 a0_0, .slice A0_1 l0_1.length c0_1] 24 (0, 0)) (by (with_reducible repeat (first | refine zqj ?_ _ | refine zqk ?_ | refine zqi ?_ _)); exact BK199.out) hb); have n1_ := K0 (zqo (by repeat (first | (with_reducible first | exact HB.out | apply zqb | apply zqa | apply zqc | refine zqd ?_ GE199.out) | exact HB.out)) hb); clear BK199; clear HB; have BK199 := n0_; have HB := n1_; clear n0_ n1_; (try clear hb); (try clear hb2); (try clear hk); (try clear hi); have hcz17_0 : w16.cell? ⟨gb199, 0, none⟩ = some (.int .i64 a0_0) := (zql BK199.out 0).trans rfl; have hcz17_1 : w16.cell? ⟨gb199, 1, none⟩ = some (.slice A0_1 l0_1.length c0_1) := (zql BK199.out 1).trans rfl; have hfz17_0 := zqm BK199.out 0; have hfz17_1 := zqm BK199.out 1) | (go_at_call 9; (with_reducible refine (sequiturlaw22_Small.calls k a0_0 _ _ l0_1 false _ ?side1 ?side2 A7.out).mono ?_); (case side1 => repeat (first | exact (Kd.C_below HR0_1.out HB.out) | (with_reducible refine Kd.C_alloc ?_ _) | (with_reducible refine Kd.C_drewN ?_ _) | (with_reducible refine Kd.C_drew ?_))); (case side2 => exact HC0_1.out); rintro e w18 ⟨rfl, hb⟩; have n0_ := K0 (zqn (g := gb199) (o := .cells #[.int .i64 a0_0, .slice A0_1 l0_1.length c0_1] 24 (0, 0)) (by (with_reducible repeat (first | refine zqj ?_ _ | refine zqk ?_ | refine zqi ?_ _)); exact BK199.out) hb); have n1_ := K0 (zqo (by repeat (first | (with_reducible first | exact HB.out | apply zqb | apply zqa | apply zqc | refine zqd ?_ GE199.out) | exact HB.out)) hb); clear BK199; clear HB; have BK199 := n0_; have HB := n1_; clear n0_ n1_; (try clear hb); (try clear hb2); (try clear hk); (try clear hi)))
        go_meet
        case rel => exact ⟨_, (true), (by first | rfl | (simp; done) | (simp [*]; done)), H', ⟨by first | omega | exact zqx _⟩, ⟨by (with_reducible repeat (first | refine zqj ?_ _ | refine zqk ?_ | refine zqi ?_ _)); exact BK199.out⟩, ⟨by repeat (first | (with_reducible first | exact HB.out | apply zqb | apply zqa | apply zqc | refine zqd ?_ GE199.out) | exact HB.out)⟩⟩
    subst c8
    have H1 : ((sequiturref19_Clause.f k l1 a0_0).bind fun t202 => (sequiturlaw22_SolveAssumes.j0 k l1 (t202 != 0) a0_0 l0_1)) = some r := by rw [if_pos rfl] at H; exact H
    clear H
    have H := H1
    clear H1
    replace H := Option.bind_eq_some_iff.mp H
    obtain ⟨t202, A90, H⟩ := H
    replace H : (sequiturlaw22_SolveAssumes.j0 k l1 (t202 != 0) a0_0 l0_1) = some r := H
    have A9 := K0 A90; clear A90
    as_aux_lemma =>
      have H' := K0 H
      clear H
      have hcz10_0 : w4.cell? ⟨gb199, 0, none⟩ = some (.int .i64 a0_0) := (zql BK199.out 0).trans rfl
      have hcz10_1 : w4.cell? ⟨gb199, 1, none⟩ = some (.slice A0_1 l0_1.length c0_1) := (zql BK199.out 1).trans rfl
      have hfz10_0 := zqm BK199.out 0; have hfz10_1 := zqm BK199.out 1
      go_wp2_with (first | ((with_reducible refine gate_callee (f := 8) rfl ?_); refine goesL_ (some 9) rfl rfl Try.func8 (by kernel_rfl) rfl #[.agg #[.int .i64 a0_0, .slice A0_1 l0_1.length c0_1]] rfl (by (try simp only [List.map_toArray, List.map_cons, List.map_nil]); first | done | rfl | (simp only [zqq, zqr]; rfl)) ?_; (with_reducible refine (sequiturlaw22_few.calls k a0_0 _ _ l0_1 true _ ?side1 ?side2 A5.out).mono ?_); (case side1 => repeat (first | exact (Kd.C_below HR0_1.out HB.out) | (with_reducible refine Kd.C_alloc ?_ _) | (with_reducible refine Kd.C_drewN ?_ _) | (with_reducible refine Kd.C_drew ?_))); (case side2 => exact HC0_1.out); rintro e w11 ⟨rfl, hb⟩; refine ⟨_, rfl, ?_⟩; have n0_ := K0 (zqn (g := gb199) (o := .cells #[.int .i64 a0_0, .slice A0_1 l0_1.length c0_1] 24 (0, 0)) (by (with_reducible repeat (first | refine zqj ?_ _ | refine zqk ?_ | refine zqi ?_ _)); exact BK199.out) hb); have n1_ := K0 (zqo (by repeat (first | (with_reducible first | exact HB.out | apply zqb | apply zqa | apply zqc | refine zqd ?_ GE199.out) | exact HB.out)) hb); clear BK199; clear HB; have BK199 := n0_; have HB := n1_; clear n0_ n1_; (try clear hb); (try clear hb2); (try clear hk); (try clear hi); have hcz12_0 : w11.cell? ⟨gb199, 0, none⟩ = some (.int .i64 a0_0) := (zql BK199.out 0).trans rfl; have hcz12_1 : w11.cell? ⟨gb199, 1, none⟩ = some (.slice A0_1 l0_1.length c0_1) := (zql BK199.out 1).trans rfl; have hfz12_0 := zqm BK199.out 0; have hfz12_1 := zqm BK199.out 1) | (go_at_call 9; (with_reducible refine (sequiturlaw22_Small.calls k a0_0 _ _ l0_1 true _ ?side1 ?side2 A7.out).mono ?_); (case side1 => repeat (first | exact (Kd.C_below HR0_1.out HB.out) | (with_reducible refine Kd.C_alloc ?_ _) | (with_reducible refine Kd.C_drewN ?_ _) | (with_reducible refine Kd.C_drew ?_))); (case side2 => exact HC0_1.out); rintro e w13 ⟨rfl, hb⟩; have n0_ := K0 (zqn (g := gb199) (o := .cells #[.int .i64 a0_0, .slice A0_1 l0_1.length c0_1] 24 (0, 0)) (by (with_reducible repeat (first | refine zqj ?_ _ | refine zqk ?_ | refine zqi ?_ _)); exact BK199.out) hb); have n1_ := K0 (zqo (by repeat (first | (with_reducible first | exact HB.out | apply zqb | apply zqa | apply zqc | refine zqd ?_ GE199.out) | exact HB.out)) hb); clear BK199; clear HB; have BK199 := n0_; have HB := n1_; clear n0_ n1_; (try clear hb); (try clear hb2); (try clear hk); (try clear hi); have hcz14_0 : w13.cell? ⟨gb199, 0, none⟩ = some (.int .i64 a0_0) := (zql BK199.out 0).trans rfl; have hcz14_1 : w13.cell? ⟨gb199, 1, none⟩ = some (.slice A0_1 l0_1.length c0_1) := (zql BK199.out 1).trans rfl; have hfz14_0 := zqm BK199.out 0; have hfz14_1 := zqm BK199.out 1) | (go_at_call 10; (with_reducible refine (sequiturref19_Clause.calls k _ _ l1 a0_0 t202 _ ?side1 ?side2 A9.out).mono ?_); (case side1 => repeat (first | exact (Kd.C_below HR1.out HB.out) | (with_reducible refine Kd.C_alloc ?_ _) | (with_reducible refine Kd.C_drewN ?_ _) | (with_reducible refine Kd.C_drew ?_))); (case side2 => exact HC1.out); rintro e w' ⟨rfl, ⟨nd, rfl⟩⟩))
      go_meet
      case rel => exact ⟨_, ((t202 != 0)), (by first | rfl | (simp; done) | (simp [*]; done)), H', ⟨by first | omega | exact zqx _⟩, ⟨by (with_reducible repeat (first | refine zqj ?_ _ | refine zqk ?_ | refine zqi ?_ _)); exact BK199.out⟩, ⟨by repeat (first | (with_reducible first | exact HB.out | apply zqb | apply zqa | apply zqc | refine zqd ?_ GE199.out) | exact HB.out)⟩⟩
  case rest =>
    clear HC3; try clear c1; try clear p2; try clear c3; try clear c6; try clear c8; try clear hcz10_0; try clear hcz10_1; try clear hcz12_0; try clear hcz12_1; try clear hcz14_0; try clear hcz14_1; try clear hcz15_0; try clear hcz15_1; try clear hcz17_0; try clear hcz17_1; try clear hcz19_0; try clear hcz19_1; try clear hfz10_0; try clear hfz10_1; try clear hfz12_0; try clear hfz12_1; try clear hfz14_0; try clear hfz14_1; try clear hfz15_0; try clear hfz15_1; try clear hfz17_0; try clear hfz17_1; try clear hfz19_0; try clear hfz19_1
    obtain ⟨kq, x22_2, rfl, HA, HJ2, BK199, HB⟩ := hcut
    cases kq with
    | zero => exact absurd HA.out (by simp [sequiturlaw22_SolveAssumes.j0])
    | succ kj2 =>
      have H := HA.out
      clear HA
      simp only [sequiturlaw22_SolveAssumes.j0] at H
      by_cases c21 : x22_2 = true
      case pos =>
        subst c21
        have H1 : ((sequiturlaw22_goes.f kj2).bind fun t203 => (some t203)) = some r := by rw [if_pos rfl] at H; exact H
        clear H
        have H := H1
        clear H1
        replace H := Option.bind_eq_some_iff.mp H
        obtain ⟨t203, A220, H⟩ := H
        replace H : (some t203) = some r := H
        have A22 := K0 A220; clear A220
        as_aux_lemma =>
          obtain rfl := zqv H
          go_wp2_with (first | ((with_reducible refine gate_callee (f := 11) rfl ?_); refine goesL_ (some 23) rfl rfl Try.func11 (by kernel_rfl) rfl #[] rfl (by (try simp only [List.map_toArray, List.map_cons, List.map_nil]); first | done | rfl | (simp only [zqq, zqr]; rfl)) ?_; (with_reducible refine (sequiturlaw22_goes.calls kj2  t203 _ A22.out).mono ?_); rintro e w23 ⟨rfl, hb⟩; refine ⟨_, rfl, ?_⟩; have n0_ := K0 (zqn (g := gb199) (o := .cells #[.int .i64 a0_0, .slice A0_1 l0_1.length c0_1] 24 (0, 0)) (by (with_reducible repeat (first | refine zqj ?_ _ | refine zqk ?_ | refine zqi ?_ _)); exact BK199.out) hb); have n1_ := K0 (zqo (by repeat (first | (with_reducible first | exact HB.out | apply zqb | apply zqa | apply zqc | refine zqd ?_ GE199.out) | exact HB.out)) hb); clear BK199; clear HB; have BK199 := n0_; have HB := n1_; clear n0_ n1_; (try clear hb); (try clear hb2); (try clear hk); (try clear hi)))
          go_ret
          exact ⟨by first | rfl | (simp [errW_none, errW_some] <;> rfl) | (simp [*, errW_none, errW_some] <;> rfl), by repeat (first | (with_reducible first | exact HB.out | apply zqb | apply zqa | apply zqc | refine zqd ?_ GE199.out) | exact HB.out)⟩
      replace c21 := Bool.eq_false_iff.mpr c21
      subst c21
      have H1 : ((solve_Under.f a0_0 l0_1 l1 4096).bind fun bt204 => (if bt204.2.2.2.2.2 = 0 then ((sequiturref22_Units.f kj2 a0_0 l0_1 l1).bind fun bt217 => ((sequiturref22_Some.f kj2 bt217.1 bt217.2).bind fun t221 => (if (bt204.1 != t221) = true then (sequiturlaw22_SolveAssumes.j1 kj2 bt204.2.2.2.2.1 true a0_0 l0_1 bt204.1 bt204.2.1 bt204.2.2.1 bt204.2.2.2.1) else ((sequiturlaw22_told.f kj2 a0_0 l0_1 bt204.1 bt204.2.1 bt204.2.2.1 bt204.2.2.2.1 bt204.2.2.2.2.1 l1 4096).bind fun t222 => (sequiturlaw22_SolveAssumes.j1 kj2 bt204.2.2.2.2.1 (!t222) a0_0 l0_1 bt204.1 bt204.2.1 bt204.2.2.1 bt204.2.2.2.1))))) else (sequiturlaw22_SolveAssumes.j1 kj2 bt204.2.2.2.2.1 true a0_0 l0_1 bt204.1 bt204.2.1 bt204.2.2.1 bt204.2.2.2.1))) = some r := by rw [if_neg (show ¬ (false = true) by decide)] at H; exact H
      clear H
      have H := H1
      clear H1
      replace H := Option.bind_eq_some_iff.mp H
      obtain ⟨⟨t204, t205, t208, t211, t212, t215⟩, A240, H⟩ := H
      replace H : (if t215 = 0 then ((sequiturref22_Units.f kj2 a0_0 l0_1 l1).bind fun bt217 => ((sequiturref22_Some.f kj2 bt217.1 bt217.2).bind fun t221 => (if (t204 != t221) = true then (sequiturlaw22_SolveAssumes.j1 kj2 t212 true a0_0 l0_1 t204 t205 t208 t211) else ((sequiturlaw22_told.f kj2 a0_0 l0_1 t204 t205 t208 t211 t212 l1 4096).bind fun t222 => (sequiturlaw22_SolveAssumes.j1 kj2 t212 (!t222) a0_0 l0_1 t204 t205 t208 t211))))) else (sequiturlaw22_SolveAssumes.j1 kj2 t212 true a0_0 l0_1 t204 t205 t208 t211)) = some r := H
      have A24 := K0 A240; clear A240; have HC25 := K0 H; clear H
      have hcz26_0 : wc.cell? ⟨gb199, 0, none⟩ = some (.int .i64 a0_0) := (zql BK199.out 0).trans rfl
      have hcz26_1 : wc.cell? ⟨gb199, 1, none⟩ = some (.slice A0_1 l0_1.length c0_1) := (zql BK199.out 1).trans rfl
      have hfz26_0 := zqm BK199.out 0; have hfz26_1 := zqm BK199.out 1
      go_upto_region 4 with (first | ((with_reducible refine gate_callee (f := 12) rfl ?_); refine goesL_ (some 27) rfl rfl Try.func12 (by kernel_rfl) rfl #[.agg #[.int .i64 a0_0, .slice A0_1 l0_1.length c0_1], .slice A1 l1.length c1, .int .i64 4096] rfl (by (try simp only [List.map_toArray, List.map_cons, List.map_nil]); first | done | rfl | (simp only [zqq, zqr]; rfl)) ?_; (with_reducible refine (solve_Under.calls a0_0 _ _ l0_1 _ _ l1 4096 t204 t205 t208 t211 t212 t215 _ ?side1 ?side2 ?side3 ?side4 A24.out).mono ?_); (case side1 => repeat (first | exact (Kd.C_below HR0_1.out HB.out) | (with_reducible refine Kd.C_alloc ?_ _) | (with_reducible refine Kd.C_drewN ?_ _) | (with_reducible refine Kd.C_drew ?_))); (case side2 => exact HC0_1.out); (case side3 => repeat (first | exact (Kd.C_below HR1.out HB.out) | (with_reducible refine Kd.C_alloc ?_ _) | (with_reducible refine Kd.C_drewN ?_ _) | (with_reducible refine Kd.C_drew ?_))); (case side4 => exact HC1.out); rintro e w27 ⟨v206, v209, v213, rfl, ho0, ho1, ho2, hb⟩; refine ⟨_, rfl, ?_⟩; have n0_ := K0 (Kd.R_lower (Kd.R_mono (ok' := fun k_ => True) ho0 (fun _ hk_ => trivial)) (zqp (by repeat (first | (with_reducible first | exact HB.out | apply zqb | apply zqa | apply zqc | refine zqd ?_ GE199.out) | exact HB.out)))); have n1_ := K0 (Kd.N_lower (Kd.N_mono (ok' := fun k_ => some k_ ≠ (v206 : Value).ownBlock ∧ some k_ ≠ (v213 : Value).ownBlock ∧ k_ ≠ gb199) ho1 (fun k_ hk_ => ⟨hk_.2.1, hk_.2.2, (Kd.freshB (g := gb199) (o := .cells #[.int .i64 a0_0, .slice A0_1 l0_1.length c0_1] 24 (0, 0)) (by (with_reducible repeat (first | refine zqj ?_ _ | refine zqk ?_ | refine zqi ?_ _)); exact BK199.out) k_ hk_.1)⟩)) (zqp (by repeat (first | (with_reducible first | exact HB.out | apply zqb | apply zqa | apply zqc | refine zqd ?_ GE199.out) | exact HB.out)))); have n2_ := K0 (Kd.R_lower (Kd.R_mono (ok' := fun k_ => True) ho2 (fun _ hk_ => trivial)) (zqp (by repeat (first | (with_reducible first | exact HB.out | apply zqb | apply zqa | apply zqc | refine zqd ?_ GE199.out) | exact HB.out)))); have n3_ := K0 (zqn (g := gb199) (o := .cells #[.int .i64 a0_0, .slice A0_1 l0_1.length c0_1] 24 (0, 0)) (by (with_reducible repeat (first | refine zqj ?_ _ | refine zqk ?_ | refine zqi ?_ _)); exact BK199.out) hb); have n4_ := K0 (zqo (by repeat (first | (with_reducible first | exact HB.out | apply zqb | apply zqa | apply zqc | refine zqd ?_ GE199.out) | exact HB.out)) hb); clear BK199; clear HB; have HO207 := n0_; have HO210 := n1_; have HO214 := n2_; have BK199 := n3_; have HB := n4_; clear n0_ n1_ n2_ n3_ n4_; (try clear hb); (try clear hb2); (try clear hk); (try clear hi); (try clear ho0); (try clear ho1); (try clear ho2)) | ((with_reducible refine gate_dst (N := 5) rfl ?_); refine box_event ?hg (N := 5) ?hd (cs := #[.bool false, .slice none 0 0, .slice none 0 0, .int .i64 0]) (t := 33) ?hr ?_; (case hd => rfl); (case hg => rfl); (case hr => first | (go_simp; done) | (go_simp; rfl)); intro gb216 hg w28 hbox hb; have n0_ := K0 (Kd.R_below (by (with_reducible repeat (first | apply Kd.R_alloc | apply Kd.R_drewN | apply Kd.R_drew)); exact HO207.out) hb); have n1_ := K0 (Kd.N_below (Kd.N_elderB (by (with_reducible repeat (first | apply Kd.N_alloc | apply Kd.N_drewN | apply Kd.N_drew)); exact HO210.out) gb216 (Nat.le_of_eq hg.symm)) hb); have n2_ := K0 (Kd.R_below (by (with_reducible repeat (first | apply Kd.R_alloc | apply Kd.R_drewN | apply Kd.R_drew)); exact HO214.out) hb); have n3_ := K0 (zqn (g := gb199) (o := .cells #[.int .i64 a0_0, .slice A0_1 l0_1.length c0_1] 24 (0, 0)) (by (with_reducible repeat (first | refine zqj ?_ _ | refine zqk ?_ | refine zqi ?_ _)); exact BK199.out) hb); have n4_ := K0 (zqo (by repeat (first | (with_reducible first | exact HB.out | apply zqb | apply zqa | apply zqc | refine zqd ?_ GE199.out) | exact HB.out)) hb); have n5_ := K0 (hbox); have n6_ := K0 ((by rw [hg]; exact (zqp (by repeat (first | (with_reducible first | exact HB.out | apply zqb | apply zqa | apply zqc | refine zqd ?_ GE199.out) | exact HB.out))) : w.heap.size ≤ gb216)); have n7_ := K0 ((by rw [hg]; exact (zqp (by repeat (first | (with_reducible first | exact HB.out | apply zqb | apply zqa | apply zqc | refine zqd ?_ GE199.out) | exact HB.out))) : w.heap.size ≤ gb216)); have n8_ := K0 ((by rw [hg]; exact Nat.ne_of_lt (blk_lt (g := gb199) (o := .cells #[.int .i64 a0_0, .slice A0_1 l0_1.length c0_1] 24 (0, 0)) (by (with_reducible repeat (first | refine zqj ?_ _ | refine zqk ?_ | refine zqi ?_ _)); exact BK199.out)) : gb199 ≠ gb216)); have n9_ := K0 ((by rw [hg]; exact Nat.ne_of_gt (blk_lt (g := gb199) (o := .cells #[.int .i64 a0_0, .slice A0_1 l0_1.length c0_1] 24 (0, 0)) (by (with_reducible repeat (first | refine zqj ?_ _ | refine zqk ?_ | refine zqi ?_ _)); exact BK199.out)) : gb216 ≠ gb199)); clear HO207; clear HO210; clear HO214; clear BK199; clear HB; have HO207 := n0_; have HO210 := n1_; have HO214 := n2_; have BK199 := n3_; have HB := n4_; have BK216 := n5_; have GW216 := n6_; have GE216 := n7_; have NB199_216 := n8_; have NB216_199 := n9_; clear n0_ n1_ n2_ n3_ n4_ n5_ n6_ n7_ n8_ n9_; clear hb hbox hg; have hnb29 := NB216_199.out; have hnc29 := NB199_216.out; have hcz30_0 : w28.cell? ⟨gb216, 0, none⟩ = some (.bool false) := (zql BK216.out 0).trans rfl; have hcz30_1 : w28.cell? ⟨gb216, 1, none⟩ = some (.slice none 0 0) := (zql BK216.out 1).trans rfl; have hcz30_2 : w28.cell? ⟨gb216, 2, none⟩ = some (.slice none 0 0) := (zql BK216.out 2).trans rfl; have hcz30_3 : w28.cell? ⟨gb216, 3, none⟩ = some (.int .i64 0) := (zql BK216.out 3).trans rfl; have hfz30_0 := zqm BK216.out 0; have hfz30_1 := zqm BK216.out 1; have hfz30_2 := zqm BK216.out 2; have hfz30_3 := zqm BK216.out 3; obtain ⟨Ao31, co31, eo31⟩ := Kd.R_slice HO207.out; subst eo31; obtain ⟨Ao32, co32, eo32⟩ := Kd.N_slice HO210.out; subst eo32))
      (try simp only [Act.put, zqf, zqg, zqh])
      go_cut [49] (fun v49 wc => ∃ (kq : Nat) (x49_24 : Bool), v49 = .bool x49_24 ∧ Aside0 (sequiturlaw22_SolveAssumes.j1 kq t212 x49_24 a0_0 l0_1 t204 t205 t208 t211 = some r) ∧ Aside0 (kq ≤ kj2) ∧ Aside0 (Kd.R (Kd.int .i64) 3 wc w.heap.size (fun _ => True) v213 t212) ∧ Aside0 (Kd.R Kd.bool 4 wc w.heap.size (fun _ => True) (.slice Ao31 t205.length co31) t205) ∧ Aside0 (Kd.N k64 64 wc w.heap.size (fun k_ => some k_ ≠ (v213 : Value).ownBlock ∧ some k_ ≠ ((.slice Ao31 t205.length co31) : Value).ownBlock ∧ k_ ≠ gb199 ∧ k_ ≠ gb216) (.slice Ao32 t208.length co32) t208) ∧ Aside0 (wc.heap[gb199]? = some (.cells #[.int .i64 a0_0, (.slice A0_1 l0_1.length c0_1)] 24 (0, 0))) ∧ Aside0 (wc.heap[gb216]? = some (.cells #[.bool t204, (.slice Ao31 t205.length co31), (.slice Ao32 t208.length co32), .int .i64 t211] 33 (0, 0))) ∧ Aside0 (Below w.heap.size w wc))
      case first =>
        have H := HC25.out
        clear HC25
        by_cases c33 : t215 = 0
        case neg =>
          rw [if_neg c33] at H
          have c33b0 : (t215 == 0) = false := beq_eq_false_iff_ne.mpr c33
          have c33b1 : (t215 != 0) = true := bne_iff_ne.mpr c33
          (first | rw [c33b0] | (simp only [i64_w, i32_w]; rw [c33b0]) | skip)
          as_aux_lemma =>
            have H' := K0 H
            clear H
            try go_wp2
            have n0_ : Aside0 (Kd.R Kd.bool 4 ((((w28.setCell ⟨gb216, 0, none⟩ (.bool t204)).setCell ⟨gb216, 1, none⟩ (.slice Ao31 t205.length co31)).setCell ⟨gb216, 2, none⟩ (.slice Ao32 t208.length co32)).setCell ⟨gb216, 3, none⟩ (.int .i64 t211)) w.heap.size (fun _ => True) (.slice Ao31 t205.length co31) t205) := ⟨by (with_reducible repeat (first | apply Kd.R_alloc | apply Kd.R_drewN | apply Kd.R_drew)); exact Kd.R_mono (Kd.R_far (p := ⟨gb216, 3, none⟩) (Kd.R_far (p := ⟨gb216, 2, none⟩) (Kd.R_far (p := ⟨gb216, 1, none⟩) (Kd.R_far (p := ⟨gb216, 0, none⟩) (Kd.R_types HO207.out BK216.out (by decide)) (fun _ hk => hk.2) (.bool t204)) (fun _ hk => hk.2) (.slice Ao31 t205.length co31)) (fun _ hk => hk.2) (.slice Ao32 t208.length co32)) (fun _ hk => hk.2) (.int .i64 t211)) (fun _ hk => trivial)⟩
            have n1_ : Aside0 (Kd.N k64 64 ((((w28.setCell ⟨gb216, 0, none⟩ (.bool t204)).setCell ⟨gb216, 1, none⟩ (.slice Ao31 t205.length co31)).setCell ⟨gb216, 2, none⟩ (.slice Ao32 t208.length co32)).setCell ⟨gb216, 3, none⟩ (.int .i64 t211)) w.heap.size (fun k_ => some k_ ≠ (.slice Ao31 t205.length co31 : Value).ownBlock ∧ some k_ ≠ (v213 : Value).ownBlock ∧ k_ ≠ gb199 ∧ k_ ≠ gb216) (.slice Ao32 t208.length co32) t208) := ⟨by (with_reducible repeat (first | apply Kd.N_alloc | apply Kd.N_drewN | apply Kd.N_drew)); exact Kd.N_mono (Kd.N_far (p := ⟨gb216, 3, none⟩) (Kd.N_far (p := ⟨gb216, 2, none⟩) (Kd.N_far (p := ⟨gb216, 1, none⟩) (Kd.N_far (p := ⟨gb216, 0, none⟩) (Kd.N_mono HO210.out (fun k_ hk => (⟨hk, hk.2⟩ : _ ∧ k_ ≠ gb216))) (fun _ hk => hk.2) (.bool t204)) (fun _ hk => hk.2) (.slice Ao31 t205.length co31)) (fun _ hk => hk.2) (.slice Ao32 t208.length co32)) (fun _ hk => hk.2) (.int .i64 t211)) (fun _ hk => ⟨hk.1.1.1, ⟨hk.1.1.2.1, ⟨hk.1.1.2.2, hk.1.2⟩⟩⟩)⟩
            have n2_ : Aside0 (Kd.R (Kd.int .i64) 3 ((((w28.setCell ⟨gb216, 0, none⟩ (.bool t204)).setCell ⟨gb216, 1, none⟩ (.slice Ao31 t205.length co31)).setCell ⟨gb216, 2, none⟩ (.slice Ao32 t208.length co32)).setCell ⟨gb216, 3, none⟩ (.int .i64 t211)) w.heap.size (fun _ => True) v213 t212) := ⟨by (with_reducible repeat (first | apply Kd.R_alloc | apply Kd.R_drewN | apply Kd.R_drew)); exact Kd.R_mono (Kd.R_far (p := ⟨gb216, 3, none⟩) (Kd.R_far (p := ⟨gb216, 2, none⟩) (Kd.R_far (p := ⟨gb216, 1, none⟩) (Kd.R_far (p := ⟨gb216, 0, none⟩) (Kd.R_types HO214.out BK216.out (by decide)) (fun _ hk => hk.2) (.bool t204)) (fun _ hk => hk.2) (.slice Ao31 t205.length co31)) (fun _ hk => hk.2) (.slice Ao32 t208.length co32)) (fun _ hk => hk.2) (.int .i64 t211)) (fun _ hk => trivial)⟩
            have n3_ : Aside0 (((((w28.setCell ⟨gb216, 0, none⟩ (.bool t204)).setCell ⟨gb216, 1, none⟩ (.slice Ao31 t205.length co31)).setCell ⟨gb216, 2, none⟩ (.slice Ao32 t208.length co32)).setCell ⟨gb216, 3, none⟩ (.int .i64 t211)).heap[gb199]? = some (.cells #[.int .i64 a0_0, .slice A0_1 l0_1.length c0_1] 24 (0, 0))) := ⟨by (with_reducible repeat (first | refine zqj ?_ _ | refine zqk ?_ | refine zqi ?_ _)); refine blk_far ?_ NB199_216.out _; (with_reducible repeat (first | refine zqj ?_ _ | refine zqk ?_ | refine zqi ?_ _)); refine blk_far ?_ NB199_216.out _; (with_reducible repeat (first | refine zqj ?_ _ | refine zqk ?_ | refine zqi ?_ _)); refine blk_far ?_ NB199_216.out _; (with_reducible repeat (first | refine zqj ?_ _ | refine zqk ?_ | refine zqi ?_ _)); refine blk_far ?_ NB199_216.out _; (with_reducible repeat (first | refine zqj ?_ _ | refine zqk ?_ | refine zqi ?_ _)); exact BK199.out⟩
            have n4_ : Aside0 (((((w28.setCell ⟨gb216, 0, none⟩ (.bool t204)).setCell ⟨gb216, 1, none⟩ (.slice Ao31 t205.length co31)).setCell ⟨gb216, 2, none⟩ (.slice Ao32 t208.length co32)).setCell ⟨gb216, 3, none⟩ (.int .i64 t211)).heap[gb216]? = some (.cells #[.bool t204, .slice Ao31 t205.length co31, .slice Ao32 t208.length co32, .int .i64 t211] 33 (0, 0))) := ⟨by (with_reducible repeat (first | refine zqj ?_ _ | refine zqk ?_ | refine zqi ?_ _)); refine blk_put (cs := #[.bool t204, .slice Ao31 t205.length co31, .slice Ao32 t208.length co32, .int .i64 0]) ?_ 3 _ rfl; (with_reducible repeat (first | refine zqj ?_ _ | refine zqk ?_ | refine zqi ?_ _)); refine blk_put (cs := #[.bool t204, .slice Ao31 t205.length co31, .slice none 0 0, .int .i64 0]) ?_ 2 _ rfl; (with_reducible repeat (first | refine zqj ?_ _ | refine zqk ?_ | refine zqi ?_ _)); refine blk_put (cs := #[.bool t204, .slice none 0 0, .slice none 0 0, .int .i64 0]) ?_ 1 _ rfl; (with_reducible repeat (first | refine zqj ?_ _ | refine zqk ?_ | refine zqi ?_ _)); refine blk_put (cs := #[.bool false, .slice none 0 0, .slice none 0 0, .int .i64 0]) ?_ 0 _ rfl; (with_reducible repeat (first | refine zqj ?_ _ | refine zqk ?_ | refine zqi ?_ _)); exact BK216.out⟩
            have n5_ : Aside0 (Below w.heap.size w ((((w28.setCell ⟨gb216, 0, none⟩ (.bool t204)).setCell ⟨gb216, 1, none⟩ (.slice Ao31 t205.length co31)).setCell ⟨gb216, 2, none⟩ (.slice Ao32 t208.length co32)).setCell ⟨gb216, 3, none⟩ (.int .i64 t211))) := ⟨by repeat (first | (with_reducible first | exact HB.out | apply zqb | apply zqa | apply zqc | refine zqd ?_ GE199.out | refine zqd ?_ GE216.out) | exact HB.out)⟩
            (try clear HO207)
            (try clear HO210)
            (try clear HO214)
            (try clear BK199)
            (try clear BK216)
            (try clear HB)
            generalize ((((w28.setCell ⟨gb216, 0, none⟩ (.bool t204)).setCell ⟨gb216, 1, none⟩ (.slice Ao31 t205.length co31)).setCell ⟨gb216, 2, none⟩ (.slice Ao32 t208.length co32)).setCell ⟨gb216, 3, none⟩ (.int .i64 t211)) = w50 at n0_ n1_ n2_ n3_ n4_ n5_ ⊢
            have HO207 := n0_; have HO210 := n1_; have HO214 := n2_; have BK199 := n3_; have BK216 := n4_; have HB := n5_; clear n0_ n1_ n2_ n3_ n4_ n5_; have n0_ := K0 (Kd.R_drew HO207.out); have n1_ := K0 (Kd.N_drew HO210.out); have n2_ := K0 (Kd.R_drew HO214.out); have n3_ := K0 (zqk BK199.out); have n4_ := K0 (zqk BK216.out); have n5_ := K0 (zqc HB.out); clear HO207 HO210 HO214 BK199 BK216 HB; have HO207 := n0_; have HO210 := n1_; have HO214 := n2_; have BK199 := n3_; have BK216 := n4_; have HB := n5_; clear n0_ n1_ n2_ n3_ n4_ n5_
            refine start_ (n := 19) (S := fun w' => True) (ds := []) #[false, false, false, false, false, false, false, false, false, false, false, false, false, false, false, false, false, false, false] (by kernel_rfl) rfl rfl trivial (fun hHeld => ?_); refine with_tabW sequiturlaw22_SolveAssumes.tab4 sequiturlaw22_SolveAssumes.bits4 (fun HT_ HW_ => ?_)
            generalize w50.drew = w51 at HO207 HO210 HO214 BK199 BK216 HB hHeld ⊢
            refine pure_ (i := 0) (N := some 31) (v := ?_) (a' := ?_) #[true, false, false, false, false, false, false, false, false, false, false, false, false, false, false, false, false, false, false] rfl rfl (any_of HT_.out (by kernel_rfl)) (fun _ _ _ h => h) (Or.inl ⟨by rfl, ?_⟩) ?_ ?_
            rotate_left
            · intro w'
              go_simp
              with_reducible rfl
            rotate_left
            · simp only [Act.put, zqf, zqg, zqh, i64_w, i32_w]
              rfl
            refine pure_ (i := 1) (N := some 32) (v := ?_) (a' := ?_) #[true, true, false, false, false, false, false, false, false, false, false, false, false, false, false, false, false, false, false] rfl rfl (any_of HT_.out (by kernel_rfl)) (fun _ _ _ h => h) (Or.inl ⟨by rfl, ?_⟩) ?_ ?_
            rotate_left
            · intro w'
              go_simp
              with_reducible rfl
            rotate_left
            · simp only [Act.put, zqf, zqg, zqh, i64_w, i32_w]
              rfl
            refine pure_ (i := 2) (N := some 33) (v := ?_) (a' := ?_) #[true, true, true, false, false, false, false, false, false, false, false, false, false, false, false, false, false, false, false] rfl rfl (any_of HT_.out (by kernel_rfl)) (fun _ _ _ h => h) (Or.inl ⟨by rfl, ?_⟩) ?_ ?_
            rotate_left
            · intro w'
              go_simp
              with_reducible rfl
            rotate_left
            · simp only [Act.put, zqf, zqg, zqh, i64_w, i32_w]
              rfl
            refine pure_ (i := 3) (N := some 34) (v := undef) (a' := ?_) #[true, true, true, true, false, false, false, false, false, false, false, false, false, false, false, false, false, false, false] rfl rfl (any_of HT_.out (by kernel_rfl)) (fun _ _ _ h => h) (Or.inr ⟨by rfl, rfl⟩) ?_ ?_
            rotate_left
            · simp only [Act.put, zqf, zqg, zqh, i64_w, i32_w]
              rfl
            refine pure_ (i := 4) (N := some 35) (v := undef) (a' := ?_) #[true, true, true, true, true, false, false, false, false, false, false, false, false, false, false, false, false, false, false] rfl rfl (any_of HT_.out (by kernel_rfl)) (fun _ _ _ h => h) (Or.inr ⟨by rfl, rfl⟩) ?_ ?_
            rotate_left
            · simp only [Act.put, zqf, zqg, zqh, i64_w, i32_w]
              rfl
            refine pure_ (i := 5) (N := some 36) (v := undef) (a' := ?_) #[true, true, true, true, true, true, false, false, false, false, false, false, false, false, false, false, false, false, false] rfl rfl (any_of HT_.out (by kernel_rfl)) (fun _ _ _ h => h) (Or.inr ⟨by rfl, rfl⟩) ?_ ?_
            rotate_left
            · simp only [Act.put, zqf, zqg, zqh, i64_w, i32_w]
              rfl
            refine pure_ (i := 6) (N := some 37) (v := undef) (a' := ?_) #[true, true, true, true, true, true, true, false, false, false, false, false, false, false, false, false, false, false, false] rfl rfl (any_of HT_.out (by kernel_rfl)) (fun _ _ _ h => h) (Or.inr ⟨by rfl, rfl⟩) ?_ ?_
            rotate_left
            · simp only [Act.put, zqf, zqg, zqh, i64_w, i32_w]
              rfl
            refine pure_ (i := 7) (N := some 38) (v := undef) (a' := ?_) #[true, true, true, true, true, true, true, true, false, false, false, false, false, false, false, false, false, false, false] rfl rfl (any_of HT_.out (by kernel_rfl)) (fun _ _ _ h => h) (Or.inr ⟨by rfl, rfl⟩) ?_ ?_
            rotate_left
            · simp only [Act.put, zqf, zqg, zqh, i64_w, i32_w]
              rfl
            refine pure_ (i := 8) (N := some 39) (v := undef) (a' := ?_) #[true, true, true, true, true, true, true, true, true, false, false, false, false, false, false, false, false, false, false] rfl rfl (any_of HT_.out (by kernel_rfl)) (fun _ _ _ h => h) (Or.inr ⟨by rfl, rfl⟩) ?_ ?_
            rotate_left
            · simp only [Act.put, zqf, zqg, zqh, i64_w, i32_w]
              rfl
            refine pure_ (i := 9) (N := some 40) (v := undef) (a' := ?_) #[true, true, true, true, true, true, true, true, true, true, false, false, false, false, false, false, false, false, false] rfl rfl (any_of HT_.out (by kernel_rfl)) (fun _ _ _ h => h) (Or.inr ⟨by rfl, rfl⟩) ?_ ?_
            rotate_left
            · simp only [Act.put, zqf, zqg, zqh, i64_w, i32_w]
              rfl
            refine pure_ (i := 10) (N := some 41) (v := ?_) (a' := ?_) #[true, true, true, true, true, true, true, true, true, true, true, false, false, false, false, false, false, false, false] rfl rfl (any_of HT_.out (by kernel_rfl)) (fun _ _ _ h => h) (Or.inl ⟨by rfl, ?_⟩) ?_ ?_
            rotate_left
            · intro w'
              go_simp
              with_reducible rfl
            rotate_left
            · simp only [Act.put, zqf, zqg, zqh, i64_w, i32_w]
              rfl
            refine pure_ (i := 11) (N := some 42) (v := ?_) (a' := ?_) #[true, true, true, true, true, true, true, true, true, true, true, true, false, false, false, false, false, false, false] rfl rfl (any_of HT_.out (by kernel_rfl)) (fun _ _ _ h => h) (Or.inl ⟨by rfl, ?_⟩) ?_ ?_
            rotate_left
            · intro w'
              go_simp
              with_reducible rfl
            rotate_left
            · simp only [Act.put, zqf, zqg, zqh, i64_w, i32_w]
              rfl
            refine pure_ (i := 12) (N := some 43) (v := undef) (a' := ?_) #[true, true, true, true, true, true, true, true, true, true, true, true, true, false, false, false, false, false, false] rfl rfl (any_of HT_.out (by kernel_rfl)) (fun _ _ _ h => h) (Or.inr ⟨by rfl, rfl⟩) ?_ ?_
            rotate_left
            · simp only [Act.put, zqf, zqg, zqh, i64_w, i32_w]
              rfl
            refine pure_ (i := 13) (N := some 44) (v := undef) (a' := ?_) #[true, true, true, true, true, true, true, true, true, true, true, true, true, true, false, false, false, false, false] rfl rfl (any_of HT_.out (by kernel_rfl)) (fun _ _ _ h => h) (Or.inr ⟨by rfl, rfl⟩) ?_ ?_
            rotate_left
            · simp only [Act.put, zqf, zqg, zqh, i64_w, i32_w]
              rfl
            refine pure_ (i := 14) (N := some 45) (v := undef) (a' := ?_) #[true, true, true, true, true, true, true, true, true, true, true, true, true, true, true, false, false, false, false] rfl rfl (any_of HT_.out (by kernel_rfl)) (fun _ _ _ h => h) (Or.inr ⟨by rfl, rfl⟩) ?_ ?_
            rotate_left
            · simp only [Act.put, zqf, zqg, zqh, i64_w, i32_w]
              rfl
            refine pure_ (i := 15) (N := some 46) (v := undef) (a' := ?_) #[true, true, true, true, true, true, true, true, true, true, true, true, true, true, true, true, false, false, false] rfl rfl (any_of HT_.out (by kernel_rfl)) (fun _ _ _ h => h) (Or.inr ⟨by rfl, rfl⟩) ?_ ?_
            rotate_left
            · simp only [Act.put, zqf, zqg, zqh, i64_w, i32_w]
              rfl
            refine pure_ (i := 16) (N := some 47) (v := undef) (a' := ?_) #[true, true, true, true, true, true, true, true, true, true, true, true, true, true, true, true, true, false, false] rfl rfl (any_of HT_.out (by kernel_rfl)) (fun _ _ _ h => h) (Or.inr ⟨by rfl, rfl⟩) ?_ ?_
            rotate_left
            · simp only [Act.put, zqf, zqg, zqh, i64_w, i32_w]
              rfl
            refine pure_ (i := 17) (N := some 48) (v := undef) (a' := ?_) #[true, true, true, true, true, true, true, true, true, true, true, true, true, true, true, true, true, true, false] rfl rfl (any_of HT_.out (by kernel_rfl)) (fun _ _ _ h => h) (Or.inr ⟨by rfl, rfl⟩) ?_ ?_
            rotate_left
            · simp only [Act.put, zqf, zqg, zqh, i64_w, i32_w]
              rfl
            refine pure_ (i := 18) (N := some 49) (v := ?_) (a' := ?_) #[true, true, true, true, true, true, true, true, true, true, true, true, true, true, true, true, true, true, true] rfl rfl (any_of HT_.out (by kernel_rfl)) (fun _ _ _ h => h) (Or.inl ⟨by rfl, ?_⟩) ?_ ?_
            rotate_left
            · intro w'
              go_simp
              with_reducible rfl
            rotate_left
            · simp only [Act.put, zqf, zqg, zqh, i64_w, i32_w]
              rfl
            refine done_ (done_of HT_.out (by kernel_rfl)) ?_
            try go_wp2
            go_meet
            case rel => exact ⟨_, (true), (by first | rfl | (simp; done) | (simp [*]; done)), H', ⟨by have := HJ2.out; first | omega | exact zqx _⟩, ⟨by (with_reducible repeat (first | apply Kd.R_alloc | apply Kd.R_drewN | apply Kd.R_drew)); exact HO214.out⟩, ⟨by (with_reducible repeat (first | apply Kd.R_alloc | apply Kd.R_drewN | apply Kd.R_drew)); exact HO207.out⟩, ⟨by (with_reducible repeat (first | apply Kd.N_alloc | apply Kd.N_drewN | apply Kd.N_drew)); exact Kd.N_mono HO210.out (fun _ hk => ⟨hk.2.1, ⟨hk.1, ⟨hk.2.2.1, hk.2.2.2⟩⟩⟩)⟩, ⟨by (with_reducible repeat (first | refine zqj ?_ _ | refine zqk ?_ | refine zqi ?_ _)); exact BK199.out⟩, ⟨by (with_reducible repeat (first | refine zqj ?_ _ | refine zqk ?_ | refine zqi ?_ _)); exact BK216.out⟩, ⟨by repeat (first | (with_reducible first | exact HB.out | apply zqb | apply zqa | apply zqc | refine zqd ?_ GE199.out | refine zqd ?_ GE216.out) | exact HB.out)⟩⟩
        rw [if_pos c33] at H
        have c33b0 : (t215 == 0) = true := beq_iff_eq.mpr c33
        have c33b1 : (t215 != 0) = false := bne_eq_false_iff_eq.mpr c33
        clear c33
        (first | rw [c33b0] | (simp only [i64_w, i32_w]; rw [c33b0]) | skip)
        replace H := Option.bind_eq_some_iff.mp H
        obtain ⟨⟨t217, t218⟩, A340, H⟩ := H
        replace H : ((sequiturref22_Some.f kj2 t217 t218).bind fun t221 => (if (t204 != t221) = true then (sequiturlaw22_SolveAssumes.j1 kj2 t212 true a0_0 l0_1 t204 t205 t208 t211) else ((sequiturlaw22_told.f kj2 a0_0 l0_1 t204 t205 t208 t211 t212 l1 4096).bind fun t222 => (sequiturlaw22_SolveAssumes.j1 kj2 t212 (!t222) a0_0 l0_1 t204 t205 t208 t211)))) = some r := H
        have A34 := K0 A340; clear A340
        replace H := Option.bind_eq_some_iff.mp H
        obtain ⟨t221, A350, H⟩ := H
        replace H : (if (t204 != t221) = true then (sequiturlaw22_SolveAssumes.j1 kj2 t212 true a0_0 l0_1 t204 t205 t208 t211) else ((sequiturlaw22_told.f kj2 a0_0 l0_1 t204 t205 t208 t211 t212 l1 4096).bind fun t222 => (sequiturlaw22_SolveAssumes.j1 kj2 t212 (!t222) a0_0 l0_1 t204 t205 t208 t211))) = some r := H
        have A35 := K0 A350; clear A350
        by_cases c36 : (t204 != t221) = true
        case pos =>
          rw [if_pos c36] at H
          have c36b0 : (t204 != t221) = true := c36
          (try (have c36b1 : decide (t204 = t221) = false := by simpa using c36))
          (try (have c36b2 : (t204 == t221) = false := by simpa using c36))
          (try (have c36b3 : ¬ (t204 = t221) := by simpa using c36))
          clear c36
          as_aux_lemma =>
            have H' := K0 H
            clear H
            try go_wp2
            have n0_ : Aside0 (Kd.R Kd.bool 4 ((((w28.setCell ⟨gb216, 0, none⟩ (.bool t204)).setCell ⟨gb216, 1, none⟩ (.slice Ao31 t205.length co31)).setCell ⟨gb216, 2, none⟩ (.slice Ao32 t208.length co32)).setCell ⟨gb216, 3, none⟩ (.int .i64 t211)) w.heap.size (fun _ => True) (.slice Ao31 t205.length co31) t205) := ⟨by (with_reducible repeat (first | apply Kd.R_alloc | apply Kd.R_drewN | apply Kd.R_drew)); exact Kd.R_mono (Kd.R_far (p := ⟨gb216, 3, none⟩) (Kd.R_far (p := ⟨gb216, 2, none⟩) (Kd.R_far (p := ⟨gb216, 1, none⟩) (Kd.R_far (p := ⟨gb216, 0, none⟩) (Kd.R_types HO207.out BK216.out (by decide)) (fun _ hk => hk.2) (.bool t204)) (fun _ hk => hk.2) (.slice Ao31 t205.length co31)) (fun _ hk => hk.2) (.slice Ao32 t208.length co32)) (fun _ hk => hk.2) (.int .i64 t211)) (fun _ hk => trivial)⟩
            have n1_ : Aside0 (Kd.N k64 64 ((((w28.setCell ⟨gb216, 0, none⟩ (.bool t204)).setCell ⟨gb216, 1, none⟩ (.slice Ao31 t205.length co31)).setCell ⟨gb216, 2, none⟩ (.slice Ao32 t208.length co32)).setCell ⟨gb216, 3, none⟩ (.int .i64 t211)) w.heap.size (fun k_ => some k_ ≠ (.slice Ao31 t205.length co31 : Value).ownBlock ∧ some k_ ≠ (v213 : Value).ownBlock ∧ k_ ≠ gb199 ∧ k_ ≠ gb216) (.slice Ao32 t208.length co32) t208) := ⟨by (with_reducible repeat (first | apply Kd.N_alloc | apply Kd.N_drewN | apply Kd.N_drew)); exact Kd.N_mono (Kd.N_far (p := ⟨gb216, 3, none⟩) (Kd.N_far (p := ⟨gb216, 2, none⟩) (Kd.N_far (p := ⟨gb216, 1, none⟩) (Kd.N_far (p := ⟨gb216, 0, none⟩) (Kd.N_mono HO210.out (fun k_ hk => (⟨hk, hk.2⟩ : _ ∧ k_ ≠ gb216))) (fun _ hk => hk.2) (.bool t204)) (fun _ hk => hk.2) (.slice Ao31 t205.length co31)) (fun _ hk => hk.2) (.slice Ao32 t208.length co32)) (fun _ hk => hk.2) (.int .i64 t211)) (fun _ hk => ⟨hk.1.1.1, ⟨hk.1.1.2.1, ⟨hk.1.1.2.2, hk.1.2⟩⟩⟩)⟩
            have n2_ : Aside0 (Kd.R (Kd.int .i64) 3 ((((w28.setCell ⟨gb216, 0, none⟩ (.bool t204)).setCell ⟨gb216, 1, none⟩ (.slice Ao31 t205.length co31)).setCell ⟨gb216, 2, none⟩ (.slice Ao32 t208.length co32)).setCell ⟨gb216, 3, none⟩ (.int .i64 t211)) w.heap.size (fun _ => True) v213 t212) := ⟨by (with_reducible repeat (first | apply Kd.R_alloc | apply Kd.R_drewN | apply Kd.R_drew)); exact Kd.R_mono (Kd.R_far (p := ⟨gb216, 3, none⟩) (Kd.R_far (p := ⟨gb216, 2, none⟩) (Kd.R_far (p := ⟨gb216, 1, none⟩) (Kd.R_far (p := ⟨gb216, 0, none⟩) (Kd.R_types HO214.out BK216.out (by decide)) (fun _ hk => hk.2) (.bool t204)) (fun _ hk => hk.2) (.slice Ao31 t205.length co31)) (fun _ hk => hk.2) (.slice Ao32 t208.length co32)) (fun _ hk => hk.2) (.int .i64 t211)) (fun _ hk => trivial)⟩
            have n3_ : Aside0 (((((w28.setCell ⟨gb216, 0, none⟩ (.bool t204)).setCell ⟨gb216, 1, none⟩ (.slice Ao31 t205.length co31)).setCell ⟨gb216, 2, none⟩ (.slice Ao32 t208.length co32)).setCell ⟨gb216, 3, none⟩ (.int .i64 t211)).heap[gb199]? = some (.cells #[.int .i64 a0_0, .slice A0_1 l0_1.length c0_1] 24 (0, 0))) := ⟨by (with_reducible repeat (first | refine zqj ?_ _ | refine zqk ?_ | refine zqi ?_ _)); refine blk_far ?_ NB199_216.out _; (with_reducible repeat (first | refine zqj ?_ _ | refine zqk ?_ | refine zqi ?_ _)); refine blk_far ?_ NB199_216.out _; (with_reducible repeat (first | refine zqj ?_ _ | refine zqk ?_ | refine zqi ?_ _)); refine blk_far ?_ NB199_216.out _; (with_reducible repeat (first | refine zqj ?_ _ | refine zqk ?_ | refine zqi ?_ _)); refine blk_far ?_ NB199_216.out _; (with_reducible repeat (first | refine zqj ?_ _ | refine zqk ?_ | refine zqi ?_ _)); exact BK199.out⟩
            have n4_ : Aside0 (((((w28.setCell ⟨gb216, 0, none⟩ (.bool t204)).setCell ⟨gb216, 1, none⟩ (.slice Ao31 t205.length co31)).setCell ⟨gb216, 2, none⟩ (.slice Ao32 t208.length co32)).setCell ⟨gb216, 3, none⟩ (.int .i64 t211)).heap[gb216]? = some (.cells #[.bool t204, .slice Ao31 t205.length co31, .slice Ao32 t208.length co32, .int .i64 t211] 33 (0, 0))) := ⟨by (with_reducible repeat (first | refine zqj ?_ _ | refine zqk ?_ | refine zqi ?_ _)); refine blk_put (cs := #[.bool t204, .slice Ao31 t205.length co31, .slice Ao32 t208.length co32, .int .i64 0]) ?_ 3 _ rfl; (with_reducible repeat (first | refine zqj ?_ _ | refine zqk ?_ | refine zqi ?_ _)); refine blk_put (cs := #[.bool t204, .slice Ao31 t205.length co31, .slice none 0 0, .int .i64 0]) ?_ 2 _ rfl; (with_reducible repeat (first | refine zqj ?_ _ | refine zqk ?_ | refine zqi ?_ _)); refine blk_put (cs := #[.bool t204, .slice none 0 0, .slice none 0 0, .int .i64 0]) ?_ 1 _ rfl; (with_reducible repeat (first | refine zqj ?_ _ | refine zqk ?_ | refine zqi ?_ _)); refine blk_put (cs := #[.bool false, .slice none 0 0, .slice none 0 0, .int .i64 0]) ?_ 0 _ rfl; (with_reducible repeat (first | refine zqj ?_ _ | refine zqk ?_ | refine zqi ?_ _)); exact BK216.out⟩
            have n5_ : Aside0 (Below w.heap.size w ((((w28.setCell ⟨gb216, 0, none⟩ (.bool t204)).setCell ⟨gb216, 1, none⟩ (.slice Ao31 t205.length co31)).setCell ⟨gb216, 2, none⟩ (.slice Ao32 t208.length co32)).setCell ⟨gb216, 3, none⟩ (.int .i64 t211))) := ⟨by repeat (first | (with_reducible first | exact HB.out | apply zqb | apply zqa | apply zqc | refine zqd ?_ GE199.out | refine zqd ?_ GE216.out) | exact HB.out)⟩
            (try clear HO207)
            (try clear HO210)
            (try clear HO214)
            (try clear BK199)
            (try clear BK216)
            (try clear HB)
            generalize ((((w28.setCell ⟨gb216, 0, none⟩ (.bool t204)).setCell ⟨gb216, 1, none⟩ (.slice Ao31 t205.length co31)).setCell ⟨gb216, 2, none⟩ (.slice Ao32 t208.length co32)).setCell ⟨gb216, 3, none⟩ (.int .i64 t211)) = w37 at n0_ n1_ n2_ n3_ n4_ n5_ ⊢
            have HO207 := n0_; have HO210 := n1_; have HO214 := n2_; have BK199 := n3_; have BK216 := n4_; have HB := n5_; clear n0_ n1_ n2_ n3_ n4_ n5_; have n0_ := K0 (Kd.R_drew HO207.out); have n1_ := K0 (Kd.N_drew HO210.out); have n2_ := K0 (Kd.R_drew HO214.out); have n3_ := K0 (zqk BK199.out); have n4_ := K0 (zqk BK216.out); have n5_ := K0 (zqc HB.out); clear HO207 HO210 HO214 BK199 BK216 HB; have HO207 := n0_; have HO210 := n1_; have HO214 := n2_; have BK199 := n3_; have BK216 := n4_; have HB := n5_; clear n0_ n1_ n2_ n3_ n4_ n5_
            refine start_ (n := 19) (S := fun w' => w'.cell? ⟨gb216, 0, none⟩ = some (.bool t204) ∧ w'.cell? ⟨gb216, 1, none⟩ = some (.slice Ao31 t205.length co31) ∧ w'.cell? ⟨gb216, 2, none⟩ = some (.slice Ao32 t208.length co32) ∧ w'.cell? ⟨gb216, 3, none⟩ = some (.int .i64 t211) ∧ w'.cell? ⟨gb199, 0, none⟩ = some (.int .i64 a0_0) ∧ w'.cell? ⟨gb199, 1, none⟩ = some (.slice A0_1 l0_1.length c0_1)) (ds := []) #[false, false, false, false, false, false, false, false, false, false, false, false, false, false, false, false, false, false, false] (by kernel_rfl) rfl rfl ⟨(zql BK216.out 0).trans rfl, (zql BK216.out 1).trans rfl, (zql BK216.out 2).trans rfl, (zql BK216.out 3).trans rfl, (zql BK199.out 0).trans rfl, (zql BK199.out 1).trans rfl⟩ (fun hHeld => ?_); refine with_tabW sequiturlaw22_SolveAssumes.tab4 sequiturlaw22_SolveAssumes.bits4 (fun HT_ HW_ => ?_)
            generalize w37.drew = w38 at HO207 HO210 HO214 BK199 BK216 HB hHeld ⊢
            refine pure_ (i := 0) (N := some 31) (v := ?_) (a' := ?_) #[true, false, false, false, false, false, false, false, false, false, false, false, false, false, false, false, false, false, false] rfl rfl (any_of HT_.out (by kernel_rfl)) (fun _ _ _ h => h) (Or.inl ⟨by rfl, ?_⟩) ?_ ?_
            rotate_left
            · intro w'
              go_simp
              with_reducible rfl
            rotate_left
            · simp only [Act.put, zqf, zqg, zqh, i64_w, i32_w]
              rfl
            refine pure_ (i := 1) (N := some 32) (v := ?_) (a' := ?_) #[true, true, false, false, false, false, false, false, false, false, false, false, false, false, false, false, false, false, false] rfl rfl (any_of HT_.out (by kernel_rfl)) (fun _ _ _ h => h) (Or.inl ⟨by rfl, ?_⟩) ?_ ?_
            rotate_left
            · intro w'
              go_simp
              with_reducible rfl
            rotate_left
            · simp only [Act.put, zqf, zqg, zqh, i64_w, i32_w]
              rfl
            refine pure_ (i := 2) (N := some 33) (v := ?_) (a' := ?_) #[true, true, true, false, false, false, false, false, false, false, false, false, false, false, false, false, false, false, false] rfl rfl (any_of HT_.out (by kernel_rfl)) (fun _ _ _ h => h) (Or.inl ⟨by rfl, ?_⟩) ?_ ?_
            rotate_left
            · intro w'
              go_simp
              with_reducible rfl
            rotate_left
            · simp only [Act.put, zqf, zqg, zqh, i64_w, i32_w]
              rfl
            refine pure_ (i := 3) (N := some 34) (v := ?_) (a' := ?_) #[true, true, true, true, false, false, false, false, false, false, false, false, false, false, false, false, false, false, false] rfl rfl (any_of HT_.out (by kernel_rfl)) (fun _ _ _ h => h) (Or.inl ⟨by rfl, ?_⟩) ?_ ?_
            rotate_left
            · intro w'
              go_simp
              with_reducible rfl
            rotate_left
            · simp only [Act.put, zqf, zqg, zqh, i64_w, i32_w]
              rfl
            refine pure_ (i := 6) (N := some 37) (v := ?_) (a' := ?_) #[true, true, true, true, false, false, true, false, false, false, false, false, false, false, false, false, false, false, false] rfl rfl (any_of HT_.out (by kernel_rfl)) (fun _ _ _ h => h) (Or.inl ⟨by rfl, ?_⟩) ?_ ?_
            rotate_left
            · intro w'
              go_simp
              with_reducible rfl
            rotate_left
            · simp only [Act.put, zqf, zqg, zqh, i64_w, i32_w]
              rfl
            refine take_ (i := 4) (N := some 35) (v := ?_) (a' := ?_) #[true, true, true, true, true, false, true, false, false, false, false, false, false, false, false, false, false, false, false] rfl rfl (take_ofW HT_.out HW_.out (by kernel_rfl)) (fun _ _ _ h => h) (Or.inl ⟨by rfl, ?_⟩) hHeld ?_ ?_
            rotate_left
            · rintro w' ⟨s0, s1, s2, s3, s4, s5⟩
              go_simp
              with_reducible rfl
            rotate_left
            · simp only [Act.put, zqf, zqg, zqh, i64_w, i32_w]
              rfl
            refine take_ (i := 5) (N := some 36) (v := ?_) (a' := ?_) #[true, true, true, true, true, true, true, false, false, false, false, false, false, false, false, false, false, false, false] rfl rfl (take_ofW HT_.out HW_.out (by kernel_rfl)) (fun _ _ _ h => h) (Or.inl ⟨by rfl, ?_⟩) hHeld ?_ ?_
            rotate_left
            · rintro w' ⟨s0, s1, s2, s3, s4, s5⟩
              go_simp
              with_reducible rfl
            rotate_left
            · simp only [Act.put, zqf, zqg, zqh, i64_w, i32_w]
              rfl
            refine one_ (i := 7) (N := some 38) #[true, true, true, true, true, true, true, true, false, false, false, false, false, false, false, false, false, false, false] rfl rfl (one_of HT_.out (by kernel_rfl)) (by decide) (fun K hK => ?_)
            refine goes_ Try.func14 (by kernel_rfl) rfl #[.agg #[.int .i64 a0_0, .slice A0_1 l0_1.length c0_1], .slice A1 l1.length c1] (by rfl) rfl rfl (by (try simp only [List.map_toArray, List.map_cons, List.map_nil]); first | done | rfl | (simp only [zqq, zqr]; rfl)) ?_
            with_reducible refine (sequiturref22_Units.calls kj2 a0_0 (fun k_ => k_ < w.heap.size) _ _ l0_1 _ _ l1 t217 t218 _ ?side1 ?side2 ?side3 A34.out).mono ?_
            (case side1 => exact Kd.V_mk HC0_1.out (Kd.F_below (Kd.C_F (Kd.heap_slice 3 (Kd.heap_int .i64)) HR0_1.out) (by repeat (first | (with_reducible first | exact HB.out | apply zqb | apply zqa | apply zqc | refine zqd ?_ GE199.out | refine zqd ?_ GE216.out) | exact HB.out))))
            (case side2 => repeat (first | exact (Kd.C_below HR1.out HB.out) | (with_reducible refine Kd.C_alloc ?_ _) | (with_reducible refine Kd.C_drewN ?_ _) | (with_reducible refine Kd.C_drew ?_)))
            (case side3 => exact HC1.out)
            rintro e w39 ⟨v219, rfl, ho0, hb⟩
            refine ⟨_, rfl, ?_⟩
            have n0_ := K0 (Kd.R_below (by (with_reducible repeat (first | apply Kd.R_alloc | apply Kd.R_drewN | apply Kd.R_drew)); exact HO207.out) hb); have n1_ := K0 (Kd.N_elder' (by (with_reducible repeat (first | apply Kd.N_alloc | apply Kd.N_drewN | apply Kd.N_drew)); exact HO210.out) (Kd.N_base ho0) hb); have n2_ := K0 (Kd.R_below (by (with_reducible repeat (first | apply Kd.R_alloc | apply Kd.R_drewN | apply Kd.R_drew)); exact HO214.out) hb); have n3_ := K0 (Kd.N_lower (Kd.N_mono (ok' := fun k_ => some k_ ≠ (.slice Ao31 t205.length co31 : Value).ownBlock ∧ some k_ ≠ (.slice Ao32 t208.length co32 : Value).ownBlock ∧ some k_ ≠ (v213 : Value).ownBlock ∧ k_ ≠ gb199 ∧ k_ ≠ gb216) ho0 (fun k_ hk_ => ⟨Or.elim hk_ (fun hs_ => fun e_ => Nat.not_le.2 hs_ (Kd.R_base HO207.out k_ e_.symm)) (fun hn_ => (Kd.fresh' (Kd.R_lt (by (with_reducible repeat (first | apply Kd.R_alloc | apply Kd.R_drewN | apply Kd.R_drew)); exact HO207.out)) k_ hn_)), Or.elim hk_ (fun hs_ => fun e_ => Nat.not_le.2 hs_ (Kd.N_base HO210.out k_ e_.symm)) (fun hn_ => (Kd.fresh' (Kd.N_lt (by (with_reducible repeat (first | apply Kd.N_alloc | apply Kd.N_drewN | apply Kd.N_drew)); exact HO210.out)) k_ hn_)), Or.elim hk_ (fun hs_ => fun e_ => Nat.not_le.2 hs_ (Kd.R_base HO214.out k_ e_.symm)) (fun hn_ => (Kd.fresh' (Kd.R_lt (by (with_reducible repeat (first | apply Kd.R_alloc | apply Kd.R_drewN | apply Kd.R_drew)); exact HO214.out)) k_ hn_)), Or.elim hk_ (fun hs_ => fun e_ => Nat.not_le.2 hs_ (by rw [e_]; exact GW199.out)) (fun hn_ => (Kd.freshB (g := gb199) (o := .cells #[.int .i64 a0_0, .slice A0_1 l0_1.length c0_1] 24 (0, 0)) (by (with_reducible repeat (first | refine zqj ?_ _ | refine zqk ?_ | refine zqi ?_ _)); exact BK199.out) k_ hn_)), Or.elim hk_ (fun hs_ => fun e_ => Nat.not_le.2 hs_ (by rw [e_]; exact GW216.out)) (fun hn_ => (Kd.freshB (g := gb216) (o := .cells #[.bool t204, .slice Ao31 t205.length co31, .slice Ao32 t208.length co32, .int .i64 t211] 33 (0, 0)) (by (with_reducible repeat (first | refine zqj ?_ _ | refine zqk ?_ | refine zqi ?_ _)); exact BK216.out) k_ hn_))⟩)) (zqp (by repeat (first | (with_reducible first | exact HB.out | apply zqb | apply zqa | apply zqc | refine zqd ?_ GE199.out | refine zqd ?_ GE216.out) | exact HB.out)))); have n4_ := K0 (zqn (g := gb199) (o := .cells #[.int .i64 a0_0, .slice A0_1 l0_1.length c0_1] 24 (0, 0)) (by (with_reducible repeat (first | refine zqj ?_ _ | refine zqk ?_ | refine zqi ?_ _)); exact BK199.out) hb); have n5_ := K0 (zqn (g := gb216) (o := .cells #[.bool t204, .slice Ao31 t205.length co31, .slice Ao32 t208.length co32, .int .i64 t211] 33 (0, 0)) (by (with_reducible repeat (first | refine zqj ?_ _ | refine zqk ?_ | refine zqi ?_ _)); exact BK216.out) hb); have n6_ := K0 (zqo (by repeat (first | (with_reducible first | exact HB.out | apply zqb | apply zqa | apply zqc | refine zqd ?_ GE199.out | refine zqd ?_ GE216.out) | exact HB.out)) hb); clear HO207 HO210 HO214 BK199 BK216 HB; have HO207 := n0_; have HO210 := n1_; have HO214 := n2_; have HO220 := n3_; have BK199 := n4_; have BK216 := n5_; have HB := n6_; clear n0_ n1_ n2_ n3_ n4_ n5_ n6_
            (try clear hb)
            (try clear hb2)
            (try clear hk)
            (try clear hi)
            (try clear ho0)
            obtain ⟨Ao40, co40, eo40⟩ := Kd.N_slice HO220.out
            (first | subst eo40 | (injection eo40 with f1_ f2_ f3_; have f4_ := f1_.symm; have f5_ := f3_.symm; clear f1_ f2_ f3_; subst f4_; subst f5_))
            refine hK.out _ _ ⟨(zql BK216.out 0).trans rfl, (zql BK216.out 1).trans rfl, (zql BK216.out 2).trans rfl, (zql BK216.out 3).trans rfl, (zql BK199.out 0).trans rfl, (zql BK199.out 1).trans rfl⟩ (fun hHeld => ?_)
            clear hK K
            refine norm_ (a' := ?_) ?_ ?_
            rotate_left
            · show Act.put _ (some 38) _ = _
              simp only [Act.put, zqf, zqg, zqh, i64_w, i32_w]
              rfl
            refine one_ (i := 8) (N := some 39) #[true, true, true, true, true, true, true, true, true, false, false, false, false, false, false, false, false, false, false] rfl rfl (one_of HT_.out (by kernel_rfl)) (by decide) (fun K hK => ?_)
            refine goes_ Try.func13 (by kernel_rfl) rfl #[.agg #[.int .i64 t217, .slice Ao40 t218.length co40]] (by rfl) rfl rfl (by (try simp only [List.map_toArray, List.map_cons, List.map_nil]); first | done | rfl | (simp only [zqq, zqr]; rfl)) ?_
            with_reducible refine (sequiturref22_Some.calls kj2 t217 _ _ t218 t221 _ ?side1 ?side2 A35.out).mono ?_
            (case side1 => repeat (first | exact (Kd.N_reads' HO220.out).2.2 | (with_reducible refine Kd.C_alloc ?_ _) | (with_reducible refine Kd.C_drewN ?_ _) | (with_reducible refine Kd.C_drew ?_)))
            (case side2 => exact (Kd.N_reads' HO220.out).2.1)
            rintro e w41 ⟨rfl, hb⟩
            refine ⟨_, rfl, ?_⟩
            have n0_ := K0 (Kd.R_below (by (with_reducible repeat (first | apply Kd.R_alloc | apply Kd.R_drewN | apply Kd.R_drew)); exact HO207.out) hb); have n1_ := K0 (Kd.N_below (by (with_reducible repeat (first | apply Kd.N_alloc | apply Kd.N_drewN | apply Kd.N_drew)); exact HO210.out) hb); have n2_ := K0 (Kd.R_below (by (with_reducible repeat (first | apply Kd.R_alloc | apply Kd.R_drewN | apply Kd.R_drew)); exact HO214.out) hb); have n3_ := K0 (Kd.N_below (by (with_reducible repeat (first | apply Kd.N_alloc | apply Kd.N_drewN | apply Kd.N_drew)); exact HO220.out) hb); have n4_ := K0 (zqn (g := gb199) (o := .cells #[.int .i64 a0_0, .slice A0_1 l0_1.length c0_1] 24 (0, 0)) (by (with_reducible repeat (first | refine zqj ?_ _ | refine zqk ?_ | refine zqi ?_ _)); exact BK199.out) hb); have n5_ := K0 (zqn (g := gb216) (o := .cells #[.bool t204, .slice Ao31 t205.length co31, .slice Ao32 t208.length co32, .int .i64 t211] 33 (0, 0)) (by (with_reducible repeat (first | refine zqj ?_ _ | refine zqk ?_ | refine zqi ?_ _)); exact BK216.out) hb); have n6_ := K0 (zqo (by repeat (first | (with_reducible first | exact HB.out | apply zqb | apply zqa | apply zqc | refine zqd ?_ GE199.out | refine zqd ?_ GE216.out) | exact HB.out)) hb); clear HO207 HO210 HO214 HO220 BK199 BK216 HB; have HO207 := n0_; have HO210 := n1_; have HO214 := n2_; have HO220 := n3_; have BK199 := n4_; have BK216 := n5_; have HB := n6_; clear n0_ n1_ n2_ n3_ n4_ n5_ n6_
            (try clear hb)
            (try clear hb2)
            (try clear hk)
            (try clear hi)
            refine hK.out _ _ ⟨(zql BK216.out 0).trans rfl, (zql BK216.out 1).trans rfl, (zql BK216.out 2).trans rfl, (zql BK216.out 3).trans rfl, (zql BK199.out 0).trans rfl, (zql BK199.out 1).trans rfl⟩ (fun hHeld => ?_)
            clear hK K
            refine norm_ (a' := ?_) ?_ ?_
            rotate_left
            · show Act.put _ (some 39) _ = _
              simp only [Act.put, zqf, zqg, zqh, i64_w, i32_w]
              rfl
            refine pure_ (i := 9) (N := some 40) (v := ?_) (a' := ?_) #[true, true, true, true, true, true, true, true, true, true, false, false, false, false, false, false, false, false, false] rfl rfl (any_of HT_.out (by kernel_rfl)) (fun _ _ _ h => h) (Or.inl ⟨by rfl, ?_⟩) ?_ ?_
            rotate_left
            · intro w'
              go_simp
              with_reducible rfl
            rotate_left
            · simp only [Act.put, zqf, zqg, zqh, i64_w, i32_w]
              rfl
            refine pure_ (i := 10) (N := some 41) (v := ?_) (a' := ?_) #[true, true, true, true, true, true, true, true, true, true, true, false, false, false, false, false, false, false, false] rfl rfl (any_of HT_.out (by kernel_rfl)) (fun _ _ _ h => h) (Or.inl ⟨by rfl, ?_⟩) ?_ ?_
            rotate_left
            · intro w'
              go_simp
              with_reducible rfl
            rotate_left
            · simp only [Act.put, zqf, zqg, zqh, i64_w, i32_w]
              rfl
            refine pure_ (i := 11) (N := some 42) (v := ?_) (a' := ?_) #[true, true, true, true, true, true, true, true, true, true, true, true, false, false, false, false, false, false, false] rfl rfl (any_of HT_.out (by kernel_rfl)) (fun _ _ _ h => h) (Or.inl ⟨by rfl, ?_⟩) ?_ ?_
            rotate_left
            · intro w'
              go_simp
              with_reducible rfl
            rotate_left
            · simp only [Act.put, zqf, zqg, zqh, i64_w, i32_w]
              rfl
            refine pure_ (i := 12) (N := some 43) (v := undef) (a' := ?_) #[true, true, true, true, true, true, true, true, true, true, true, true, true, false, false, false, false, false, false] rfl rfl (any_of HT_.out (by kernel_rfl)) (fun _ _ _ h => h) (Or.inr ⟨by rfl, rfl⟩) ?_ ?_
            rotate_left
            · simp only [Act.put, zqf, zqg, zqh, i64_w, i32_w]
              rfl
            refine pure_ (i := 13) (N := some 44) (v := undef) (a' := ?_) #[true, true, true, true, true, true, true, true, true, true, true, true, true, true, false, false, false, false, false] rfl rfl (any_of HT_.out (by kernel_rfl)) (fun _ _ _ h => h) (Or.inr ⟨by rfl, rfl⟩) ?_ ?_
            rotate_left
            · simp only [Act.put, zqf, zqg, zqh, i64_w, i32_w]
              rfl
            refine pure_ (i := 14) (N := some 45) (v := undef) (a' := ?_) #[true, true, true, true, true, true, true, true, true, true, true, true, true, true, true, false, false, false, false] rfl rfl (any_of HT_.out (by kernel_rfl)) (fun _ _ _ h => h) (Or.inr ⟨by rfl, rfl⟩) ?_ ?_
            rotate_left
            · simp only [Act.put, zqf, zqg, zqh, i64_w, i32_w]
              rfl
            refine pure_ (i := 15) (N := some 46) (v := undef) (a' := ?_) #[true, true, true, true, true, true, true, true, true, true, true, true, true, true, true, true, false, false, false] rfl rfl (any_of HT_.out (by kernel_rfl)) (fun _ _ _ h => h) (Or.inr ⟨by rfl, rfl⟩) ?_ ?_
            rotate_left
            · simp only [Act.put, zqf, zqg, zqh, i64_w, i32_w]
              rfl
            refine pure_ (i := 16) (N := some 47) (v := undef) (a' := ?_) #[true, true, true, true, true, true, true, true, true, true, true, true, true, true, true, true, true, false, false] rfl rfl (any_of HT_.out (by kernel_rfl)) (fun _ _ _ h => h) (Or.inr ⟨by rfl, rfl⟩) ?_ ?_
            rotate_left
            · simp only [Act.put, zqf, zqg, zqh, i64_w, i32_w]
              rfl
            refine pure_ (i := 17) (N := some 48) (v := undef) (a' := ?_) #[true, true, true, true, true, true, true, true, true, true, true, true, true, true, true, true, true, true, false] rfl rfl (any_of HT_.out (by kernel_rfl)) (fun _ _ _ h => h) (Or.inr ⟨by rfl, rfl⟩) ?_ ?_
            rotate_left
            · simp only [Act.put, zqf, zqg, zqh, i64_w, i32_w]
              rfl
            refine pure_ (i := 18) (N := some 49) (v := ?_) (a' := ?_) #[true, true, true, true, true, true, true, true, true, true, true, true, true, true, true, true, true, true, true] rfl rfl (any_of HT_.out (by kernel_rfl)) (fun _ _ _ h => h) (Or.inl ⟨by rfl, ?_⟩) ?_ ?_
            rotate_left
            · intro w'
              go_simp
              with_reducible rfl
            rotate_left
            · simp only [Act.put, zqf, zqg, zqh, i64_w, i32_w]
              rfl
            refine done_ (done_of HT_.out (by kernel_rfl)) ?_
            try go_wp2
            go_meet
            case rel => exact ⟨_, (true), (by first | rfl | (simp; done) | (simp [*]; done)), H', ⟨by have := HJ2.out; first | omega | exact zqx _⟩, ⟨by (with_reducible repeat (first | apply Kd.R_alloc | apply Kd.R_drewN | apply Kd.R_drew)); exact HO214.out⟩, ⟨by (with_reducible repeat (first | apply Kd.R_alloc | apply Kd.R_drewN | apply Kd.R_drew)); exact HO207.out⟩, ⟨by (with_reducible repeat (first | apply Kd.N_alloc | apply Kd.N_drewN | apply Kd.N_drew)); exact Kd.N_mono HO210.out (fun _ hk => ⟨hk.1.2.1, ⟨hk.1.1, ⟨hk.1.2.2.1, hk.1.2.2.2⟩⟩⟩)⟩, ⟨by (with_reducible repeat (first | refine zqj ?_ _ | refine zqk ?_ | refine zqi ?_ _)); exact BK199.out⟩, ⟨by (with_reducible repeat (first | refine zqj ?_ _ | refine zqk ?_ | refine zqi ?_ _)); exact BK216.out⟩, ⟨by repeat (first | (with_reducible first | exact HB.out | apply zqb | apply zqa | apply zqc | refine zqd ?_ GE199.out | refine zqd ?_ GE216.out) | exact HB.out)⟩⟩
        rw [if_neg c36] at H
        have c36b0 : (t204 != t221) = false := by simpa using c36
        (try (have c36b1 : decide (t204 = t221) = true := by simpa using c36))
        (try (have c36b2 : (t204 == t221) = true := by simpa using c36))
        clear c36
        replace H := Option.bind_eq_some_iff.mp H
        obtain ⟨t222, A420, H⟩ := H
        replace H : (sequiturlaw22_SolveAssumes.j1 kj2 t212 (!t222) a0_0 l0_1 t204 t205 t208 t211) = some r := H
        have A42 := K0 A420; clear A420
        as_aux_lemma =>
          have H' := K0 H
          clear H
          try go_wp2
          have n0_ : Aside0 (Kd.R Kd.bool 4 ((((w28.setCell ⟨gb216, 0, none⟩ (.bool t204)).setCell ⟨gb216, 1, none⟩ (.slice Ao31 t205.length co31)).setCell ⟨gb216, 2, none⟩ (.slice Ao32 t208.length co32)).setCell ⟨gb216, 3, none⟩ (.int .i64 t211)) w.heap.size (fun _ => True) (.slice Ao31 t205.length co31) t205) := ⟨by (with_reducible repeat (first | apply Kd.R_alloc | apply Kd.R_drewN | apply Kd.R_drew)); exact Kd.R_mono (Kd.R_far (p := ⟨gb216, 3, none⟩) (Kd.R_far (p := ⟨gb216, 2, none⟩) (Kd.R_far (p := ⟨gb216, 1, none⟩) (Kd.R_far (p := ⟨gb216, 0, none⟩) (Kd.R_types HO207.out BK216.out (by decide)) (fun _ hk => hk.2) (.bool t204)) (fun _ hk => hk.2) (.slice Ao31 t205.length co31)) (fun _ hk => hk.2) (.slice Ao32 t208.length co32)) (fun _ hk => hk.2) (.int .i64 t211)) (fun _ hk => trivial)⟩
          have n1_ : Aside0 (Kd.N k64 64 ((((w28.setCell ⟨gb216, 0, none⟩ (.bool t204)).setCell ⟨gb216, 1, none⟩ (.slice Ao31 t205.length co31)).setCell ⟨gb216, 2, none⟩ (.slice Ao32 t208.length co32)).setCell ⟨gb216, 3, none⟩ (.int .i64 t211)) w.heap.size (fun k_ => some k_ ≠ (.slice Ao31 t205.length co31 : Value).ownBlock ∧ some k_ ≠ (v213 : Value).ownBlock ∧ k_ ≠ gb199 ∧ k_ ≠ gb216) (.slice Ao32 t208.length co32) t208) := ⟨by (with_reducible repeat (first | apply Kd.N_alloc | apply Kd.N_drewN | apply Kd.N_drew)); exact Kd.N_mono (Kd.N_far (p := ⟨gb216, 3, none⟩) (Kd.N_far (p := ⟨gb216, 2, none⟩) (Kd.N_far (p := ⟨gb216, 1, none⟩) (Kd.N_far (p := ⟨gb216, 0, none⟩) (Kd.N_mono HO210.out (fun k_ hk => (⟨hk, hk.2⟩ : _ ∧ k_ ≠ gb216))) (fun _ hk => hk.2) (.bool t204)) (fun _ hk => hk.2) (.slice Ao31 t205.length co31)) (fun _ hk => hk.2) (.slice Ao32 t208.length co32)) (fun _ hk => hk.2) (.int .i64 t211)) (fun _ hk => ⟨hk.1.1.1, ⟨hk.1.1.2.1, ⟨hk.1.1.2.2, hk.1.2⟩⟩⟩)⟩
          have n2_ : Aside0 (Kd.R (Kd.int .i64) 3 ((((w28.setCell ⟨gb216, 0, none⟩ (.bool t204)).setCell ⟨gb216, 1, none⟩ (.slice Ao31 t205.length co31)).setCell ⟨gb216, 2, none⟩ (.slice Ao32 t208.length co32)).setCell ⟨gb216, 3, none⟩ (.int .i64 t211)) w.heap.size (fun _ => True) v213 t212) := ⟨by (with_reducible repeat (first | apply Kd.R_alloc | apply Kd.R_drewN | apply Kd.R_drew)); exact Kd.R_mono (Kd.R_far (p := ⟨gb216, 3, none⟩) (Kd.R_far (p := ⟨gb216, 2, none⟩) (Kd.R_far (p := ⟨gb216, 1, none⟩) (Kd.R_far (p := ⟨gb216, 0, none⟩) (Kd.R_types HO214.out BK216.out (by decide)) (fun _ hk => hk.2) (.bool t204)) (fun _ hk => hk.2) (.slice Ao31 t205.length co31)) (fun _ hk => hk.2) (.slice Ao32 t208.length co32)) (fun _ hk => hk.2) (.int .i64 t211)) (fun _ hk => trivial)⟩
          have n3_ : Aside0 (((((w28.setCell ⟨gb216, 0, none⟩ (.bool t204)).setCell ⟨gb216, 1, none⟩ (.slice Ao31 t205.length co31)).setCell ⟨gb216, 2, none⟩ (.slice Ao32 t208.length co32)).setCell ⟨gb216, 3, none⟩ (.int .i64 t211)).heap[gb199]? = some (.cells #[.int .i64 a0_0, .slice A0_1 l0_1.length c0_1] 24 (0, 0))) := ⟨by (with_reducible repeat (first | refine zqj ?_ _ | refine zqk ?_ | refine zqi ?_ _)); refine blk_far ?_ NB199_216.out _; (with_reducible repeat (first | refine zqj ?_ _ | refine zqk ?_ | refine zqi ?_ _)); refine blk_far ?_ NB199_216.out _; (with_reducible repeat (first | refine zqj ?_ _ | refine zqk ?_ | refine zqi ?_ _)); refine blk_far ?_ NB199_216.out _; (with_reducible repeat (first | refine zqj ?_ _ | refine zqk ?_ | refine zqi ?_ _)); refine blk_far ?_ NB199_216.out _; (with_reducible repeat (first | refine zqj ?_ _ | refine zqk ?_ | refine zqi ?_ _)); exact BK199.out⟩
          have n4_ : Aside0 (((((w28.setCell ⟨gb216, 0, none⟩ (.bool t204)).setCell ⟨gb216, 1, none⟩ (.slice Ao31 t205.length co31)).setCell ⟨gb216, 2, none⟩ (.slice Ao32 t208.length co32)).setCell ⟨gb216, 3, none⟩ (.int .i64 t211)).heap[gb216]? = some (.cells #[.bool t204, .slice Ao31 t205.length co31, .slice Ao32 t208.length co32, .int .i64 t211] 33 (0, 0))) := ⟨by (with_reducible repeat (first | refine zqj ?_ _ | refine zqk ?_ | refine zqi ?_ _)); refine blk_put (cs := #[.bool t204, .slice Ao31 t205.length co31, .slice Ao32 t208.length co32, .int .i64 0]) ?_ 3 _ rfl; (with_reducible repeat (first | refine zqj ?_ _ | refine zqk ?_ | refine zqi ?_ _)); refine blk_put (cs := #[.bool t204, .slice Ao31 t205.length co31, .slice none 0 0, .int .i64 0]) ?_ 2 _ rfl; (with_reducible repeat (first | refine zqj ?_ _ | refine zqk ?_ | refine zqi ?_ _)); refine blk_put (cs := #[.bool t204, .slice none 0 0, .slice none 0 0, .int .i64 0]) ?_ 1 _ rfl; (with_reducible repeat (first | refine zqj ?_ _ | refine zqk ?_ | refine zqi ?_ _)); refine blk_put (cs := #[.bool false, .slice none 0 0, .slice none 0 0, .int .i64 0]) ?_ 0 _ rfl; (with_reducible repeat (first | refine zqj ?_ _ | refine zqk ?_ | refine zqi ?_ _)); exact BK216.out⟩
          have n5_ : Aside0 (Below w.heap.size w ((((w28.setCell ⟨gb216, 0, none⟩ (.bool t204)).setCell ⟨gb216, 1, none⟩ (.slice Ao31 t205.length co31)).setCell ⟨gb216, 2, none⟩ (.slice Ao32 t208.length co32)).setCell ⟨gb216, 3, none⟩ (.int .i64 t211))) := ⟨by repeat (first | (with_reducible first | exact HB.out | apply zqb | apply zqa | apply zqc | refine zqd ?_ GE199.out | refine zqd ?_ GE216.out) | exact HB.out)⟩
          (try clear HO207)
          (try clear HO210)
          (try clear HO214)
          (try clear BK199)
          (try clear BK216)
          (try clear HB)
          generalize ((((w28.setCell ⟨gb216, 0, none⟩ (.bool t204)).setCell ⟨gb216, 1, none⟩ (.slice Ao31 t205.length co31)).setCell ⟨gb216, 2, none⟩ (.slice Ao32 t208.length co32)).setCell ⟨gb216, 3, none⟩ (.int .i64 t211)) = w43 at n0_ n1_ n2_ n3_ n4_ n5_ ⊢
          have HO207 := n0_; have HO210 := n1_; have HO214 := n2_; have BK199 := n3_; have BK216 := n4_; have HB := n5_; clear n0_ n1_ n2_ n3_ n4_ n5_; have n0_ := K0 (Kd.R_drew HO207.out); have n1_ := K0 (Kd.N_drew HO210.out); have n2_ := K0 (Kd.R_drew HO214.out); have n3_ := K0 (zqk BK199.out); have n4_ := K0 (zqk BK216.out); have n5_ := K0 (zqc HB.out); clear HO207 HO210 HO214 BK199 BK216 HB; have HO207 := n0_; have HO210 := n1_; have HO214 := n2_; have BK199 := n3_; have BK216 := n4_; have HB := n5_; clear n0_ n1_ n2_ n3_ n4_ n5_
          refine start_ (n := 19) (S := fun w' => w'.cell? ⟨gb216, 0, none⟩ = some (.bool t204) ∧ w'.cell? ⟨gb216, 1, none⟩ = some (.slice Ao31 t205.length co31) ∧ w'.cell? ⟨gb216, 2, none⟩ = some (.slice Ao32 t208.length co32) ∧ w'.cell? ⟨gb216, 3, none⟩ = some (.int .i64 t211) ∧ w'.cell? ⟨gb199, 0, none⟩ = some (.int .i64 a0_0) ∧ w'.cell? ⟨gb199, 1, none⟩ = some (.slice A0_1 l0_1.length c0_1)) (ds := []) #[false, false, false, false, false, false, false, false, false, false, false, false, false, false, false, false, false, false, false] (by kernel_rfl) rfl rfl ⟨(zql BK216.out 0).trans rfl, (zql BK216.out 1).trans rfl, (zql BK216.out 2).trans rfl, (zql BK216.out 3).trans rfl, (zql BK199.out 0).trans rfl, (zql BK199.out 1).trans rfl⟩ (fun hHeld => ?_); refine with_tabW sequiturlaw22_SolveAssumes.tab4 sequiturlaw22_SolveAssumes.bits4 (fun HT_ HW_ => ?_)
          generalize w43.drew = w44 at HO207 HO210 HO214 BK199 BK216 HB hHeld ⊢
          refine pure_ (i := 0) (N := some 31) (v := ?_) (a' := ?_) #[true, false, false, false, false, false, false, false, false, false, false, false, false, false, false, false, false, false, false] rfl rfl (any_of HT_.out (by kernel_rfl)) (fun _ _ _ h => h) (Or.inl ⟨by rfl, ?_⟩) ?_ ?_
          rotate_left
          · intro w'
            go_simp
            with_reducible rfl
          rotate_left
          · simp only [Act.put, zqf, zqg, zqh, i64_w, i32_w]
            rfl
          refine pure_ (i := 1) (N := some 32) (v := ?_) (a' := ?_) #[true, true, false, false, false, false, false, false, false, false, false, false, false, false, false, false, false, false, false] rfl rfl (any_of HT_.out (by kernel_rfl)) (fun _ _ _ h => h) (Or.inl ⟨by rfl, ?_⟩) ?_ ?_
          rotate_left
          · intro w'
            go_simp
            with_reducible rfl
          rotate_left
          · simp only [Act.put, zqf, zqg, zqh, i64_w, i32_w]
            rfl
          refine pure_ (i := 2) (N := some 33) (v := ?_) (a' := ?_) #[true, true, true, false, false, false, false, false, false, false, false, false, false, false, false, false, false, false, false] rfl rfl (any_of HT_.out (by kernel_rfl)) (fun _ _ _ h => h) (Or.inl ⟨by rfl, ?_⟩) ?_ ?_
          rotate_left
          · intro w'
            go_simp
            with_reducible rfl
          rotate_left
          · simp only [Act.put, zqf, zqg, zqh, i64_w, i32_w]
            rfl
          refine pure_ (i := 3) (N := some 34) (v := ?_) (a' := ?_) #[true, true, true, true, false, false, false, false, false, false, false, false, false, false, false, false, false, false, false] rfl rfl (any_of HT_.out (by kernel_rfl)) (fun _ _ _ h => h) (Or.inl ⟨by rfl, ?_⟩) ?_ ?_
          rotate_left
          · intro w'
            go_simp
            with_reducible rfl
          rotate_left
          · simp only [Act.put, zqf, zqg, zqh, i64_w, i32_w]
            rfl
          refine pure_ (i := 6) (N := some 37) (v := ?_) (a' := ?_) #[true, true, true, true, false, false, true, false, false, false, false, false, false, false, false, false, false, false, false] rfl rfl (any_of HT_.out (by kernel_rfl)) (fun _ _ _ h => h) (Or.inl ⟨by rfl, ?_⟩) ?_ ?_
          rotate_left
          · intro w'
            go_simp
            with_reducible rfl
          rotate_left
          · simp only [Act.put, zqf, zqg, zqh, i64_w, i32_w]
            rfl
          refine take_ (i := 4) (N := some 35) (v := ?_) (a' := ?_) #[true, true, true, true, true, false, true, false, false, false, false, false, false, false, false, false, false, false, false] rfl rfl (take_ofW HT_.out HW_.out (by kernel_rfl)) (fun _ _ _ h => h) (Or.inl ⟨by rfl, ?_⟩) hHeld ?_ ?_
          rotate_left
          · rintro w' ⟨s0, s1, s2, s3, s4, s5⟩
            go_simp
            with_reducible rfl
          rotate_left
          · simp only [Act.put, zqf, zqg, zqh, i64_w, i32_w]
            rfl
          refine take_ (i := 5) (N := some 36) (v := ?_) (a' := ?_) #[true, true, true, true, true, true, true, false, false, false, false, false, false, false, false, false, false, false, false] rfl rfl (take_ofW HT_.out HW_.out (by kernel_rfl)) (fun _ _ _ h => h) (Or.inl ⟨by rfl, ?_⟩) hHeld ?_ ?_
          rotate_left
          · rintro w' ⟨s0, s1, s2, s3, s4, s5⟩
            go_simp
            with_reducible rfl
          rotate_left
          · simp only [Act.put, zqf, zqg, zqh, i64_w, i32_w]
            rfl
          refine one_ (i := 7) (N := some 38) #[true, true, true, true, true, true, true, true, false, false, false, false, false, false, false, false, false, false, false] rfl rfl (one_of HT_.out (by kernel_rfl)) (by decide) (fun K hK => ?_)
          refine goes_ Try.func14 (by kernel_rfl) rfl #[.agg #[.int .i64 a0_0, .slice A0_1 l0_1.length c0_1], .slice A1 l1.length c1] (by rfl) rfl rfl (by (try simp only [List.map_toArray, List.map_cons, List.map_nil]); first | done | rfl | (simp only [zqq, zqr]; rfl)) ?_
          with_reducible refine (sequiturref22_Units.calls kj2 a0_0 (fun k_ => k_ < w.heap.size) _ _ l0_1 _ _ l1 t217 t218 _ ?side1 ?side2 ?side3 A34.out).mono ?_
          (case side1 => exact Kd.V_mk HC0_1.out (Kd.F_below (Kd.C_F (Kd.heap_slice 3 (Kd.heap_int .i64)) HR0_1.out) (by repeat (first | (with_reducible first | exact HB.out | apply zqb | apply zqa | apply zqc | refine zqd ?_ GE199.out | refine zqd ?_ GE216.out) | exact HB.out))))
          (case side2 => repeat (first | exact (Kd.C_below HR1.out HB.out) | (with_reducible refine Kd.C_alloc ?_ _) | (with_reducible refine Kd.C_drewN ?_ _) | (with_reducible refine Kd.C_drew ?_)))
          (case side3 => exact HC1.out)
          rintro e w45 ⟨v219, rfl, ho0, hb⟩
          refine ⟨_, rfl, ?_⟩
          have n0_ := K0 (Kd.R_below (by (with_reducible repeat (first | apply Kd.R_alloc | apply Kd.R_drewN | apply Kd.R_drew)); exact HO207.out) hb); have n1_ := K0 (Kd.N_elder' (by (with_reducible repeat (first | apply Kd.N_alloc | apply Kd.N_drewN | apply Kd.N_drew)); exact HO210.out) (Kd.N_base ho0) hb); have n2_ := K0 (Kd.R_below (by (with_reducible repeat (first | apply Kd.R_alloc | apply Kd.R_drewN | apply Kd.R_drew)); exact HO214.out) hb); have n3_ := K0 (Kd.N_lower (Kd.N_mono (ok' := fun k_ => some k_ ≠ (.slice Ao31 t205.length co31 : Value).ownBlock ∧ some k_ ≠ (.slice Ao32 t208.length co32 : Value).ownBlock ∧ some k_ ≠ (v213 : Value).ownBlock ∧ k_ ≠ gb199 ∧ k_ ≠ gb216) ho0 (fun k_ hk_ => ⟨Or.elim hk_ (fun hs_ => fun e_ => Nat.not_le.2 hs_ (Kd.R_base HO207.out k_ e_.symm)) (fun hn_ => (Kd.fresh' (Kd.R_lt (by (with_reducible repeat (first | apply Kd.R_alloc | apply Kd.R_drewN | apply Kd.R_drew)); exact HO207.out)) k_ hn_)), Or.elim hk_ (fun hs_ => fun e_ => Nat.not_le.2 hs_ (Kd.N_base HO210.out k_ e_.symm)) (fun hn_ => (Kd.fresh' (Kd.N_lt (by (with_reducible repeat (first | apply Kd.N_alloc | apply Kd.N_drewN | apply Kd.N_drew)); exact HO210.out)) k_ hn_)), Or.elim hk_ (fun hs_ => fun e_ => Nat.not_le.2 hs_ (Kd.R_base HO214.out k_ e_.symm)) (fun hn_ => (Kd.fresh' (Kd.R_lt (by (with_reducible repeat (first | apply Kd.R_alloc | apply Kd.R_drewN | apply Kd.R_drew)); exact HO214.out)) k_ hn_)), Or.elim hk_ (fun hs_ => fun e_ => Nat.not_le.2 hs_ (by rw [e_]; exact GW199.out)) (fun hn_ => (Kd.freshB (g := gb199) (o := .cells #[.int .i64 a0_0, .slice A0_1 l0_1.length c0_1] 24 (0, 0)) (by (with_reducible repeat (first | refine zqj ?_ _ | refine zqk ?_ | refine zqi ?_ _)); exact BK199.out) k_ hn_)), Or.elim hk_ (fun hs_ => fun e_ => Nat.not_le.2 hs_ (by rw [e_]; exact GW216.out)) (fun hn_ => (Kd.freshB (g := gb216) (o := .cells #[.bool t204, .slice Ao31 t205.length co31, .slice Ao32 t208.length co32, .int .i64 t211] 33 (0, 0)) (by (with_reducible repeat (first | refine zqj ?_ _ | refine zqk ?_ | refine zqi ?_ _)); exact BK216.out) k_ hn_))⟩)) (zqp (by repeat (first | (with_reducible first | exact HB.out | apply zqb | apply zqa | apply zqc | refine zqd ?_ GE199.out | refine zqd ?_ GE216.out) | exact HB.out)))); have n4_ := K0 (zqn (g := gb199) (o := .cells #[.int .i64 a0_0, .slice A0_1 l0_1.length c0_1] 24 (0, 0)) (by (with_reducible repeat (first | refine zqj ?_ _ | refine zqk ?_ | refine zqi ?_ _)); exact BK199.out) hb); have n5_ := K0 (zqn (g := gb216) (o := .cells #[.bool t204, .slice Ao31 t205.length co31, .slice Ao32 t208.length co32, .int .i64 t211] 33 (0, 0)) (by (with_reducible repeat (first | refine zqj ?_ _ | refine zqk ?_ | refine zqi ?_ _)); exact BK216.out) hb); have n6_ := K0 (zqo (by repeat (first | (with_reducible first | exact HB.out | apply zqb | apply zqa | apply zqc | refine zqd ?_ GE199.out | refine zqd ?_ GE216.out) | exact HB.out)) hb); clear HO207 HO210 HO214 BK199 BK216 HB; have HO207 := n0_; have HO210 := n1_; have HO214 := n2_; have HO220 := n3_; have BK199 := n4_; have BK216 := n5_; have HB := n6_; clear n0_ n1_ n2_ n3_ n4_ n5_ n6_
          (try clear hb)
          (try clear hb2)
          (try clear hk)
          (try clear hi)
          (try clear ho0)
          obtain ⟨Ao46, co46, eo46⟩ := Kd.N_slice HO220.out
          (first | subst eo46 | (injection eo46 with f1_ f2_ f3_; have f4_ := f1_.symm; have f5_ := f3_.symm; clear f1_ f2_ f3_; subst f4_; subst f5_))
          refine hK.out _ _ ⟨(zql BK216.out 0).trans rfl, (zql BK216.out 1).trans rfl, (zql BK216.out 2).trans rfl, (zql BK216.out 3).trans rfl, (zql BK199.out 0).trans rfl, (zql BK199.out 1).trans rfl⟩ (fun hHeld => ?_)
          clear hK K
          refine norm_ (a' := ?_) ?_ ?_
          rotate_left
          · show Act.put _ (some 38) _ = _
            simp only [Act.put, zqf, zqg, zqh, i64_w, i32_w]
            rfl
          refine one_ (i := 8) (N := some 39) #[true, true, true, true, true, true, true, true, true, false, false, false, false, false, false, false, false, false, false] rfl rfl (one_of HT_.out (by kernel_rfl)) (by decide) (fun K hK => ?_)
          refine goes_ Try.func13 (by kernel_rfl) rfl #[.agg #[.int .i64 t217, .slice Ao46 t218.length co46]] (by rfl) rfl rfl (by (try simp only [List.map_toArray, List.map_cons, List.map_nil]); first | done | rfl | (simp only [zqq, zqr]; rfl)) ?_
          with_reducible refine (sequiturref22_Some.calls kj2 t217 _ _ t218 t221 _ ?side1 ?side2 A35.out).mono ?_
          (case side1 => repeat (first | exact (Kd.N_reads' HO220.out).2.2 | (with_reducible refine Kd.C_alloc ?_ _) | (with_reducible refine Kd.C_drewN ?_ _) | (with_reducible refine Kd.C_drew ?_)))
          (case side2 => exact (Kd.N_reads' HO220.out).2.1)
          rintro e w47 ⟨rfl, hb⟩
          refine ⟨_, rfl, ?_⟩
          have n0_ := K0 (Kd.R_below (by (with_reducible repeat (first | apply Kd.R_alloc | apply Kd.R_drewN | apply Kd.R_drew)); exact HO207.out) hb); have n1_ := K0 (Kd.N_below (by (with_reducible repeat (first | apply Kd.N_alloc | apply Kd.N_drewN | apply Kd.N_drew)); exact HO210.out) hb); have n2_ := K0 (Kd.R_below (by (with_reducible repeat (first | apply Kd.R_alloc | apply Kd.R_drewN | apply Kd.R_drew)); exact HO214.out) hb); have n3_ := K0 (Kd.N_below (by (with_reducible repeat (first | apply Kd.N_alloc | apply Kd.N_drewN | apply Kd.N_drew)); exact HO220.out) hb); have n4_ := K0 (zqn (g := gb199) (o := .cells #[.int .i64 a0_0, .slice A0_1 l0_1.length c0_1] 24 (0, 0)) (by (with_reducible repeat (first | refine zqj ?_ _ | refine zqk ?_ | refine zqi ?_ _)); exact BK199.out) hb); have n5_ := K0 (zqn (g := gb216) (o := .cells #[.bool t204, .slice Ao31 t205.length co31, .slice Ao32 t208.length co32, .int .i64 t211] 33 (0, 0)) (by (with_reducible repeat (first | refine zqj ?_ _ | refine zqk ?_ | refine zqi ?_ _)); exact BK216.out) hb); have n6_ := K0 (zqo (by repeat (first | (with_reducible first | exact HB.out | apply zqb | apply zqa | apply zqc | refine zqd ?_ GE199.out | refine zqd ?_ GE216.out) | exact HB.out)) hb); clear HO207 HO210 HO214 HO220 BK199 BK216 HB; have HO207 := n0_; have HO210 := n1_; have HO214 := n2_; have HO220 := n3_; have BK199 := n4_; have BK216 := n5_; have HB := n6_; clear n0_ n1_ n2_ n3_ n4_ n5_ n6_
          (try clear hb)
          (try clear hb2)
          (try clear hk)
          (try clear hi)
          obtain ⟨Ao48, co48, eo48⟩ := Kd.R_slice HO214.out
          (first | subst eo48 | (injection eo48 with f1_ f2_ f3_; have f4_ := f1_.symm; have f5_ := f3_.symm; clear f1_ f2_ f3_; subst f4_; subst f5_))
          refine hK.out _ _ ⟨(zql BK216.out 0).trans rfl, (zql BK216.out 1).trans rfl, (zql BK216.out 2).trans rfl, (zql BK216.out 3).trans rfl, (zql BK199.out 0).trans rfl, (zql BK199.out 1).trans rfl⟩ (fun hHeld => ?_)
          clear hK K
          refine norm_ (a' := ?_) ?_ ?_
          rotate_left
          · show Act.put _ (some 39) _ = _
            simp only [Act.put, zqf, zqg, zqh, i64_w, i32_w]
            rfl
          refine pure_ (i := 9) (N := some 40) (v := ?_) (a' := ?_) #[true, true, true, true, true, true, true, true, true, true, false, false, false, false, false, false, false, false, false] rfl rfl (any_of HT_.out (by kernel_rfl)) (fun _ _ _ h => h) (Or.inl ⟨by rfl, ?_⟩) ?_ ?_
          rotate_left
          · intro w'
            go_simp
            with_reducible rfl
          rotate_left
          · simp only [Act.put, zqf, zqg, zqh, i64_w, i32_w]
            rfl
          refine pure_ (i := 10) (N := some 41) (v := ?_) (a' := ?_) #[true, true, true, true, true, true, true, true, true, true, true, false, false, false, false, false, false, false, false] rfl rfl (any_of HT_.out (by kernel_rfl)) (fun _ _ _ h => h) (Or.inl ⟨by rfl, ?_⟩) ?_ ?_
          rotate_left
          · intro w'
            go_simp
            with_reducible rfl
          rotate_left
          · simp only [Act.put, zqf, zqg, zqh, i64_w, i32_w]
            rfl
          refine pure_ (i := 11) (N := some 42) (v := ?_) (a' := ?_) #[true, true, true, true, true, true, true, true, true, true, true, true, false, false, false, false, false, false, false] rfl rfl (any_of HT_.out (by kernel_rfl)) (fun _ _ _ h => h) (Or.inl ⟨by rfl, ?_⟩) ?_ ?_
          rotate_left
          · intro w'
            go_simp
            with_reducible rfl
          rotate_left
          · simp only [Act.put, zqf, zqg, zqh, i64_w, i32_w]
            rfl
          refine pure_ (i := 14) (N := some 45) (v := ?_) (a' := ?_) #[true, true, true, true, true, true, true, true, true, true, true, true, false, false, true, false, false, false, false] rfl rfl (any_of HT_.out (by kernel_rfl)) (fun _ _ _ h => h) (Or.inl ⟨by rfl, ?_⟩) ?_ ?_
          rotate_left
          · intro w'
            go_simp
            with_reducible rfl
          rotate_left
          · simp only [Act.put, zqf, zqg, zqh, i64_w, i32_w]
            rfl
          refine pure_ (i := 15) (N := some 46) (v := ?_) (a' := ?_) #[true, true, true, true, true, true, true, true, true, true, true, true, false, false, true, true, false, false, false] rfl rfl (any_of HT_.out (by kernel_rfl)) (fun _ _ _ h => h) (Or.inl ⟨by rfl, ?_⟩) ?_ ?_
          rotate_left
          · intro w'
            go_simp
            with_reducible rfl
          rotate_left
          · simp only [Act.put, zqf, zqg, zqh, i64_w, i32_w]
            rfl
          refine take_ (i := 12) (N := some 43) (v := ?_) (a' := ?_) #[true, true, true, true, true, true, true, true, true, true, true, true, true, false, true, true, false, false, false] rfl rfl (take_ofW HT_.out HW_.out (by kernel_rfl)) (fun _ _ _ h => h) (Or.inl ⟨by rfl, ?_⟩) hHeld ?_ ?_
          rotate_left
          · rintro w' ⟨s0, s1, s2, s3, s4, s5⟩
            go_simp
            with_reducible rfl
          rotate_left
          · simp only [Act.put, zqf, zqg, zqh, i64_w, i32_w]
            rfl
          refine take_ (i := 13) (N := some 44) (v := ?_) (a' := ?_) #[true, true, true, true, true, true, true, true, true, true, true, true, true, true, true, true, false, false, false] rfl rfl (take_ofW HT_.out HW_.out (by kernel_rfl)) (fun _ _ _ h => h) (Or.inl ⟨by rfl, ?_⟩) hHeld ?_ ?_
          rotate_left
          · rintro w' ⟨s0, s1, s2, s3, s4, s5⟩
            go_simp
            with_reducible rfl
          rotate_left
          · simp only [Act.put, zqf, zqg, zqh, i64_w, i32_w]
            rfl
          refine one_ (i := 16) (N := some 47) #[true, true, true, true, true, true, true, true, true, true, true, true, true, true, true, true, true, false, false] rfl rfl (one_of HT_.out (by kernel_rfl)) (by decide) (fun K hK => ?_)
          refine goes_ Try.func15 (by kernel_rfl) rfl #[.agg #[.int .i64 a0_0, .slice A0_1 l0_1.length c0_1], .agg #[.bool t204, .slice Ao31 t205.length co31, .slice Ao32 t208.length co32, .int .i64 t211], .slice Ao48 t212.length co48, .slice A1 l1.length c1, .int .i64 4096] (by rfl) rfl rfl (by (try simp only [List.map_toArray, List.map_cons, List.map_nil]); first | done | rfl | (simp only [zqq, zqr]; rfl)) ?_
          with_reducible refine (sequiturlaw22_told.calls kj2 a0_0 _ _ l0_1 t204 _ _ t205 _ _ t208 t211 _ _ t212 _ _ l1 4096 t222 _ ?side1 ?side2 ?side3 ?side4 ?side5 ?side6 ?side7 ?side8 ?side9 ?side10 A42.out).mono ?_
          (case side1 => repeat (first | exact (Kd.C_below HR0_1.out HB.out) | (with_reducible refine Kd.C_alloc ?_ _) | (with_reducible refine Kd.C_drewN ?_ _) | (with_reducible refine Kd.C_drew ?_)))
          (case side2 => exact HC0_1.out)
          (case side3 => repeat (first | exact (Kd.R_reads' HO207.out).2.2 | (with_reducible refine Kd.C_alloc ?_ _) | (with_reducible refine Kd.C_drewN ?_ _) | (with_reducible refine Kd.C_drew ?_)))
          (case side4 => exact (Kd.R_reads' HO207.out).2.1)
          (case side5 => repeat (first | exact (Kd.N_reads' HO210.out).2.2 | (with_reducible refine Kd.C_alloc ?_ _) | (with_reducible refine Kd.C_drewN ?_ _) | (with_reducible refine Kd.C_drew ?_)))
          (case side6 => exact (Kd.N_reads' HO210.out).2.1)
          (case side7 => repeat (first | exact (Kd.R_reads' HO214.out).2.2 | (with_reducible refine Kd.C_alloc ?_ _) | (with_reducible refine Kd.C_drewN ?_ _) | (with_reducible refine Kd.C_drew ?_)))
          (case side8 => exact (Kd.R_reads' HO214.out).2.1)
          (case side9 => repeat (first | exact (Kd.C_below HR1.out HB.out) | (with_reducible refine Kd.C_alloc ?_ _) | (with_reducible refine Kd.C_drewN ?_ _) | (with_reducible refine Kd.C_drew ?_)))
          (case side10 => exact HC1.out)
          rintro e w49 ⟨rfl, hb⟩
          refine ⟨_, rfl, ?_⟩
          have n0_ := K0 (Kd.R_below (by (with_reducible repeat (first | apply Kd.R_alloc | apply Kd.R_drewN | apply Kd.R_drew)); exact HO207.out) hb); have n1_ := K0 (Kd.N_below (by (with_reducible repeat (first | apply Kd.N_alloc | apply Kd.N_drewN | apply Kd.N_drew)); exact HO210.out) hb); have n2_ := K0 (Kd.R_below (by (with_reducible repeat (first | apply Kd.R_alloc | apply Kd.R_drewN | apply Kd.R_drew)); exact HO214.out) hb); have n3_ := K0 (Kd.N_below (by (with_reducible repeat (first | apply Kd.N_alloc | apply Kd.N_drewN | apply Kd.N_drew)); exact HO220.out) hb); have n4_ := K0 (zqn (g := gb199) (o := .cells #[.int .i64 a0_0, .slice A0_1 l0_1.length c0_1] 24 (0, 0)) (by (with_reducible repeat (first | refine zqj ?_ _ | refine zqk ?_ | refine zqi ?_ _)); exact BK199.out) hb); have n5_ := K0 (zqn (g := gb216) (o := .cells #[.bool t204, .slice Ao31 t205.length co31, .slice Ao32 t208.length co32, .int .i64 t211] 33 (0, 0)) (by (with_reducible repeat (first | refine zqj ?_ _ | refine zqk ?_ | refine zqi ?_ _)); exact BK216.out) hb); have n6_ := K0 (zqo (by repeat (first | (with_reducible first | exact HB.out | apply zqb | apply zqa | apply zqc | refine zqd ?_ GE199.out | refine zqd ?_ GE216.out) | exact HB.out)) hb); clear HO207 HO210 HO214 HO220 BK199 BK216 HB; have HO207 := n0_; have HO210 := n1_; have HO214 := n2_; have HO220 := n3_; have BK199 := n4_; have BK216 := n5_; have HB := n6_; clear n0_ n1_ n2_ n3_ n4_ n5_ n6_
          (try clear hb)
          (try clear hb2)
          (try clear hk)
          (try clear hi)
          refine hK.out _ _ ⟨(zql BK216.out 0).trans rfl, (zql BK216.out 1).trans rfl, (zql BK216.out 2).trans rfl, (zql BK216.out 3).trans rfl, (zql BK199.out 0).trans rfl, (zql BK199.out 1).trans rfl⟩ (fun hHeld => ?_)
          clear hK K
          refine norm_ (a' := ?_) ?_ ?_
          rotate_left
          · show Act.put _ (some 47) _ = _
            simp only [Act.put, zqf, zqg, zqh, i64_w, i32_w]
            rfl
          refine pure_ (i := 17) (N := some 48) (v := ?_) (a' := ?_) #[true, true, true, true, true, true, true, true, true, true, true, true, true, true, true, true, true, true, false] rfl rfl (any_of HT_.out (by kernel_rfl)) (fun _ _ _ h => h) (Or.inl ⟨by rfl, ?_⟩) ?_ ?_
          rotate_left
          · intro w'
            go_simp
            with_reducible rfl
          rotate_left
          · simp only [Act.put, zqf, zqg, zqh, i64_w, i32_w]
            rfl
          refine pure_ (i := 18) (N := some 49) (v := ?_) (a' := ?_) #[true, true, true, true, true, true, true, true, true, true, true, true, true, true, true, true, true, true, true] rfl rfl (any_of HT_.out (by kernel_rfl)) (fun _ _ _ h => h) (Or.inl ⟨by rfl, ?_⟩) ?_ ?_
          rotate_left
          · intro w'
            go_simp
            with_reducible rfl
          rotate_left
          · simp only [Act.put, zqf, zqg, zqh, i64_w, i32_w]
            rfl
          refine done_ (done_of HT_.out (by kernel_rfl)) ?_
          try go_wp2
          go_meet
          case rel => exact ⟨_, (!t222), (by first | rfl | (simp; done) | (simp [*]; done)), H', ⟨by have := HJ2.out; first | omega | exact zqx _⟩, ⟨by (with_reducible repeat (first | apply Kd.R_alloc | apply Kd.R_drewN | apply Kd.R_drew)); exact HO214.out⟩, ⟨by (with_reducible repeat (first | apply Kd.R_alloc | apply Kd.R_drewN | apply Kd.R_drew)); exact HO207.out⟩, ⟨by (with_reducible repeat (first | apply Kd.N_alloc | apply Kd.N_drewN | apply Kd.N_drew)); exact Kd.N_mono HO210.out (fun _ hk => ⟨hk.1.2.1, ⟨hk.1.1, ⟨hk.1.2.2.1, hk.1.2.2.2⟩⟩⟩)⟩, ⟨by (with_reducible repeat (first | refine zqj ?_ _ | refine zqk ?_ | refine zqi ?_ _)); exact BK199.out⟩, ⟨by (with_reducible repeat (first | refine zqj ?_ _ | refine zqk ?_ | refine zqi ?_ _)); exact BK216.out⟩, ⟨by repeat (first | (with_reducible first | exact HB.out | apply zqb | apply zqa | apply zqc | refine zqd ?_ GE199.out | refine zqd ?_ GE216.out) | exact HB.out)⟩⟩
      case rest =>
        clear HC25; try clear c1; try clear p2; try clear c3; try clear c13; try clear c14; try clear c15; try clear c33; try clear c33b0; try clear c33b1; try clear c36; try clear c36b0; try clear c36b1; try clear c36b2
        obtain ⟨kq, x49_24, rfl, HA, HJ24, HO_6, HO_217001, HO_217002, BK199, BK216, HB⟩ := hcut
        cases kq with
        | zero => exact absurd HA.out (by simp [sequiturlaw22_SolveAssumes.j1])
        | succ kj24 =>
          have H := HA.out
          clear HA
          simp only [sequiturlaw22_SolveAssumes.j1] at H
          by_cases c52 : x49_24 = true
          case pos =>
            subst c52
            have H1 : (some false) = some r := by rw [if_pos rfl] at H; exact H
            clear H
            have H := H1
            clear H1
            exact absurd ((zqv (show some false = some r from H)).trans HT.out) (by decide)
          replace c52 := Bool.eq_false_iff.mpr c52
          subst c52
          have H1 : (if t204 = true then ((sequiturlaw22_goes.f kj24).bind fun t223 => (some t223)) else ((sequiturref22_Units.f kj24 a0_0 l0_1 t212).bind fun bt224 => ((sequiturref22_Some.f kj24 bt224.1 bt224.2).bind fun t228 => (if t228 = true then (some false) else ((sequiturlaw22_goes.f kj24).bind fun t229 => (some t229)))))) = some r := by rw [if_neg (show ¬ (false = true) by decide)] at H; exact H
          clear H
          have H := H1
          clear H1
          by_cases c53 : t204 = true
          case pos =>
            subst c53
            have H1 : ((sequiturlaw22_goes.f kj24).bind fun t223 => (some t223)) = some r := by rw [if_pos rfl] at H; exact H
            clear H
            have H := H1
            clear H1
            replace H := Option.bind_eq_some_iff.mp H
            obtain ⟨t223, A540, H⟩ := H
            replace H : (some t223) = some r := H
            have A54 := K0 A540; clear A540
            as_aux_lemma =>
              obtain rfl := zqv H
              have hnb55 := NB216_199.out; have hnc55 := NB199_216.out
              have hcz56_0 : wc.cell? ⟨gb216, 0, none⟩ = some (.bool true) := (zql BK216.out 0).trans rfl
              have hcz56_1 : wc.cell? ⟨gb216, 1, none⟩ = some (.slice Ao31 t205.length co31) := (zql BK216.out 1).trans rfl
              have hcz56_2 : wc.cell? ⟨gb216, 2, none⟩ = some (.slice Ao32 t208.length co32) := (zql BK216.out 2).trans rfl
              have hcz56_3 : wc.cell? ⟨gb216, 3, none⟩ = some (.int .i64 t211) := (zql BK216.out 3).trans rfl
              have hfz56_0 := zqm BK216.out 0; have hfz56_1 := zqm BK216.out 1; have hfz56_2 := zqm BK216.out 2; have hfz56_3 := zqm BK216.out 3
              go_wp2_with (first | (go_at_call 11; (with_reducible refine (sequiturlaw22_goes.calls kj24  t223 _ A54.out).mono ?_); rintro e w57 ⟨rfl, hb⟩; have n0_ := K0 (Kd.R_below (by (with_reducible repeat (first | apply Kd.R_alloc | apply Kd.R_drewN | apply Kd.R_drew)); exact HO_6.out) hb); have n1_ := K0 (Kd.R_below (by (with_reducible repeat (first | apply Kd.R_alloc | apply Kd.R_drewN | apply Kd.R_drew)); exact HO_217001.out) hb); have n2_ := K0 (Kd.N_below (by (with_reducible repeat (first | apply Kd.N_alloc | apply Kd.N_drewN | apply Kd.N_drew)); exact HO_217002.out) hb); have n3_ := K0 (zqn (g := gb199) (o := .cells #[.int .i64 a0_0, .slice A0_1 l0_1.length c0_1] 24 (0, 0)) (by (with_reducible repeat (first | refine zqj ?_ _ | refine zqk ?_ | refine zqi ?_ _)); exact BK199.out) hb); have n4_ := K0 (zqn (g := gb216) (o := .cells #[.bool true, .slice Ao31 t205.length co31, .slice Ao32 t208.length co32, .int .i64 t211] 33 (0, 0)) (by (with_reducible repeat (first | refine zqj ?_ _ | refine zqk ?_ | refine zqi ?_ _)); exact BK216.out) hb); have n5_ := K0 (zqo (by repeat (first | (with_reducible first | exact HB.out | apply zqb | apply zqa | apply zqc | refine zqd ?_ GE199.out | refine zqd ?_ GE216.out) | exact HB.out)) hb); clear HO_6; clear HO_217001; clear HO_217002; clear BK199; clear BK216; clear HB; have HO_6 := n0_; have HO_217001 := n1_; have HO_217002 := n2_; have BK199 := n3_; have BK216 := n4_; have HB := n5_; clear n0_ n1_ n2_ n3_ n4_ n5_; (try clear hb); (try clear hb2); (try clear hk); (try clear hi)))
              go_ret
              exact ⟨by first | rfl | (simp [errW_none, errW_some] <;> rfl) | (simp [*, errW_none, errW_some] <;> rfl), by repeat (first | (with_reducible first | exact HB.out | apply zqb | apply zqa | apply zqc | refine zqd ?_ GE199.out | refine zqd ?_ GE216.out) | exact HB.out)⟩
          replace c53 := Bool.eq_false_iff.mpr c53
          subst c53
          have H1 : ((sequiturref22_Units.f kj24 a0_0 l0_1 t212).bind fun bt224 => ((sequiturref22_Some.f kj24 bt224.1 bt224.2).bind fun t228 => (if t228 = true then (some false) else ((sequiturlaw22_goes.f kj24).bind fun t229 => (some t229))))) = some r := by rw [if_neg (show ¬ (false = true) by decide)] at H; exact H
          clear H
          have H := H1
          clear H1
          replace H := Option.bind_eq_some_iff.mp H
          obtain ⟨⟨t224, t225⟩, A580, H⟩ := H
          replace H : ((sequiturref22_Some.f kj24 t224 t225).bind fun t228 => (if t228 = true then (some false) else ((sequiturlaw22_goes.f kj24).bind fun t229 => (some t229)))) = some r := H
          have A58 := K0 A580; clear A580
          replace H := Option.bind_eq_some_iff.mp H
          obtain ⟨t228, A590, H⟩ := H
          replace H : (if t228 = true then (some false) else ((sequiturlaw22_goes.f kj24).bind fun t229 => (some t229))) = some r := H
          have A59 := K0 A590; clear A590
          by_cases c60 : t228 = true
          case pos =>
            subst c60
            have H1 : (some false) = some r := by rw [if_pos rfl] at H; exact H
            clear H
            have H := H1
            clear H1
            exact absurd ((zqv (show some false = some r from H)).trans HT.out) (by decide)
          replace c60 := Bool.eq_false_iff.mpr c60
          subst c60
          have H1 : ((sequiturlaw22_goes.f kj24).bind fun t229 => (some t229)) = some r := by rw [if_neg (show ¬ (false = true) by decide)] at H; exact H
          clear H
          have H := H1
          clear H1
          replace H := Option.bind_eq_some_iff.mp H
          obtain ⟨t229, A610, H⟩ := H
          replace H : (some t229) = some r := H
          have A61 := K0 A610; clear A610
          as_aux_lemma =>
            obtain rfl := zqv H
            have hnb62 := NB216_199.out; have hnc62 := NB199_216.out
            have hcz63_0 : wc.cell? ⟨gb216, 0, none⟩ = some (.bool false) := (zql BK216.out 0).trans rfl
            have hcz63_1 : wc.cell? ⟨gb216, 1, none⟩ = some (.slice Ao31 t205.length co31) := (zql BK216.out 1).trans rfl
            have hcz63_2 : wc.cell? ⟨gb216, 2, none⟩ = some (.slice Ao32 t208.length co32) := (zql BK216.out 2).trans rfl
            have hcz63_3 : wc.cell? ⟨gb216, 3, none⟩ = some (.int .i64 t211) := (zql BK216.out 3).trans rfl
            have hfz63_0 := zqm BK216.out 0; have hfz63_1 := zqm BK216.out 1; have hfz63_2 := zqm BK216.out 2; have hfz63_3 := zqm BK216.out 3
            have hcz64_0 : wc.cell? ⟨gb199, 0, none⟩ = some (.int .i64 a0_0) := (zql BK199.out 0).trans rfl
            have hcz64_1 : wc.cell? ⟨gb199, 1, none⟩ = some (.slice A0_1 l0_1.length c0_1) := (zql BK199.out 1).trans rfl
            have hfz64_0 := zqm BK199.out 0; have hfz64_1 := zqm BK199.out 1
            obtain ⟨Ao65, co65, eo65⟩ := Kd.R_slice HO_6.out
            subst eo65
            go_wp2_with (first | (go_at_call 14; (with_reducible refine (sequiturref22_Units.calls kj24 a0_0 (fun k_ => k_ < w.heap.size) _ _ l0_1 _ _ t212 t224 t225 _ ?side1 ?side2 ?side3 A58.out).mono ?_); (case side1 => exact Kd.V_mk HC0_1.out (Kd.F_below (Kd.C_F (Kd.heap_slice 3 (Kd.heap_int .i64)) HR0_1.out) (by repeat (first | (with_reducible first | exact HB.out | apply zqb | apply zqa | apply zqc | refine zqd ?_ GE199.out | refine zqd ?_ GE216.out) | exact HB.out)))); (case side2 => repeat (first | exact (Kd.R_reads' HO_6.out).2.2 | (with_reducible refine Kd.C_alloc ?_ _) | (with_reducible refine Kd.C_drewN ?_ _) | (with_reducible refine Kd.C_drew ?_))); (case side3 => exact (Kd.R_reads' HO_6.out).2.1); rintro e w66 ⟨v226, rfl, ho0, hb⟩; have n0_ := K0 (Kd.R_below (by (with_reducible repeat (first | apply Kd.R_alloc | apply Kd.R_drewN | apply Kd.R_drew)); exact HO_6.out) hb); have n1_ := K0 (Kd.R_below (by (with_reducible repeat (first | apply Kd.R_alloc | apply Kd.R_drewN | apply Kd.R_drew)); exact HO_217001.out) hb); have n2_ := K0 (Kd.N_elder' (by (with_reducible repeat (first | apply Kd.N_alloc | apply Kd.N_drewN | apply Kd.N_drew)); exact HO_217002.out) (Kd.N_base ho0) hb); have n3_ := K0 (Kd.N_lower (Kd.N_mono (ok' := fun k_ => some k_ ≠ (.slice Ao65 t212.length co65 : Value).ownBlock ∧ some k_ ≠ (.slice Ao31 t205.length co31 : Value).ownBlock ∧ some k_ ≠ (.slice Ao32 t208.length co32 : Value).ownBlock ∧ k_ ≠ gb199 ∧ k_ ≠ gb216) ho0 (fun k_ hk_ => ⟨Or.elim hk_ (fun hs_ => fun e_ => Nat.not_le.2 hs_ (Kd.R_base HO_6.out k_ e_.symm)) (fun hn_ => (Kd.fresh' (Kd.R_lt (by (with_reducible repeat (first | apply Kd.R_alloc | apply Kd.R_drewN | apply Kd.R_drew)); exact HO_6.out)) k_ hn_)), Or.elim hk_ (fun hs_ => fun e_ => Nat.not_le.2 hs_ (Kd.R_base HO_217001.out k_ e_.symm)) (fun hn_ => (Kd.fresh' (Kd.R_lt (by (with_reducible repeat (first | apply Kd.R_alloc | apply Kd.R_drewN | apply Kd.R_drew)); exact HO_217001.out)) k_ hn_)), Or.elim hk_ (fun hs_ => fun e_ => Nat.not_le.2 hs_ (Kd.N_base HO_217002.out k_ e_.symm)) (fun hn_ => (Kd.fresh' (Kd.N_lt (by (with_reducible repeat (first | apply Kd.N_alloc | apply Kd.N_drewN | apply Kd.N_drew)); exact HO_217002.out)) k_ hn_)), Or.elim hk_ (fun hs_ => fun e_ => Nat.not_le.2 hs_ (by rw [e_]; exact GW199.out)) (fun hn_ => (Kd.freshB (g := gb199) (o := .cells #[.int .i64 a0_0, .slice A0_1 l0_1.length c0_1] 24 (0, 0)) (by (with_reducible repeat (first | refine zqj ?_ _ | refine zqk ?_ | refine zqi ?_ _)); exact BK199.out) k_ hn_)), Or.elim hk_ (fun hs_ => fun e_ => Nat.not_le.2 hs_ (by rw [e_]; exact GW216.out)) (fun hn_ => (Kd.freshB (g := gb216) (o := .cells #[.bool false, .slice Ao31 t205.length co31, .slice Ao32 t208.length co32, .int .i64 t211] 33 (0, 0)) (by (with_reducible repeat (first | refine zqj ?_ _ | refine zqk ?_ | refine zqi ?_ _)); exact BK216.out) k_ hn_))⟩)) (zqp (by repeat (first | (with_reducible first | exact HB.out | apply zqb | apply zqa | apply zqc | refine zqd ?_ GE199.out | refine zqd ?_ GE216.out) | exact HB.out)))); have n4_ := K0 (zqn (g := gb199) (o := .cells #[.int .i64 a0_0, .slice A0_1 l0_1.length c0_1] 24 (0, 0)) (by (with_reducible repeat (first | refine zqj ?_ _ | refine zqk ?_ | refine zqi ?_ _)); exact BK199.out) hb); have n5_ := K0 (zqn (g := gb216) (o := .cells #[.bool false, .slice Ao31 t205.length co31, .slice Ao32 t208.length co32, .int .i64 t211] 33 (0, 0)) (by (with_reducible repeat (first | refine zqj ?_ _ | refine zqk ?_ | refine zqi ?_ _)); exact BK216.out) hb); have n6_ := K0 (zqo (by repeat (first | (with_reducible first | exact HB.out | apply zqb | apply zqa | apply zqc | refine zqd ?_ GE199.out | refine zqd ?_ GE216.out) | exact HB.out)) hb); clear HO_6; clear HO_217001; clear HO_217002; clear BK199; clear BK216; clear HB; have HO_6 := n0_; have HO_217001 := n1_; have HO_217002 := n2_; have HO227 := n3_; have BK199 := n4_; have BK216 := n5_; have HB := n6_; clear n0_ n1_ n2_ n3_ n4_ n5_ n6_; (try clear hb); (try clear hb2); (try clear hk); (try clear hi); (try clear ho0); obtain ⟨Ao67, co67, eo67⟩ := Kd.N_slice HO227.out; subst eo67) | (go_at_call 13; (with_reducible refine (sequiturref22_Some.calls kj24 t224 _ _ t225 false _ ?side1 ?side2 A59.out).mono ?_); (case side1 => repeat (first | exact (Kd.N_reads' HO227.out).2.2 | (with_reducible refine Kd.C_alloc ?_ _) | (with_reducible refine Kd.C_drewN ?_ _) | (with_reducible refine Kd.C_drew ?_))); (case side2 => exact (Kd.N_reads' HO227.out).2.1); rintro e w68 ⟨rfl, hb⟩; have n0_ := K0 (Kd.R_below (by (with_reducible repeat (first | apply Kd.R_alloc | apply Kd.R_drewN | apply Kd.R_drew)); exact HO_6.out) hb); have n1_ := K0 (Kd.R_below (by (with_reducible repeat (first | apply Kd.R_alloc | apply Kd.R_drewN | apply Kd.R_drew)); exact HO_217001.out) hb); have n2_ := K0 (Kd.N_below (by (with_reducible repeat (first | apply Kd.N_alloc | apply Kd.N_drewN | apply Kd.N_drew)); exact HO_217002.out) hb); have n3_ := K0 (Kd.N_below (by (with_reducible repeat (first | apply Kd.N_alloc | apply Kd.N_drewN | apply Kd.N_drew)); exact HO227.out) hb); have n4_ := K0 (zqn (g := gb199) (o := .cells #[.int .i64 a0_0, .slice A0_1 l0_1.length c0_1] 24 (0, 0)) (by (with_reducible repeat (first | refine zqj ?_ _ | refine zqk ?_ | refine zqi ?_ _)); exact BK199.out) hb); have n5_ := K0 (zqn (g := gb216) (o := .cells #[.bool false, .slice Ao31 t205.length co31, .slice Ao32 t208.length co32, .int .i64 t211] 33 (0, 0)) (by (with_reducible repeat (first | refine zqj ?_ _ | refine zqk ?_ | refine zqi ?_ _)); exact BK216.out) hb); have n6_ := K0 (zqo (by repeat (first | (with_reducible first | exact HB.out | apply zqb | apply zqa | apply zqc | refine zqd ?_ GE199.out | refine zqd ?_ GE216.out) | exact HB.out)) hb); clear HO_6; clear HO_217001; clear HO_217002; clear HO227; clear BK199; clear BK216; clear HB; have HO_6 := n0_; have HO_217001 := n1_; have HO_217002 := n2_; have HO227 := n3_; have BK199 := n4_; have BK216 := n5_; have HB := n6_; clear n0_ n1_ n2_ n3_ n4_ n5_ n6_; (try clear hb); (try clear hb2); (try clear hk); (try clear hi)) | (go_at_call 11; (with_reducible refine (sequiturlaw22_goes.calls kj24  t229 _ A61.out).mono ?_); rintro e w69 ⟨rfl, hb⟩; have n0_ := K0 (Kd.R_below (by (with_reducible repeat (first | apply Kd.R_alloc | apply Kd.R_drewN | apply Kd.R_drew)); exact HO_6.out) hb); have n1_ := K0 (Kd.R_below (by (with_reducible repeat (first | apply Kd.R_alloc | apply Kd.R_drewN | apply Kd.R_drew)); exact HO_217001.out) hb); have n2_ := K0 (Kd.N_below (by (with_reducible repeat (first | apply Kd.N_alloc | apply Kd.N_drewN | apply Kd.N_drew)); exact HO_217002.out) hb); have n3_ := K0 (Kd.N_below (by (with_reducible repeat (first | apply Kd.N_alloc | apply Kd.N_drewN | apply Kd.N_drew)); exact HO227.out) hb); have n4_ := K0 (zqn (g := gb199) (o := .cells #[.int .i64 a0_0, .slice A0_1 l0_1.length c0_1] 24 (0, 0)) (by (with_reducible repeat (first | refine zqj ?_ _ | refine zqk ?_ | refine zqi ?_ _)); exact BK199.out) hb); have n5_ := K0 (zqn (g := gb216) (o := .cells #[.bool false, .slice Ao31 t205.length co31, .slice Ao32 t208.length co32, .int .i64 t211] 33 (0, 0)) (by (with_reducible repeat (first | refine zqj ?_ _ | refine zqk ?_ | refine zqi ?_ _)); exact BK216.out) hb); have n6_ := K0 (zqo (by repeat (first | (with_reducible first | exact HB.out | apply zqb | apply zqa | apply zqc | refine zqd ?_ GE199.out | refine zqd ?_ GE216.out) | exact HB.out)) hb); clear HO_6; clear HO_217001; clear HO_217002; clear HO227; clear BK199; clear BK216; clear HB; have HO_6 := n0_; have HO_217001 := n1_; have HO_217002 := n2_; have HO227 := n3_; have BK199 := n4_; have BK216 := n5_; have HB := n6_; clear n0_ n1_ n2_ n3_ n4_ n5_ n6_; (try clear hb); (try clear hb2); (try clear hk); (try clear hi)))
            go_ret
            exact ⟨by first | rfl | (simp [errW_none, errW_some] <;> rfl) | (simp [*, errW_none, errW_some] <;> rfl), by repeat (first | (with_reducible first | exact HB.out | apply zqb | apply zqa | apply zqc | refine zqd ?_ GE199.out | refine zqd ?_ GE216.out) | exact HB.out)⟩
end Go.Proofs.Ytaibnbhgjnddnaa.P
