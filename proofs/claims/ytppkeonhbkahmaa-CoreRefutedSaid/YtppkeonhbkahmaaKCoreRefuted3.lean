import Derived.Maps.OwnSet
import Derived.Maps.OwnOps
import Derived.Maps.Views
import Derived.Laws.Rows
import Derived.Lib.SliceRun
import Derived.Deep.RegionLaw
import Derived.Shelf.RegionOpenPlain
import Derived.Test.YtppkeonhbkahmaaKCoreRefuted1
import Derived.Test.YtppkeonhbkahmaaKCoreRefuted2
namespace Go.Proofs.Ytppkeonhbkahmaa.P
open Go.RowKit Go.Proofs.YtppkeonhbkahmaaW.PrintWords Go.Proofs.YtppkeonhbkahmaaW.PrintLast Go.Proofs.YtppkeonhbkahmaaW.PrintMore
attribute [local go_sem] max2_int min2_int max_two min_two max_three min_three max_four min_four
set_option linter.unusedVariables false
set_option linter.unusedSimpArgs false
def sequiturlaw25_goes.f (k : Nat)  : Option (Bool) := (core_Minimal.f k 2 (([(([1] : List Int)), (([(-1)] : List Int)), (([2] : List Int)), (([(-2)] : List Int))] : List (List Int)))).bind fun bt141 => (if bt141.2 = 0 then ((sequiturbase_Ints.f k bt141.1 (([2, 3] : List Int))).bind fun t148 => (some t148)) else (some false))
theorem sequiturlaw25_goes.mono : ∀ k, LeO (sequiturlaw25_goes.f k ) (sequiturlaw25_goes.f (k + 1) ) := by
  intro  k
  unfold sequiturlaw25_goes.f
  repeat' first
      | (with_reducible exact core_Minimal.mono _ _ _)
      | (with_reducible exact sequiturbase_Ints.mono _ _ _)
      | (with_reducible exact LeO.refl _)
      | (with_reducible exact LeO.none _)
      | (with_reducible refine LeO.ite ?_ ?_)
      | (with_reducible refine LeO.bind ?_ (fun _ => ?_))
      | exact core_Minimal.mono _ _ _
      | exact sequiturbase_Ints.mono _ _ _
      | exact LeO.none _
      | refine LeO.ite ?_ ?_
      | refine LeO.bind ?_ (fun _ => ?_)
set_option maxHeartbeats 8000000 in
set_option maxRecDepth 100000 in
theorem sequiturlaw25_goes.calls (k : Nat)  (r : Bool) (w : World) (h : sequiturlaw25_goes.f k  = some r) :
    Calls Try.prog 8 #[] w fun e w' => e = .returned (.bool r) ∧ Below w.heap.size w w' := by
  have hu24 := Try.underlying24
  have HB := K0 (Below.refl w.heap.size w)
  have H : ((core_Minimal.f k 2 (([(([1] : List Int)), (([(-1)] : List Int)), (([2] : List Int)), (([(-2)] : List Int))] : List (List Int)))).bind fun bt141 => (if bt141.2 = 0 then ((sequiturbase_Ints.f k bt141.1 (([2, 3] : List Int))).bind fun t148 => (some t148)) else (some false))) = some r := h
  clear h
  obtain ⟨y126, hy126⟩ : ∃ y_ : List Int, y_ = (([1] : List Int)) := ⟨_, rfl⟩
  replace H : ((core_Minimal.f k 2 (([y126, (([(-1)] : List Int)), (([2] : List Int)), (([(-2)] : List Int))] : List (List Int)))).bind fun bt141 => (if bt141.2 = 0 then ((sequiturbase_Ints.f k bt141.1 (([2, 3] : List Int))).bind fun t148 => (some t148)) else (some false))) = some r := by first | (rw [hy126]; with_reducible exact H) | (have H2_ := (Option.bind_some _ _).symm.trans H; rw [hy126]; with_reducible exact H2_) | (have H2_ := (Option.bind_some _ _).symm.trans H; with_reducible exact H2_) | with_reducible exact H | (rw [hy126]; exact H) | exact H
  have Ny126 := K0 hy126; clear hy126
  obtain ⟨y129, hy129⟩ : ∃ y_ : List Int, y_ = (([(-1)] : List Int)) := ⟨_, rfl⟩
  replace H : ((core_Minimal.f k 2 (([y126, y129, (([2] : List Int)), (([(-2)] : List Int))] : List (List Int)))).bind fun bt141 => (if bt141.2 = 0 then ((sequiturbase_Ints.f k bt141.1 (([2, 3] : List Int))).bind fun t148 => (some t148)) else (some false))) = some r := by first | (rw [hy129]; with_reducible exact H) | (have H2_ := (Option.bind_some _ _).symm.trans H; rw [hy129]; with_reducible exact H2_) | (have H2_ := (Option.bind_some _ _).symm.trans H; with_reducible exact H2_) | with_reducible exact H | (rw [hy129]; exact H) | exact H
  have Ny129 := K0 hy129; clear hy129
  obtain ⟨y132, hy132⟩ : ∃ y_ : List Int, y_ = (([2] : List Int)) := ⟨_, rfl⟩
  replace H : ((core_Minimal.f k 2 (([y126, y129, y132, (([(-2)] : List Int))] : List (List Int)))).bind fun bt141 => (if bt141.2 = 0 then ((sequiturbase_Ints.f k bt141.1 (([2, 3] : List Int))).bind fun t148 => (some t148)) else (some false))) = some r := by first | (rw [hy132]; with_reducible exact H) | (have H2_ := (Option.bind_some _ _).symm.trans H; rw [hy132]; with_reducible exact H2_) | (have H2_ := (Option.bind_some _ _).symm.trans H; with_reducible exact H2_) | with_reducible exact H | (rw [hy132]; exact H) | exact H
  have Ny132 := K0 hy132; clear hy132
  obtain ⟨y135, hy135⟩ : ∃ y_ : List Int, y_ = (([(-2)] : List Int)) := ⟨_, rfl⟩
  replace H : ((core_Minimal.f k 2 (([y126, y129, y132, y135] : List (List Int)))).bind fun bt141 => (if bt141.2 = 0 then ((sequiturbase_Ints.f k bt141.1 (([2, 3] : List Int))).bind fun t148 => (some t148)) else (some false))) = some r := by first | (rw [hy135]; with_reducible exact H) | (have H2_ := (Option.bind_some _ _).symm.trans H; rw [hy135]; with_reducible exact H2_) | (have H2_ := (Option.bind_some _ _).symm.trans H; with_reducible exact H2_) | with_reducible exact H | (rw [hy135]; exact H) | exact H
  have Ny135 := K0 hy135; clear hy135
  obtain ⟨y138, hy138⟩ : ∃ y_ : List (List Int), y_ = (([y126, y129, y132, y135] : List (List Int))) := ⟨_, rfl⟩
  replace H : ((core_Minimal.f k 2 y138).bind fun bt141 => (if bt141.2 = 0 then ((sequiturbase_Ints.f k bt141.1 (([2, 3] : List Int))).bind fun t148 => (some t148)) else (some false))) = some r := by first | (rw [hy138]; with_reducible exact H) | (have H2_ := (Option.bind_some _ _).symm.trans H; rw [hy138]; with_reducible exact H2_) | (have H2_ := (Option.bind_some _ _).symm.trans H; with_reducible exact H2_) | with_reducible exact H | (rw [hy138]; exact H) | exact H
  have Ny138 := K0 hy138; clear hy138
  replace H := Option.bind_eq_some_iff.mp H
  obtain ⟨⟨t141, t144⟩, A10, H⟩ := H
  replace H : (if t144 = 0 then ((sequiturbase_Ints.f k t141 (([2, 3] : List Int))).bind fun t148 => (some t148)) else (some false)) = some r := H
  have A1 := K0 A10; clear A10
  by_cases c2 : t144 = 0
  case neg =>
    rw [if_neg c2] at H
    have c2b0 : (t144 == 0) = false := beq_eq_false_iff_ne.mpr c2
    have c2b1 : (t144 != 0) = true := bne_iff_ne.mpr c2
    as_aux_lemma =>
      obtain rfl := Option.some.inj H
      go_enter Try.func8, Try.ntmps8
      go_wp2_with (first | ((with_reducible refine gate_dst (N := 4) rfl ?_); (try (refine gate_guard (by rfl) ?_; dsimp only)); refine Kd.R_lit (Kd.int .i64) _ 3 ?hg (N := 4) ?hd (xs := ([1] : List Int)) (inner := [.int .i64 1]) (ok := fun _ => True) (okp := fun _ => True) ?hr ?hp (fun _ hk => hk) trivial (Below.refl _ _) (Nat.le_refl _) (by simp) ?_; (case hd => rfl); (case hg => rfl); (case hr => first | (go_simp; done) | (go_simp; rfl)); (case hp => exact (Reps.one (show Kd.M (Kd.int .i64) _ _ _ 1 [.int .i64 1] from rfl) (Reps.none _ _))); intro v127 w24 ho25 hb hg_ hnew_; clear hg_ hnew_; (first | rw [← Ny126.out] at ho25 | (simp only [Int.reduceToNat] at ho25; rw [← Ny126.out] at ho25)); have n0_ := K0 (Kd.R_lower ho25 (below_size (by repeat (first | (with_reducible first | exact HB.out | apply below_alloc | apply pw_below_drewN | apply below_drew1) | exact HB.out)))); have n1_ := K0 (below_step (by repeat (first | (with_reducible first | exact HB.out | apply below_alloc | apply pw_below_drewN | apply below_drew1) | exact HB.out)) hb); clear HB; have HO128 := n0_; have HB := n1_; clear n0_ n1_; clear hb ho25) | ((with_reducible refine gate_dst (N := 5) rfl ?_); (try (refine gate_guard (by rfl) ?_; dsimp only)); refine Kd.R_lit (Kd.int .i64) _ 3 ?hg (N := 5) ?hd (xs := ([(-1)] : List Int)) (inner := [.int .i64 (-1)]) (ok := fun _ => True) (okp := fun _ => True) ?hr ?hp (fun _ hk => hk) trivial (Below.refl _ _) (Nat.le_refl _) (by simp) ?_; (case hd => rfl); (case hg => rfl); (case hr => first | (go_simp; done) | (go_simp; rfl)); (case hp => exact (Reps.one (show Kd.M (Kd.int .i64) _ _ _ (-1) [.int .i64 (-1)] from rfl) (Reps.none _ _))); intro v130 w26 ho27 hb hg_ hnew_; clear hg_ hnew_; (first | rw [← Ny129.out] at ho27 | (simp only [Int.reduceToNat] at ho27; rw [← Ny129.out] at ho27)); have n0_ := K0 (Kd.R_elder' (by (with_reducible repeat (first | apply Kd.R_alloc | apply Kd.R_drewN | apply Kd.R_drew)); exact HO128.out) (Kd.R_base ho27) hb); have n1_ := K0 (Kd.R_lower (Kd.R_new' ho27 (Kd.R_lt (by (with_reducible repeat (first | apply Kd.R_alloc | apply Kd.R_drewN | apply Kd.R_drew)); exact HO128.out))) (below_size (by repeat (first | (with_reducible first | exact HB.out | apply below_alloc | apply pw_below_drewN | apply below_drew1) | exact HB.out)))); have n2_ := K0 (below_step (by repeat (first | (with_reducible first | exact HB.out | apply below_alloc | apply pw_below_drewN | apply below_drew1) | exact HB.out)) hb); clear HO128; clear HB; have HO128 := n0_; have HO131 := n1_; have HB := n2_; clear n0_ n1_ n2_; clear hb ho27) | ((with_reducible refine gate_dst (N := 6) rfl ?_); (try (refine gate_guard (by rfl) ?_; dsimp only)); refine Kd.R_lit (Kd.int .i64) _ 3 ?hg (N := 6) ?hd (xs := ([2] : List Int)) (inner := [.int .i64 2]) (ok := fun _ => True) (okp := fun _ => True) ?hr ?hp (fun _ hk => hk) trivial (Below.refl _ _) (Nat.le_refl _) (by simp) ?_; (case hd => rfl); (case hg => rfl); (case hr => first | (go_simp; done) | (go_simp; rfl)); (case hp => exact (Reps.one (show Kd.M (Kd.int .i64) _ _ _ 2 [.int .i64 2] from rfl) (Reps.none _ _))); intro v133 w28 ho29 hb hg_ hnew_; clear hg_ hnew_; (first | rw [← Ny132.out] at ho29 | (simp only [Int.reduceToNat] at ho29; rw [← Ny132.out] at ho29)); have n0_ := K0 (Kd.R_elder' (by (with_reducible repeat (first | apply Kd.R_alloc | apply Kd.R_drewN | apply Kd.R_drew)); exact HO128.out) (Kd.R_base ho29) hb); have n1_ := K0 (Kd.R_elder' (by (with_reducible repeat (first | apply Kd.R_alloc | apply Kd.R_drewN | apply Kd.R_drew)); exact HO131.out) (Kd.R_base ho29) hb); have n2_ := K0 (Kd.R_lower (Kd.R_new' (Kd.R_new' ho29 (Kd.R_lt (by (with_reducible repeat (first | apply Kd.R_alloc | apply Kd.R_drewN | apply Kd.R_drew)); exact HO128.out))) (Kd.R_lt (by (with_reducible repeat (first | apply Kd.R_alloc | apply Kd.R_drewN | apply Kd.R_drew)); exact HO131.out))) (below_size (by repeat (first | (with_reducible first | exact HB.out | apply below_alloc | apply pw_below_drewN | apply below_drew1) | exact HB.out)))); have n3_ := K0 (below_step (by repeat (first | (with_reducible first | exact HB.out | apply below_alloc | apply pw_below_drewN | apply below_drew1) | exact HB.out)) hb); clear HO128; clear HO131; clear HB; have HO128 := n0_; have HO131 := n1_; have HO134 := n2_; have HB := n3_; clear n0_ n1_ n2_ n3_; clear hb ho29) | ((with_reducible refine gate_dst (N := 7) rfl ?_); (try (refine gate_guard (by rfl) ?_; dsimp only)); refine Kd.R_lit (Kd.int .i64) _ 3 ?hg (N := 7) ?hd (xs := ([(-2)] : List Int)) (inner := [.int .i64 (-2)]) (ok := fun _ => True) (okp := fun _ => True) ?hr ?hp (fun _ hk => hk) trivial (Below.refl _ _) (Nat.le_refl _) (by simp) ?_; (case hd => rfl); (case hg => rfl); (case hr => first | (go_simp; done) | (go_simp; rfl)); (case hp => exact (Reps.one (show Kd.M (Kd.int .i64) _ _ _ (-2) [.int .i64 (-2)] from rfl) (Reps.none _ _))); intro v136 w30 ho31 hb hg_ hnew_; clear hg_ hnew_; (first | rw [← Ny135.out] at ho31 | (simp only [Int.reduceToNat] at ho31; rw [← Ny135.out] at ho31)); have n0_ := K0 (Kd.R_elder' (by (with_reducible repeat (first | apply Kd.R_alloc | apply Kd.R_drewN | apply Kd.R_drew)); exact HO128.out) (Kd.R_base ho31) hb); have n1_ := K0 (Kd.R_elder' (by (with_reducible repeat (first | apply Kd.R_alloc | apply Kd.R_drewN | apply Kd.R_drew)); exact HO131.out) (Kd.R_base ho31) hb); have n2_ := K0 (Kd.R_elder' (by (with_reducible repeat (first | apply Kd.R_alloc | apply Kd.R_drewN | apply Kd.R_drew)); exact HO134.out) (Kd.R_base ho31) hb); have n3_ := K0 (Kd.R_lower (Kd.R_new' (Kd.R_new' (Kd.R_new' ho31 (Kd.R_lt (by (with_reducible repeat (first | apply Kd.R_alloc | apply Kd.R_drewN | apply Kd.R_drew)); exact HO128.out))) (Kd.R_lt (by (with_reducible repeat (first | apply Kd.R_alloc | apply Kd.R_drewN | apply Kd.R_drew)); exact HO131.out))) (Kd.R_lt (by (with_reducible repeat (first | apply Kd.R_alloc | apply Kd.R_drewN | apply Kd.R_drew)); exact HO134.out))) (below_size (by repeat (first | (with_reducible first | exact HB.out | apply below_alloc | apply pw_below_drewN | apply below_drew1) | exact HB.out)))); have n4_ := K0 (below_step (by repeat (first | (with_reducible first | exact HB.out | apply below_alloc | apply pw_below_drewN | apply below_drew1) | exact HB.out)) hb); clear HO128; clear HO131; clear HO134; clear HB; have HO128 := n0_; have HO131 := n1_; have HO134 := n2_; have HO137 := n3_; have HB := n4_; clear n0_ n1_ n2_ n3_ n4_; clear hb ho31; obtain ⟨Ao32, co32, eo32⟩ := Kd.R_slice HO128.out; subst eo32; obtain ⟨Ao33, co33, eo33⟩ := Kd.R_slice HO131.out; subst eo33; obtain ⟨Ao34, co34, eo34⟩ := Kd.R_slice HO134.out; subst eo34; obtain ⟨Ao35, co35, eo35⟩ := Kd.R_slice HO137.out; subst eo35) | ((with_reducible refine gate_dst (N := 8) rfl ?_); (try (refine gate_guard (by rfl) ?_; dsimp only)); refine Kd.N_lit (Kd.slice 3 (Kd.int .i64)) _ 29 ?hg (N' := 8) ?hd (xs := ([y126, y129, y132, y135] : List (List Int))) (inner := [.slice Ao32 y126.length co32, .slice Ao33 y129.length co33, .slice Ao34 y132.length co34, .slice Ao35 y135.length co35]) (ok := (fun _ => True)) (okp := (fun _ => True)) ?hr ?hp (fun _ hk => hk) ((show ∀ k_, w30.heap.size ≤ k_ → (fun _ => True) k_ from fun k_ hk => trivial) _ (Nat.le_refl _)) (Below.refl _ _) (Nat.le_refl _) (by simp) ?_; (case hd => rfl); (case hg => rfl); (case hr => first | (go_simp; done) | (go_simp; rfl)); (case hp => exact (Reps.one (show Kd.FK (Kd.slice 3 (Kd.int .i64)) _ _ y126 [.slice Ao32 y126.length co32] from (Kd.FK_slice_mk (Kd.R_reads' (Kd.R_mono (ok' := (fun _ => True)) (HO128.out) (fun k_ hk => trivial))).2.1 (Kd.R_F (Kd.R_mono (ok' := (fun _ => True)) (HO128.out) (fun k_ hk => trivial))))) (Reps.one (show Kd.FK (Kd.slice 3 (Kd.int .i64)) _ _ y129 [.slice Ao33 y129.length co33] from (Kd.FK_slice_mk (Kd.R_reads' (Kd.R_mono (ok' := (fun _ => True)) (HO131.out) (fun k_ hk => trivial))).2.1 (Kd.R_F (Kd.R_mono (ok' := (fun _ => True)) (HO131.out) (fun k_ hk => trivial))))) (Reps.one (show Kd.FK (Kd.slice 3 (Kd.int .i64)) _ _ y132 [.slice Ao34 y132.length co34] from (Kd.FK_slice_mk (Kd.R_reads' (Kd.R_mono (ok' := (fun _ => True)) (HO134.out) (fun k_ hk => trivial))).2.1 (Kd.R_F (Kd.R_mono (ok' := (fun _ => True)) (HO134.out) (fun k_ hk => trivial))))) (Reps.one (show Kd.FK (Kd.slice 3 (Kd.int .i64)) _ _ y135 [.slice Ao35 y135.length co35] from (Kd.FK_slice_mk (Kd.R_reads' (Kd.R_mono (ok' := (fun _ => True)) (HO137.out) (fun k_ hk => trivial))).2.1 (Kd.R_F (Kd.R_mono (ok' := (fun _ => True)) (HO137.out) (fun k_ hk => trivial))))) (Reps.none _ _)))))); intro v139 w36 ho37 hb hg_ hnew_; clear hg_ hnew_; (first | rw [← Ny138.out] at ho37 | (simp only [Int.reduceToNat] at ho37; rw [← Ny138.out] at ho37)); have n0_ := K0 (Kd.N_lower ho37 (below_size (by repeat (first | (with_reducible first | exact HB.out | apply below_alloc | apply pw_below_drewN | apply below_drew1) | exact HB.out)))); have n1_ := K0 (below_step (by repeat (first | (with_reducible first | exact HB.out | apply below_alloc | apply pw_below_drewN | apply below_drew1) | exact HB.out)) hb); clear HB; clear HO128; clear HO131; clear HO134; clear HO137; have HO140 := n0_; have HB := n1_; clear n0_ n1_; clear hb ho37; obtain ⟨Ao38, co38, eo38⟩ := Kd.N_slice HO140.out; subst eo38) | ((with_reducible refine gate_callee (f := 21) rfl ?_); refine goesL_ (some 10) rfl rfl Try.func21 (by kernel_rfl) rfl #[.agg #[.int .i64 2, .slice Ao38 y138.length co38]] rfl (by (try simp only [List.map_toArray, List.map_cons, List.map_nil]); first | done | rfl | (simp only [List.length_drop, List.length_take]; rfl)) ?_; (with_reducible refine (core_Minimal.calls k 2 (fun k_ => True) _ _ y138 t141 t144 _ ?side1 A1.out).mono ?_); (case side1 => exact Kd.N_V (HO140.out)); rintro e w39 ⟨v142, rfl, ho0, hb⟩; refine ⟨_, rfl, ?_⟩; have n0_ := K0 (Kd.N_elder' (by (with_reducible repeat (first | apply Kd.N_alloc | apply Kd.N_drewN | apply Kd.N_drew)); exact HO140.out) (Kd.R_base ho0) hb); have n1_ := K0 (Kd.R_lower (Kd.R_mono (ok' := fun k_ => True) ho0 (fun _ hk_ => trivial)) (below_size (by repeat (first | (with_reducible first | exact HB.out | apply below_alloc | apply pw_below_drewN | apply below_drew1) | exact HB.out)))); have n2_ := K0 (below_step (by repeat (first | (with_reducible first | exact HB.out | apply below_alloc | apply pw_below_drewN | apply below_drew1) | exact HB.out)) hb); clear HO140; clear HB; have HO140 := n0_; have HO143 := n1_; have HB := n2_; clear n0_ n1_ n2_; (try clear hb); (try clear hb2); (try clear hk); (try clear hi); (try clear ho0)))
      go_ret
      exact ⟨by first | rfl | (simp [errW_none, errW_some] <;> rfl) | (simp [*, errW_none, errW_some] <;> rfl), by repeat (first | (with_reducible first | exact HB.out | apply below_alloc | apply pw_below_drewN | apply below_drew1) | exact HB.out)⟩
  rw [if_pos c2] at H
  have c2b0 : (t144 == 0) = true := beq_iff_eq.mpr c2
  have c2b1 : (t144 != 0) = false := bne_eq_false_iff_eq.mpr c2
  clear c2
  obtain ⟨y145, hy145⟩ : ∃ y_ : List Int, y_ = (([2, 3] : List Int)) := ⟨_, rfl⟩
  replace H : ((sequiturbase_Ints.f k t141 y145).bind fun t148 => (some t148)) = some r := by first | (rw [hy145]; with_reducible exact H) | (have H2_ := (Option.bind_some _ _).symm.trans H; rw [hy145]; with_reducible exact H2_) | (have H2_ := (Option.bind_some _ _).symm.trans H; with_reducible exact H2_) | with_reducible exact H | (rw [hy145]; exact H) | exact H
  have Ny145 := K0 hy145; clear hy145
  replace H := Option.bind_eq_some_iff.mp H
  obtain ⟨t148, A30, H⟩ := H
  replace H : (some t148) = some r := H
  have A3 := K0 A30; clear A30
  as_aux_lemma =>
    obtain rfl := Option.some.inj H
    go_enter Try.func8, Try.ntmps8
    go_wp2_with (first | ((with_reducible refine gate_dst (N := 4) rfl ?_); (try (refine gate_guard (by rfl) ?_; dsimp only)); refine Kd.R_lit (Kd.int .i64) _ 3 ?hg (N := 4) ?hd (xs := ([1] : List Int)) (inner := [.int .i64 1]) (ok := fun _ => True) (okp := fun _ => True) ?hr ?hp (fun _ hk => hk) trivial (Below.refl _ _) (Nat.le_refl _) (by simp) ?_; (case hd => rfl); (case hg => rfl); (case hr => first | (go_simp; done) | (go_simp; rfl)); (case hp => exact (Reps.one (show Kd.M (Kd.int .i64) _ _ _ 1 [.int .i64 1] from rfl) (Reps.none _ _))); intro v127 w4 ho5 hb hg_ hnew_; clear hg_ hnew_; (first | rw [← Ny126.out] at ho5 | (simp only [Int.reduceToNat] at ho5; rw [← Ny126.out] at ho5)); have n0_ := K0 (Kd.R_lower ho5 (below_size (by repeat (first | (with_reducible first | exact HB.out | apply below_alloc | apply pw_below_drewN | apply below_drew1) | exact HB.out)))); have n1_ := K0 (below_step (by repeat (first | (with_reducible first | exact HB.out | apply below_alloc | apply pw_below_drewN | apply below_drew1) | exact HB.out)) hb); clear HB; have HO128 := n0_; have HB := n1_; clear n0_ n1_; clear hb ho5) | ((with_reducible refine gate_dst (N := 5) rfl ?_); (try (refine gate_guard (by rfl) ?_; dsimp only)); refine Kd.R_lit (Kd.int .i64) _ 3 ?hg (N := 5) ?hd (xs := ([(-1)] : List Int)) (inner := [.int .i64 (-1)]) (ok := fun _ => True) (okp := fun _ => True) ?hr ?hp (fun _ hk => hk) trivial (Below.refl _ _) (Nat.le_refl _) (by simp) ?_; (case hd => rfl); (case hg => rfl); (case hr => first | (go_simp; done) | (go_simp; rfl)); (case hp => exact (Reps.one (show Kd.M (Kd.int .i64) _ _ _ (-1) [.int .i64 (-1)] from rfl) (Reps.none _ _))); intro v130 w6 ho7 hb hg_ hnew_; clear hg_ hnew_; (first | rw [← Ny129.out] at ho7 | (simp only [Int.reduceToNat] at ho7; rw [← Ny129.out] at ho7)); have n0_ := K0 (Kd.R_elder' (by (with_reducible repeat (first | apply Kd.R_alloc | apply Kd.R_drewN | apply Kd.R_drew)); exact HO128.out) (Kd.R_base ho7) hb); have n1_ := K0 (Kd.R_lower (Kd.R_new' ho7 (Kd.R_lt (by (with_reducible repeat (first | apply Kd.R_alloc | apply Kd.R_drewN | apply Kd.R_drew)); exact HO128.out))) (below_size (by repeat (first | (with_reducible first | exact HB.out | apply below_alloc | apply pw_below_drewN | apply below_drew1) | exact HB.out)))); have n2_ := K0 (below_step (by repeat (first | (with_reducible first | exact HB.out | apply below_alloc | apply pw_below_drewN | apply below_drew1) | exact HB.out)) hb); clear HO128; clear HB; have HO128 := n0_; have HO131 := n1_; have HB := n2_; clear n0_ n1_ n2_; clear hb ho7) | ((with_reducible refine gate_dst (N := 6) rfl ?_); (try (refine gate_guard (by rfl) ?_; dsimp only)); refine Kd.R_lit (Kd.int .i64) _ 3 ?hg (N := 6) ?hd (xs := ([2] : List Int)) (inner := [.int .i64 2]) (ok := fun _ => True) (okp := fun _ => True) ?hr ?hp (fun _ hk => hk) trivial (Below.refl _ _) (Nat.le_refl _) (by simp) ?_; (case hd => rfl); (case hg => rfl); (case hr => first | (go_simp; done) | (go_simp; rfl)); (case hp => exact (Reps.one (show Kd.M (Kd.int .i64) _ _ _ 2 [.int .i64 2] from rfl) (Reps.none _ _))); intro v133 w8 ho9 hb hg_ hnew_; clear hg_ hnew_; (first | rw [← Ny132.out] at ho9 | (simp only [Int.reduceToNat] at ho9; rw [← Ny132.out] at ho9)); have n0_ := K0 (Kd.R_elder' (by (with_reducible repeat (first | apply Kd.R_alloc | apply Kd.R_drewN | apply Kd.R_drew)); exact HO128.out) (Kd.R_base ho9) hb); have n1_ := K0 (Kd.R_elder' (by (with_reducible repeat (first | apply Kd.R_alloc | apply Kd.R_drewN | apply Kd.R_drew)); exact HO131.out) (Kd.R_base ho9) hb); have n2_ := K0 (Kd.R_lower (Kd.R_new' (Kd.R_new' ho9 (Kd.R_lt (by (with_reducible repeat (first | apply Kd.R_alloc | apply Kd.R_drewN | apply Kd.R_drew)); exact HO128.out))) (Kd.R_lt (by (with_reducible repeat (first | apply Kd.R_alloc | apply Kd.R_drewN | apply Kd.R_drew)); exact HO131.out))) (below_size (by repeat (first | (with_reducible first | exact HB.out | apply below_alloc | apply pw_below_drewN | apply below_drew1) | exact HB.out)))); have n3_ := K0 (below_step (by repeat (first | (with_reducible first | exact HB.out | apply below_alloc | apply pw_below_drewN | apply below_drew1) | exact HB.out)) hb); clear HO128; clear HO131; clear HB; have HO128 := n0_; have HO131 := n1_; have HO134 := n2_; have HB := n3_; clear n0_ n1_ n2_ n3_; clear hb ho9) | ((with_reducible refine gate_dst (N := 7) rfl ?_); (try (refine gate_guard (by rfl) ?_; dsimp only)); refine Kd.R_lit (Kd.int .i64) _ 3 ?hg (N := 7) ?hd (xs := ([(-2)] : List Int)) (inner := [.int .i64 (-2)]) (ok := fun _ => True) (okp := fun _ => True) ?hr ?hp (fun _ hk => hk) trivial (Below.refl _ _) (Nat.le_refl _) (by simp) ?_; (case hd => rfl); (case hg => rfl); (case hr => first | (go_simp; done) | (go_simp; rfl)); (case hp => exact (Reps.one (show Kd.M (Kd.int .i64) _ _ _ (-2) [.int .i64 (-2)] from rfl) (Reps.none _ _))); intro v136 w10 ho11 hb hg_ hnew_; clear hg_ hnew_; (first | rw [← Ny135.out] at ho11 | (simp only [Int.reduceToNat] at ho11; rw [← Ny135.out] at ho11)); have n0_ := K0 (Kd.R_elder' (by (with_reducible repeat (first | apply Kd.R_alloc | apply Kd.R_drewN | apply Kd.R_drew)); exact HO128.out) (Kd.R_base ho11) hb); have n1_ := K0 (Kd.R_elder' (by (with_reducible repeat (first | apply Kd.R_alloc | apply Kd.R_drewN | apply Kd.R_drew)); exact HO131.out) (Kd.R_base ho11) hb); have n2_ := K0 (Kd.R_elder' (by (with_reducible repeat (first | apply Kd.R_alloc | apply Kd.R_drewN | apply Kd.R_drew)); exact HO134.out) (Kd.R_base ho11) hb); have n3_ := K0 (Kd.R_lower (Kd.R_new' (Kd.R_new' (Kd.R_new' ho11 (Kd.R_lt (by (with_reducible repeat (first | apply Kd.R_alloc | apply Kd.R_drewN | apply Kd.R_drew)); exact HO128.out))) (Kd.R_lt (by (with_reducible repeat (first | apply Kd.R_alloc | apply Kd.R_drewN | apply Kd.R_drew)); exact HO131.out))) (Kd.R_lt (by (with_reducible repeat (first | apply Kd.R_alloc | apply Kd.R_drewN | apply Kd.R_drew)); exact HO134.out))) (below_size (by repeat (first | (with_reducible first | exact HB.out | apply below_alloc | apply pw_below_drewN | apply below_drew1) | exact HB.out)))); have n4_ := K0 (below_step (by repeat (first | (with_reducible first | exact HB.out | apply below_alloc | apply pw_below_drewN | apply below_drew1) | exact HB.out)) hb); clear HO128; clear HO131; clear HO134; clear HB; have HO128 := n0_; have HO131 := n1_; have HO134 := n2_; have HO137 := n3_; have HB := n4_; clear n0_ n1_ n2_ n3_ n4_; clear hb ho11; obtain ⟨Ao12, co12, eo12⟩ := Kd.R_slice HO128.out; subst eo12; obtain ⟨Ao13, co13, eo13⟩ := Kd.R_slice HO131.out; subst eo13; obtain ⟨Ao14, co14, eo14⟩ := Kd.R_slice HO134.out; subst eo14; obtain ⟨Ao15, co15, eo15⟩ := Kd.R_slice HO137.out; subst eo15) | ((with_reducible refine gate_dst (N := 8) rfl ?_); (try (refine gate_guard (by rfl) ?_; dsimp only)); refine Kd.N_lit (Kd.slice 3 (Kd.int .i64)) _ 29 ?hg (N' := 8) ?hd (xs := ([y126, y129, y132, y135] : List (List Int))) (inner := [.slice Ao12 y126.length co12, .slice Ao13 y129.length co13, .slice Ao14 y132.length co14, .slice Ao15 y135.length co15]) (ok := (fun _ => True)) (okp := (fun _ => True)) ?hr ?hp (fun _ hk => hk) ((show ∀ k_, w10.heap.size ≤ k_ → (fun _ => True) k_ from fun k_ hk => trivial) _ (Nat.le_refl _)) (Below.refl _ _) (Nat.le_refl _) (by simp) ?_; (case hd => rfl); (case hg => rfl); (case hr => first | (go_simp; done) | (go_simp; rfl)); (case hp => exact (Reps.one (show Kd.FK (Kd.slice 3 (Kd.int .i64)) _ _ y126 [.slice Ao12 y126.length co12] from (Kd.FK_slice_mk (Kd.R_reads' (Kd.R_mono (ok' := (fun _ => True)) (HO128.out) (fun k_ hk => trivial))).2.1 (Kd.R_F (Kd.R_mono (ok' := (fun _ => True)) (HO128.out) (fun k_ hk => trivial))))) (Reps.one (show Kd.FK (Kd.slice 3 (Kd.int .i64)) _ _ y129 [.slice Ao13 y129.length co13] from (Kd.FK_slice_mk (Kd.R_reads' (Kd.R_mono (ok' := (fun _ => True)) (HO131.out) (fun k_ hk => trivial))).2.1 (Kd.R_F (Kd.R_mono (ok' := (fun _ => True)) (HO131.out) (fun k_ hk => trivial))))) (Reps.one (show Kd.FK (Kd.slice 3 (Kd.int .i64)) _ _ y132 [.slice Ao14 y132.length co14] from (Kd.FK_slice_mk (Kd.R_reads' (Kd.R_mono (ok' := (fun _ => True)) (HO134.out) (fun k_ hk => trivial))).2.1 (Kd.R_F (Kd.R_mono (ok' := (fun _ => True)) (HO134.out) (fun k_ hk => trivial))))) (Reps.one (show Kd.FK (Kd.slice 3 (Kd.int .i64)) _ _ y135 [.slice Ao15 y135.length co15] from (Kd.FK_slice_mk (Kd.R_reads' (Kd.R_mono (ok' := (fun _ => True)) (HO137.out) (fun k_ hk => trivial))).2.1 (Kd.R_F (Kd.R_mono (ok' := (fun _ => True)) (HO137.out) (fun k_ hk => trivial))))) (Reps.none _ _)))))); intro v139 w16 ho17 hb hg_ hnew_; clear hg_ hnew_; (first | rw [← Ny138.out] at ho17 | (simp only [Int.reduceToNat] at ho17; rw [← Ny138.out] at ho17)); have n0_ := K0 (Kd.N_lower ho17 (below_size (by repeat (first | (with_reducible first | exact HB.out | apply below_alloc | apply pw_below_drewN | apply below_drew1) | exact HB.out)))); have n1_ := K0 (below_step (by repeat (first | (with_reducible first | exact HB.out | apply below_alloc | apply pw_below_drewN | apply below_drew1) | exact HB.out)) hb); clear HB; clear HO128; clear HO131; clear HO134; clear HO137; have HO140 := n0_; have HB := n1_; clear n0_ n1_; clear hb ho17; obtain ⟨Ao18, co18, eo18⟩ := Kd.N_slice HO140.out; subst eo18) | ((with_reducible refine gate_callee (f := 21) rfl ?_); refine goesL_ (some 10) rfl rfl Try.func21 (by kernel_rfl) rfl #[.agg #[.int .i64 2, .slice Ao18 y138.length co18]] rfl (by (try simp only [List.map_toArray, List.map_cons, List.map_nil]); first | done | rfl | (simp only [List.length_drop, List.length_take]; rfl)) ?_; (with_reducible refine (core_Minimal.calls k 2 (fun k_ => True) _ _ y138 t141 t144 _ ?side1 A1.out).mono ?_); (case side1 => exact Kd.N_V (HO140.out)); rintro e w19 ⟨v142, rfl, ho0, hb⟩; refine ⟨_, rfl, ?_⟩; have n0_ := K0 (Kd.N_elder' (by (with_reducible repeat (first | apply Kd.N_alloc | apply Kd.N_drewN | apply Kd.N_drew)); exact HO140.out) (Kd.R_base ho0) hb); have n1_ := K0 (Kd.R_lower (Kd.R_mono (ok' := fun k_ => True) ho0 (fun _ hk_ => trivial)) (below_size (by repeat (first | (with_reducible first | exact HB.out | apply below_alloc | apply pw_below_drewN | apply below_drew1) | exact HB.out)))); have n2_ := K0 (below_step (by repeat (first | (with_reducible first | exact HB.out | apply below_alloc | apply pw_below_drewN | apply below_drew1) | exact HB.out)) hb); clear HO140; clear HB; have HO140 := n0_; have HO143 := n1_; have HB := n2_; clear n0_ n1_ n2_; (try clear hb); (try clear hb2); (try clear hk); (try clear hi); (try clear ho0)) | ((with_reducible refine gate_dst (N := 17) rfl ?_); (try (refine gate_guard (by rfl) ?_; dsimp only)); refine Kd.R_lit (Kd.int .i64) _ 3 ?hg (N := 17) ?hd (xs := ([2, 3] : List Int)) (inner := [.int .i64 2, .int .i64 3]) (ok := fun _ => True) (okp := fun _ => True) ?hr ?hp (fun _ hk => hk) trivial (Below.refl _ _) (Nat.le_refl _) (by simp) ?_; (case hd => rfl); (case hg => rfl); (case hr => first | (go_simp; done) | (go_simp; rfl)); (case hp => exact (Reps.one (show Kd.M (Kd.int .i64) _ _ _ 2 [.int .i64 2] from rfl) (Reps.one (show Kd.M (Kd.int .i64) _ _ _ 3 [.int .i64 3] from rfl) (Reps.none _ _)))); intro v146 w20 ho21 hb hg_ hnew_; clear hg_ hnew_; (first | rw [← Ny145.out] at ho21 | (simp only [Int.reduceToNat] at ho21; rw [← Ny145.out] at ho21)); have n0_ := K0 (Kd.N_elder' (by (with_reducible repeat (first | apply Kd.N_alloc | apply Kd.N_drewN | apply Kd.N_drew)); exact HO140.out) (Kd.R_base ho21) hb); have n1_ := K0 (Kd.R_elder' (by (with_reducible repeat (first | apply Kd.R_alloc | apply Kd.R_drewN | apply Kd.R_drew)); exact HO143.out) (Kd.R_base ho21) hb); have n2_ := K0 (Kd.R_lower (Kd.R_new' ho21 (Kd.R_lt (by (with_reducible repeat (first | apply Kd.R_alloc | apply Kd.R_drewN | apply Kd.R_drew)); exact HO143.out))) (below_size (by repeat (first | (with_reducible first | exact HB.out | apply below_alloc | apply pw_below_drewN | apply below_drew1) | exact HB.out)))); have n3_ := K0 (below_step (by repeat (first | (with_reducible first | exact HB.out | apply below_alloc | apply pw_below_drewN | apply below_drew1) | exact HB.out)) hb); clear HO140; clear HO143; clear HB; have HO140 := n0_; have HO143 := n1_; have HO147 := n2_; have HB := n3_; clear n0_ n1_ n2_ n3_; clear hb ho21; obtain ⟨Ao22, co22, eo22⟩ := Kd.R_slice HO143.out; subst eo22; obtain ⟨Ao23, co23, eo23⟩ := Kd.R_slice HO147.out; subst eo23) | (go_at_call 18; (with_reducible refine (sequiturbase_Ints.calls k _ _ t141 _ _ y145 t148 _ ?side1 ?side2 ?side3 ?side4 A3.out).mono ?_); (case side1 => repeat (first | exact (Kd.R_reads' HO143.out).2.2 | (with_reducible refine Kd.C_alloc ?_ _) | (with_reducible refine Kd.C_drewN ?_ _) | (with_reducible refine Kd.C_drew ?_))); (case side2 => exact (Kd.R_reads' HO143.out).2.1); (case side3 => repeat (first | exact (Kd.R_reads' HO147.out).2.2 | (with_reducible refine Kd.C_alloc ?_ _) | (with_reducible refine Kd.C_drewN ?_ _) | (with_reducible refine Kd.C_drew ?_))); (case side4 => exact (Kd.R_reads' HO147.out).2.1); rintro e w' ⟨rfl, ⟨nd, rfl⟩⟩))
    go_ret
    exact ⟨by first | rfl | (simp [errW_none, errW_some] <;> rfl) | (simp [*, errW_none, errW_some] <;> rfl), by repeat (first | (with_reducible first | exact HB.out | apply below_alloc | apply pw_below_drewN | apply below_drew1) | exact HB.out)⟩
set_option maxRecDepth 100000 in
set_option maxHeartbeats 2000000 in
theorem slices_IndexFunc_chains.calls (gf : Nat) (lb : Array Value) (eg : ∀ args w, (callFunc gf args).run Try.prog w = .ok (.enter gf args) w) (p : S48 → Bool) (A : Option Addr) (c : Nat) (xs : List S48) (w : World)
    (hr : Kd.C k48 w A xs.length xs) (hp : ∀ W, Below w.heap.size w W → ∀ x ∈ xs, ∀ (A0 : Option Addr) (c0 : Nat) (A1 : Option Addr) (c1 : Nat), x.f0.length ≤ c0 → Kd.C (Kd.int .i64) W A0 x.f0.length x.f0 → x.f1.length ≤ c1 → Kd.C (Kd.int .i64) W A1 x.f1.length x.f1 → Calls Try.prog gf (#[.agg #[.slice A0 x.f0.length c0, .slice A1 x.f1.length c1]] ++ lb) W fun e W' => e = .returned (.bool (p x)) ∧ Below W.heap.size W W') :
    Calls Try.prog 45 #[.slice A xs.length c, .func (.func gf) #[] lb] w fun e w' => e = .returned (.int .i64 (ixOf p xs 0)) ∧ Below w.heap.size w w' := by
  have HR := K0 hr
  have HP := K0 hp
  have hbig := hr.2.1
  have hu64 := Try.underlying48
  clear hr hp
  go_enter Try.func45, Try.ntmps45
  go_wp2
  go_loopg [5, 8] xs.length (fun gg _ s8 wr => ∃ kk : Nat, s8 = .int .i64 (kk : Int) ∧ Aside0 (kk + gg = xs.length) ∧ Aside0 (Below w.heap.size w wr) ∧ Aside0 (ixOf p xs 0 = ixOf p (xs.drop kk) (kk : Int)))
  case atStart => exact ⟨0, rfl, ⟨by simp⟩, ⟨Below.refl _ _⟩, ⟨rfl⟩⟩
  case round =>
    obtain ⟨kk, rfl, hg, hb, hx⟩ := hrel
    by_cases hlt : kk < xs.length
    · obtain ⟨ad, A0, c0, A1, c1, e1, x1, x2, hl0, hC0, hl1, hC1⟩ := at_T48 (Kd.C_below HR.out hb.out) (kk : Int) (by omega) (by omega)
      cases e1
      obtain ⟨y, hy⟩ : ∃ y, xs[kk] = y := ⟨_, rfl⟩
      have hrd : rd_T48 xs (kk : Int) = y := by simp [rd_T48, hlt, hy]
      rw [hrd] at x1 x2 hl0 hC0 hl1 hC1
      simp only [Int.toNat_natCast] at x1 x2
      have hcall := HP.out _ hb.out y (by rw [← hy]; exact List.getElem_mem hlt) A0 c0 A1 c1 hl0 hC0 hl1 hC1
      have hx2 := hx.out
      rw [ixOf_drop p xs kk hlt, hy] at hx2
      have HX2 := K0 hx2
      clear hx2 hx hrd hy hC0 hC1
      have P0 : ((0 : Int) ≤ (kk : Int)) = True := eq_true (by omega)
      have P1 : ((kk : Int) < (xs.length : Int)) = True := eq_true (by omega)
      have P2 : (kk < xs.length) = True := eq_true hlt
      have hd : decide ((kk : Int) < (xs.length : Int)) = true := decide_eq_true (by omega)
      cases hq : p y with
      | true =>
        rw [hq] at hcall
        have hz := HX2.out
        rw [if_pos hq] at hz
        have HZ := K0 hz
        clear hz
        go_wp2_with fail
        refine hcall.mono ?_
        rintro e w' ⟨rfl, hb'⟩
        go_wp2
        go_ret
        exact ⟨by rw [HZ.out]; rfl, hb.out.trans (hb'.mono hb.out.size)⟩
      | false =>
        rw [hq] at hcall
        have hz := HX2.out
        rw [if_neg (by rw [hq]; decide)] at hz
        have HZ := K0 hz
        clear hz
        go_wp2_with fail
        refine hcall.mono ?_
        rintro e w' ⟨rfl, hb'⟩
        go_wp2
        go_roundg (xs.length - (kk + 1))
        case measure => have := hg.out; omega
        case rel => exact ⟨kk + 1, by simp, ⟨by omega⟩, ⟨hb.out.trans (hb'.mono hb.out.size)⟩, HZ⟩
    · have hd : decide ((kk : Int) < (xs.length : Int)) = false := decide_eq_false (by omega)
      have hz := hx.out
      rw [List.drop_of_length_le (by omega), ixOf_nil] at hz
      have HZ := K0 hz
      clear hz hx
      go_wp2
      go_ret
      exact ⟨by rw [HZ.out]; rfl, hb.out⟩
set_option maxRecDepth 100000 in
theorem slices_ContainsFunc_chains.calls (gf : Nat) (lb : Array Value) (eg : ∀ args w, (callFunc gf args).run Try.prog w = .ok (.enter gf args) w) (p : S48 → Bool) (A : Option Addr) (c : Nat) (xs : List S48) (w : World)
    (hr : Kd.C k48 w A xs.length xs) (hp : ∀ W, Below w.heap.size w W → ∀ x ∈ xs, ∀ (A0 : Option Addr) (c0 : Nat) (A1 : Option Addr) (c1 : Nat), x.f0.length ≤ c0 → Kd.C (Kd.int .i64) W A0 x.f0.length x.f0 → x.f1.length ≤ c1 → Kd.C (Kd.int .i64) W A1 x.f1.length x.f1 → Calls Try.prog gf (#[.agg #[.slice A0 x.f0.length c0, .slice A1 x.f1.length c1]] ++ lb) W fun e W' => e = .returned (.bool (p x)) ∧ Below W.heap.size W W') :
    Calls Try.prog 30 #[.slice A xs.length c, .func (.func gf) #[] lb] w fun e w' => e = .returned (.bool (decide (0 ≤ ixOf p xs 0))) ∧ Below w.heap.size w w' := by
  have HC := K0 (slices_IndexFunc_chains.calls gf lb eg p A c xs w hr hp)
  clear hr hp
  go_enter Try.func30, Try.ntmps30
  go_wp2_with fail
  refine HC.out.mono ?_
  rintro e w' ⟨rfl, hb'⟩
  go_wp2
  go_ret
  exact ⟨by simp, hb'⟩
def foldM {σ : Type} (f : σ → Int → Option σ) : List Int → σ → Option σ
  | [], s => some s
  | x :: t, s => (f s x).bind (foldM f t)
def markP (n : Nat) (fs : List (List Int)) : Nat → List Int → Int → Option (List Int)
  | 0, _, _ => none
  | m + 1, s, v => if (Lit.int .i64 v).wf = true ∧ s.length < 2199023255552 then (if v ∈ s then some s else if v < (n : Int) then some (v :: s) else if (v - n).toNat < fs.length then foldM (fun s x => markP n fs m s x) (fs.getD (v - n).toNat []) (v :: s) else none) else none
theorem foldM_mono {σ : Type} {f g : σ → Int → Option σ} (h : ∀ s x r, f s x = some r → g s x = some r) : ∀ (l : List Int) (s r : σ), foldM f l s = some r → foldM g l s = some r
  | [], _, _, e => e
  | x :: l, s, r, e => by
    obtain ⟨s1, e1, e2⟩ := Option.bind_eq_some_iff.1 (show (f s x).bind (foldM f l) = some r from e)
    show (g s x).bind (foldM g l) = some r
    rw [h s x s1 e1]
    exact foldM_mono h l s1 r e2
theorem markP_mono (n : Nat) (fs : List (List Int)) : ∀ (m : Nat) (s : List Int) (l : Int) (r : List Int), markP n fs m s l = some r → markP n fs (m + 1) s l = some r
  | 0, s, l, r, h => by simp [markP] at h
  | m + 1, s, l, r, h => by
    unfold markP at h ⊢
    split at h
    · rename_i h0; rw [if_pos h0]
      split at h
      · rename_i h1; rw [if_pos h1]; exact h
      · rename_i h1; rw [if_neg h1]
        split at h
        · rename_i h3; rw [if_pos h3]; exact h
        · rename_i h3; rw [if_neg h3]
          split at h
          · rename_i h4; rw [if_pos h4]
            exact foldM_mono (fun s x r hr => markP_mono n fs m s x r hr) _ _ _ h
          · cases h
    · cases h
def nums25 (P : Nat → Bool) (n : Nat) : List Int := ((List.range n).filter P).map fun v : Nat => (v : Int)
theorem nums25_succ (P : Nat → Bool) (n : Nat) : nums25 P (n + 1) = if P n = true then nums25 P n ++ [(n : Int)] else nums25 P n := by
  unfold nums25
  rw [List.range_succ, List.filter_append, List.map_append]
  by_cases h : P n = true
  · rw [if_pos h, List.filter_cons_of_pos h]; rfl
  · rw [if_neg h, List.filter_cons_of_neg h, List.filter_nil, List.map_nil, List.append_nil]
theorem nums25_le (P : Nat → Bool) (n : Nat) : (nums25 P n).length ≤ n := by
  unfold nums25
  rw [List.length_map]
  have := List.length_filter_le P (List.range n)
  rwa [List.length_range] at this
theorem nums25_step (s : List Int) (n j : Nat) :
    (¬ (j : Int) ∈ s → nums25 (fun v => decide ((v : Int) ∈ s)) (min (j + 1) n) = nums25 (fun v => decide ((v : Int) ∈ s)) (min j n) ∧ nums25 (fun i => decide (((n + i : Nat) : Int) ∈ s)) (j + 1 - n) = nums25 (fun i => decide (((n + i : Nat) : Int) ∈ s)) (j - n)) ∧
    ((j : Int) ∈ s → j < n → nums25 (fun v => decide ((v : Int) ∈ s)) (min (j + 1) n) = nums25 (fun v => decide ((v : Int) ∈ s)) (min j n) ++ [(j : Int)] ∧ nums25 (fun i => decide (((n + i : Nat) : Int) ∈ s)) (j + 1 - n) = nums25 (fun i => decide (((n + i : Nat) : Int) ∈ s)) (j - n)) ∧
    ((j : Int) ∈ s → n ≤ j → nums25 (fun v => decide ((v : Int) ∈ s)) (min (j + 1) n) = nums25 (fun v => decide ((v : Int) ∈ s)) (min j n) ∧ nums25 (fun i => decide (((n + i : Nat) : Int) ∈ s)) (j + 1 - n) = nums25 (fun i => decide (((n + i : Nat) : Int) ∈ s)) (j - n) ++ [((j - n : Nat) : Int)]) := by
  by_cases hj : j < n
  · have e1 : min (j + 1) n = j + 1 := by omega
    have e2 : min j n = j := by omega
    have e3 : j + 1 - n = 0 := by omega
    have e4 : j - n = 0 := by omega
    rw [e1, e2, e3, e4, nums25_succ]
    refine ⟨fun h => ⟨if_neg (by simpa using h), rfl⟩, fun h _ => ⟨if_pos (by simpa using h), rfl⟩, fun _ h => absurd h (by omega)⟩
  · have e1 : min (j + 1) n = n := by omega
    have e2 : min j n = n := by omega
    have e3 : j + 1 - n = (j - n) + 1 := by omega
    have e4 : n + (j - n) = j := by omega
    rw [e1, e2, e3, nums25_succ, e4]
    refine ⟨fun h => ⟨rfl, if_neg (by simpa using h)⟩, fun _ h => absurd h hj, fun h _ => ⟨rfl, if_pos (by simpa using h)⟩⟩
theorem wf25 {j : Nat} (h : j < 9223372036854775808) : (Lit.int .i64 (j : Int)).wf = true := by
  simp only [Lit.wf, Bool.and_eq_true, decide_eq_true_eq]
  have a : IntKind.i64.min = -9223372036854775808 := by decide
  have b : IntKind.i64.max = 9223372036854775807 := by decide
  omega
def heldR (v : Value) : Option (DataW Value × List MemPlace) := some (.held v, [])
def KeysI (D : DataW Value) : Prop := ∃ es, D = .map es ∧ es.Pairwise (fun p q => p.1 ≠ q.1) ∧ ∀ p ∈ es, ∃ x : Int, p.1 = .int .i64 x
def MapI (P : Program) (k : TypeId) (w : World) (b : Nat) (f : Int → Option Value) : Prop :=
  ∃ D, w.ownsMap P k heldR b (Maps.size D) D ∧ KeysI D ∧ ∀ x : Int, Maps.has D (.int .i64 x) = (f x).isSome ∧ ∀ z, D.atKey (.int .i64 x) (.held z) = .held ((f x).getD z)
section
variable {P : Program} {k : TypeId} {w : World} {b : Nat} {f : Int → Option Value}
theorem ownsMap_tight {R : Value → Option (DataW Value × List MemPlace)} {n : Nat} {D : DataW Value} (h : w.ownsMap P k R b n D) : w.ownsMap P k R b (Maps.size D) D := by
  obtain ⟨es, clock, hb, F, hs, rfl⟩ := h
  exact ⟨es, clock, hb, F, by simp [Maps.size, Go.length_sorted], rfl⟩
theorem KeysI.tidy {D : DataW Value} (h : KeysI D) : Maps.Tidy D := by
  obtain ⟨es, e, hp, _⟩ := h
  exact ⟨es, e, hp⟩
theorem mem_insert_lit {x y : Lit × DataW Value} : ∀ {l : List (Lit × DataW Value)}, y ∈ DataW.insert x l → y = x ∨ y ∈ l
  | [], h => by simp [DataW.insert] at h; exact .inl h
  | z :: r, h => by
    unfold DataW.insert at h
    split at h
    · rcases List.mem_cons.1 h with h | h
      · exact .inl h
      · exact .inr h
    · rcases List.mem_cons.1 h with h | h
      · exact .inr (by simp [h])
      · rcases mem_insert_lit h with h | h
        · exact .inl h
        · exact .inr (by simp [h])
theorem KeysI.put {D : DataW Value} (h : KeysI D) (x : Int) (d : DataW Value) : KeysI (D.put (.int .i64 x) d) := by
  obtain ⟨es', e', hp'⟩ := h.tidy.put (k := .int .i64 x) trivial d
  refine ⟨es', e', hp', fun p hp => ?_⟩
  obtain ⟨es, rfl, _, hk⟩ := h
  unfold DataW.put at e'
  injection e' with e'
  rw [← e'] at hp
  rcases mem_insert_lit hp with rfl | hp
  · exact ⟨x, rfl⟩
  · exact hk p (List.mem_filter.1 hp).1
theorem KeysI.del {D : DataW Value} (h : KeysI D) (x : Int) : KeysI (D.del (.int .i64 x)) := by
  obtain ⟨es', e', hp'⟩ := h.tidy.del (.int .i64 x)
  refine ⟨es', e', hp', fun p hp => ?_⟩
  obtain ⟨es, rfl, _, hk⟩ := h
  unfold DataW.del at e'
  injection e' with e'
  rw [← e'] at hp
  exact hk p (List.mem_filter.1 hp).1
theorem nodup_le : ∀ {K L : List Int}, K.Nodup → (∀ x ∈ K, x ∈ L) → K.length ≤ L.length
  | [], _, _, _ => by simp
  | x :: K, L, hn, h => by
    obtain ⟨h1, h2⟩ := List.nodup_cons.1 hn
    have hx := h x (by simp)
    have := nodup_le (K := K) (L := L.erase x) h2 (fun y hy => (List.mem_erase_of_ne (by rintro rfl; exact h1 hy)).2 (h y (by simp [hy])))
    rw [List.length_erase_of_mem hx] at this
    have := List.length_pos_of_mem hx
    rw [List.length_cons]; omega
theorem size_le_cover {D : DataW Value} (hD : KeysI D) (hf : ∀ x : Int, Maps.has D (.int .i64 x) = (f x).isSome) (L : List Int) (hL : ∀ x, (f x).isSome = true → x ∈ L) : Maps.size D ≤ L.length := by
  obtain ⟨es, rfl, hp, hk⟩ := hD
  let g : Lit × DataW Value → Int := fun p => match p.1 with | .int _ x => x | _ => 0
  have hg : ∀ p ∈ es, p.1 = .int .i64 (g p) := fun p hp => by
    obtain ⟨x, e⟩ := hk p hp
    show p.1 = .int .i64 (match p.1 with | .int _ x => x | _ => 0)
    rw [e]
  have hn : (es.map g).Nodup := by
    unfold List.Nodup
    rw [List.pairwise_map]
    refine hp.imp_of_mem fun {p q} hp hq hne e => hne ?_
    rw [hg p hp, hg q hq, e]
  have := nodup_le hn (L := L) (fun x hx => by
    obtain ⟨p, hpm, rfl⟩ := List.mem_map.1 hx
    refine hL _ ?_
    rw [← hf]
    rw [Maps.has_eq, List.any_eq_true]
    exact ⟨p, hpm, by rw [hg p hpm]; simp [Lit.sameKey]⟩)
  simpa [Maps.size] using this
theorem MapI.made (w : World) (P : Program) (k : TypeId) : MapI P k (w.alloc (.map #[] 0)) w.heap.size (fun _ => none) :=
  ⟨.map [], World.ownsMap_made w P k heldR, ⟨[], rfl, List.Pairwise.nil, fun p hp => by cases hp⟩, fun x => ⟨rfl, fun z => rfl⟩⟩
theorem MapI.lt (h : MapI P k w b f) : b < w.heap.size := by
  obtain ⟨D, h, _⟩ := h
  exact h.lt
theorem MapI.block {w' : World} (h : MapI P k w b f) (hb : w'.heap[b]? = w.heap[b]?) : MapI P k w' b f := by
  obtain ⟨D, ⟨es, clock, h1, F, h2⟩, r⟩ := h
  exact ⟨D, ⟨es, clock, hb.trans h1, F, h2⟩, r⟩
theorem MapI.congr {g : Int → Option Value} (h : MapI P k w b f) (e : ∀ x, f x = g x) : MapI P k w b g := by
  rw [← funext e]; exact h
theorem MapI.look {t e : TypeId} (h : MapI P k w b f) (hk : P.underlying k = some (.int .i64)) (ht : P.underlying t = some (.map k e)) {z : Value} (hz : (zeroValue e).run P w = .ok z w) {x : Int} (hx : (Lit.int .i64 x).wf = true) :
    (Instr.lookup t (.map (some b)) (.int .i64 x) false).run P w = .ok ((f x).getD z) w := by
  obtain ⟨D, h, _, hf⟩ := h
  obtain ⟨v, ps, hrun, hv⟩ := h.lookup (Maps.int_keyed hk) ht hz (show heldR z = some (.held z, []) from rfl) (Maps.keyOf_int_mk hk hx)
  rw [(hf x).2 z] at hv
  simp only [heldR, Option.some.injEq, Prod.mk.injEq, DataW.held.injEq] at hv
  rw [hrun, hv.1]
def setI (f : Int → Option Value) (x : Int) (v : Option Value) : Int → Option Value := fun y => if y = x then v else f y
theorem MapI.store {t e : TypeId} (h : MapI P k w b f) (hk : P.underlying k = some (.int .i64)) (ht : P.underlying t = some (.map k e)) {x : Int} (hx : (Lit.int .i64 x).wf = true) (v : Value) (L : List Int) (hL : ∀ x, (f x).isSome = true → x ∈ L) (hn : L.length < 4611686018427387904) :
    ∃ w', (Instr.mapUpdate t (.map (some b)) (.int .i64 x) v).run P w = .ok () w' ∧ MapI P k w' b (setI f x (some v)) ∧ w.grownBy w' (some b) := by
  obtain ⟨D, h, hD, hf⟩ := h
  have hsz := size_le_cover hD (fun x => (hf x).1) L hL
  obtain ⟨w', hrun, hown, hg⟩ := h.update (Maps.int_keyed hk) ht (by unfold maxLen; omega) (Maps.keyOf_int_mk hk hx) (show heldR v = some (.held v, []) from rfl)
  refine ⟨w', hrun, ⟨_, ownsMap_tight hown, hD.put x _, fun y => ?_⟩, hg⟩
  unfold setI
  by_cases e : y = x
  · subst e
    rw [if_pos rfl]
    exact ⟨Maps.has_put_same hD.tidy.isMap (show WideAt.IsKeyLit (.int .i64 y) from trivial) _, fun z => Maps.atKey_put_same hD.tidy.isMap (show WideAt.IsKeyLit (.int .i64 y) from trivial) _ _⟩
  · rw [if_neg e]
    have hne : (Lit.int .i64 y) ≠ .int .i64 x := fun h => e (by injection h)
    rw [Maps.has_put_other hne]
    exact ⟨(hf y).1, fun z => by rw [Maps.atKey_put_other hne]; exact (hf y).2 z⟩
theorem MapI.drop {t e : TypeId} (h : MapI P k w b f) (hk : P.underlying k = some (.int .i64)) (ht : P.underlying t = some (.map k e)) {x : Int} (hx : (Lit.int .i64 x).wf = true) (ty : TypeId) :
    ∃ w', (Builtin.delete_ #[t, k] ty #[.map (some b), .int .i64 x]).run P w = .ok (.tuple #[]) w' ∧ MapI P k w' b (setI f x none) ∧ w.grownBy w' (some b) := by
  obtain ⟨D, h, hD, hf⟩ := h
  obtain ⟨w', hrun, hown, ht'⟩ := h.drop (Maps.int_keyed hk) ht (Maps.keyOf_int_mk hk hx) ty
  refine ⟨w', hrun, ⟨_, ownsMap_tight hown, hD.del x, fun y => ?_⟩, ht'.grown⟩
  unfold setI
  by_cases e : y = x
  · subst e
    rw [if_pos rfl]
    exact ⟨Maps.has_del_same, fun z => Maps.atKey_del_same _⟩
  · rw [if_neg e]
    have hne : (Lit.int .i64 y) ≠ .int .i64 x := fun h => e (by injection h)
    rw [Maps.has_del_other hne]
    exact ⟨(hf y).1, fun z => by rw [Maps.atKey_del_other hne]; exact (hf y).2 z⟩
end
section
variable {P : Program} {w : World} {ops : Array Oper} {rest : List Oper} {o : Oper} {a : Act} {Q : Exit → Act → World → Prop}
theorem wpList_store_I (hg : o.guard = none) (m x v : Operand) (t : TypeId) (hop : o.op = Op.mapUpdate t m x v) (k e : TypeId) (hk : P.underlying k = some (.int .i64)) (ht : P.underlying t = some (.map k e)) (b : Nat) (f : Int → Option Value)
    (hm : a.eval m = .map (some b)) (h : MapI P k w b f) (y : Int) (val : Value) (hx : a.eval x = .int .i64 y) (hv : a.eval v = val) (hy : (Lit.int .i64 y).wf = true) (L : List Int) (hL : ∀ x, (f x).isSome = true → x ∈ L) (hn : L.length < 4611686018427387904)
    (hK : ∀ w', MapI P k w' b (setI f y (some val)) → w.grownBy w' (some b) → wpList P ops Q rest (a.put o.dst undef) w') : wpList P ops Q (o :: rest) a w := by
  refine wpList_plain hg fun K' hK' => ?_
  obtain ⟨w', hrun, r1, r2⟩ := h.store hk ht hy val L hL hn
  unfold Oper.wp
  simp [execOp, hop, hm, hx, hv, hrun, Result.andThen]
  exact hK' _ _ (hK w' r1 r2)
end
theorem results_c2 {P : Program} {fn : Func} {p u : Tmp} {ty : TypeId} (h : fn.results = #[.cell p ty, .tmp u]) (tmps : Array Value) (w : World) (g : Nat) (t : TypeId) (cs : Array Value) (fr : Nat × Nat) (d : TypeDesc)
    (hp : tmps.getD p undef = .pointer (some ⟨g, 0, none⟩)) (hg : w.heap[g]? = some (.cells cs t fr))
    (hu : P.underlying ty = some d) (hd : (match d with | .struct _ | .array _ _ => true | _ => false) = true) (hi : (P.info? ty).map (·.size) = some cs.size) :
    (results fn tmps).run P w = .ok (.tuple #[.agg cs, tmps.getD u undef]) w := by
  have hp' : tmps[p]?.getD undef = .pointer (some ⟨g, 0, none⟩) := by simpa using hp
  simp [results, h, hp', asAddr, run_loadVar_row w g t ty cs fr d hg hu hd hi]
abbrev put2 (w : World) (g : Nat) (v0 v1 : Value) : World := (w.setCell ⟨g, 0, none⟩ v0).setCell ⟨g, 1, none⟩ v1
section
variable {w : World} {g : Nat} {a0 a1 : Value} {t : TypeId}
theorem put2_facts (hx : w.heap[g]? = some (.cells #[a0, a1] t (0, 0))) (v0 v1 : Value) :
    (w.cell? ⟨g, 0, none⟩ = some a0 ∧ w.frozen? ⟨g, 0, none⟩ = false) ∧ ((w.setCell ⟨g, 0, none⟩ v0).cell? ⟨g, 1, none⟩ = some a1 ∧ (w.setCell ⟨g, 0, none⟩ v0).frozen? ⟨g, 1, none⟩ = false) ∧
      (put2 w g v0 v1).heap[g]? = some (.cells #[v0, v1] t (0, 0)) := by
  have h1 := blk_put (cs' := #[v0, a1]) hx 0 v0 rfl
  have h2 := blk_put (cs' := #[v0, v1]) h1 1 v1 rfl
  exact ⟨⟨blk_cell hx 0, blk_frozen hx 0⟩, ⟨blk_cell h1 1, blk_frozen h1 1⟩, h2⟩
theorem put2_far (v0 v1 : Value) (k : Nat) (hk : k ≠ g) : (put2 w g v0 v1).heap[k]? = w.heap[k]? :=
  (Below.heap_setCell _ _ v1 k hk).trans (Below.heap_setCell _ _ v0 k hk)
theorem put2_below {w0 : World} (h : Below w0.heap.size w0 w) (hg : w0.heap.size ≤ g) (v0 v1 : Value) : Below w0.heap.size w0 (put2 w g v0 v1) := (h.setCell hg _).setCell hg _
end
def seen25 (s : List Int) (x : Int) : Option Value := if x ∈ s then some (.bool true) else none
structure MkIn (wl w : World) (gM gC gL gF bM : Nat) (n0 : Int) (A0 : Option Addr) (c0 : Nat) (l0 : List (List Int)) (A1 : Option Addr) (c1 : Nat) (l1 : List S48) (s : List Int) : Prop where
  cM : w.heap[gM]? = some (.cells #[.map (some bM)] 75 (0, 0))
  cC : w.heap[gC]? = some (.cells #[.int .i64 n0, .slice A0 l0.length c0] 24 (0, 0))
  cL : w.heap[gL]? = some (.cells #[.slice A1 l1.length c1] 25 (0, 0))
  cF : w.heap[gF]? = some (.cells #[.func (.func 44) #[] #[.pointer (some ⟨gM, 0, none⟩), .pointer (some ⟨gC, 0, none⟩), .pointer (some ⟨gL, 0, none⟩), .pointer (some ⟨gF, 0, none⟩)]] 76 (0, 0))
  mp : MapI Try.prog 3 w bM (seen25 s)
  bel : Below wl.heap.size wl w
  hi : wl.heap.size ≤ bM
  ne : gM ≠ bM ∧ gC ≠ bM ∧ gL ≠ bM ∧ gF ≠ bM
section
variable {wl w w1 : World} {gM gC gL gF bM : Nat} {n0 : Int} {A0 : Option Addr} {c0 : Nat} {l0 : List (List Int)} {A1 : Option Addr} {c1 : Nat} {l1 : List S48} {s : List Int}
theorem MkIn.below (h : MkIn wl w gM gC gL gF bM n0 A0 c0 l0 A1 c1 l1 s) (hb : Below w.heap.size w w1) : MkIn wl w1 gM gC gL gF bM n0 A0 c0 l0 A1 c1 l1 s :=
  ⟨blk_below h.cM hb, blk_below h.cC hb, blk_below h.cL hb, blk_below h.cF hb, h.mp.block (hb.block _ h.mp.lt), below_step h.bel hb, h.hi, h.ne⟩
theorem MkIn.look (h : MkIn wl w gM gC gL gF bM n0 A0 c0 l0 A1 c1 l1 s) {x : Int} (hx : (Lit.int .i64 x).wf = true) : (Instr.lookup 75 (.map (some bM)) (.int .i64 x) false).run Try.prog w = .ok (.bool (decide (x ∈ s))) w := by
  have := h.mp.look Try.underlying3 Try.underlying75 (z := .bool false) (by kernel_rfl) hx
  rw [this]
  unfold seen25
  by_cases hm : x ∈ s
  · rw [if_pos hm, decide_eq_true hm]; rfl
  · rw [if_neg hm, decide_eq_false hm]; rfl
theorem MkIn.see (h : MkIn wl w gM gC gL gF bM n0 A0 c0 l0 A1 c1 l1 s) {x : Int} (hm : MapI Try.prog 3 w1 bM (setI (seen25 s) x (some (.bool true)))) (hg : w.grownBy w1 (some bM)) : MkIn wl w1 gM gC gL gF bM n0 A0 c0 l0 A1 c1 l1 (x :: s) := by
  obtain ⟨n1, n2, n3, n4⟩ := h.ne
  refine ⟨blk_grown h.cM hg (by simpa using n1), blk_grown h.cC hg (by simpa using n2), blk_grown h.cL hg (by simpa using n3), blk_grown h.cF hg (by simpa using n4), hm.congr (fun y => ?_), h.bel.grown hg h.bel.size (fun k e => by cases e; exact h.hi), h.hi, h.ne⟩
  unfold setI seen25
  by_cases e : y = x
  · rw [if_pos e, if_pos (by rw [e]; simp)]
  · rw [if_neg e]
    by_cases hs : y ∈ s
    · rw [if_pos hs, if_pos (List.mem_cons_of_mem _ hs)]
    · rw [if_neg hs, if_neg (fun h => (List.mem_cons.1 h).elim e hs)]
theorem MkIn.grown (h : MkIn wl w gM gC gL gF bM n0 A0 c0 l0 A1 c1 l1 s) {o : Option Nat} (hg : w.grownBy w1 o) (ho : ∀ k, o = some k → k ≠ gM ∧ k ≠ gC ∧ k ≠ gL ∧ k ≠ gF ∧ k ≠ bM ∧ wl.heap.size ≤ k) : MkIn wl w1 gM gC gL gF bM n0 A0 c0 l0 A1 c1 l1 s :=
  ⟨blk_grown h.cM hg (fun e => (ho _ e.symm).1 rfl), blk_grown h.cC hg (fun e => (ho _ e.symm).2.1 rfl), blk_grown h.cL hg (fun e => (ho _ e.symm).2.2.1 rfl), blk_grown h.cF hg (fun e => (ho _ e.symm).2.2.2.1 rfl), h.mp.block (hg.block bM h.mp.lt (fun e => (ho _ e.symm).2.2.2.2.1 rfl)), h.bel.grown hg h.bel.size (fun k e => (ho k e).2.2.2.2.2), h.hi, h.ne⟩
theorem MkIn.far (h : MkIn wl w gM gC gL gF bM n0 A0 c0 l0 A1 c1 l1 s) {g : Nat} (hg : gM ≠ g ∧ gC ≠ g ∧ gL ≠ g ∧ gF ≠ g ∧ bM ≠ g ∧ wl.heap.size ≤ g) (i : Nat) (v : Value) : MkIn wl (w.setCell ⟨g, i, none⟩ v) gM gC gL gF bM n0 A0 c0 l0 A1 c1 l1 s :=
  ⟨blk_far h.cM hg.1 _, blk_far h.cC hg.2.1 _, blk_far h.cL hg.2.2.1 _, blk_far h.cF hg.2.2.2.1 _, h.mp.block (Below.heap_setCell w _ _ bM hg.2.2.2.2.1), h.bel.setCell hg.2.2.2.2.2 _, h.hi, h.ne⟩
def okN (gM gC gL gF bM gR gO k : Nat) : Prop := k ≠ gM ∧ k ≠ gC ∧ k ≠ gL ∧ k ≠ gF ∧ k ≠ bM ∧ k ≠ gR ∧ k ≠ gO
structure OutIn (wl w : World) (gM gC gL gF bM gR gO : Nat) (n0 : Int) (A0 : Option Addr) (c0 : Nat) (l0 : List (List Int)) (A1 : Option Addr) (c1 : Nat) (l1 : List S48) (s : List Int) (vC vK : Value) (xs ys : List Int) : Prop where
  mi : MkIn wl w gM gC gL gF bM n0 A0 c0 l0 A1 c1 l1 s
  cO : w.heap[gO]? = some (.cells #[vC, vK] 51 (0, 0))
  cR : w.heap[gR]? = some (.cells #[.slice none 0 0, .slice none 0 0] 51 (0, 0))
  c : Kd.R (Kd.int .i64) 3 w wl.heap.size (fun k => okN gM gC gL gF bM gR gO k ∧ some k ≠ vK.ownBlock) vC xs
  k : Kd.R (Kd.int .i64) 3 w wl.heap.size (fun k => okN gM gC gL gF bM gR gO k ∧ some k ≠ vC.ownBlock) vK ys
  ne : gM ≠ gO ∧ gC ≠ gO ∧ gL ≠ gO ∧ gF ≠ gO ∧ bM ≠ gO ∧ wl.heap.size ≤ gO
  nR : gR ≠ gO
section
variable {gR gO : Nat} {vC vK v1 : Value} {xs ys zs : List Int}
theorem OutIn.okNew (h : OutIn wl w gM gC gL gF bM gR gO n0 A0 c0 l0 A1 c1 l1 s vC vK xs ys) {k : Nat} (hk : w.heap.size ≤ k) : okN gM gC gL gF bM gR gO k := by
  have h1 := blk_lt h.mi.cM
  have h2 := blk_lt h.mi.cC
  have h3 := blk_lt h.mi.cL
  have h4 := blk_lt h.mi.cF
  have h5 := h.mi.mp.lt
  have h6 := blk_lt h.cR
  have h7 := blk_lt h.cO
  exact ⟨by omega, by omega, by omega, by omega, by omega, by omega, by omega⟩
theorem OutIn.addC (h : OutIn wl w gM gC gL gF bM gR gO n0 A0 c0 l0 A1 c1 l1 s vC vK xs ys) (hR : Kd.R (Kd.int .i64) 3 w1 wl.heap.size (fun k => (okN gM gC gL gF bM gR gO k ∧ some k ≠ vK.ownBlock) ∨ w.heap.size ≤ k) v1 zs) (hg : w.grownBy w1 vC.ownBlock) (hat : v1.ownBlock = vC.ownBlock ∨ ∃ b, v1.ownBlock = some b ∧ w.heap.size ≤ b) :
    OutIn wl (w1.setCell ⟨gO, 0, none⟩ v1) gM gC gL gF bM gR gO n0 A0 c0 l0 A1 c1 l1 s v1 vK zs ys := by
  have hv : ∀ k, vC.ownBlock = some k → okN gM gC gL gF bM gR gO k := fun k e => (h.c.1 k e).1
  have hm := h.mi.grown hg (fun k e => ⟨(hv k e).1, (hv k e).2.1, (hv k e).2.2.1, (hv k e).2.2.2.1, (hv k e).2.2.2.2.1, Kd.R_base h.c k e⟩)
  have hO := blk_grown h.cO hg (fun e => (hv _ e.symm).2.2.2.2.2.2 rfl)
  have hRr := blk_grown h.cR hg (fun e => (hv _ e.symm).2.2.2.2.2.1 rfl)
  have hlt : ∀ k, vK.ownBlock = some k → k < w.heap.size := fun k e => by
    obtain ⟨inner, ho⟩ := Kd.R_own h.k
    exact own_lt ho k e
  have hc1 : Kd.R (Kd.int .i64) 3 w1 wl.heap.size (fun k => okN gM gC gL gF bM gR gO k ∧ some k ≠ vK.ownBlock) v1 zs := Kd.R_mono hR (fun k hk => hk.elim id (fun hle => ⟨h.okNew hle, fun e => by have := hlt k e.symm; omega⟩))
  have hk1 := Kd.R_after h.k hg hat
  exact ⟨hm.far h.ne 0 v1, blk_put hO 0 v1 rfl, blk_far hRr h.nR _, Kd.R_far hc1 (fun k hk => hk.1.2.2.2.2.2.2) v1, Kd.R_far hk1 (fun k hk => hk.1.2.2.2.2.2.2) v1, h.ne, h.nR⟩
theorem OutIn.addK (h : OutIn wl w gM gC gL gF bM gR gO n0 A0 c0 l0 A1 c1 l1 s vC vK xs ys) (hR : Kd.R (Kd.int .i64) 3 w1 wl.heap.size (fun k => (okN gM gC gL gF bM gR gO k ∧ some k ≠ vC.ownBlock) ∨ w.heap.size ≤ k) v1 zs) (hg : w.grownBy w1 vK.ownBlock) (hat : v1.ownBlock = vK.ownBlock ∨ ∃ b, v1.ownBlock = some b ∧ w.heap.size ≤ b) :
    OutIn wl (w1.setCell ⟨gO, 1, none⟩ v1) gM gC gL gF bM gR gO n0 A0 c0 l0 A1 c1 l1 s vC v1 xs zs := by
  have hv : ∀ k, vK.ownBlock = some k → okN gM gC gL gF bM gR gO k := fun k e => (h.k.1 k e).1
  have hm := h.mi.grown hg (fun k e => ⟨(hv k e).1, (hv k e).2.1, (hv k e).2.2.1, (hv k e).2.2.2.1, (hv k e).2.2.2.2.1, Kd.R_base h.k k e⟩)
  have hO := blk_grown h.cO hg (fun e => (hv _ e.symm).2.2.2.2.2.2 rfl)
  have hRr := blk_grown h.cR hg (fun e => (hv _ e.symm).2.2.2.2.2.1 rfl)
  have hlt : ∀ k, vC.ownBlock = some k → k < w.heap.size := fun k e => by
    obtain ⟨inner, ho⟩ := Kd.R_own h.c
    exact own_lt ho k e
  have hk1 : Kd.R (Kd.int .i64) 3 w1 wl.heap.size (fun k => okN gM gC gL gF bM gR gO k ∧ some k ≠ vC.ownBlock) v1 zs := Kd.R_mono hR (fun k hk => hk.elim id (fun hle => ⟨h.okNew hle, fun e => by have := hlt k e.symm; omega⟩))
  have hc1 := Kd.R_after h.c hg hat
  exact ⟨hm.far h.ne 1 v1, blk_put hO 1 v1 rfl, blk_far hRr h.nR _, Kd.R_far hc1 (fun k hk => hk.1.2.2.2.2.2.2) v1, Kd.R_far hk1 (fun k hk => hk.1.2.2.2.2.2.2) v1, h.ne, h.nR⟩
end
end
set_option maxRecDepth 100000 in
set_option maxHeartbeats 2000000 in
theorem slices_IndexFunc_rows.calls (gf : Nat) (lb : Array Value) (eg : ∀ args w, (callFunc gf args).run Try.prog w = .ok (.enter gf args) w) (p : List Int → Bool) (A : Option Addr) (c : Nat) (xs : List (List Int)) (w : World)
    (hr : Kd.C (Kd.slice 3 (Kd.int .i64)) w A xs.length xs) (hp : ∀ W, Below w.heap.size w W → ∀ x ∈ xs, ∀ (A1 : Option Addr) (c1 : Nat), x.length ≤ c1 → Kd.C (Kd.int .i64) W A1 x.length x → Calls Try.prog gf (#[.slice A1 x.length c1] ++ lb) W fun e W' => e = .returned (.bool (p x)) ∧ Below W.heap.size W W') :
    Calls Try.prog 42 #[.slice A xs.length c, .func (.func gf) #[] lb] w fun e w' => e = .returned (.int .i64 (ixOf p xs 0)) ∧ Below w.heap.size w w' := by
  have HR := K0 hr
  have HP := K0 hp
  have hbig := hr.2.1
  clear hr hp
  go_enter Try.func42, Try.ntmps42
  go_wp2
  go_loopg [5, 8] xs.length (fun gg _ s8 wr => ∃ kk : Nat, s8 = .int .i64 (kk : Int) ∧ Aside0 (kk + gg = xs.length) ∧ Aside0 (Below w.heap.size w wr) ∧ Aside0 (ixOf p xs 0 = ixOf p (xs.drop kk) (kk : Int)))
  case atStart => exact ⟨0, rfl, ⟨by simp⟩, ⟨Below.refl _ _⟩, ⟨rfl⟩⟩
  case round =>
    obtain ⟨kk, rfl, hg, hb, hx⟩ := hrel
    by_cases hlt : kk < xs.length
    · obtain ⟨ad, A1, c1, e1, x1, hl1, hC1⟩ := at_L3 (Kd.C_below HR.out hb.out) (kk : Int) (by omega) (by omega)
      cases e1
      obtain ⟨y, hy⟩ : ∃ y, xs[kk] = y := ⟨_, rfl⟩
      have hrd : rd_L3 xs (kk : Int) = y := by simp [rd_L3, hlt, hy]
      rw [hrd] at x1 hl1 hC1
      simp only [Int.toNat_natCast] at x1
      have hcall := HP.out _ hb.out y (by rw [← hy]; exact List.getElem_mem hlt) A1 c1 hl1 hC1
      have hx2 := hx.out
      rw [ixOf_drop p xs kk hlt, hy] at hx2
      have HX2 := K0 hx2
      clear hx2 hx hrd hy hC1
      have P0 : ((0 : Int) ≤ (kk : Int)) = True := eq_true (by omega)
      have P1 : ((kk : Int) < (xs.length : Int)) = True := eq_true (by omega)
      have P2 : (kk < xs.length) = True := eq_true hlt
      have hd : decide ((kk : Int) < (xs.length : Int)) = true := decide_eq_true (by omega)
      cases hq : p y with
      | true =>
        rw [hq] at hcall
        have hz := HX2.out
        rw [if_pos hq] at hz
        have HZ := K0 hz
        clear hz
        go_wp2_with fail
        refine hcall.mono ?_
        rintro e w' ⟨rfl, hb'⟩
        go_wp2
        go_ret
        exact ⟨by rw [HZ.out]; rfl, hb.out.trans (hb'.mono hb.out.size)⟩
      | false =>
        rw [hq] at hcall
        have hz := HX2.out
        rw [if_neg (by rw [hq]; decide)] at hz
        have HZ := K0 hz
        clear hz
        go_wp2_with fail
        refine hcall.mono ?_
        rintro e w' ⟨rfl, hb'⟩
        go_wp2
        go_roundg (xs.length - (kk + 1))
        case measure => have := hg.out; omega
        case rel => exact ⟨kk + 1, by simp, ⟨by omega⟩, ⟨hb.out.trans (hb'.mono hb.out.size)⟩, HZ⟩
    · have hd : decide ((kk : Int) < (xs.length : Int)) = false := decide_eq_false (by omega)
      have hz := hx.out
      rw [List.drop_of_length_le (by omega), ixOf_nil] at hz
      have HZ := K0 hz
      clear hz hx
      go_wp2
      go_ret
      exact ⟨by rw [HZ.out]; rfl, hb.out⟩
set_option maxRecDepth 100000 in
theorem slices_ContainsFunc_rows.calls (gf : Nat) (lb : Array Value) (eg : ∀ args w, (callFunc gf args).run Try.prog w = .ok (.enter gf args) w) (p : List Int → Bool) (A : Option Addr) (c : Nat) (xs : List (List Int)) (w : World)
    (hr : Kd.C (Kd.slice 3 (Kd.int .i64)) w A xs.length xs) (hp : ∀ W, Below w.heap.size w W → ∀ x ∈ xs, ∀ (A1 : Option Addr) (c1 : Nat), x.length ≤ c1 → Kd.C (Kd.int .i64) W A1 x.length x → Calls Try.prog gf (#[.slice A1 x.length c1] ++ lb) W fun e W' => e = .returned (.bool (p x)) ∧ Below W.heap.size W W') :
    Calls Try.prog 29 #[.slice A xs.length c, .func (.func gf) #[] lb] w fun e w' => e = .returned (.bool (decide (0 ≤ ixOf p xs 0))) ∧ Below w.heap.size w w' := by
  have HC := K0 (slices_IndexFunc_rows.calls gf lb eg p A c xs w hr hp)
  clear hr hp
  go_enter Try.func29, Try.ntmps29
  go_wp2_with fail
  refine HC.out.mono ?_
  rintro e w' ⟨rfl, hb'⟩
  go_wp2
  go_ret
  exact ⟨by simp, hb'⟩
abbrev Hd := Option Addr × Nat × Nat
def hdv (x : Hd) : Value := .slice x.1 x.2.1 x.2.2
abbrev kH : Kd Hd := Kd.scalar hdv (fun _ => rfl)
def HdOf (W : World) (h : Hd) (x : List Int) : Prop := h.2.1 = x.length ∧ x.length ≤ h.2.2 ∧ Kd.C (Kd.int .i64) W h.1 x.length x
def HdsOf (W : World) (hs : List Hd) (xs : List (List Int)) : Prop := hs.length = xs.length ∧ ∀ (i : Nat) (h : Hd) (x : List Int), hs[i]? = some h → xs[i]? = some x → HdOf W h x
theorem HdsOf.below {W W' : World} {hs : List Hd} {xs : List (List Int)} (h : HdsOf W hs xs) (hb : Below W.heap.size W W') : HdsOf W' hs xs :=
  ⟨h.1, fun i a b ha hb' => ⟨(h.2 i a b ha hb').1, (h.2 i a b ha hb').2.1, Kd.C_below (h.2 i a b ha hb').2.2 hb⟩⟩
theorem HdsOf.join {W : World} {A : Option Addr} {n : Nat} {hs : List Hd} {xs : List (List Int)} (h : HdsOf W hs xs) (hC : Kd.C kH W A n hs) : Kd.C (Kd.slice 3 (Kd.int .i64)) W A n xs := by
  obtain ⟨h1, h2, h3⟩ := hC
  refine ⟨by rw [← h.1, h1], h2, fun h0 => ?_⟩
  obtain ⟨ad, e, hc⟩ := h3 h0
  refine ⟨ad, e, fun j p hp => ?_⟩
  have hj : j < hs.length := by rw [h.1]; exact (List.getElem?_eq_some_iff.1 hp).1
  obtain ⟨c, hcl, hK, hcc⟩ := hc j hs[j] (List.getElem?_eq_getElem hj)
  obtain ⟨a1, a2, a3⟩ := h.2 j _ _ (List.getElem?_eq_getElem hj) hp
  refine ⟨c, hcl, ⟨_, _, ?_, a2, a3⟩, hcc⟩
  rw [hK, hdv, a1]
theorem HdsOf.part {W : World} {A : Option Addr} {n : Nat} {xs : List (List Int)} (hC : Kd.C (Kd.slice 3 (Kd.int .i64)) W A n xs) : ∃ hs, HdsOf W hs xs ∧ Kd.C kH W A n hs := by
  obtain ⟨h1, h2, h3⟩ := hC
  rcases Nat.eq_zero_or_pos n with h0 | h0
  · have hx : xs = [] := List.eq_nil_of_length_eq_zero (by omega)
    subst hx
    exact ⟨[], ⟨rfl, fun i h x hi => by simp at hi⟩, ⟨by simpa using h1, h2, fun h => absurd h (by omega)⟩⟩
  · obtain ⟨ad, e, hc⟩ := h3 h0
    have hex : ∀ j : Nat, ∃ h : Hd, ∀ p, xs[j]? = some p → HdOf W h p ∧ W.cell? (ad.add (j * 1 + 0)) = some (hdv h) := by
      intro j
      by_cases hj : j < xs.length
      · obtain ⟨c, hcl, ⟨A1, c1, hcs, hle, hr⟩, hcc⟩ := hc j xs[j] (List.getElem?_eq_getElem hj)
        refine ⟨(A1, xs[j].length, c1), fun p hp => ?_⟩
        rw [List.getElem?_eq_getElem hj] at hp
        cases hp
        exact ⟨⟨rfl, hle, hr⟩, hcc 0 _ (by rw [hcs]; rfl)⟩
      · exact ⟨(none, 0, 0), fun p hp => absurd (List.getElem?_eq_some_iff.1 hp).1 hj⟩
    obtain ⟨F, hF⟩ := Classical.axiomOfChoice hex
    refine ⟨(List.range xs.length).map F, ⟨by simp, ?_⟩, by simpa using h1, h2, fun _ => ⟨ad, e, ?_⟩⟩
    · intro i h x hi hx
      have hl : i < xs.length := (List.getElem?_eq_some_iff.1 hx).1
      simp [List.getElem?_map, List.getElem?_range hl] at hi
      rw [← hi]
      exact (hF i x hx).1
    · intro j p hp
      have hl : j < xs.length := by have := (List.getElem?_eq_some_iff.1 hp).1; simpa using this
      simp [List.getElem?_map, List.getElem?_range hl] at hp
      refine ⟨[hdv p], rfl, rfl, fun i u hu => ?_⟩
      cases i with
      | zero =>
        simp only [List.getElem?_cons_zero, Option.some.injEq] at hu
        rw [← hu, ← hp]
        exact (hF j xs[j] (List.getElem?_eq_getElem hl)).2
      | succ i => simp at hu
theorem HdsOf.add {W : World} {hs : List Hd} {xs : List (List Int)} {h : Hd} {x : List Int} (H : HdsOf W hs xs) (h1 : HdOf W h x) : HdsOf W (hs ++ [h]) (xs ++ [x]) := by
  refine ⟨by simp [H.1], fun i a b ha hb => ?_⟩
  rw [List.getElem?_append] at ha hb
  rw [H.1] at ha
  split at ha
  · rename_i hlt
    rw [if_pos hlt] at hb
    exact H.2 i a b ha hb
  · rename_i hlt
    rw [if_neg hlt] at hb
    have h0 : i - xs.length = 0 := by have := (List.getElem?_eq_some_iff.1 hb).1; simp at this; omega
    rw [h0] at ha hb
    simp at ha hb
    rw [← ha, ← hb]
    exact h1
def slices_Index_int_int.l0 : Nat → List Int → Int → Int → Int → Option (Int)
  | 0, _, _, _, _ => none
  | k + 1, x0, x1, x7, x8 => if x8 < x7 then (if 0 ≤ x8 then (if x8 < (x0.length : Int) then (if x1 = (rd x0 x8) then (some x8) else (slices_Index_int_int.l0 k x0 x1 x7 (wrap64 (x8 + 1)))) else (none)) else (none)) else (some (-1))
def slices_Index_int_int.f (k : Nat) (l0 : List Int) (a1 : Int) : Option (Int) := slices_Index_int_int.l0 k l0 a1 (l0.length : Int) 0
set_option maxHeartbeats 8000000 in
set_option maxRecDepth 100000 in
theorem slices_Index_int_int.calls (k : Nat) (A0 : Option Addr) (c0 : Nat) (l0 : List Int) (a1 : Int) (r : Int) (w : World) (hr0 : Kd.C (Kd.int .i64) w A0 l0.length l0) (hc0 : l0.length ≤ c0) (h : slices_Index_int_int.f k l0 a1 = some r) :
    Calls Try.prog 75 #[.slice A0 l0.length c0, .int .i64 a1] w fun e w' => e = .returned (.int .i64 r) ∧ Drawn0 w w' := by
  have HR0 := K0 hr0
  have HC0 := K0 hc0
  clear hr0 hc0
  have H : (slices_Index_int_int.l0 k l0 a1 (l0.length : Int) 0) = some r := h
  clear h
  have H' := K0 H
  clear H
  go_enter Try.func75, Try.ntmps75
  go_wp2
  go_loopg [8] k (fun kq v8 w' => ∃ (x8_1 : Int), v8 = .int .i64 x8_1 ∧ Aside0 (slices_Index_int_int.l0 kq l0 a1 (l0.length : Int) x8_1 = some r) ∧ Aside0 (kq ≤ k) ∧ Drawn0 w w')
  case atStart => exact ⟨(0), (by first | rfl | (simp; done) | (simp [*]; done)), H', ⟨Nat.le_refl _⟩, by repeat (first | exact Drawn0.refl _ | apply Drawn0.step)⟩
  case round =>
    clear H'
    try clear p2
    obtain ⟨x8_1, rfl, HA, HK1, ⟨m1, rfl⟩⟩ := hrel
    cases gk with
    | zero => exact absurd HA.out (by simp [slices_Index_int_int.l0])
    | succ k1 =>
      have H := HA.out
      clear HA
      simp only [slices_Index_int_int.l0] at H
      by_cases c3 : x8_1 < (l0.length : Int)
      · rw [if_pos c3] at H
        have c3b0 : decide (x8_1 < (l0.length : Int)) = true := decide_eq_true c3
        clear c3
        by_cases c4 : 0 ≤ x8_1
        · rw [if_pos c4] at H
          have c4b0 : decide (0 ≤ x8_1) = true := decide_eq_true c4
          clear c4
          by_cases c5 : x8_1 < (l0.length : Int)
          · rw [if_pos c5] at H
            have c5b0 : decide (x8_1 < (l0.length : Int)) = true := decide_eq_true c5
            clear c5
            by_cases c6 : a1 = (rd l0 x8_1)
            · rw [if_pos c6] at H
              have c6b0 : (a1 == (rd l0 x8_1)) = true := beq_iff_eq.mpr c6
              have c6b1 : (a1 != (rd l0 x8_1)) = false := bne_eq_false_iff_eq.mpr c6
              clear c6
              as_aux_lemma =>
                obtain rfl := Option.some.inj H
                have p165 : 0 ≤ (x8_1 : Int) := of_decide_eq_true (by first | (with_reducible assumption) | assumption)
                have q165 : x8_1 < (l0.length : Int) := of_decide_eq_true (by first | (with_reducible assumption) | assumption)
                obtain ⟨ad165, e165, hx165_0⟩ := Kd.at_int HR0.out x8_1 p165 q165
                cases e165
                replace p165 := eq_true p165
                replace q165 := eq_true q165
                go_wp2
                go_ret
                exact ⟨by first | rfl | (simp; done) | (simp [*]; done), by repeat (first | exact Drawn0.refl _ | apply Drawn0.step)⟩
            · rw [if_neg c6] at H
              have c6b0 : (a1 == (rd l0 x8_1)) = false := beq_eq_false_iff_ne.mpr c6
              have c6b1 : (a1 != (rd l0 x8_1)) = true := bne_iff_ne.mpr c6
              as_aux_lemma =>
                have H' := K0 H
                clear H
                have p165 : 0 ≤ (x8_1 : Int) := of_decide_eq_true (by first | (with_reducible assumption) | assumption)
                have q165 : x8_1 < (l0.length : Int) := of_decide_eq_true (by first | (with_reducible assumption) | assumption)
                obtain ⟨ad165, e165, hx165_0⟩ := Kd.at_int HR0.out x8_1 p165 q165
                cases e165
                replace p165 := eq_true p165
                replace q165 := eq_true q165
                go_wp2
                go_roundg k1
                case measure => have := HK1.out; omega
                case rel => exact ⟨(wrap64 (x8_1 + 1)), (by first | rfl | (simp; done) | (simp [*]; done)), H', ⟨by have := HK1.out; omega⟩, by repeat (first | exact Drawn0.refl _ | apply Drawn0.step)⟩
          · rw [if_neg c5] at H
            exact absurd H (by simp)
        · rw [if_neg c4] at H
          exact absurd H (by simp)
      · rw [if_neg c3] at H
        have c3b0 : decide (x8_1 < (l0.length : Int)) = false := decide_eq_false c3
        clear c3
        as_aux_lemma =>
          obtain rfl := Option.some.inj H
          go_wp2
          go_ret
          exact ⟨by first | rfl | (simp; done) | (simp [*]; done), by repeat (first | exact Drawn0.refl _ | apply Drawn0.step)⟩
def slices_Contains_int_int.f (k : Nat) (l0 : List Int) (a1 : Int) : Option (Bool) := (slices_Index_int_int.f k l0 a1).bind fun t166 => (some (decide (t166 ≥ 0)))
set_option maxHeartbeats 8000000 in
set_option maxRecDepth 100000 in
theorem slices_Contains_int_int.calls (k : Nat) (A0 : Option Addr) (c0 : Nat) (l0 : List Int) (a1 : Int) (r : Bool) (w : World) (hr0 : Kd.C (Kd.int .i64) w A0 l0.length l0) (hc0 : l0.length ≤ c0) (h : slices_Contains_int_int.f k l0 a1 = some r) :
    Calls Try.prog 70 #[.slice A0 l0.length c0, .int .i64 a1] w fun e w' => e = .returned (.bool r) ∧ Drawn0 w w' := by
  have HR0 := K0 hr0
  have HC0 := K0 hc0
  clear hr0 hc0
  have H : ((slices_Index_int_int.f k l0 a1).bind fun t166 => (some (decide (t166 ≥ 0)))) = some r := h
  clear h
  replace H := Option.bind_eq_some_iff.mp H
  obtain ⟨t166, A30, H⟩ := H
  replace H : (some (decide (t166 ≥ 0))) = some r := H
  have A3 := K0 A30
  clear A30
  as_aux_lemma =>
    obtain rfl := Option.some.inj H
    go_enter Try.func70, Try.ntmps70
    go_wp2_with (first | ((with_reducible refine gate_callee (f := 75) rfl ?_); refine goesL_ (some 7) rfl rfl Try.func75 (by kernel_rfl) rfl #[.slice A0 l0.length c0, .int .i64 a1] rfl (by (try simp only [List.map_toArray, List.map_cons, List.map_nil]); first | done | rfl | (simp only [List.length_drop, List.length_take]; rfl)) ?_; (with_reducible refine (slices_Index_int_int.calls k _ _ l0 a1 t166 _ ?side1 ?side2 A3.out).mono ?_); (case side1 => repeat (first | exact HR0.out | (with_reducible refine Kd.C_alloc ?_ _) | (with_reducible refine Kd.C_drewN ?_ _) | (with_reducible refine Kd.C_drew ?_))); (case side2 => exact HC0.out); rintro e w' ⟨rfl, ⟨nd, rfl⟩⟩; refine ⟨_, rfl, ?_⟩))
    go_ret
    exact ⟨by first | rfl | (simp; done) | (simp [*]; done), by repeat (first | exact Drawn0.refl _ | apply Drawn0.step)⟩
def lit_Has.f (k : Nat) (l0 : List Int) (a1 : Int) : Option (Bool) := (lit_is.f a1).bind fun t167 => (if t167 = true then ((slices_Contains_int_int.f k l0 a1).bind fun t168 => (some t168)) else (some false))
set_option maxHeartbeats 8000000 in
set_option maxRecDepth 100000 in
theorem lit_Has.calls (k : Nat) (A0 : Option Addr) (c0 : Nat) (l0 : List Int) (a1 : Int) (r : Bool) (w : World) (hr0 : Kd.C (Kd.int .i64) w A0 l0.length l0) (hc0 : l0.length ≤ c0) (h : lit_Has.f k l0 a1 = some r) :
    Calls Try.prog 57 #[.slice A0 l0.length c0, .int .i64 a1] w fun e w' => e = .returned (.bool r) ∧ Drawn0 w w' := by
  have HR0 := K0 hr0
  have HC0 := K0 hc0
  clear hr0 hc0
  have H : ((lit_is.f a1).bind fun t167 => (if t167 = true then ((slices_Contains_int_int.f k l0 a1).bind fun t168 => (some t168)) else (some false))) = some r := h
  clear h
  replace H := Option.bind_eq_some_iff.mp H
  obtain ⟨t167, A30, H⟩ := H
  replace H : (if t167 = true then ((slices_Contains_int_int.f k l0 a1).bind fun t168 => (some t168)) else (some false)) = some r := H
  have A3 := K0 A30
  clear A30
  by_cases c4 : t167 = true
  · subst c4
    have H1 : ((slices_Contains_int_int.f k l0 a1).bind fun t168 => (some t168)) = some r := by rw [if_pos rfl] at H; exact H
    clear H
    have H := H1
    clear H1
    replace H := Option.bind_eq_some_iff.mp H
    obtain ⟨t168, A50, H⟩ := H
    replace H : (some t168) = some r := H
    have A5 := K0 A50
    clear A50
    as_aux_lemma =>
      obtain rfl := Option.some.inj H
      go_enter Try.func57, Try.ntmps57
      go_wp2_with (first | ((with_reducible refine gate_callee (f := 60) rfl ?_); refine goesL_ (some 6) rfl rfl Try.func60 (by kernel_rfl) rfl #[.int .i64 a1] rfl (by (try simp only [List.map_toArray, List.map_cons, List.map_nil]); first | done | rfl | (simp only [List.length_drop, List.length_take]; rfl)) ?_; (with_reducible refine (lit_is.calls a1 true _ A3.out).mono ?_); rintro e w' ⟨rfl, ⟨nd, rfl⟩⟩; refine ⟨_, rfl, ?_⟩) | (go_at_call 70; (with_reducible refine (slices_Contains_int_int.calls k _ _ l0 a1 t168 _ ?side1 ?side2 A5.out).mono ?_); (case side1 => repeat (first | exact HR0.out | (with_reducible refine Kd.C_alloc ?_ _) | (with_reducible refine Kd.C_drewN ?_ _) | (with_reducible refine Kd.C_drew ?_))); (case side2 => exact HC0.out); rintro e w' ⟨rfl, ⟨nd, rfl⟩⟩))
      go_ret
      exact ⟨by first | rfl | (simp; done) | (simp [*]; done), by repeat (first | exact Drawn0.refl _ | apply Drawn0.step)⟩
  · replace c4 := Bool.eq_false_iff.mpr c4
    subst c4
    have H1 : (some false) = some r := by rw [if_neg (show ¬ (false = true) by decide)] at H; exact H
    clear H
    have H := H1
    clear H1
    as_aux_lemma =>
      obtain rfl := Option.some.inj H
      go_enter Try.func57, Try.ntmps57
      go_wp2_with (first | ((with_reducible refine gate_callee (f := 60) rfl ?_); refine goesL_ (some 6) rfl rfl Try.func60 (by kernel_rfl) rfl #[.int .i64 a1] rfl (by (try simp only [List.map_toArray, List.map_cons, List.map_nil]); first | done | rfl | (simp only [List.length_drop, List.length_take]; rfl)) ?_; (with_reducible refine (lit_is.calls a1 false _ A3.out).mono ?_); rintro e w' ⟨rfl, ⟨nd, rfl⟩⟩; refine ⟨_, rfl, ?_⟩))
      go_ret
      exact ⟨by first | rfl | (simp; done) | (simp [*]; done), by repeat (first | exact Drawn0.refl _ | apply Drawn0.step)⟩
mutual
def lit_Pivot.l0 : Nat → List Int → Int → List Int → Int → Int → Option (Int × Bool)
  | 0, _, _, _, _, _ => none
  | k + 1, x1, x6, x9, x10, x11 => if x11 < x10 then (if 0 ≤ x11 then (if x11 < (x9.length : Int) then ((lit_is.f (rd x9 x11)).bind fun t170 => (if t170 = true then ((lit_Has.f k x1 (wrap64 (-(rd x9 x11)))).bind fun t171 => (if t171 = true then ((lit_variable.f (rd x9 x11)).bind fun t172 => (lit_Pivot.j1 k x1 x6 (rd x9 x11) x9 x10 x11 (t172 == x6))) else (lit_Pivot.j1 k x1 x6 (rd x9 x11) x9 x10 x11 true))) else (lit_Pivot.j1 k x1 x6 (rd x9 x11) x9 x10 x11 true))) else (none)) else (none)) else (some (x6, (x6 != 0)))
def lit_Pivot.j1 : Nat → List Int → Int → Int → List Int → Int → Int → Bool → Option (Int × Bool)
  | 0, _, _, _, _, _, _, _ => none
  | k + 1, x1, x6, x8, x9, x10, x11, x30 => if x30 = true then (lit_Pivot.l0 k x1 x6 x9 x10 (wrap64 (x11 + 1))) else (if x6 = 0 then ((lit_variable.f x8).bind fun t173 => (lit_Pivot.l0 k x1 t173 x9 x10 (wrap64 (x11 + 1)))) else (some (0, false)))
end
def lit_Pivot.f (k : Nat) (l0 : List Int) (l1 : List Int) : Option (Int × Bool) := lit_Pivot.l0 k l1 0 l0 (l0.length : Int) 0
set_option maxHeartbeats 8000000 in
set_option maxRecDepth 100000 in
theorem lit_Pivot.calls (k : Nat) (A0 : Option Addr) (c0 : Nat) (l0 : List Int) (A1 : Option Addr) (c1 : Nat) (l1 : List Int) (r1 : Int) (r2 : Bool) (w : World) (hr0 : Kd.C (Kd.int .i64) w A0 l0.length l0) (hc0 : l0.length ≤ c0) (hr1 : Kd.C (Kd.int .i64) w A1 l1.length l1) (hc1 : l1.length ≤ c1) (h : lit_Pivot.f k l0 l1 = some (r1, r2)) :
    Calls Try.prog 56 #[.slice A0 l0.length c0, .slice A1 l1.length c1] w fun e w' => e = .returned (.tuple #[.int .i64 r1, .bool r2]) ∧ Drawn0 w w' := by
  have HR0 := K0 hr0; have HC0 := K0 hc0; clear hr0 hc0; have HR1 := K0 hr1; have HC1 := K0 hc1; clear hr1 hc1
  have H : (lit_Pivot.l0 k l1 0 l0 (l0.length : Int) 0) = some (r1, r2) := h
  clear h
  have H' := K0 H
  clear H
  go_enter Try.func56, Try.ntmps56
  go_wp2
  go_loopg [6, 11] k (fun kq v6 v11 w' => ∃ (x6_1 : Int) (x11_1 : Int), v6 = .int .i64 x6_1 ∧ v11 = .int .i64 x11_1 ∧ Aside0 (lit_Pivot.l0 kq l1 x6_1 l0 (l0.length : Int) x11_1 = some (r1, r2)) ∧ Aside0 (kq ≤ k) ∧ Drawn0 w w')
  case atStart => exact ⟨(0), (0), (by first | rfl | (simp; done) | (simp [*]; done)), (by first | rfl | (simp; done) | (simp [*]; done)), H', ⟨Nat.le_refl _⟩, by repeat (first | exact Drawn0.refl _ | apply Drawn0.step)⟩
  case round =>
    clear H'; try clear c1; try clear p2
    obtain ⟨x6_1, x11_1, rfl, rfl, HA, HK1, ⟨m1, rfl⟩⟩ := hrel
    cases gk with
    | zero => exact absurd HA.out (by simp [lit_Pivot.l0])
    | succ k1 =>
      have H := HA.out
      clear HA
      simp only [lit_Pivot.l0] at H
      by_cases c3 : x11_1 < (l0.length : Int)
      case neg =>
        rw [if_neg c3] at H
        have c3b0 : decide (x11_1 < (l0.length : Int)) = false := decide_eq_false c3
        clear c3
        as_aux_lemma =>
          simp only [Option.some.injEq, Prod.mk.injEq] at H
          obtain ⟨rfl, rfl⟩ := H
          go_wp2
          go_ret2
          exact ⟨by first | rfl | (simp; done) | (simp [*]; done), by repeat (first | exact Drawn0.refl _ | apply Drawn0.step)⟩
      rw [if_pos c3] at H
      have c3b0 : decide (x11_1 < (l0.length : Int)) = true := decide_eq_true c3
      clear c3
      by_cases c4 : 0 ≤ x11_1
      case neg =>
        rw [if_neg c4] at H
        exact absurd H (by simp)
      rw [if_pos c4] at H
      have c4b0 : decide (0 ≤ x11_1) = true := decide_eq_true c4
      clear c4
      by_cases c5 : x11_1 < (l0.length : Int)
      case neg =>
        rw [if_neg c5] at H
        exact absurd H (by simp)
      rw [if_pos c5] at H
      have c5b0 : decide (x11_1 < (l0.length : Int)) = true := decide_eq_true c5
      clear c5; have HC6 := K0 H; clear H
      have p169 : 0 ≤ (x11_1 : Int) := of_decide_eq_true (by first | (with_reducible assumption) | assumption)
      have q169 : x11_1 < (l0.length : Int) := of_decide_eq_true (by first | (with_reducible assumption) | assumption)
      obtain ⟨ad169, e169, hx169_0⟩ := Kd.at_int HR0.out x11_1 p169 q169
      cases e169; replace p169 := eq_true p169; replace q169 := eq_true q169
      go_upto_region 5 with (fail)
      go_cut [30] (fun v30 wc => ∃ (kq : Nat) (x30_5 : Bool), v30 = .bool x30_5 ∧ Aside0 (lit_Pivot.j1 kq l1 x6_1 (rd l0 x11_1) l0 (l0.length : Int) x11_1 x30_5 = some (r1, r2)) ∧ Aside0 (kq ≤ k1) ∧ Drawn0 w wc)
      case first =>
        have H := HC6.out
        clear HC6
        replace H := Option.bind_eq_some_iff.mp H
        obtain ⟨t170, A70, H⟩ := H
        replace H : (if t170 = true then ((lit_Has.f k1 l1 (wrap64 (-(rd l0 x11_1)))).bind fun t171 => (if t171 = true then ((lit_variable.f (rd l0 x11_1)).bind fun t172 => (lit_Pivot.j1 k1 l1 x6_1 (rd l0 x11_1) l0 (l0.length : Int) x11_1 (t172 == x6_1))) else (lit_Pivot.j1 k1 l1 x6_1 (rd l0 x11_1) l0 (l0.length : Int) x11_1 true))) else (lit_Pivot.j1 k1 l1 x6_1 (rd l0 x11_1) l0 (l0.length : Int) x11_1 true)) = some (r1, r2) := H
        have A7 := K0 A70; clear A70
        by_cases c8 : t170 = true
        case neg =>
          replace c8 := Bool.eq_false_iff.mpr c8
          subst c8
          have H1 : (lit_Pivot.j1 k1 l1 x6_1 (rd l0 x11_1) l0 (l0.length : Int) x11_1 true) = some (r1, r2) := by rw [if_neg (show ¬ (false = true) by decide)] at H; exact H
          clear H
          have H := H1
          clear H1
          as_aux_lemma =>
            have H' := K0 H
            clear H
            go_wp2_with (first | ((with_reducible refine gate_callee (f := 60) rfl ?_); refine goesL_ (some 16) rfl rfl Try.func60 (by kernel_rfl) rfl #[.int .i64 (rd l0 x11_1)] rfl (by (try simp only [List.map_toArray, List.map_cons, List.map_nil]); first | done | rfl | (simp only [List.length_drop, List.length_take]; rfl)) ?_; (with_reducible refine (lit_is.calls (rd l0 x11_1) false _ A7.out).mono ?_); rintro e w' ⟨rfl, ⟨nd, rfl⟩⟩; refine ⟨_, rfl, ?_⟩))
            go_meet
            case rel => exact ⟨_, (true), (by first | rfl | (simp; done) | (simp [*]; done)), H', ⟨by have := HK1.out; first | omega | exact Nat.le_refl _⟩, by repeat (first | exact Drawn0.refl _ | apply Drawn0.step)⟩
        subst c8
        have H1 : ((lit_Has.f k1 l1 (wrap64 (-(rd l0 x11_1)))).bind fun t171 => (if t171 = true then ((lit_variable.f (rd l0 x11_1)).bind fun t172 => (lit_Pivot.j1 k1 l1 x6_1 (rd l0 x11_1) l0 (l0.length : Int) x11_1 (t172 == x6_1))) else (lit_Pivot.j1 k1 l1 x6_1 (rd l0 x11_1) l0 (l0.length : Int) x11_1 true))) = some (r1, r2) := by rw [if_pos rfl] at H; exact H
        clear H
        have H := H1
        clear H1
        replace H := Option.bind_eq_some_iff.mp H
        obtain ⟨t171, A90, H⟩ := H
        replace H : (if t171 = true then ((lit_variable.f (rd l0 x11_1)).bind fun t172 => (lit_Pivot.j1 k1 l1 x6_1 (rd l0 x11_1) l0 (l0.length : Int) x11_1 (t172 == x6_1))) else (lit_Pivot.j1 k1 l1 x6_1 (rd l0 x11_1) l0 (l0.length : Int) x11_1 true)) = some (r1, r2) := H
        have A9 := K0 A90; clear A90
        by_cases c10 : t171 = true
        case neg =>
          replace c10 := Bool.eq_false_iff.mpr c10
          subst c10
          have H1 : (lit_Pivot.j1 k1 l1 x6_1 (rd l0 x11_1) l0 (l0.length : Int) x11_1 true) = some (r1, r2) := by rw [if_neg (show ¬ (false = true) by decide)] at H; exact H
          clear H
          have H := H1
          clear H1
          as_aux_lemma =>
            have H' := K0 H
            clear H
            go_wp2_with (first | ((with_reducible refine gate_callee (f := 60) rfl ?_); refine goesL_ (some 16) rfl rfl Try.func60 (by kernel_rfl) rfl #[.int .i64 (rd l0 x11_1)] rfl (by (try simp only [List.map_toArray, List.map_cons, List.map_nil]); first | done | rfl | (simp only [List.length_drop, List.length_take]; rfl)) ?_; (with_reducible refine (lit_is.calls (rd l0 x11_1) true _ A7.out).mono ?_); rintro e w' ⟨rfl, ⟨nd, rfl⟩⟩; refine ⟨_, rfl, ?_⟩) | (go_at_call 57; (with_reducible refine (lit_Has.calls k1 _ _ l1 (wrap64 (-(rd l0 x11_1))) false _ ?side1 ?side2 A9.out).mono ?_); (case side1 => repeat (first | exact HR1.out | (with_reducible refine Kd.C_alloc ?_ _) | (with_reducible refine Kd.C_drewN ?_ _) | (with_reducible refine Kd.C_drew ?_))); (case side2 => exact HC1.out); rintro e w' ⟨rfl, ⟨nd, rfl⟩⟩))
            go_meet
            case rel => exact ⟨_, (true), (by first | rfl | (simp; done) | (simp [*]; done)), H', ⟨by have := HK1.out; first | omega | exact Nat.le_refl _⟩, by repeat (first | exact Drawn0.refl _ | apply Drawn0.step)⟩
        subst c10
        have H1 : ((lit_variable.f (rd l0 x11_1)).bind fun t172 => (lit_Pivot.j1 k1 l1 x6_1 (rd l0 x11_1) l0 (l0.length : Int) x11_1 (t172 == x6_1))) = some (r1, r2) := by rw [if_pos rfl] at H; exact H
        clear H
        have H := H1
        clear H1
        replace H := Option.bind_eq_some_iff.mp H
        obtain ⟨t172, A110, H⟩ := H
        replace H : (lit_Pivot.j1 k1 l1 x6_1 (rd l0 x11_1) l0 (l0.length : Int) x11_1 (t172 == x6_1)) = some (r1, r2) := H
        have A11 := K0 A110; clear A110
        as_aux_lemma =>
          have H' := K0 H
          clear H
          go_wp2_with (first | ((with_reducible refine gate_callee (f := 60) rfl ?_); refine goesL_ (some 16) rfl rfl Try.func60 (by kernel_rfl) rfl #[.int .i64 (rd l0 x11_1)] rfl (by (try simp only [List.map_toArray, List.map_cons, List.map_nil]); first | done | rfl | (simp only [List.length_drop, List.length_take]; rfl)) ?_; (with_reducible refine (lit_is.calls (rd l0 x11_1) true _ A7.out).mono ?_); rintro e w' ⟨rfl, ⟨nd, rfl⟩⟩; refine ⟨_, rfl, ?_⟩) | (go_at_call 57; (with_reducible refine (lit_Has.calls k1 _ _ l1 (wrap64 (-(rd l0 x11_1))) true _ ?side1 ?side2 A9.out).mono ?_); (case side1 => repeat (first | exact HR1.out | (with_reducible refine Kd.C_alloc ?_ _) | (with_reducible refine Kd.C_drewN ?_ _) | (with_reducible refine Kd.C_drew ?_))); (case side2 => exact HC1.out); rintro e w' ⟨rfl, ⟨nd, rfl⟩⟩) | (go_at_call 61; (with_reducible refine (lit_variable.calls (rd l0 x11_1) t172 _ A11.out).mono ?_); rintro e w' ⟨rfl, ⟨nd, rfl⟩⟩))
          go_meet
          case rel => exact ⟨_, ((t172 == x6_1)), (by first | rfl | (simp; done) | (simp [*]; done)), H', ⟨by have := HK1.out; first | omega | exact Nat.le_refl _⟩, by repeat (first | exact Drawn0.refl _ | apply Drawn0.step)⟩
      case rest =>
        clear HC6; try clear c1; try clear p1; try clear q1; try clear hx1; try clear p2; try clear c3; try clear c3b0; try clear c4; try clear c4b0; try clear c5; try clear c5b0; try clear c6; try clear p6; try clear c8; try clear c10; try clear hx169_0; try clear p169; try clear p2; try clear q169
        obtain ⟨kq, x30_5, rfl, HA, HJ5, ⟨mc5, rfl⟩⟩ := hcut
        cases kq with
        | zero => exact absurd HA.out (by simp [lit_Pivot.j1])
        | succ kj5 =>
          have H := HA.out
          clear HA
          simp only [lit_Pivot.j1] at H
          by_cases c12 : x30_5 = true
          case pos =>
            subst c12
            have H1 : (lit_Pivot.l0 kj5 l1 x6_1 l0 (l0.length : Int) (wrap64 (x11_1 + 1))) = some (r1, r2) := by rw [if_pos rfl] at H; exact H
            clear H
            have H := H1
            clear H1
            as_aux_lemma =>
              have H' := K0 H
              clear H
              go_wp2
              go_roundg kj5
              case measure => have := HK1.out; have := HJ5.out; omega
              case rel => exact ⟨(x6_1), (wrap64 (x11_1 + 1)), (by first | rfl | (simp; done) | (simp [*]; done)), (by first | rfl | (simp; done) | (simp [*]; done)), H', ⟨by have := HK1.out; have := HJ5.out; omega⟩, by repeat (first | exact Drawn0.refl _ | apply Drawn0.step)⟩
          replace c12 := Bool.eq_false_iff.mpr c12
          subst c12
          have H1 : (if x6_1 = 0 then ((lit_variable.f (rd l0 x11_1)).bind fun t173 => (lit_Pivot.l0 kj5 l1 t173 l0 (l0.length : Int) (wrap64 (x11_1 + 1)))) else (some (0, false))) = some (r1, r2) := by rw [if_neg (show ¬ (false = true) by decide)] at H; exact H
          clear H
          have H := H1
          clear H1
          by_cases c13 : x6_1 = 0
          case neg =>
            rw [if_neg c13] at H
            have c13b0 : (x6_1 == 0) = false := beq_eq_false_iff_ne.mpr c13
            have c13b1 : (x6_1 != 0) = true := bne_iff_ne.mpr c13
            as_aux_lemma =>
              simp only [Option.some.injEq, Prod.mk.injEq] at H
              obtain ⟨rfl, rfl⟩ := H
              go_wp2
              go_ret2
              exact ⟨by first | rfl | (simp; done) | (simp [*]; done), by repeat (first | exact Drawn0.refl _ | apply Drawn0.step)⟩
          rw [if_pos c13] at H
          have c13b0 : (x6_1 == 0) = true := beq_iff_eq.mpr c13
          have c13b1 : (x6_1 != 0) = false := bne_eq_false_iff_eq.mpr c13
          clear c13
          replace H := Option.bind_eq_some_iff.mp H
          obtain ⟨t173, A140, H⟩ := H
          replace H : (lit_Pivot.l0 kj5 l1 t173 l0 (l0.length : Int) (wrap64 (x11_1 + 1))) = some (r1, r2) := H
          have A14 := K0 A140; clear A140
          as_aux_lemma =>
            have H' := K0 H
            clear H
            go_wp2_with (first | ((with_reducible refine gate_callee (f := 61) rfl ?_); refine goesL_ (some 34) rfl rfl Try.func61 (by kernel_rfl) rfl #[.int .i64 (rd l0 x11_1)] rfl (by (try simp only [List.map_toArray, List.map_cons, List.map_nil]); first | done | rfl | (simp only [List.length_drop, List.length_take]; rfl)) ?_; (with_reducible refine (lit_variable.calls (rd l0 x11_1) t173 _ A14.out).mono ?_); rintro e w' ⟨rfl, ⟨nd, rfl⟩⟩; refine ⟨_, rfl, ?_⟩))
            go_roundg kj5
            case measure => have := HK1.out; have := HJ5.out; omega
            case rel => exact ⟨(t173), (wrap64 (x11_1 + 1)), (by first | rfl | (simp; done) | (simp [*]; done)), (by first | rfl | (simp; done) | (simp [*]; done)), H', ⟨by have := HK1.out; have := HJ5.out; omega⟩, by repeat (first | exact Drawn0.refl _ | apply Drawn0.step)⟩
def lit_Within.l0 : Nat → List Int → List Int → Int → Int → Option (Bool)
  | 0, _, _, _, _ => none
  | k + 1, x1, x7, x8, x9 => if x9 < x8 then (if 0 ≤ x9 then (if x9 < (x7.length : Int) then ((lit_is.f (rd x7 x9)).bind fun t189 => (if t189 = true then ((lit_Has.f k x1 (rd x7 x9)).bind fun t190 => (if t190 = true then (lit_Within.l0 k x1 x7 x8 (wrap64 (x9 + 1))) else (some false))) else (lit_Within.l0 k x1 x7 x8 (wrap64 (x9 + 1))))) else (none)) else (none)) else (some true)
def lit_Within.f (k : Nat) (l0 : List Int) (l1 : List Int) : Option (Bool) := lit_Within.l0 k l1 l0 (l0.length : Int) 0
set_option maxHeartbeats 8000000 in
set_option maxRecDepth 100000 in
theorem lit_Within.calls (k : Nat) (A0 : Option Addr) (c0 : Nat) (l0 : List Int) (A1 : Option Addr) (c1 : Nat) (l1 : List Int) (r : Bool) (w : World) (hr0 : Kd.C (Kd.int .i64) w A0 l0.length l0) (hc0 : l0.length ≤ c0) (hr1 : Kd.C (Kd.int .i64) w A1 l1.length l1) (hc1 : l1.length ≤ c1) (h : lit_Within.f k l0 l1 = some r) :
    Calls Try.prog 59 #[.slice A0 l0.length c0, .slice A1 l1.length c1] w fun e w' => e = .returned (.bool r) ∧ Drawn0 w w' := by
  have HR0 := K0 hr0
  have HC0 := K0 hc0
  clear hr0 hc0
  have HR1 := K0 hr1
  have HC1 := K0 hc1
  clear hr1 hc1
  have H : (lit_Within.l0 k l1 l0 (l0.length : Int) 0) = some r := h
  clear h
  have H' := K0 H
  clear H
  go_enter Try.func59, Try.ntmps59
  go_wp2
  go_loopg [9] k (fun kq v9 w' => ∃ (x9_1 : Int), v9 = .int .i64 x9_1 ∧ Aside0 (lit_Within.l0 kq l1 l0 (l0.length : Int) x9_1 = some r) ∧ Aside0 (kq ≤ k) ∧ Drawn0 w w')
  case atStart => exact ⟨(0), (by first | rfl | (simp; done) | (simp [*]; done)), H', ⟨Nat.le_refl _⟩, by repeat (first | exact Drawn0.refl _ | apply Drawn0.step)⟩
  case round =>
    clear H'
    try clear c1
    try clear p2
    obtain ⟨x9_1, rfl, HA, HK1, ⟨m1, rfl⟩⟩ := hrel
    cases gk with
    | zero => exact absurd HA.out (by simp [lit_Within.l0])
    | succ k1 =>
      have H := HA.out
      clear HA
      simp only [lit_Within.l0] at H
      by_cases c3 : x9_1 < (l0.length : Int)
      · rw [if_pos c3] at H
        have c3b0 : decide (x9_1 < (l0.length : Int)) = true := decide_eq_true c3
        clear c3
        by_cases c4 : 0 ≤ x9_1
        · rw [if_pos c4] at H
          have c4b0 : decide (0 ≤ x9_1) = true := decide_eq_true c4
          clear c4
          by_cases c5 : x9_1 < (l0.length : Int)
          · rw [if_pos c5] at H
            have c5b0 : decide (x9_1 < (l0.length : Int)) = true := decide_eq_true c5
            clear c5
            replace H := Option.bind_eq_some_iff.mp H
            obtain ⟨t189, A60, H⟩ := H
            replace H : (if t189 = true then ((lit_Has.f k1 l1 (rd l0 x9_1)).bind fun t190 => (if t190 = true then (lit_Within.l0 k1 l1 l0 (l0.length : Int) (wrap64 (x9_1 + 1))) else (some false))) else (lit_Within.l0 k1 l1 l0 (l0.length : Int) (wrap64 (x9_1 + 1)))) = some r := H
            have A6 := K0 A60
            clear A60
            by_cases c7 : t189 = true
            · subst c7
              have H1 : ((lit_Has.f k1 l1 (rd l0 x9_1)).bind fun t190 => (if t190 = true then (lit_Within.l0 k1 l1 l0 (l0.length : Int) (wrap64 (x9_1 + 1))) else (some false))) = some r := by rw [if_pos rfl] at H; exact H
              clear H
              have H := H1
              clear H1
              replace H := Option.bind_eq_some_iff.mp H
              obtain ⟨t190, A80, H⟩ := H
              replace H : (if t190 = true then (lit_Within.l0 k1 l1 l0 (l0.length : Int) (wrap64 (x9_1 + 1))) else (some false)) = some r := H
              have A8 := K0 A80
              clear A80
              by_cases c9 : t190 = true
              · subst c9
                have H1 : (lit_Within.l0 k1 l1 l0 (l0.length : Int) (wrap64 (x9_1 + 1))) = some r := by rw [if_pos rfl] at H; exact H
                clear H
                have H := H1
                clear H1
                as_aux_lemma =>
                  have H' := K0 H
                  clear H
                  have p188 : 0 ≤ (x9_1 : Int) := of_decide_eq_true (by first | (with_reducible assumption) | assumption)
                  have q188 : x9_1 < (l0.length : Int) := of_decide_eq_true (by first | (with_reducible assumption) | assumption)
                  obtain ⟨ad188, e188, hx188_0⟩ := Kd.at_int HR0.out x9_1 p188 q188
                  cases e188
                  replace p188 := eq_true p188
                  replace q188 := eq_true q188
                  go_wp2_with (first | ((with_reducible refine gate_callee (f := 60) rfl ?_); refine goesL_ (some 14) rfl rfl Try.func60 (by kernel_rfl) rfl #[.int .i64 (rd l0 x9_1)] rfl (by (try simp only [List.map_toArray, List.map_cons, List.map_nil]); first | done | rfl | (simp only [List.length_drop, List.length_take]; rfl)) ?_; (with_reducible refine (lit_is.calls (rd l0 x9_1) true _ A6.out).mono ?_); rintro e w' ⟨rfl, ⟨nd, rfl⟩⟩; refine ⟨_, rfl, ?_⟩) | (go_at_call 57; (with_reducible refine (lit_Has.calls k1 _ _ l1 (rd l0 x9_1) true _ ?side1 ?side2 A8.out).mono ?_); (case side1 => repeat (first | exact HR1.out | (with_reducible refine Kd.C_alloc ?_ _) | (with_reducible refine Kd.C_drewN ?_ _) | (with_reducible refine Kd.C_drew ?_))); (case side2 => exact HC1.out); rintro e w' ⟨rfl, ⟨nd, rfl⟩⟩))
                  go_roundg k1
                  case measure => have := HK1.out; omega
                  case rel => exact ⟨(wrap64 (x9_1 + 1)), (by first | rfl | (simp; done) | (simp [*]; done)), H', ⟨by have := HK1.out; omega⟩, by repeat (first | exact Drawn0.refl _ | apply Drawn0.step)⟩
              · replace c9 := Bool.eq_false_iff.mpr c9
                subst c9
                have H1 : (some false) = some r := by rw [if_neg (show ¬ (false = true) by decide)] at H; exact H
                clear H
                have H := H1
                clear H1
                as_aux_lemma =>
                  obtain rfl := Option.some.inj H
                  have p188 : 0 ≤ (x9_1 : Int) := of_decide_eq_true (by first | (with_reducible assumption) | assumption)
                  have q188 : x9_1 < (l0.length : Int) := of_decide_eq_true (by first | (with_reducible assumption) | assumption)
                  obtain ⟨ad188, e188, hx188_0⟩ := Kd.at_int HR0.out x9_1 p188 q188
                  cases e188
                  replace p188 := eq_true p188
                  replace q188 := eq_true q188
                  go_wp2_with (first | ((with_reducible refine gate_callee (f := 60) rfl ?_); refine goesL_ (some 14) rfl rfl Try.func60 (by kernel_rfl) rfl #[.int .i64 (rd l0 x9_1)] rfl (by (try simp only [List.map_toArray, List.map_cons, List.map_nil]); first | done | rfl | (simp only [List.length_drop, List.length_take]; rfl)) ?_; (with_reducible refine (lit_is.calls (rd l0 x9_1) true _ A6.out).mono ?_); rintro e w' ⟨rfl, ⟨nd, rfl⟩⟩; refine ⟨_, rfl, ?_⟩) | (go_at_call 57; (with_reducible refine (lit_Has.calls k1 _ _ l1 (rd l0 x9_1) false _ ?side1 ?side2 A8.out).mono ?_); (case side1 => repeat (first | exact HR1.out | (with_reducible refine Kd.C_alloc ?_ _) | (with_reducible refine Kd.C_drewN ?_ _) | (with_reducible refine Kd.C_drew ?_))); (case side2 => exact HC1.out); rintro e w' ⟨rfl, ⟨nd, rfl⟩⟩))
                  go_ret
                  exact ⟨by first | rfl | (simp; done) | (simp [*]; done), by repeat (first | exact Drawn0.refl _ | apply Drawn0.step)⟩
            · replace c7 := Bool.eq_false_iff.mpr c7
              subst c7
              have H1 : (lit_Within.l0 k1 l1 l0 (l0.length : Int) (wrap64 (x9_1 + 1))) = some r := by rw [if_neg (show ¬ (false = true) by decide)] at H; exact H
              clear H
              have H := H1
              clear H1
              as_aux_lemma =>
                have H' := K0 H
                clear H
                have p188 : 0 ≤ (x9_1 : Int) := of_decide_eq_true (by first | (with_reducible assumption) | assumption)
                have q188 : x9_1 < (l0.length : Int) := of_decide_eq_true (by first | (with_reducible assumption) | assumption)
                obtain ⟨ad188, e188, hx188_0⟩ := Kd.at_int HR0.out x9_1 p188 q188
                cases e188
                replace p188 := eq_true p188
                replace q188 := eq_true q188
                go_wp2_with (first | ((with_reducible refine gate_callee (f := 60) rfl ?_); refine goesL_ (some 14) rfl rfl Try.func60 (by kernel_rfl) rfl #[.int .i64 (rd l0 x9_1)] rfl (by (try simp only [List.map_toArray, List.map_cons, List.map_nil]); first | done | rfl | (simp only [List.length_drop, List.length_take]; rfl)) ?_; (with_reducible refine (lit_is.calls (rd l0 x9_1) false _ A6.out).mono ?_); rintro e w' ⟨rfl, ⟨nd, rfl⟩⟩; refine ⟨_, rfl, ?_⟩))
                go_roundg k1
                case measure => have := HK1.out; omega
                case rel => exact ⟨(wrap64 (x9_1 + 1)), (by first | rfl | (simp; done) | (simp [*]; done)), H', ⟨by have := HK1.out; omega⟩, by repeat (first | exact Drawn0.refl _ | apply Drawn0.step)⟩
          · rw [if_neg c5] at H
            exact absurd H (by simp)
        · rw [if_neg c4] at H
          exact absurd H (by simp)
      · rw [if_neg c3] at H
        have c3b0 : decide (x9_1 < (l0.length : Int)) = false := decide_eq_false c3
        clear c3
        as_aux_lemma =>
          obtain rfl := Option.some.inj H
          go_wp2
          go_ret
          exact ⟨by first | rfl | (simp; done) | (simp [*]; done), by repeat (first | exact Drawn0.refl _ | apply Drawn0.step)⟩
def sequiturref19_True.f (a0 : Int) (l1 : List Bool) : Option (Bool) := if a0 < 0 then (if (wrap64 (-a0)) ≤ (l1.length : Int) then (if 0 ≤ (wrap64 ((wrap64 (-a0)) - 1)) then (if (wrap64 ((wrap64 (-a0)) - 1)) < (l1.length : Int) then (some (!(rdOf false l1 (wrap64 ((wrap64 (-a0)) - 1))))) else (none)) else (none)) else (some false)) else (if a0 > 0 then (if a0 ≤ (l1.length : Int) then (if 0 ≤ (wrap64 (a0 - 1)) then (if (wrap64 (a0 - 1)) < (l1.length : Int) then (some (rdOf false l1 (wrap64 (a0 - 1)))) else (none)) else (none)) else (some false)) else (some false))
set_option maxHeartbeats 8000000 in
set_option maxRecDepth 100000 in
theorem sequiturref19_True.calls (a0 : Int) (A1 : Option Addr) (c1 : Nat) (l1 : List Bool) (r : Bool) (w : World) (hr1 : Kd.C Kd.bool w A1 l1.length l1) (hc1 : l1.length ≤ c1) (h : sequiturref19_True.f a0 l1 = some r) :
    Calls Try.prog 54 #[.int .i64 a0, .slice A1 l1.length c1] w fun e w' => e = .returned (.bool r) ∧ Drawn0 w w' := by
  have HR1 := K0 hr1
  have HC1 := K0 hc1
  clear hr1 hc1
  have H : (if a0 < 0 then (if (wrap64 (-a0)) ≤ (l1.length : Int) then (if 0 ≤ (wrap64 ((wrap64 (-a0)) - 1)) then (if (wrap64 ((wrap64 (-a0)) - 1)) < (l1.length : Int) then (some (!(rdOf false l1 (wrap64 ((wrap64 (-a0)) - 1))))) else (none)) else (none)) else (some false)) else (if a0 > 0 then (if a0 ≤ (l1.length : Int) then (if 0 ≤ (wrap64 (a0 - 1)) then (if (wrap64 (a0 - 1)) < (l1.length : Int) then (some (rdOf false l1 (wrap64 (a0 - 1)))) else (none)) else (none)) else (some false)) else (some false))) = some r := h
  clear h
  by_cases c3 : a0 < 0
  · rw [if_pos c3] at H
    have c3b0 : decide (a0 < 0) = true := decide_eq_true c3
    clear c3
    by_cases c4 : (wrap64 (-a0)) ≤ (l1.length : Int)
    · rw [if_pos c4] at H
      have c4b0 : decide ((wrap64 (-a0)) ≤ (l1.length : Int)) = true := decide_eq_true c4
      clear c4
      obtain ⟨ji5, hji5⟩ : ∃ j_ : Int, (wrap64 ((wrap64 (-a0)) - 1)) = j_ := ⟨_, rfl⟩
      replace H : (if 0 ≤ (ji5) then (if (ji5) < (l1.length : Int) then (some (!(rdOf false l1 (ji5)))) else (none)) else (none)) = some r := by first | (rw [hji5] at H; exact H) | (simp only [hji5] at H ⊢; exact H)
      have hji5w : (IntKind.i64.wrap ((wrap64 (-a0)) - 1)) = ji5 := (i64_w _).trans hji5
      by_cases c6 : 0 ≤ (ji5)
      · rw [if_pos c6] at H
        have c6b0 : decide (0 ≤ (ji5)) = true := decide_eq_true c6
        clear c6
        by_cases c7 : (ji5) < (l1.length : Int)
        · rw [if_pos c7] at H
          have c7b0 : decide ((ji5) < (l1.length : Int)) = true := decide_eq_true c7
          clear c7
          as_aux_lemma =>
            obtain rfl := Option.some.inj H
            have p225 : 0 ≤ ((ji5) : Int) := of_decide_eq_true (by first | (with_reducible assumption) | assumption)
            have q225 : (ji5) < (l1.length : Int) := of_decide_eq_true (by first | (with_reducible assumption) | assumption)
            obtain ⟨ad225, e225, hx225_0⟩ := Kd.at_bool HR1.out (ji5) p225 q225
            cases e225
            replace p225 := eq_true p225
            replace q225 := eq_true q225
            go_enter Try.func54, Try.ntmps54
            go_wp2
            go_ret
            exact ⟨by first | rfl | (simp; done) | (simp only [← hji5] <;> (first | rfl | simp)) | (simp [*]; done), by repeat (first | exact Drawn0.refl _ | apply Drawn0.step)⟩
        · rw [if_neg c7] at H
          exact absurd H (by simp)
      · rw [if_neg c6] at H
        exact absurd H (by simp)
    · rw [if_neg c4] at H
      have c4b0 : decide ((wrap64 (-a0)) ≤ (l1.length : Int)) = false := decide_eq_false c4
      clear c4
      as_aux_lemma =>
        obtain rfl := Option.some.inj H
        go_enter Try.func54, Try.ntmps54
        go_wp2
        go_ret
        exact ⟨by first | rfl | (simp; done) | (simp [*]; done), by repeat (first | exact Drawn0.refl _ | apply Drawn0.step)⟩
  · rw [if_neg c3] at H
    have c3b0 : decide (a0 < 0) = false := decide_eq_false c3
    clear c3
    by_cases c8 : a0 > 0
    · rw [if_pos c8] at H
      have c8b0 : decide (0 < a0) = true := decide_eq_true c8
      clear c8
      by_cases c9 : a0 ≤ (l1.length : Int)
      · rw [if_pos c9] at H
        have c9b0 : decide (a0 ≤ (l1.length : Int)) = true := decide_eq_true c9
        clear c9
        obtain ⟨ji10, hji10⟩ : ∃ j_ : Int, (wrap64 (a0 - 1)) = j_ := ⟨_, rfl⟩
        replace H : (if 0 ≤ (ji10) then (if (ji10) < (l1.length : Int) then (some (rdOf false l1 (ji10))) else (none)) else (none)) = some r := by first | (rw [hji10] at H; exact H) | (simp only [hji10] at H ⊢; exact H)
        have hji10w : (IntKind.i64.wrap (a0 - 1)) = ji10 := (i64_w _).trans hji10
        by_cases c11 : 0 ≤ (ji10)
        · rw [if_pos c11] at H
          have c11b0 : decide (0 ≤ (ji10)) = true := decide_eq_true c11
          clear c11
          by_cases c12 : (ji10) < (l1.length : Int)
          · rw [if_pos c12] at H
            have c12b0 : decide ((ji10) < (l1.length : Int)) = true := decide_eq_true c12
            clear c12
            as_aux_lemma =>
              obtain rfl := Option.some.inj H
              have p226 : 0 ≤ ((ji10) : Int) := of_decide_eq_true (by first | (with_reducible assumption) | assumption)
              have q226 : (ji10) < (l1.length : Int) := of_decide_eq_true (by first | (with_reducible assumption) | assumption)
              obtain ⟨ad226, e226, hx226_0⟩ := Kd.at_bool HR1.out (ji10) p226 q226
              cases e226
              replace p226 := eq_true p226
              replace q226 := eq_true q226
              go_enter Try.func54, Try.ntmps54
              go_wp2
              go_ret
              exact ⟨by first | rfl | (simp; done) | (simp only [← hji10] <;> (first | rfl | simp)) | (simp [*]; done), by repeat (first | exact Drawn0.refl _ | apply Drawn0.step)⟩
          · rw [if_neg c12] at H
            exact absurd H (by simp)
        · rw [if_neg c11] at H
          exact absurd H (by simp)
      · rw [if_neg c9] at H
        have c9b0 : decide (a0 ≤ (l1.length : Int)) = false := decide_eq_false c9
        clear c9
        as_aux_lemma =>
          obtain rfl := Option.some.inj H
          go_enter Try.func54, Try.ntmps54
          go_wp2
          go_ret
          exact ⟨by first | rfl | (simp; done) | (simp [*]; done), by repeat (first | exact Drawn0.refl _ | apply Drawn0.step)⟩
    · rw [if_neg c8] at H
      have c8b0 : decide (0 < a0) = false := decide_eq_false c8
      clear c8
      as_aux_lemma =>
        obtain rfl := Option.some.inj H
        go_enter Try.func54, Try.ntmps54
        go_wp2
        go_ret
        exact ⟨by first | rfl | (simp; done) | (simp [*]; done), by repeat (first | exact Drawn0.refl _ | apply Drawn0.step)⟩
def sequiturref19_Holds.l0 : Nat → List Int → List Bool → Int → Option (Bool)
  | 0, _, _, _ => none
  | k + 1, x0, x1, x5 => if x5 < (x0.length : Int) then (if 0 ≤ x5 then ((sequiturref19_True.f (rd x0 x5) x1).bind fun t228 => (if t228 = true then (some true) else (sequiturref19_Holds.l0 k x0 x1 (wrap64 (x5 + 1))))) else (none)) else (some false)
def sequiturref19_Holds.f (k : Nat) (l0 : List Int) (l1 : List Bool) : Option (Bool) := sequiturref19_Holds.l0 k l0 l1 0
set_option maxHeartbeats 8000000 in
set_option maxRecDepth 100000 in
theorem sequiturref19_Holds.calls (k : Nat) (A0 : Option Addr) (c0 : Nat) (l0 : List Int) (A1 : Option Addr) (c1 : Nat) (l1 : List Bool) (r : Bool) (w : World) (hr0 : Kd.C (Kd.int .i64) w A0 l0.length l0) (hc0 : l0.length ≤ c0) (hr1 : Kd.C Kd.bool w A1 l1.length l1) (hc1 : l1.length ≤ c1) (h : sequiturref19_Holds.f k l0 l1 = some r) :
    Calls Try.prog 47 #[.slice A0 l0.length c0, .slice A1 l1.length c1] w fun e w' => e = .returned (.bool r) ∧ Drawn0 w w' := by
  have HR0 := K0 hr0
  have HC0 := K0 hc0
  clear hr0 hc0
  have HR1 := K0 hr1
  have HC1 := K0 hc1
  clear hr1 hc1
  have H : (sequiturref19_Holds.l0 k l0 l1 0) = some r := h
  clear h
  have H' := K0 H
  clear H
  go_enter Try.func47, Try.ntmps47
  go_wp2
  go_loopg [5] k (fun kq v5 w' => ∃ (x5_1 : Int), v5 = .int .i64 x5_1 ∧ Aside0 (sequiturref19_Holds.l0 kq l0 l1 x5_1 = some r) ∧ Aside0 (kq ≤ k) ∧ Drawn0 w w')
  case atStart => exact ⟨(0), (by first | rfl | (simp; done) | (simp [*]; done)), H', ⟨Nat.le_refl _⟩, by repeat (first | exact Drawn0.refl _ | apply Drawn0.step)⟩
  case round =>
    clear H'
    try clear c1
    try clear p2
    obtain ⟨x5_1, rfl, HA, HK1, ⟨m1, rfl⟩⟩ := hrel
    cases gk with
    | zero => exact absurd HA.out (by simp [sequiturref19_Holds.l0])
    | succ k1 =>
      have H := HA.out
      clear HA
      simp only [sequiturref19_Holds.l0] at H
      by_cases c3 : x5_1 < (l0.length : Int)
      · rw [if_pos c3] at H
        have c3b0 : decide (x5_1 < (l0.length : Int)) = true := decide_eq_true c3
        clear c3
        by_cases c4 : 0 ≤ x5_1
        · rw [if_pos c4] at H
          have c4b0 : decide (0 ≤ x5_1) = true := decide_eq_true c4
          clear c4
          replace H := Option.bind_eq_some_iff.mp H
          obtain ⟨t228, A50, H⟩ := H
          replace H : (if t228 = true then (some true) else (sequiturref19_Holds.l0 k1 l0 l1 (wrap64 (x5_1 + 1)))) = some r := H
          have A5 := K0 A50
          clear A50
          by_cases c6 : t228 = true
          · subst c6
            have H1 : (some true) = some r := by rw [if_pos rfl] at H; exact H
            clear H
            have H := H1
            clear H1
            as_aux_lemma =>
              obtain rfl := Option.some.inj H
              have p227 : 0 ≤ (x5_1 : Int) := of_decide_eq_true (by first | (with_reducible assumption) | assumption)
              have q227 : x5_1 < (l0.length : Int) := of_decide_eq_true (by first | (with_reducible assumption) | assumption)
              obtain ⟨ad227, e227, hx227_0⟩ := Kd.at_int HR0.out x5_1 p227 q227
              cases e227
              replace p227 := eq_true p227
              replace q227 := eq_true q227
              go_wp2_with (first | ((with_reducible refine gate_callee (f := 54) rfl ?_); refine goesL_ (some 17) rfl rfl Try.func54 (by kernel_rfl) rfl #[.int .i64 (rd l0 x5_1), .slice A1 l1.length c1] rfl (by (try simp only [List.map_toArray, List.map_cons, List.map_nil]); first | done | rfl | (simp only [List.length_drop, List.length_take]; rfl)) ?_; (with_reducible refine (sequiturref19_True.calls (rd l0 x5_1) _ _ l1 true _ ?side1 ?side2 A5.out).mono ?_); (case side1 => repeat (first | exact HR1.out | (with_reducible refine Kd.C_alloc ?_ _) | (with_reducible refine Kd.C_drewN ?_ _) | (with_reducible refine Kd.C_drew ?_))); (case side2 => exact HC1.out); rintro e w' ⟨rfl, ⟨nd, rfl⟩⟩; refine ⟨_, rfl, ?_⟩))
              go_ret
              exact ⟨by first | rfl | (simp; done) | (simp [*]; done), by repeat (first | exact Drawn0.refl _ | apply Drawn0.step)⟩
          · replace c6 := Bool.eq_false_iff.mpr c6
            subst c6
            have H1 : (sequiturref19_Holds.l0 k1 l0 l1 (wrap64 (x5_1 + 1))) = some r := by rw [if_neg (show ¬ (false = true) by decide)] at H; exact H
            clear H
            have H := H1
            clear H1
            as_aux_lemma =>
              have H' := K0 H
              clear H
              have p227 : 0 ≤ (x5_1 : Int) := of_decide_eq_true (by first | (with_reducible assumption) | assumption)
              have q227 : x5_1 < (l0.length : Int) := of_decide_eq_true (by first | (with_reducible assumption) | assumption)
              obtain ⟨ad227, e227, hx227_0⟩ := Kd.at_int HR0.out x5_1 p227 q227
              cases e227
              replace p227 := eq_true p227
              replace q227 := eq_true q227
              go_wp2_with (first | ((with_reducible refine gate_callee (f := 54) rfl ?_); refine goesL_ (some 17) rfl rfl Try.func54 (by kernel_rfl) rfl #[.int .i64 (rd l0 x5_1), .slice A1 l1.length c1] rfl (by (try simp only [List.map_toArray, List.map_cons, List.map_nil]); first | done | rfl | (simp only [List.length_drop, List.length_take]; rfl)) ?_; (with_reducible refine (sequiturref19_True.calls (rd l0 x5_1) _ _ l1 false _ ?side1 ?side2 A5.out).mono ?_); (case side1 => repeat (first | exact HR1.out | (with_reducible refine Kd.C_alloc ?_ _) | (with_reducible refine Kd.C_drewN ?_ _) | (with_reducible refine Kd.C_drew ?_))); (case side2 => exact HC1.out); rintro e w' ⟨rfl, ⟨nd, rfl⟩⟩; refine ⟨_, rfl, ?_⟩))
              go_roundg k1
              case measure => have := HK1.out; omega
              case rel => exact ⟨(wrap64 (x5_1 + 1)), (by first | rfl | (simp; done) | (simp [*]; done)), H', ⟨by have := HK1.out; omega⟩, by repeat (first | exact Drawn0.refl _ | apply Drawn0.step)⟩
        · rw [if_neg c4] at H
          exact absurd H (by simp)
      · rw [if_neg c3] at H
        have c3b0 : decide (x5_1 < (l0.length : Int)) = false := decide_eq_false c3
        clear c3
        as_aux_lemma =>
          obtain rfl := Option.some.inj H
          go_wp2
          go_ret
          exact ⟨by first | rfl | (simp; done) | (simp [*]; done), by repeat (first | exact Drawn0.refl _ | apply Drawn0.step)⟩
def sequiturref19_Every.l0 : Nat → List (List Int) → List Bool → Int → Option (Bool)
  | 0, _, _, _ => none
  | k + 1, x0, x1, x5 => if x5 < (x0.length : Int) then (if 0 ≤ x5 then ((sequiturref19_Holds.f k (rd_L3 x0 x5) x1).bind fun t230 => (if t230 = true then (sequiturref19_Every.l0 k x0 x1 (wrap64 (x5 + 1))) else (some false))) else (none)) else (some true)
def sequiturref19_Every.f (k : Nat) (l0 : List (List Int)) (l1 : List Bool) : Option (Bool) := sequiturref19_Every.l0 k l0 l1 0
set_option maxHeartbeats 8000000 in
set_option maxRecDepth 100000 in
theorem sequiturref19_Every.calls (k : Nat) (A0 : Option Addr) (c0 : Nat) (l0 : List (List Int)) (A1 : Option Addr) (c1 : Nat) (l1 : List Bool) (r : Bool) (w : World) (hr0 : Kd.C (Kd.slice 3 (Kd.int .i64)) w A0 l0.length l0) (hc0 : l0.length ≤ c0) (hr1 : Kd.C Kd.bool w A1 l1.length l1) (hc1 : l1.length ≤ c1) (h : sequiturref19_Every.f k l0 l1 = some r) :
    Calls Try.prog 23 #[.slice A0 l0.length c0, .slice A1 l1.length c1] w fun e w' => e = .returned (.bool r) ∧ Drawn0 w w' := by
  have HR0 := K0 hr0
  have HC0 := K0 hc0
  clear hr0 hc0
  have HR1 := K0 hr1
  have HC1 := K0 hc1
  clear hr1 hc1
  have H : (sequiturref19_Every.l0 k l0 l1 0) = some r := h
  clear h
  have H' := K0 H
  clear H
  go_enter Try.func23, Try.ntmps23
  go_wp2
  go_loopg [5] k (fun kq v5 w' => ∃ (x5_1 : Int), v5 = .int .i64 x5_1 ∧ Aside0 (sequiturref19_Every.l0 kq l0 l1 x5_1 = some r) ∧ Aside0 (kq ≤ k) ∧ Drawn0 w w')
  case atStart => exact ⟨(0), (by first | rfl | (simp; done) | (simp [*]; done)), H', ⟨Nat.le_refl _⟩, by repeat (first | exact Drawn0.refl _ | apply Drawn0.step)⟩
  case round =>
    clear H'
    try clear c1
    try clear c2
    try clear p2
    obtain ⟨x5_1, rfl, HA, HK1, ⟨m1, rfl⟩⟩ := hrel
    cases gk with
    | zero => exact absurd HA.out (by simp [sequiturref19_Every.l0])
    | succ k1 =>
      have H := HA.out
      clear HA
      simp only [sequiturref19_Every.l0] at H
      by_cases c3 : x5_1 < (l0.length : Int)
      · rw [if_pos c3] at H
        have c3b0 : decide (x5_1 < (l0.length : Int)) = true := decide_eq_true c3
        clear c3
        by_cases c4 : 0 ≤ x5_1
        · rw [if_pos c4] at H
          have c4b0 : decide (0 ≤ x5_1) = true := decide_eq_true c4
          clear c4
          replace H := Option.bind_eq_some_iff.mp H
          obtain ⟨t230, A50, H⟩ := H
          replace H : (if t230 = true then (sequiturref19_Every.l0 k1 l0 l1 (wrap64 (x5_1 + 1))) else (some false)) = some r := H
          have A5 := K0 A50
          clear A50
          by_cases c6 : t230 = true
          · subst c6
            have H1 : (sequiturref19_Every.l0 k1 l0 l1 (wrap64 (x5_1 + 1))) = some r := by rw [if_pos rfl] at H; exact H
            clear H
            have H := H1
            clear H1
            as_aux_lemma =>
              have H' := K0 H
              clear H
              have p229 : 0 ≤ (x5_1 : Int) := of_decide_eq_true (by first | (with_reducible assumption) | assumption)
              have q229 : x5_1 < (l0.length : Int) := of_decide_eq_true (by first | (with_reducible assumption) | assumption)
              obtain ⟨ad229, A229_0, c229_0, e229, hx229_0, hl229_0, hi229_0⟩ := at_L3 HR0.out x5_1 p229 q229
              cases e229
              have HR229_0 := K0 hi229_0
              have HC229_0 := K0 hl229_0
              clear hi229_0 hl229_0
              replace p229 := eq_true p229
              replace q229 := eq_true q229
              go_wp2_with (first | ((with_reducible refine gate_callee (f := 47) rfl ?_); refine goesL_ (some 17) rfl rfl Try.func47 (by kernel_rfl) rfl #[.slice A229_0 (rd_L3 l0 x5_1).length c229_0, .slice A1 l1.length c1] rfl (by (try simp only [List.map_toArray, List.map_cons, List.map_nil]); first | done | rfl | (simp only [List.length_drop, List.length_take]; rfl)) ?_; (with_reducible refine (sequiturref19_Holds.calls k1 _ _ (rd_L3 l0 x5_1) _ _ l1 true _ ?side1 ?side2 ?side3 ?side4 A5.out).mono ?_); (case side1 => repeat (first | exact HR229_0.out | (with_reducible refine Kd.C_alloc ?_ _) | (with_reducible refine Kd.C_drewN ?_ _) | (with_reducible refine Kd.C_drew ?_))); (case side2 => exact HC229_0.out); (case side3 => repeat (first | exact HR1.out | (with_reducible refine Kd.C_alloc ?_ _) | (with_reducible refine Kd.C_drewN ?_ _) | (with_reducible refine Kd.C_drew ?_))); (case side4 => exact HC1.out); rintro e w' ⟨rfl, ⟨nd, rfl⟩⟩; refine ⟨_, rfl, ?_⟩))
              go_roundg k1
              case measure => have := HK1.out; omega
              case rel => exact ⟨(wrap64 (x5_1 + 1)), (by first | rfl | (simp; done) | (simp [*]; done)), H', ⟨by have := HK1.out; omega⟩, by repeat (first | exact Drawn0.refl _ | apply Drawn0.step)⟩
          · replace c6 := Bool.eq_false_iff.mpr c6
            subst c6
            have H1 : (some false) = some r := by rw [if_neg (show ¬ (false = true) by decide)] at H; exact H
            clear H
            have H := H1
            clear H1
            as_aux_lemma =>
              obtain rfl := Option.some.inj H
              have p229 : 0 ≤ (x5_1 : Int) := of_decide_eq_true (by first | (with_reducible assumption) | assumption)
              have q229 : x5_1 < (l0.length : Int) := of_decide_eq_true (by first | (with_reducible assumption) | assumption)
              obtain ⟨ad229, A229_0, c229_0, e229, hx229_0, hl229_0, hi229_0⟩ := at_L3 HR0.out x5_1 p229 q229
              cases e229
              have HR229_0 := K0 hi229_0
              have HC229_0 := K0 hl229_0
              clear hi229_0 hl229_0
              replace p229 := eq_true p229
              replace q229 := eq_true q229
              go_wp2_with (first | ((with_reducible refine gate_callee (f := 47) rfl ?_); refine goesL_ (some 17) rfl rfl Try.func47 (by kernel_rfl) rfl #[.slice A229_0 (rd_L3 l0 x5_1).length c229_0, .slice A1 l1.length c1] rfl (by (try simp only [List.map_toArray, List.map_cons, List.map_nil]); first | done | rfl | (simp only [List.length_drop, List.length_take]; rfl)) ?_; (with_reducible refine (sequiturref19_Holds.calls k1 _ _ (rd_L3 l0 x5_1) _ _ l1 false _ ?side1 ?side2 ?side3 ?side4 A5.out).mono ?_); (case side1 => repeat (first | exact HR229_0.out | (with_reducible refine Kd.C_alloc ?_ _) | (with_reducible refine Kd.C_drewN ?_ _) | (with_reducible refine Kd.C_drew ?_))); (case side2 => exact HC229_0.out); (case side3 => repeat (first | exact HR1.out | (with_reducible refine Kd.C_alloc ?_ _) | (with_reducible refine Kd.C_drewN ?_ _) | (with_reducible refine Kd.C_drew ?_))); (case side4 => exact HC1.out); rintro e w' ⟨rfl, ⟨nd, rfl⟩⟩; refine ⟨_, rfl, ?_⟩))
              go_ret
              exact ⟨by first | rfl | (simp; done) | (simp [*]; done), by repeat (first | exact Drawn0.refl _ | apply Drawn0.step)⟩
        · rw [if_neg c4] at H
          exact absurd H (by simp)
      · rw [if_neg c3] at H
        have c3b0 : decide (x5_1 < (l0.length : Int)) = false := decide_eq_false c3
        clear c3
        as_aux_lemma =>
          obtain rfl := Option.some.inj H
          go_wp2
          go_ret
          exact ⟨by first | rfl | (simp; done) | (simp [*]; done), by repeat (first | exact Drawn0.refl _ | apply Drawn0.step)⟩
end Go.Proofs.Ytppkeonhbkahmaa.P
