import Derived.StillTailTactics
import Derived.Shelf.Abstract
import Derived.Laws.EntriesVeiled
import Derived.Test.YtppkeonhbkahmaaKCoreTrims1
import Derived.Test.YtppkeonhbkahmaaKCoreTrims3
namespace Go.Proofs.Ytppkeonhbkahmaa.P
open Go.RowKit Go.Proofs.YtppkeonhbkahmaaW.PrintWords Go.Proofs.YtppkeonhbkahmaaW.PrintLast Go.Proofs.YtppkeonhbkahmaaW.PrintMore
attribute [local go_sem] max2_int min2_int max_two min_two max_three min_three max_four min_four
set_option linter.unusedVariables false
set_option linter.unusedSimpArgs false
mutual
def sequiturref25_needs.l0 : Nat → List (S48) → Int → List Bool → Bool → Int → Option (List Bool)
  | 0, _, _, _, _, _ => none
  | k + 1, x1, x5, x6, x8, x9 => if x9 < (x1.length : Int) then (sequiturref25_needs.j1 k x1 x5 x6 x8 x9 x8) else (sequiturref25_needs.j1 k x1 x5 x6 x8 x9 false)
def sequiturref25_needs.j1 : Nat → List (S48) → Int → List Bool → Bool → Int → Bool → Option (List Bool)
  | 0, _, _, _, _, _, _ => none
  | k + 1, x1, x5, x6, x8, x9, x35 => if x35 = true then (if 0 ≤ x9 then (if x9 < (x1.length : Int) then (if (((rd_T48 x1 x9).f0).length : Int) = 0 then (if 0 ≤ (wrap64 (x5 + x9)) then (if (wrap64 (x5 + x9)) < (x6.length : Int) then (sequiturref25_needs.l0 k x1 x5 (x6.set ((wrap64 (x5 + x9)) : Int).toNat true) false (wrap64 (x9 + 1))) else (none)) else (none)) else (sequiturref25_needs.l0 k x1 x5 x6 x8 (wrap64 (x9 + 1)))) else (none)) else (none)) else (sequiturref25_needs.l1 k x1 x5 x6 (wrap64 ((x1.length : Int) - 1)))
def sequiturref25_needs.l1 : Nat → List (S48) → Int → List Bool → Int → Option (List Bool)
  | 0, _, _, _, _ => none
  | k + 1, x1, x5, x6, x10 => if x10 ≥ 0 then (sequiturref25_needs.l2 k x1 x5 x6 x10 0) else (some x6)
def sequiturref25_needs.l2 : Nat → List (S48) → Int → List Bool → Int → Int → Option (List Bool)
  | 0, _, _, _, _, _ => none
  | k + 1, x1, x5, x6, x10, x11 => if 0 ≤ x10 then (if x10 < (x1.length : Int) then (if x11 < (((rd_T48 x1 x10).f1).length : Int) then (if 0 ≤ (wrap64 (x5 + x10)) then (if (wrap64 (x5 + x10)) < (x6.length : Int) then (if rdOf false x6 (wrap64 (x5 + x10)) = true then (if 0 ≤ x11 then (if 0 ≤ (rd ((rd_T48 x1 x10).f1) x11) then (if (rd ((rd_T48 x1 x10).f1) x11) < (x6.length : Int) then (sequiturref25_needs.l2 k x1 x5 (x6.set ((rd ((rd_T48 x1 x10).f1) x11) : Int).toNat true) x10 (wrap64 (x11 + 1))) else (none)) else (none)) else (none)) else (sequiturref25_needs.l1 k x1 x5 x6 (wrap64 (x10 - 1)))) else (none)) else (none)) else (sequiturref25_needs.l1 k x1 x5 x6 (wrap64 (x10 - 1)))) else (none)) else (none)
end
def sequiturref25_needs.f (k : Nat) (a0_0 : Int) (l0_1 : List (List Int)) (l1 : List (S48)) : Option (List Bool) := if 0 ≤ (wrap64 ((l0_1.length : Int) + (l1.length : Int))) then (if (wrap64 ((l0_1.length : Int) + (l1.length : Int)) : Int).toNat ≤ 281474976710656 then ((some (List.replicate (wrap64 ((l0_1.length : Int) + (l1.length : Int)) : Int).toNat false : List Bool)).bind fun y266 => ((sequiturref25_empty.f k l0_1).bind fun t269 => (if t269 ≥ 0 then (if 0 ≤ t269 then (if t269 < (y266.length : Int) then (some (y266.set (t269 : Int).toNat true)) else (none)) else (none)) else (sequiturref25_needs.l0 k l1 (l0_1.length : Int) y266 true 0)))) else (none)) else (none)
set_option maxHeartbeats 8000000 in
set_option maxRecDepth 100000 in
theorem sequiturref25_needs.calls (k : Nat) (a0_0 : Int) (A0_1 : Option Addr) (c0_1 : Nat) (l0_1 : List (List Int)) (A1 : Option Addr) (c1 : Nat) (l1 : List (S48)) (r : List Bool) (w : World) (hr0_1 : Kd.C (Kd.slice 3 (Kd.int .i64)) w A0_1 l0_1.length l0_1) (hc0_1 : l0_1.length ≤ c0_1) (hr1 : Kd.C k48 w A1 l1.length l1) (hc1 : l1.length ≤ c1) (h : sequiturref25_needs.f k a0_0 l0_1 l1 = some r) :
    Calls Try.prog 32 #[.agg #[.int .i64 a0_0, .slice A0_1 l0_1.length c0_1], .slice A1 l1.length c1] w fun e w' => ∃ v0_ : Value, e = .returned (v0_) ∧ Kd.R Kd.bool 4 w' w.heap.size (fun _ => True) v0_ r ∧ Below w.heap.size w w' := by
  have hu24 := Try.underlying24
  have HR0_1 := K0 hr0_1; have HC0_1 := K0 hc0_1; clear hr0_1 hc0_1; have HR1 := K0 hr1; have HC1 := K0 hc1; clear hr1 hc1
  have HB := K0 (Below.refl w.heap.size w)
  have H : (if 0 ≤ (wrap64 ((l0_1.length : Int) + (l1.length : Int))) then (if (wrap64 ((l0_1.length : Int) + (l1.length : Int)) : Int).toNat ≤ 281474976710656 then ((some (List.replicate (wrap64 ((l0_1.length : Int) + (l1.length : Int)) : Int).toNat false : List Bool)).bind fun y266 => ((sequiturref25_empty.f k l0_1).bind fun t269 => (if t269 ≥ 0 then (if 0 ≤ t269 then (if t269 < (y266.length : Int) then (some (y266.set (t269 : Int).toNat true)) else (none)) else (none)) else (sequiturref25_needs.l0 k l1 (l0_1.length : Int) y266 true 0)))) else (none)) else (none)) = some r := h
  clear h
  obtain ⟨ji3, hji3⟩ : ∃ j_ : Int, (wrap64 ((l0_1.length : Int) + (l1.length : Int))) = j_ := ⟨_, rfl⟩
  replace H : (if 0 ≤ (ji3) then (if (ji3 : Int).toNat ≤ 281474976710656 then ((some (List.replicate (ji3 : Int).toNat false : List Bool)).bind fun y266 => ((sequiturref25_empty.f k l0_1).bind fun t269 => (if t269 ≥ 0 then (if 0 ≤ t269 then (if t269 < (y266.length : Int) then (some (y266.set (t269 : Int).toNat true)) else (none)) else (none)) else (sequiturref25_needs.l0 k l1 (l0_1.length : Int) y266 true 0)))) else (none)) else (none)) = some r := by first | (rw [hji3] at H; exact H) | (simp only [hji3] at H ⊢; exact H)
  have hji3w : (IntKind.i64.wrap ((l0_1.length : Int) + (l1.length : Int))) = ji3 := (i64_w _).trans hji3
  by_cases c4 : 0 ≤ (ji3)
  case neg =>
    rw [if_neg c4] at H
    exact absurd H (by simp)
  rw [if_pos c4] at H
  have c4b0 := eq_true c4
  have c4b1 : decide (0 ≤ (ji3)) = true := decide_eq_true c4
  clear c4
  by_cases c5 : (ji3 : Int).toNat ≤ 281474976710656
  case neg =>
    rw [if_neg c5] at H
    exact absurd H (by simp)
  rw [if_pos c5] at H
  have c5b0 := eq_true c5
  have c5b1 : decide ((ji3 : Int).toNat ≤ 281474976710656) = true := decide_eq_true c5
  clear c5
  obtain ⟨y266, hy266⟩ : ∃ y_ : List Bool, y_ = (List.replicate (ji3 : Int).toNat false) := ⟨_, rfl⟩
  replace H : ((sequiturref25_empty.f k l0_1).bind fun t269 => (if t269 ≥ 0 then (if 0 ≤ t269 then (if t269 < (y266.length : Int) then (some (y266.set (t269 : Int).toNat true)) else (none)) else (none)) else (sequiturref25_needs.l0 k l1 (l0_1.length : Int) y266 true 0))) = some r := by first | (rw [hy266]; with_reducible exact H) | (have H2_ := (Option.bind_some _ _).symm.trans H; rw [hy266]; with_reducible exact H2_) | (have H2_ := (Option.bind_some _ _).symm.trans H; with_reducible exact H2_) | with_reducible exact H | (rw [hy266]; exact H) | exact H
  have Ny266 := K0 hy266; clear hy266
  replace H := Option.bind_eq_some_iff.mp H
  obtain ⟨t269, A60, H⟩ := H
  replace H : (if t269 ≥ 0 then (if 0 ≤ t269 then (if t269 < (y266.length : Int) then (some (y266.set (t269 : Int).toNat true)) else (none)) else (none)) else (sequiturref25_needs.l0 k l1 (l0_1.length : Int) y266 true 0)) = some r := H
  have A6 := K0 A60; clear A60
  by_cases c7 : t269 ≥ 0
  case pos =>
    rw [if_pos c7] at H
    have c7b0 : decide (0 ≤ t269) = true := decide_eq_true c7
    clear c7
    by_cases c8 : 0 ≤ t269
    case neg =>
      rw [if_neg c8] at H
      exact absurd H (by simp)
    rw [if_pos c8] at H
    have c8b0 : decide (0 ≤ t269) = true := decide_eq_true c8
    clear c8
    by_cases c9 : t269 < (y266.length : Int)
    case neg =>
      rw [if_neg c9] at H
      exact absurd H (by simp)
    rw [if_pos c9] at H
    have c9b0 : decide (t269 < (y266.length : Int)) = true := decide_eq_true c9
    clear c9
    obtain ⟨y270, hy270⟩ : ∃ y_ : List Bool, y_ = (y266.set (t269 : Int).toNat true) := ⟨_, rfl⟩
    replace H : (some y270) = some r := by first | (rw [hy270]; with_reducible exact H) | (have H2_ := (Option.bind_some _ _).symm.trans H; rw [hy270]; with_reducible exact H2_) | (have H2_ := (Option.bind_some _ _).symm.trans H; with_reducible exact H2_) | with_reducible exact H | (rw [hy270]; exact H) | exact H
    have Ny270 := K0 hy270; clear hy270
    as_aux_lemma =>
      obtain rfl := Option.some.inj H
      go_enter Try.func32, Try.ntmps32
      go_wp2_with (first | ((with_reducible refine gate_dst (N := 2) rfl ?_); refine box_event ?hg (N := 2) ?hd (cs := #[.int .i64 a0_0, .slice A0_1 l0_1.length c0_1]) (t := 24) ?hr ?_; (case hd => rfl); (case hg => rfl); (case hr => first | (go_simp; done) | (go_simp; rfl)); intro gb265 hg w11 hbox hb; have n0_ := K0 (below_step (by repeat (first | (with_reducible first | exact HB.out | apply below_alloc | apply pw_below_drewN | apply below_drew1) | exact HB.out)) hb); have n1_ := K0 (hbox); have n2_ := K0 ((by rw [hg]; exact (below_size (by repeat (first | (with_reducible first | exact HB.out | apply below_alloc | apply pw_below_drewN | apply below_drew1) | exact HB.out))) : w.heap.size ≤ gb265)); have n3_ := K0 ((by rw [hg]; exact (below_size (by repeat (first | (with_reducible first | exact HB.out | apply below_alloc | apply pw_below_drewN | apply below_drew1) | exact HB.out))) : w.heap.size ≤ gb265)); clear HB; have HB := n0_; have BK265 := n1_; have GW265 := n2_; have GE265 := n3_; clear n0_ n1_ n2_ n3_; clear hb hbox hg; have hcz12_0 : w11.cell? ⟨gb265, 0, none⟩ = some (.int .i64 a0_0) := (blk_cell BK265.out 0).trans rfl; have hcz12_1 : w11.cell? ⟨gb265, 1, none⟩ = some (.slice A0_1 l0_1.length c0_1) := (blk_cell BK265.out 1).trans rfl; have hfz12_0 := blk_frozen BK265.out 0; have hfz12_1 := blk_frozen BK265.out 1) | ((with_reducible refine gate_dst (N := 19) rfl ?_); refine Kd.R_make Kd.bool _ 4 rfl (N := 19) rfl 55 _ _ rfl ji3 rfl rfl Try.underlying55 (.bool false) 1 info4 rfl (by decide) (by omega) false (ok := fun _ => True) (okp := fun _ => True) rfl (fun _ hk => hk) trivial (of_decide_eq_true (by first | (with_reducible assumption) | assumption)) (Nat.le_trans (Nat.mul_le_mul_right _ (of_decide_eq_true (by first | (with_reducible assumption) | assumption) : ji3.toNat ≤ 281474976710656)) (by omega)) (Below.refl _ _) (Nat.le_refl _) ?_; intro v267 w13 ho14 hb hg_ hnew_; clear hg_ hnew_; (first | rw [← Ny266.out] at ho14 | (simp only [Int.reduceToNat] at ho14; rw [← Ny266.out] at ho14)); have n0_ := K0 (Kd.R_lower ho14 (below_size (by repeat (first | (with_reducible first | exact HB.out | apply below_alloc | apply pw_below_drewN | apply below_drew1 | refine below_set ?_ GE265.out) | exact HB.out)))); have n1_ := K0 (blk_below (g := gb265) (o := .cells #[.int .i64 a0_0, .slice A0_1 l0_1.length c0_1] 24 (0, 0)) (by (with_reducible repeat (first | refine blk_drewN ?_ _ | refine blk_drew ?_ | refine blk_alloc ?_ _)); exact BK265.out) hb); have n2_ := K0 (below_step (by repeat (first | (with_reducible first | exact HB.out | apply below_alloc | apply pw_below_drewN | apply below_drew1 | refine below_set ?_ GE265.out) | exact HB.out)) hb); clear BK265; clear HB; have HO268 := n0_; have BK265 := n1_; have HB := n2_; clear n0_ n1_ n2_; clear hb ho14; have hcz15_0 : w13.cell? ⟨gb265, 0, none⟩ = some (.int .i64 a0_0) := (blk_cell BK265.out 0).trans rfl; have hcz15_1 : w13.cell? ⟨gb265, 1, none⟩ = some (.slice A0_1 l0_1.length c0_1) := (blk_cell BK265.out 1).trans rfl; have hfz15_0 := blk_frozen BK265.out 0; have hfz15_1 := blk_frozen BK265.out 1) | ((with_reducible refine gate_callee (f := 49) rfl ?_); refine goesL_ (some 22) rfl rfl Try.func49 (by kernel_rfl) rfl #[.slice A0_1 l0_1.length c0_1] rfl (by (try simp only [List.map_toArray, List.map_cons, List.map_nil]); first | done | rfl | (simp only [List.length_drop, List.length_take]; rfl)) ?_; (with_reducible refine (sequiturref25_empty.calls k _ _ l0_1 t269 _ ?side1 ?side2 A6.out).mono ?_); (case side1 => repeat (first | exact (Kd.C_below HR0_1.out HB.out) | (with_reducible refine Kd.C_alloc ?_ _) | (with_reducible refine Kd.C_drewN ?_ _) | (with_reducible refine Kd.C_drew ?_))); (case side2 => exact HC0_1.out); rintro e w' ⟨rfl, ⟨nd, rfl⟩⟩; refine ⟨_, rfl, ?_⟩; (try (rw [drewN_self w13]; generalize hq_ : World.drewN w13 _ = w13; have n0_ : Aside0 (Kd.R Kd.bool 4 w13 w.heap.size (fun _ => True) v267 y266) := ⟨by rw [← hq_]; exact (by (with_reducible repeat (first | apply Kd.R_alloc | apply Kd.R_drewN | apply Kd.R_drew)); exact HO268.out)⟩; have n1_ : Aside0 (w13.heap[gb265]? = some (.cells #[.int .i64 a0_0, .slice A0_1 l0_1.length c0_1] 24 (0, 0))) := ⟨by rw [← hq_]; exact (by (with_reducible repeat (first | refine blk_drewN ?_ _ | refine blk_drew ?_ | refine blk_alloc ?_ _)); exact BK265.out)⟩; have n2_ : Aside0 (Below w.heap.size w w13) := ⟨by rw [← hq_]; exact (by repeat (first | (with_reducible first | exact HB.out | apply below_alloc | apply pw_below_drewN | apply below_drew1 | refine below_set ?_ GE265.out) | exact HB.out))⟩; clear HO268 BK265 HB hq_; have HO268 := n0_; have BK265 := n1_; have HB := n2_; clear n0_ n1_ n2_)); have p10 : 0 ≤ (t269 : Int) := of_decide_eq_true (by first | (with_reducible assumption) | assumption); have q10 : (t269 : Int) < ((y266.length : Int) : Int) := of_decide_eq_true (by first | (with_reducible assumption) | assumption); obtain ⟨go10, co10, eo10, gb10, gl10, cl10, HG10⟩ := Kd.R_form HO268.out (by omega); (first | cases eo10 | (injection eo10 with ea_ en_ ec_; (first | subst ea_ | (injection ea_ with ea_; subst ea_)); subst ec_; clear en_)); have GB10 := K0 gb10; have GG10 := K0 HG10; clear gb10 gl10 HG10; obtain ⟨hx10_0, hf10_0⟩ := Kd.R_celln false HO268.out (t269 : Int) p10 q10; replace p10 := eq_true p10; replace q10 := eq_true q10; obtain ⟨hy16_, hz16_⟩ := Kd.R_celln false HO268.out (t269 : Int) (of_decide_eq_true (by first | (with_reducible assumption) | assumption)) (of_decide_eq_true (by first | (with_reducible assumption) | assumption)); have HP16 := Kd.R_putg HO268.out (t269 : Int) true) | ((with_reducible refine gate_store (t := 4) (p := 27) rfl ?_); refine store_event (t := 4) (p := 27) (v := ?vo_w17) (w1 := (w13.setCell ⟨go10, (t269 : Int).toNat, none⟩ (.bool true))) ?hg ?ho ?hn ?hr ?_; (case ho => rfl); (case hg => rfl); (case hn => rfl); (case hr => first | (go_simp; done) | (go_simp; rfl)); intro w17 hw; have hg : w13.grownBy w17 (some go10) := (by rw [hw]; exact HP16.2); have hp_ : Kd.R Kd.bool 4 w17 w.heap.size (fun _ => True) (.slice (some ⟨go10, 0, none⟩) y266.length co10) y270 := (by rw [hw, Ny270.out]; exact HP16.1); clear HP16; have n0_ := K0 (blk_grown (g := gb265) (o := .cells #[.int .i64 a0_0, .slice A0_1 l0_1.length c0_1] 24 (0, 0)) (by (with_reducible repeat (first | refine blk_drewN ?_ _ | refine blk_drew ?_ | refine blk_alloc ?_ _)); exact BK265.out) hg (Kd.R_ne HO268.out BK265.out (by decide))); have n1_ := K0 (hp_); have n2_ := K0 ((by rw [hw]; exact below_set (HB.out) GB10.out : Below w.heap.size w w17)); clear BK265; clear HO268; clear HB; have BK265 := n0_; have HO268 := n1_; have HB := n2_; clear n0_ n1_ n2_; clear hg hw hp_))
      go_ret
      exact ⟨_, by first | rfl | (simp [errW_none, errW_some] <;> rfl) | (simp only [← hji3]; first | rfl | (simp [errW_none, errW_some] <;> rfl)) | (simp [*, errW_none, errW_some] <;> rfl), by (with_reducible repeat (first | apply Kd.R_alloc | apply Kd.R_drewN | apply Kd.R_drew)); exact HO268.out, by repeat (first | (with_reducible first | exact HB.out | apply below_alloc | apply pw_below_drewN | apply below_drew1 | refine below_set ?_ GE265.out) | exact HB.out)⟩
  rw [if_neg c7] at H
  have c7b0 : decide (0 ≤ t269) = false := decide_eq_false c7
  clear c7
  have H' := K0 H
  clear H
  go_enter Try.func32, Try.ntmps32
  go_wp2_with (first | ((with_reducible refine gate_dst (N := 2) rfl ?_); refine box_event ?hg (N := 2) ?hd (cs := #[.int .i64 a0_0, .slice A0_1 l0_1.length c0_1]) (t := 24) ?hr ?_; (case hd => rfl); (case hg => rfl); (case hr => first | (go_simp; done) | (go_simp; rfl)); intro gb265 hg w18 hbox hb; have n0_ := K0 (below_step (by repeat (first | (with_reducible first | exact HB.out | apply below_alloc | apply pw_below_drewN | apply below_drew1) | exact HB.out)) hb); have n1_ := K0 (hbox); have n2_ := K0 ((by rw [hg]; exact (below_size (by repeat (first | (with_reducible first | exact HB.out | apply below_alloc | apply pw_below_drewN | apply below_drew1) | exact HB.out))) : w.heap.size ≤ gb265)); have n3_ := K0 ((by rw [hg]; exact (below_size (by repeat (first | (with_reducible first | exact HB.out | apply below_alloc | apply pw_below_drewN | apply below_drew1) | exact HB.out))) : w.heap.size ≤ gb265)); clear HB; have HB := n0_; have BK265 := n1_; have GW265 := n2_; have GE265 := n3_; clear n0_ n1_ n2_ n3_; clear hb hbox hg; have hcz19_0 : w18.cell? ⟨gb265, 0, none⟩ = some (.int .i64 a0_0) := (blk_cell BK265.out 0).trans rfl; have hcz19_1 : w18.cell? ⟨gb265, 1, none⟩ = some (.slice A0_1 l0_1.length c0_1) := (blk_cell BK265.out 1).trans rfl; have hfz19_0 := blk_frozen BK265.out 0; have hfz19_1 := blk_frozen BK265.out 1) | ((with_reducible refine gate_dst (N := 19) rfl ?_); refine Kd.R_make Kd.bool _ 4 rfl (N := 19) rfl 55 _ _ rfl ji3 rfl rfl Try.underlying55 (.bool false) 1 info4 rfl (by decide) (by omega) false (ok := fun _ => True) (okp := fun _ => True) rfl (fun _ hk => hk) trivial (of_decide_eq_true (by first | (with_reducible assumption) | assumption)) (Nat.le_trans (Nat.mul_le_mul_right _ (of_decide_eq_true (by first | (with_reducible assumption) | assumption) : ji3.toNat ≤ 281474976710656)) (by omega)) (Below.refl _ _) (Nat.le_refl _) ?_; intro v267 w20 ho21 hb hg_ hnew_; clear hg_ hnew_; (first | rw [← Ny266.out] at ho21 | (simp only [Int.reduceToNat] at ho21; rw [← Ny266.out] at ho21)); have n0_ := K0 (Kd.R_lower ho21 (below_size (by repeat (first | (with_reducible first | exact HB.out | apply below_alloc | apply pw_below_drewN | apply below_drew1 | refine below_set ?_ GE265.out) | exact HB.out)))); have n1_ := K0 (blk_below (g := gb265) (o := .cells #[.int .i64 a0_0, .slice A0_1 l0_1.length c0_1] 24 (0, 0)) (by (with_reducible repeat (first | refine blk_drewN ?_ _ | refine blk_drew ?_ | refine blk_alloc ?_ _)); exact BK265.out) hb); have n2_ := K0 (below_step (by repeat (first | (with_reducible first | exact HB.out | apply below_alloc | apply pw_below_drewN | apply below_drew1 | refine below_set ?_ GE265.out) | exact HB.out)) hb); clear BK265; clear HB; have HO268 := n0_; have BK265 := n1_; have HB := n2_; clear n0_ n1_ n2_; clear hb ho21; have hcz22_0 : w20.cell? ⟨gb265, 0, none⟩ = some (.int .i64 a0_0) := (blk_cell BK265.out 0).trans rfl; have hcz22_1 : w20.cell? ⟨gb265, 1, none⟩ = some (.slice A0_1 l0_1.length c0_1) := (blk_cell BK265.out 1).trans rfl; have hfz22_0 := blk_frozen BK265.out 0; have hfz22_1 := blk_frozen BK265.out 1) | ((with_reducible refine gate_callee (f := 49) rfl ?_); refine goesL_ (some 22) rfl rfl Try.func49 (by kernel_rfl) rfl #[.slice A0_1 l0_1.length c0_1] rfl (by (try simp only [List.map_toArray, List.map_cons, List.map_nil]); first | done | rfl | (simp only [List.length_drop, List.length_take]; rfl)) ?_; (with_reducible refine (sequiturref25_empty.calls k _ _ l0_1 t269 _ ?side1 ?side2 A6.out).mono ?_); (case side1 => repeat (first | exact (Kd.C_below HR0_1.out HB.out) | (with_reducible refine Kd.C_alloc ?_ _) | (with_reducible refine Kd.C_drewN ?_ _) | (with_reducible refine Kd.C_drew ?_))); (case side2 => exact HC0_1.out); rintro e w' ⟨rfl, ⟨nd, rfl⟩⟩; refine ⟨_, rfl, ?_⟩))
  go_loopg [8, 9] k (fun kq v8 v9 w' => ∃ (x6_1 : List Bool) (x8_1 : Bool) (x9_1 : Int), v8 = .bool x8_1 ∧ v9 = .int .i64 x9_1 ∧ Aside0 (sequiturref25_needs.l0 kq l1 (l0_1.length : Int) x6_1 x8_1 x9_1 = some r) ∧ Aside0 (kq ≤ k) ∧ Aside0 (Kd.R Kd.bool 4 w' w.heap.size (fun _ => True) v267 x6_1) ∧ Aside0 (w'.heap[gb265]? = some (.cells #[.int .i64 a0_0, (.slice A0_1 l0_1.length c0_1)] 24 (0, 0))) ∧ Aside0 (Below w.heap.size w w'))
  case atStart => exact ⟨(y266), (true), (0), (by first | rfl | (simp; done) | (simp [*]; done)), (by first | rfl | (simp; done) | (simp [*]; done)), H', ⟨Nat.le_refl _⟩, ⟨by (with_reducible repeat (first | apply Kd.R_alloc | apply Kd.R_drewN | apply Kd.R_drew)); exact HO268.out⟩, ⟨by (with_reducible repeat (first | refine blk_drewN ?_ _ | refine blk_drew ?_ | refine blk_alloc ?_ _)); exact BK265.out⟩, ⟨by repeat (first | (with_reducible first | exact HB.out | apply below_alloc | apply pw_below_drewN | apply below_drew1 | refine below_set ?_ GE265.out) | exact HB.out)⟩⟩
  case round =>
    clear H'; try clear c1; try clear p1; try clear q1; try clear hx1; try clear p2; try clear c3; try clear c4; try clear c4b0; try clear c4b1; try clear c5; try clear c5b0; try clear c5b1; try clear p6; try clear c7; try clear c7b0; try clear c8; try clear c8b0; try clear c9; try clear c9b0; try clear p10; try clear q10; try clear hx10; try clear hf10; try clear hcz12_0; try clear hcz12_1; try clear hcz15_0; try clear hcz15_1; try clear hcz19_0; try clear hcz19_1; try clear hcz22_0; try clear hcz22_1; try clear hfz12_0; try clear hfz12_1; try clear hfz15_0; try clear hfz15_1; try clear hfz19_0; try clear hfz19_1; try clear hfz22_0; try clear hfz22_1; try clear hx10_0; try clear p10; try clear q10
    obtain ⟨x6_1, x8_1, x9_1, rfl, rfl, HA, HK1, HO_6, BK265, HB⟩ := hrel
    cases gk with
    | zero => exact absurd HA.out (by simp [sequiturref25_needs.l0])
    | succ k1 =>
      have H := HA.out
      clear HA
      simp only [sequiturref25_needs.l0] at H
      have HC23 := K0 H; clear H
      go_upto_region 9 with (fail)
      go_cut [35] (fun v35 wc => ∃ (kq : Nat) (x35_22 : Bool), v35 = .bool x35_22 ∧ Aside0 (sequiturref25_needs.j1 kq l1 (l0_1.length : Int) x6_1 x8_1 x9_1 x35_22 = some r) ∧ Aside0 (kq ≤ k1) ∧ Aside0 (Kd.R Kd.bool 4 wc w.heap.size (fun _ => True) v267 x6_1) ∧ Aside0 (wc.heap[gb265]? = some (.cells #[.int .i64 a0_0, (.slice A0_1 l0_1.length c0_1)] 24 (0, 0))) ∧ Aside0 (Below w.heap.size w wc))
      case first =>
        have H := HC23.out
        clear HC23
        by_cases c24 : x9_1 < (l1.length : Int)
        case pos =>
          rw [if_pos c24] at H
          have c24b0 : decide (x9_1 < (l1.length : Int)) = true := decide_eq_true c24
          clear c24
          (first | rw [c24b0] | (simp only [i64_w, i32_w]; rw [c24b0]) | skip)
          as_aux_lemma =>
            have H' := K0 H
            clear H
            go_wp2
            go_meet
            case rel => exact ⟨_, (x8_1), (by first | rfl | (simp; done) | (simp [*]; done)), H', ⟨by have := HK1.out; first | omega | exact Nat.le_refl _⟩, ⟨by (with_reducible repeat (first | apply Kd.R_alloc | apply Kd.R_drewN | apply Kd.R_drew)); exact HO_6.out⟩, ⟨by (with_reducible repeat (first | refine blk_drewN ?_ _ | refine blk_drew ?_ | refine blk_alloc ?_ _)); exact BK265.out⟩, ⟨by repeat (first | (with_reducible first | exact HB.out | apply below_alloc | apply pw_below_drewN | apply below_drew1 | refine below_set ?_ GE265.out) | exact HB.out)⟩⟩
        rw [if_neg c24] at H
        have c24b0 : decide (x9_1 < (l1.length : Int)) = false := decide_eq_false c24
        clear c24
        (first | rw [c24b0] | (simp only [i64_w, i32_w]; rw [c24b0]) | skip)
        as_aux_lemma =>
          have H' := K0 H
          clear H
          go_wp2
          go_meet
          case rel => exact ⟨_, (false), (by first | rfl | (simp; done) | (simp [*]; done)), H', ⟨by have := HK1.out; first | omega | exact Nat.le_refl _⟩, ⟨by (with_reducible repeat (first | apply Kd.R_alloc | apply Kd.R_drewN | apply Kd.R_drew)); exact HO_6.out⟩, ⟨by (with_reducible repeat (first | refine blk_drewN ?_ _ | refine blk_drew ?_ | refine blk_alloc ?_ _)); exact BK265.out⟩, ⟨by repeat (first | (with_reducible first | exact HB.out | apply below_alloc | apply pw_below_drewN | apply below_drew1 | refine below_set ?_ GE265.out) | exact HB.out)⟩⟩
      case rest =>
        clear HC23; try clear c1; try clear p1; try clear q1; try clear hx1; try clear c2; try clear p2; try clear c3; try clear c4; try clear c4b0; try clear c4b1; try clear c5; try clear c5b0; try clear c5b1; try clear p6; try clear c7; try clear c7b0; try clear c8; try clear c8b0; try clear c9; try clear c9b0; try clear p10; try clear q10; try clear hx10; try clear hf10; try clear c24; try clear c24b0; try clear hcz12_0; try clear hcz12_1; try clear hcz15_0; try clear hcz15_1; try clear hcz19_0; try clear hcz19_1; try clear hcz22_0; try clear hcz22_1; try clear hfz12_0; try clear hfz12_1; try clear hfz15_0; try clear hfz15_1; try clear hfz19_0; try clear hfz19_1; try clear hfz22_0; try clear hfz22_1; try clear hx10_0; try clear p1; try clear p10; try clear p2; try clear p6; try clear q1; try clear q10
        obtain ⟨kq, x35_22, rfl, HA, HJ22, HO_6, BK265, HB⟩ := hcut
        cases kq with
        | zero => exact absurd HA.out (by simp [sequiturref25_needs.j1])
        | succ kj22 =>
          have H := HA.out
          clear HA
          simp only [sequiturref25_needs.j1] at H
          by_cases c25 : x35_22 = true
          case pos =>
            subst c25
            have H1 : (if 0 ≤ x9_1 then (if x9_1 < (l1.length : Int) then (if (((rd_T48 l1 x9_1).f0).length : Int) = 0 then (if 0 ≤ (wrap64 ((l0_1.length : Int) + x9_1)) then (if (wrap64 ((l0_1.length : Int) + x9_1)) < (x6_1.length : Int) then (sequiturref25_needs.l0 kj22 l1 (l0_1.length : Int) (x6_1.set ((wrap64 ((l0_1.length : Int) + x9_1)) : Int).toNat true) false (wrap64 (x9_1 + 1))) else (none)) else (none)) else (sequiturref25_needs.l0 kj22 l1 (l0_1.length : Int) x6_1 x8_1 (wrap64 (x9_1 + 1)))) else (none)) else (none)) = some r := by rw [if_pos rfl] at H; exact H
            clear H
            have H := H1
            clear H1
            by_cases c26 : 0 ≤ x9_1
            case neg =>
              rw [if_neg c26] at H
              exact absurd H (by simp)
            rw [if_pos c26] at H
            have c26b0 : decide (0 ≤ x9_1) = true := decide_eq_true c26
            clear c26
            by_cases c27 : x9_1 < (l1.length : Int)
            case neg =>
              rw [if_neg c27] at H
              exact absurd H (by simp)
            rw [if_pos c27] at H
            have c27b0 : decide (x9_1 < (l1.length : Int)) = true := decide_eq_true c27
            clear c27
            by_cases c28 : (((rd_T48 l1 x9_1).f0).length : Int) = 0
            case neg =>
              rw [if_neg c28] at H
              have c28b0 : ((((rd_T48 l1 x9_1).f0).length : Int) == 0) = false := beq_eq_false_iff_ne.mpr c28
              have c28b1 : ((((rd_T48 l1 x9_1).f0).length : Int) != 0) = true := bne_iff_ne.mpr c28
              have c28b2 : ¬ (((rd_T48 l1 x9_1).f0) = []) := fun h_ => c28 (by rw [h_]; rfl)
              as_aux_lemma =>
                have H' := K0 H
                clear H
                have p271 : 0 ≤ (x9_1 : Int) := of_decide_eq_true (by first | (with_reducible assumption) | assumption)
                have q271 : x9_1 < (l1.length : Int) := of_decide_eq_true (by first | (with_reducible assumption) | assumption)
                obtain ⟨ad271, A271_0, c271_0, A271_1, c271_1, e271, hx271_0, hx271_1, hl271_0, hi271_0, hl271_1, hi271_1⟩ := at_T48 HR1.out x9_1 p271 q271
                cases e271
                replace hx271_0 := (HB.out.cell (World.block_lt_of_cell? w _ hx271_0)).trans hx271_0
                replace hx271_1 := (HB.out.cell (World.block_lt_of_cell? w _ hx271_1)).trans hx271_1
                have HR271_0 := K0 hi271_0; have HC271_0 := K0 hl271_0; clear hi271_0 hl271_0; have HR271_1 := K0 hi271_1; have HC271_1 := K0 hl271_1; clear hi271_1 hl271_1; replace p271 := eq_true p271; replace q271 := eq_true q271
                go_wp2
                go_roundg kj22
                case measure => have := HK1.out; have := HJ22.out; omega
                case rel => exact ⟨(x6_1), (x8_1), (wrap64 (x9_1 + 1)), (by first | rfl | (simp; done) | (simp [*]; done)), (by first | rfl | (simp; done) | (simp [*]; done)), H', ⟨by have := HK1.out; have := HJ22.out; omega⟩, ⟨by (with_reducible repeat (first | apply Kd.R_alloc | apply Kd.R_drewN | apply Kd.R_drew)); exact HO_6.out⟩, ⟨by (with_reducible repeat (first | refine blk_drewN ?_ _ | refine blk_drew ?_ | refine blk_alloc ?_ _)); exact BK265.out⟩, ⟨by repeat (first | (with_reducible first | exact HB.out | apply below_alloc | apply pw_below_drewN | apply below_drew1 | refine below_set ?_ GE265.out) | exact HB.out)⟩⟩
            rw [if_pos c28] at H
            have c28b0 : ((((rd_T48 l1 x9_1).f0).length : Int) == 0) = true := beq_iff_eq.mpr c28
            have c28b1 : ((((rd_T48 l1 x9_1).f0).length : Int) != 0) = false := bne_eq_false_iff_eq.mpr c28
            clear c28
            obtain ⟨ji29, hji29⟩ : ∃ j_ : Int, (wrap64 ((l0_1.length : Int) + x9_1)) = j_ := ⟨_, rfl⟩
            replace H : (if 0 ≤ (ji29) then (if (ji29) < (x6_1.length : Int) then (sequiturref25_needs.l0 kj22 l1 (l0_1.length : Int) (x6_1.set ((ji29) : Int).toNat true) false (wrap64 (x9_1 + 1))) else (none)) else (none)) = some r := by first | (rw [hji29] at H; exact H) | (simp only [hji29] at H ⊢; exact H)
            have hji29w : (IntKind.i64.wrap ((l0_1.length : Int) + x9_1)) = ji29 := (i64_w _).trans hji29
            by_cases c30 : 0 ≤ (ji29)
            case neg =>
              rw [if_neg c30] at H
              exact absurd H (by simp)
            rw [if_pos c30] at H
            have c30b0 : decide (0 ≤ (ji29)) = true := decide_eq_true c30
            clear c30
            by_cases c31 : (ji29) < (x6_1.length : Int)
            case neg =>
              rw [if_neg c31] at H
              exact absurd H (by simp)
            rw [if_pos c31] at H
            have c31b0 : decide ((ji29) < (x6_1.length : Int)) = true := decide_eq_true c31
            clear c31
            obtain ⟨y272, hy272⟩ : ∃ y_ : List Bool, y_ = (x6_1.set ((ji29) : Int).toNat true) := ⟨_, rfl⟩
            replace H : (sequiturref25_needs.l0 kj22 l1 (l0_1.length : Int) y272 false (wrap64 (x9_1 + 1))) = some r := by first | (rw [hy272]; with_reducible exact H) | (have H2_ := (Option.bind_some _ _).symm.trans H; rw [hy272]; with_reducible exact H2_) | (have H2_ := (Option.bind_some _ _).symm.trans H; with_reducible exact H2_) | with_reducible exact H | (rw [hy272]; exact H) | exact H
            have Ny272 := K0 hy272; clear hy272
            as_aux_lemma =>
              have H' := K0 H
              clear H
              have p271 : 0 ≤ (x9_1 : Int) := of_decide_eq_true (by first | (with_reducible assumption) | assumption)
              have q271 : x9_1 < (l1.length : Int) := of_decide_eq_true (by first | (with_reducible assumption) | assumption)
              obtain ⟨ad271, A271_0, c271_0, A271_1, c271_1, e271, hx271_0, hx271_1, hl271_0, hi271_0, hl271_1, hi271_1⟩ := at_T48 HR1.out x9_1 p271 q271
              cases e271
              replace hx271_0 := (HB.out.cell (World.block_lt_of_cell? w _ hx271_0)).trans hx271_0
              replace hx271_1 := (HB.out.cell (World.block_lt_of_cell? w _ hx271_1)).trans hx271_1
              have HR271_0 := K0 hi271_0; have HC271_0 := K0 hl271_0; clear hi271_0 hl271_0; have HR271_1 := K0 hi271_1; have HC271_1 := K0 hl271_1; clear hi271_1 hl271_1; replace p271 := eq_true p271; replace q271 := eq_true q271
              have p32 : 0 ≤ ((ji29) : Int) := of_decide_eq_true (by first | (with_reducible assumption) | assumption)
              have q32 : ((ji29) : Int) < ((x6_1.length : Int) : Int) := of_decide_eq_true (by first | (with_reducible assumption) | assumption)
              obtain ⟨go32, co32, eo32, gb32, gl32, cl32, HG32⟩ := Kd.R_form HO_6.out (by omega)
              (first | cases eo32 | (injection eo32 with ea_ en_ ec_; (first | subst ea_ | (injection ea_ with ea_; subst ea_)); subst ec_; clear en_))
              have GB32 := K0 gb32; have GG32 := K0 HG32; clear gb32 gl32 HG32
              obtain ⟨hx32_0, hf32_0⟩ := Kd.R_celln false HO_6.out ((ji29) : Int) p32 q32
              replace p32 := eq_true p32; replace q32 := eq_true q32
              have HP33 := Kd.R_putg HO_6.out ((ji29) : Int) true
              go_wp2_with (first | ((with_reducible refine gate_store (t := 4) (p := 49) rfl ?_); refine store_event (t := 4) (p := 49) (v := ?vo_w34) (w1 := (wc.setCell ⟨go32, ((ji29) : Int).toNat, none⟩ (.bool true))) ?hg ?ho ?hn ?hr ?_; (case ho => rfl); (case hg => rfl); (case hn => rfl); (case hr => first | (go_simp; done) | (go_simp; rfl)); intro w34 hw; have hg : wc.grownBy w34 (some go32) := (by rw [hw]; exact HP33.2); have hp_ : Kd.R Kd.bool 4 w34 w.heap.size (fun _ => True) (.slice (some ⟨go32, 0, none⟩) x6_1.length co32) y272 := (by rw [hw, Ny272.out]; exact HP33.1); clear HP33; have n0_ := K0 (hp_); have n1_ := K0 (blk_grown (g := gb265) (o := .cells #[.int .i64 a0_0, .slice A0_1 l0_1.length c0_1] 24 (0, 0)) (by (with_reducible repeat (first | refine blk_drewN ?_ _ | refine blk_drew ?_ | refine blk_alloc ?_ _)); exact BK265.out) hg (Kd.R_ne HO_6.out BK265.out (by decide))); have n2_ := K0 ((by rw [hw]; exact below_set (HB.out) GB32.out : Below w.heap.size w w34)); clear HO_6; clear BK265; clear HB; have HO_6 := n0_; have BK265 := n1_; have HB := n2_; clear n0_ n1_ n2_; clear hg hw hp_))
              go_roundg kj22
              case measure => have := HK1.out; have := HJ22.out; omega
              case rel => exact ⟨(y272), (false), (wrap64 (x9_1 + 1)), (by first | rfl | (simp; done) | (simp [*]; done)), (by first | rfl | (simp; done) | (simp [*]; done)), H', ⟨by have := HK1.out; have := HJ22.out; omega⟩, ⟨by (with_reducible repeat (first | apply Kd.R_alloc | apply Kd.R_drewN | apply Kd.R_drew)); exact HO_6.out⟩, ⟨by (with_reducible repeat (first | refine blk_drewN ?_ _ | refine blk_drew ?_ | refine blk_alloc ?_ _)); exact BK265.out⟩, ⟨by repeat (first | (with_reducible first | exact HB.out | apply below_alloc | apply pw_below_drewN | apply below_drew1 | refine below_set ?_ GE265.out) | exact HB.out)⟩⟩
          replace c25 := Bool.eq_false_iff.mpr c25
          subst c25
          have H1 : (sequiturref25_needs.l1 kj22 l1 (l0_1.length : Int) x6_1 (wrap64 ((l1.length : Int) - 1))) = some r := by rw [if_neg (show ¬ (false = true) by decide)] at H; exact H
          clear H
          have H := H1
          clear H1
          have H' := K0 H
          clear H
          go_wp2
          go_loopg [10] kj22 (fun kq v10 w' => ∃ (x6_3 : List Bool) (x10_3 : Int), v10 = .int .i64 x10_3 ∧ Aside0 (sequiturref25_needs.l1 kq l1 (l0_1.length : Int) x6_3 x10_3 = some r) ∧ Aside0 (kq ≤ kj22) ∧ Aside0 (Kd.R Kd.bool 4 w' w.heap.size (fun _ => True) v267 x6_3) ∧ Aside0 (w'.heap[gb265]? = some (.cells #[.int .i64 a0_0, (.slice A0_1 l0_1.length c0_1)] 24 (0, 0))) ∧ Aside0 (Below w.heap.size w w'))
          case atStart => exact ⟨(x6_1), (wrap64 ((l1.length : Int) - 1)), (by first | rfl | (simp; done) | (simp [*]; done)), H', ⟨Nat.le_refl _⟩, ⟨by (with_reducible repeat (first | apply Kd.R_alloc | apply Kd.R_drewN | apply Kd.R_drew)); exact HO_6.out⟩, ⟨by (with_reducible repeat (first | refine blk_drewN ?_ _ | refine blk_drew ?_ | refine blk_alloc ?_ _)); exact BK265.out⟩, ⟨by repeat (first | (with_reducible first | exact HB.out | apply below_alloc | apply pw_below_drewN | apply below_drew1 | refine below_set ?_ GE265.out) | exact HB.out)⟩⟩
          case round =>
            clear H'; try clear c1; try clear p1; try clear q1; try clear hx1; try clear c2; try clear p2; try clear q2; try clear hx2; try clear c3; try clear p3; try clear q3; try clear hx3; try clear hf3; try clear c4; try clear c4b0; try clear c4b1; try clear c5; try clear c5b0; try clear c5b1; try clear p6; try clear c7; try clear c7b0; try clear c8; try clear c8b0; try clear c9; try clear c9b0; try clear p10; try clear q10; try clear hx10; try clear hf10; try clear c24; try clear c24b0; try clear c25; try clear c26; try clear c26b0; try clear c27; try clear c27b0; try clear p27; try clear q27; try clear hx27; try clear c28; try clear c28b0; try clear c28b1; try clear c28b2; try clear c30; try clear c30b0; try clear c31; try clear c31b0; try clear c32; try clear p32; try clear q32; try clear hx32; try clear hf32; try clear hcz12_0; try clear hcz12_1; try clear hcz15_0; try clear hcz15_1; try clear hcz19_0; try clear hcz19_1; try clear hcz22_0; try clear hcz22_1; try clear hfz12_0; try clear hfz12_1; try clear hfz15_0; try clear hfz15_1; try clear hfz19_0; try clear hfz19_1; try clear hfz22_0; try clear hfz22_1; try clear hx10_0; try clear hx271_0; try clear hx271_1; try clear hx32_0; try clear p1; try clear p10; try clear p2; try clear p271; try clear p32; try clear p6; try clear q1; try clear q10; try clear q271; try clear q32
            obtain ⟨x6_3, x10_3, rfl, HA, HK3, HO_6, BK265, HB⟩ := hrel
            cases gk with
            | zero => exact absurd HA.out (by simp [sequiturref25_needs.l1])
            | succ k3 =>
              have H := HA.out
              clear HA
              simp only [sequiturref25_needs.l1] at H
              by_cases c35 : x10_3 ≥ 0
              case neg =>
                rw [if_neg c35] at H
                have c35b0 : decide (0 ≤ x10_3) = false := decide_eq_false c35
                clear c35
                as_aux_lemma =>
                  obtain rfl := Option.some.inj H
                  go_wp2
                  go_ret
                  exact ⟨_, by first | rfl | (simp [errW_none, errW_some] <;> rfl) | (simp only [← hji3]; first | rfl | (simp [errW_none, errW_some] <;> rfl)) | (simp [*, errW_none, errW_some] <;> rfl), by (with_reducible repeat (first | apply Kd.R_alloc | apply Kd.R_drewN | apply Kd.R_drew)); exact HO_6.out, by repeat (first | (with_reducible first | exact HB.out | apply below_alloc | apply pw_below_drewN | apply below_drew1 | refine below_set ?_ GE265.out) | exact HB.out)⟩
              rw [if_pos c35] at H
              have c35b0 : decide (0 ≤ x10_3) = true := decide_eq_true c35
              clear c35
              have H' := K0 H
              clear H
              go_wp2
              go_loopg [11] k3 (fun kq v11 w' => ∃ (x6_4 : List Bool) (x11_4 : Int), v11 = .int .i64 x11_4 ∧ Aside0 (sequiturref25_needs.l2 kq l1 (l0_1.length : Int) x6_4 x10_3 x11_4 = some r) ∧ Aside0 (kq ≤ k3) ∧ Aside0 (Kd.R Kd.bool 4 w' w.heap.size (fun _ => True) v267 x6_4) ∧ Aside0 (w'.heap[gb265]? = some (.cells #[.int .i64 a0_0, (.slice A0_1 l0_1.length c0_1)] 24 (0, 0))) ∧ Aside0 (Below w.heap.size w w'))
              case atStart => exact ⟨(x6_3), (0), (by first | rfl | (simp; done) | (simp [*]; done)), H', ⟨Nat.le_refl _⟩, ⟨by (with_reducible repeat (first | apply Kd.R_alloc | apply Kd.R_drewN | apply Kd.R_drew)); exact HO_6.out⟩, ⟨by (with_reducible repeat (first | refine blk_drewN ?_ _ | refine blk_drew ?_ | refine blk_alloc ?_ _)); exact BK265.out⟩, ⟨by repeat (first | (with_reducible first | exact HB.out | apply below_alloc | apply pw_below_drewN | apply below_drew1 | refine below_set ?_ GE265.out) | exact HB.out)⟩⟩
              case round =>
                clear H'; try clear c1; try clear p1; try clear q1; try clear hx1; try clear c2; try clear p2; try clear q2; try clear hx2; try clear c3; try clear p3; try clear q3; try clear hx3; try clear hf3; try clear c4; try clear c4b0; try clear c4b1; try clear c5; try clear c5b0; try clear c5b1; try clear p6; try clear c7; try clear c7b0; try clear c8; try clear c8b0; try clear c9; try clear c9b0; try clear p10; try clear q10; try clear hx10; try clear hf10; try clear c24; try clear c24b0; try clear c25; try clear c26; try clear c26b0; try clear c27; try clear c27b0; try clear p27; try clear q27; try clear hx27; try clear c28; try clear c28b0; try clear c28b1; try clear c28b2; try clear c30; try clear c30b0; try clear c31; try clear c31b0; try clear c32; try clear p32; try clear q32; try clear hx32; try clear hf32; try clear c35; try clear c35b0; try clear hcz12_0; try clear hcz12_1; try clear hcz15_0; try clear hcz15_1; try clear hcz19_0; try clear hcz19_1; try clear hcz22_0; try clear hcz22_1; try clear hfz12_0; try clear hfz12_1; try clear hfz15_0; try clear hfz15_1; try clear hfz19_0; try clear hfz19_1; try clear hfz22_0; try clear hfz22_1; try clear hx10_0; try clear hx271_0; try clear hx271_1; try clear hx32_0; try clear p1; try clear p10; try clear p2; try clear p27; try clear p271; try clear p3; try clear p32; try clear p6; try clear q1; try clear q10; try clear q2; try clear q27; try clear q271; try clear q3; try clear q32
                obtain ⟨x6_4, x11_4, rfl, HA, HK4, HO_6, BK265, HB⟩ := hrel
                cases gk with
                | zero => exact absurd HA.out (by simp [sequiturref25_needs.l2])
                | succ k4 =>
                  have H := HA.out
                  clear HA
                  simp only [sequiturref25_needs.l2] at H
                  by_cases c36 : 0 ≤ x10_3
                  case neg =>
                    rw [if_neg c36] at H
                    exact absurd H (by simp)
                  rw [if_pos c36] at H
                  have c36b0 : decide (0 ≤ x10_3) = true := decide_eq_true c36
                  clear c36
                  by_cases c37 : x10_3 < (l1.length : Int)
                  case neg =>
                    rw [if_neg c37] at H
                    exact absurd H (by simp)
                  rw [if_pos c37] at H
                  have c37b0 : decide (x10_3 < (l1.length : Int)) = true := decide_eq_true c37
                  clear c37
                  by_cases c38 : x11_4 < (((rd_T48 l1 x10_3).f1).length : Int)
                  case neg =>
                    rw [if_neg c38] at H
                    have c38b0 : decide (x11_4 < (((rd_T48 l1 x10_3).f1).length : Int)) = false := decide_eq_false c38
                    clear c38
                    as_aux_lemma =>
                      have H' := K0 H
                      clear H
                      have p273 : 0 ≤ (x10_3 : Int) := of_decide_eq_true (by first | (with_reducible assumption) | assumption)
                      have q273 : x10_3 < (l1.length : Int) := of_decide_eq_true (by first | (with_reducible assumption) | assumption)
                      obtain ⟨ad273, A273_0, c273_0, A273_1, c273_1, e273, hx273_0, hx273_1, hl273_0, hi273_0, hl273_1, hi273_1⟩ := at_T48 HR1.out x10_3 p273 q273
                      cases e273
                      replace hx273_0 := (HB.out.cell (World.block_lt_of_cell? w _ hx273_0)).trans hx273_0
                      replace hx273_1 := (HB.out.cell (World.block_lt_of_cell? w _ hx273_1)).trans hx273_1
                      have HR273_0 := K0 hi273_0; have HC273_0 := K0 hl273_0; clear hi273_0 hl273_0; have HR273_1 := K0 hi273_1; have HC273_1 := K0 hl273_1; clear hi273_1 hl273_1; replace p273 := eq_true p273; replace q273 := eq_true q273
                      go_wp2
                      go_roundg k4
                      case measure => have := HK1.out; have := HJ22.out; have := HK3.out; have := HK4.out; omega
                      case rel => exact ⟨(x6_4), (wrap64 (x10_3 - 1)), (by first | rfl | (simp; done) | (simp [*]; done)), H', ⟨by have := HK1.out; have := HJ22.out; have := HK3.out; have := HK4.out; omega⟩, ⟨by (with_reducible repeat (first | apply Kd.R_alloc | apply Kd.R_drewN | apply Kd.R_drew)); exact HO_6.out⟩, ⟨by (with_reducible repeat (first | refine blk_drewN ?_ _ | refine blk_drew ?_ | refine blk_alloc ?_ _)); exact BK265.out⟩, ⟨by repeat (first | (with_reducible first | exact HB.out | apply below_alloc | apply pw_below_drewN | apply below_drew1 | refine below_set ?_ GE265.out) | exact HB.out)⟩⟩
                  rw [if_pos c38] at H
                  have c38b0 : decide (x11_4 < (((rd_T48 l1 x10_3).f1).length : Int)) = true := decide_eq_true c38
                  clear c38
                  obtain ⟨ji39, hji39⟩ : ∃ j_ : Int, (wrap64 ((l0_1.length : Int) + x10_3)) = j_ := ⟨_, rfl⟩
                  replace H : (if 0 ≤ (ji39) then (if (ji39) < (x6_4.length : Int) then (if rdOf false x6_4 (ji39) = true then (if 0 ≤ x11_4 then (if 0 ≤ (rd ((rd_T48 l1 x10_3).f1) x11_4) then (if (rd ((rd_T48 l1 x10_3).f1) x11_4) < (x6_4.length : Int) then (sequiturref25_needs.l2 k4 l1 (l0_1.length : Int) (x6_4.set ((rd ((rd_T48 l1 x10_3).f1) x11_4) : Int).toNat true) x10_3 (wrap64 (x11_4 + 1))) else (none)) else (none)) else (none)) else (sequiturref25_needs.l1 k4 l1 (l0_1.length : Int) x6_4 (wrap64 (x10_3 - 1)))) else (none)) else (none)) = some r := by first | (rw [hji39] at H; exact H) | (simp only [hji39] at H ⊢; exact H)
                  have hji39w : (IntKind.i64.wrap ((l0_1.length : Int) + x10_3)) = ji39 := (i64_w _).trans hji39
                  by_cases c40 : 0 ≤ (ji39)
                  case neg =>
                    rw [if_neg c40] at H
                    exact absurd H (by simp)
                  rw [if_pos c40] at H
                  have c40b0 : decide (0 ≤ (ji39)) = true := decide_eq_true c40
                  clear c40
                  by_cases c41 : (ji39) < (x6_4.length : Int)
                  case neg =>
                    rw [if_neg c41] at H
                    exact absurd H (by simp)
                  rw [if_pos c41] at H
                  have c41b0 : decide ((ji39) < (x6_4.length : Int)) = true := decide_eq_true c41
                  clear c41
                  obtain ⟨bq42, hbq42⟩ : ∃ b_ : Bool, b_ = (rdOf false x6_4 (ji39)) := ⟨_, rfl⟩
                  replace H : (if bq42 = true then (if 0 ≤ x11_4 then (if 0 ≤ (rd ((rd_T48 l1 x10_3).f1) x11_4) then (if (rd ((rd_T48 l1 x10_3).f1) x11_4) < (x6_4.length : Int) then (sequiturref25_needs.l2 k4 l1 (l0_1.length : Int) (x6_4.set ((rd ((rd_T48 l1 x10_3).f1) x11_4) : Int).toNat true) x10_3 (wrap64 (x11_4 + 1))) else (none)) else (none)) else (none)) else (sequiturref25_needs.l1 k4 l1 (l0_1.length : Int) x6_4 (wrap64 (x10_3 - 1)))) = some r := by rw [← hbq42] at H; exact H
                  have Nbq42 := K0 hbq42; clear hbq42
                  by_cases c43 : bq42 = true
                  case neg =>
                    replace c43 := Bool.eq_false_iff.mpr c43
                    subst c43
                    have H1 : (sequiturref25_needs.l1 k4 l1 (l0_1.length : Int) x6_4 (wrap64 (x10_3 - 1))) = some r := by rw [if_neg (show ¬ (false = true) by decide)] at H; exact H
                    clear H
                    have H := H1
                    clear H1
                    as_aux_lemma =>
                      have H' := K0 H
                      clear H
                      have p273 : 0 ≤ (x10_3 : Int) := of_decide_eq_true (by first | (with_reducible assumption) | assumption)
                      have q273 : x10_3 < (l1.length : Int) := of_decide_eq_true (by first | (with_reducible assumption) | assumption)
                      obtain ⟨ad273, A273_0, c273_0, A273_1, c273_1, e273, hx273_0, hx273_1, hl273_0, hi273_0, hl273_1, hi273_1⟩ := at_T48 HR1.out x10_3 p273 q273
                      cases e273
                      replace hx273_0 := (HB.out.cell (World.block_lt_of_cell? w _ hx273_0)).trans hx273_0
                      replace hx273_1 := (HB.out.cell (World.block_lt_of_cell? w _ hx273_1)).trans hx273_1
                      have HR273_0 := K0 hi273_0; have HC273_0 := K0 hl273_0; clear hi273_0 hl273_0; have HR273_1 := K0 hi273_1; have HC273_1 := K0 hl273_1; clear hi273_1 hl273_1; replace p273 := eq_true p273; replace q273 := eq_true q273
                      obtain ⟨Ao51, co51, eo51⟩ := Kd.R_slice HO_6.out
                      subst eo51
                      have p274 : 0 ≤ ((ji39) : Int) := of_decide_eq_true (by first | (with_reducible assumption) | assumption)
                      have q274 : (ji39) < (x6_4.length : Int) := of_decide_eq_true (by first | (with_reducible assumption) | assumption)
                      obtain ⟨ad274, e274, hx274_0⟩ := Kd.at_bool (Kd.R_reads' HO_6.out).2.2 (ji39) p274 q274
                      (try rw [← Nbq42.out] at hx274_0)
                      cases e274; replace p274 := eq_true p274; replace q274 := eq_true q274
                      go_wp2
                      go_roundg k4
                      case measure => have := HK1.out; have := HJ22.out; have := HK3.out; have := HK4.out; omega
                      case rel => exact ⟨(x6_4), (wrap64 (x10_3 - 1)), (by first | rfl | (simp; done) | (simp [*]; done)), H', ⟨by have := HK1.out; have := HJ22.out; have := HK3.out; have := HK4.out; omega⟩, ⟨by (with_reducible repeat (first | apply Kd.R_alloc | apply Kd.R_drewN | apply Kd.R_drew)); exact HO_6.out⟩, ⟨by (with_reducible repeat (first | refine blk_drewN ?_ _ | refine blk_drew ?_ | refine blk_alloc ?_ _)); exact BK265.out⟩, ⟨by repeat (first | (with_reducible first | exact HB.out | apply below_alloc | apply pw_below_drewN | apply below_drew1 | refine below_set ?_ GE265.out) | exact HB.out)⟩⟩
                  subst c43
                  have H1 : (if 0 ≤ x11_4 then (if 0 ≤ (rd ((rd_T48 l1 x10_3).f1) x11_4) then (if (rd ((rd_T48 l1 x10_3).f1) x11_4) < (x6_4.length : Int) then (sequiturref25_needs.l2 k4 l1 (l0_1.length : Int) (x6_4.set ((rd ((rd_T48 l1 x10_3).f1) x11_4) : Int).toNat true) x10_3 (wrap64 (x11_4 + 1))) else (none)) else (none)) else (none)) = some r := by rw [if_pos rfl] at H; exact H
                  clear H
                  have H := H1
                  clear H1
                  by_cases c44 : 0 ≤ x11_4
                  case neg =>
                    rw [if_neg c44] at H
                    exact absurd H (by simp)
                  rw [if_pos c44] at H
                  have c44b0 : decide (0 ≤ x11_4) = true := decide_eq_true c44
                  clear c44
                  by_cases c45 : 0 ≤ (rd ((rd_T48 l1 x10_3).f1) x11_4)
                  case neg =>
                    rw [if_neg c45] at H
                    exact absurd H (by simp)
                  rw [if_pos c45] at H
                  have c45b0 : decide (0 ≤ (rd ((rd_T48 l1 x10_3).f1) x11_4)) = true := decide_eq_true c45
                  clear c45
                  by_cases c46 : (rd ((rd_T48 l1 x10_3).f1) x11_4) < (x6_4.length : Int)
                  case neg =>
                    rw [if_neg c46] at H
                    exact absurd H (by simp)
                  rw [if_pos c46] at H
                  have c46b0 : decide ((rd ((rd_T48 l1 x10_3).f1) x11_4) < (x6_4.length : Int)) = true := decide_eq_true c46
                  clear c46
                  obtain ⟨y277, hy277⟩ : ∃ y_ : List Bool, y_ = (x6_4.set ((rd ((rd_T48 l1 x10_3).f1) x11_4) : Int).toNat true) := ⟨_, rfl⟩
                  replace H : (sequiturref25_needs.l2 k4 l1 (l0_1.length : Int) y277 x10_3 (wrap64 (x11_4 + 1))) = some r := by first | (rw [hy277]; with_reducible exact H) | (have H2_ := (Option.bind_some _ _).symm.trans H; rw [hy277]; with_reducible exact H2_) | (have H2_ := (Option.bind_some _ _).symm.trans H; with_reducible exact H2_) | with_reducible exact H | (rw [hy277]; exact H) | exact H
                  have Ny277 := K0 hy277; clear hy277
                  as_aux_lemma =>
                    have H' := K0 H
                    clear H
                    have p273 : 0 ≤ (x10_3 : Int) := of_decide_eq_true (by first | (with_reducible assumption) | assumption)
                    have q273 : x10_3 < (l1.length : Int) := of_decide_eq_true (by first | (with_reducible assumption) | assumption)
                    obtain ⟨ad273, A273_0, c273_0, A273_1, c273_1, e273, hx273_0, hx273_1, hl273_0, hi273_0, hl273_1, hi273_1⟩ := at_T48 HR1.out x10_3 p273 q273
                    cases e273
                    replace hx273_0 := (HB.out.cell (World.block_lt_of_cell? w _ hx273_0)).trans hx273_0
                    replace hx273_1 := (HB.out.cell (World.block_lt_of_cell? w _ hx273_1)).trans hx273_1
                    have HR273_0 := K0 hi273_0; have HC273_0 := K0 hl273_0; clear hi273_0 hl273_0; have HR273_1 := K0 hi273_1; have HC273_1 := K0 hl273_1; clear hi273_1 hl273_1; replace p273 := eq_true p273; replace q273 := eq_true q273
                    obtain ⟨Ao48, co48, eo48⟩ := Kd.R_slice HO_6.out
                    subst eo48
                    have p274 : 0 ≤ ((ji39) : Int) := of_decide_eq_true (by first | (with_reducible assumption) | assumption)
                    have q274 : (ji39) < (x6_4.length : Int) := of_decide_eq_true (by first | (with_reducible assumption) | assumption)
                    obtain ⟨ad274, e274, hx274_0⟩ := Kd.at_bool (Kd.R_reads' HO_6.out).2.2 (ji39) p274 q274
                    (try rw [← Nbq42.out] at hx274_0)
                    cases e274; replace p274 := eq_true p274; replace q274 := eq_true q274
                    have p275 : 0 ≤ (x10_3 : Int) := of_decide_eq_true (by first | (with_reducible assumption) | assumption)
                    have q275 : x10_3 < (l1.length : Int) := of_decide_eq_true (by first | (with_reducible assumption) | assumption)
                    obtain ⟨ad275, A275_0, c275_0, A275_1, c275_1, e275, hx275_0, hx275_1, hl275_0, hi275_0, hl275_1, hi275_1⟩ := at_T48 HR1.out x10_3 p275 q275
                    obtain rfl : ad273 = ad275 := (by injection e275)
                    replace hx275_0 := (HB.out.cell (World.block_lt_of_cell? w _ hx275_0)).trans hx275_0
                    replace hx275_1 := (HB.out.cell (World.block_lt_of_cell? w _ hx275_1)).trans hx275_1
                    have HR275_0 := K0 hi275_0; have HC275_0 := K0 hl275_0; clear hi275_0 hl275_0; have HR275_1 := K0 hi275_1; have HC275_1 := K0 hl275_1; clear hi275_1 hl275_1; replace p275 := eq_true p275; replace q275 := eq_true q275
                    have ea_ := Option.some.inj (hx273_0.symm.trans hx275_0)
                    injection ea_ with ea_ en_ ec_
                    subst ea_; subst ec_; clear en_
                    have ea_ := Option.some.inj (hx273_1.symm.trans hx275_1)
                    injection ea_ with ea_ en_ ec_
                    subst ea_; subst ec_; clear en_
                    have p276 : 0 ≤ (x11_4 : Int) := of_decide_eq_true (by first | (with_reducible assumption) | assumption)
                    have q276 : x11_4 < (((rd_T48 l1 x10_3).f1).length : Int) := of_decide_eq_true (by first | (with_reducible assumption) | assumption)
                    obtain ⟨ad276, e276, hx276_0⟩ := Kd.at_int HR275_1.out x11_4 p276 q276
                    cases e276
                    replace hx276_0 := (HB.out.cell (World.block_lt_of_cell? w _ hx276_0)).trans hx276_0
                    replace p276 := eq_true p276; replace q276 := eq_true q276
                    have p47 : 0 ≤ ((rd ((rd_T48 l1 x10_3).f1) x11_4) : Int) := of_decide_eq_true (by first | (with_reducible assumption) | assumption)
                    have q47 : ((rd ((rd_T48 l1 x10_3).f1) x11_4) : Int) < ((x6_4.length : Int) : Int) := of_decide_eq_true (by first | (with_reducible assumption) | assumption)
                    obtain ⟨go47, co47, eo47, gb47, gl47, cl47, HG47⟩ := Kd.R_form HO_6.out (by omega)
                    (first | cases eo47 | (injection eo47 with ea_ en_ ec_; (first | subst ea_ | (injection ea_ with ea_; subst ea_)); subst ec_; clear en_))
                    have GB47 := K0 gb47; have GG47 := K0 HG47; clear gb47 gl47 HG47
                    (first | simp only [add_plain] at hx274_0 | skip)
                    obtain ⟨hx47_0, hf47_0⟩ := Kd.R_celln false HO_6.out ((rd ((rd_T48 l1 x10_3).f1) x11_4) : Int) p47 q47
                    replace p47 := eq_true p47; replace q47 := eq_true q47
                    have HP49 := Kd.R_putg HO_6.out ((rd ((rd_T48 l1 x10_3).f1) x11_4) : Int) true
                    go_wp2_with (first | ((with_reducible refine gate_store (t := 4) (p := 84) rfl ?_); refine store_event (t := 4) (p := 84) (v := ?vo_w50) (w1 := (wr.setCell ⟨go47, ((rd ((rd_T48 l1 x10_3).f1) x11_4) : Int).toNat, none⟩ (.bool true))) ?hg ?ho ?hn ?hr ?_; (case ho => rfl); (case hg => rfl); (case hn => rfl); (case hr => first | (go_simp; done) | (go_simp; rfl)); intro w50 hw; have hg : wr.grownBy w50 (some go47) := (by rw [hw]; exact HP49.2); have hp_ : Kd.R Kd.bool 4 w50 w.heap.size (fun _ => True) (.slice (some ⟨go47, 0, none⟩) x6_4.length co48) y277 := (by rw [hw, Ny277.out]; exact HP49.1); clear HP49; have n0_ := K0 (hp_); have n1_ := K0 (blk_grown (g := gb265) (o := .cells #[.int .i64 a0_0, .slice A0_1 l0_1.length c0_1] 24 (0, 0)) (by (with_reducible repeat (first | refine blk_drewN ?_ _ | refine blk_drew ?_ | refine blk_alloc ?_ _)); exact BK265.out) hg (Kd.R_ne HO_6.out BK265.out (by decide))); have n2_ := K0 ((by rw [hw]; exact below_set (HB.out) GB47.out : Below w.heap.size w w50)); clear HO_6; clear BK265; clear HB; have HO_6 := n0_; have BK265 := n1_; have HB := n2_; clear n0_ n1_ n2_; clear hg hw hp_))
                    go_roundg k4
                    case measure => have := HK1.out; have := HJ22.out; have := HK3.out; have := HK4.out; omega
                    case rel => exact ⟨(y277), (wrap64 (x11_4 + 1)), (by first | rfl | (simp; done) | (simp [*]; done)), H', ⟨by have := HK1.out; have := HJ22.out; have := HK3.out; have := HK4.out; omega⟩, ⟨by (with_reducible repeat (first | apply Kd.R_alloc | apply Kd.R_drewN | apply Kd.R_drew)); exact HO_6.out⟩, ⟨by (with_reducible repeat (first | refine blk_drewN ?_ _ | refine blk_drew ?_ | refine blk_alloc ?_ _)); exact BK265.out⟩, ⟨by repeat (first | (with_reducible first | exact HB.out | apply below_alloc | apply pw_below_drewN | apply below_drew1 | refine below_set ?_ GE265.out) | exact HB.out)⟩⟩
def toldP (tl : List Int) (mk : Nat → Bool) : List S48 → Nat → List S48
  | [], _ => []
  | x :: t, i => if mk i then ⟨x.f0, x.f1.map fun y => rd tl y⟩ :: toldP tl mk t (i + 1) else toldP tl mk t (i + 1)
def fitT (n : Int) (ch : List S48) (marks : List Bool) (tl : List Int) : Prop := 0 ≤ n ∧ n + ch.length ≤ marks.length ∧ marks.length < 549755813888 ∧ ∀ x ∈ ch, x.f1.length < 549755813888 ∧ ∀ y ∈ x.f1, 0 ≤ y ∧ y < (tl.length : Int)
instance {n : Int} {ch : List S48} {marks : List Bool} {tl : List Int} : Decidable (fitT n ch marks tl) := by unfold fitT; infer_instance
def markT (n : Int) (marks : List Bool) (i : Nat) : Bool := rdOf false marks (n + i)
def sequiturref25_told.f (a0 : Int) (l1 : List S48) (l2 : List Bool) (l3 : List Int) : Option (List S48) := if fitT a0 l1 l2 l3 then some (toldP l3 (markT a0 l2) l1 0) else none
theorem toldP_snoc (tl : List Int) (mk : Nat → Bool) (x : S48) : ∀ (l : List S48) (i : Nat), toldP tl mk (l ++ [x]) i = toldP tl mk l i ++ (if mk (i + l.length) then [⟨x.f0, x.f1.map fun y => rd tl y⟩] else [])
  | [], i => by simp only [List.nil_append, toldP, List.length_nil, Nat.add_zero]
  | y :: l, i => by
    have ih := toldP_snoc tl mk x l (i + 1)
    rw [show i + 1 + l.length = i + (y :: l).length by rw [List.length_cons]; omega] at ih
    rw [List.cons_append, toldP, toldP, ih]
    split <;> rfl
theorem toldP_len (tl : List Int) (mk : Nat → Bool) : ∀ (l : List S48) (i : Nat), (toldP tl mk l i).length ≤ l.length
  | [], i => Nat.le_refl _
  | y :: l, i => by
    have ih := toldP_len tl mk l (i + 1)
    rw [toldP]
    split
    · rw [List.length_cons, List.length_cons]; omega
    rw [List.length_cons]; omega
set_option maxRecDepth 100000 in
set_option maxHeartbeats 4000000 in
theorem sequiturref25_told.calls (a0 : Int) (P1_ : Nat → Prop) (A1 : Option Addr) (c1 : Nat) (l1 : List S48) (A2 : Option Addr) (c2 : Nat) (l2 : List Bool) (A3 : Option Addr) (c3 : Nat) (l3 : List Int) (r : List S48) (w : World)
    (hs1 : Kd.V k48 48 w w.heap.size (fun k_ => P1_ k_) (.slice A1 l1.length c1) l1) (hr2 : Kd.C Kd.bool w A2 l2.length l2) (hc2 : l2.length ≤ c2) (hr3 : Kd.C (Kd.int .i64) w A3 l3.length l3) (hc3 : l3.length ≤ c3) (h : sequiturref25_told.f a0 l1 l2 l3 = some r) :
    Calls Try.prog 33 #[.int .i64 a0, .slice A1 l1.length c1, .slice A2 l2.length c2, .slice A3 l3.length c3] w fun e w' => ∃ v0_ : Value, e = .returned v0_ ∧ Kd.N k48 48 w' w.heap.size (fun k_ => (P1_ k_ ∨ w.heap.size ≤ k_)) v0_ r ∧ Below w.heap.size w w' := by
  unfold sequiturref25_told.f at h
  split at h
  case isFalse => cases h
  rename_i hfit
  simp only [Option.some.injEq] at h
  obtain ⟨n, rfl⟩ : ∃ n : Nat, a0 = (n : Int) := ⟨a0.toNat, by have := hfit.1; omega⟩
  have HF := K0 hfit
  have HS := K0 (Kd.V_bound hs1)
  have HL := K0 (Kd.V_reads' hs1).2.2
  have HMK := K0 hr2; have HTO := K0 hr3; have HR := K0 h
  have hbig := (Kd.V_reads' hs1).2.2.2.1
  have hbig2 := hr2.2.1
  have hbig3 := hr3.2.1
  have hnl : n + l1.length ≤ l2.length := by have := hfit.2.1; omega
  have hml : l2.length < 549755813888 := hfit.2.2.1
  clear hfit hs1 hr2 hr3 h
  go_enter Try.func33, Try.ntmps33
  go_wp2
  go_loopg [9, 10, 11, 12] l1.length (fun gg v9 v10 v11 v12 wr => ∃ (j : Nat), v10 = .int .i64 (j : Int) ∧ Aside0 (j + gg = l1.length) ∧ Aside0 (Below w.heap.size w wr) ∧ Aside0 (Kd.N k48 48 wr w.heap.size (fun k => (P1_ k ∧ k < w.heap.size) ∨ w.heap.size ≤ k) v9 (toldP l3 (markT n l2) (l1.take j) 0)))
  case atStart => exact ⟨0, rfl, ⟨by simp⟩, ⟨Below.refl _ _⟩, ⟨Kd.N_nil _ _ _ _ _⟩⟩
  case round =>
    obtain ⟨j, rfl, hg, HB, HO⟩ := hrel
    by_cases hlt : j < l1.length
    case neg =>
      have hd2 : decide ((j : Int) < (l1.length : Int)) = false := decide_eq_false (by omega)
      have Q2 : (j < l1.length) = False := eq_false hlt
      have ho := HO.out
      rw [List.take_of_length_le (by have := hg.out; omega), HR.out] at ho
      have HO9 := K0 ho; clear ho HO
      go_wp2
      go_ret
      exact ⟨_, rfl, Kd.N_mono HO9.out (fun k hk => hk.imp (fun h => h.1) id), HB.out⟩
    obtain ⟨ad, B0, k0, B1, k1, e1, x1, x3, hl0, hC0, hl1, hC1⟩ := at_T48 HL.out (j : Int) (by omega) (by omega)
    cases e1
    obtain ⟨p, hp⟩ : ∃ p, n + j = p := ⟨_, rfl⟩
    obtain ⟨ad4, e4, x4⟩ := Kd.at_bool (Kd.C_below HMK.out HB.out) (p : Int) (by omega) (by omega)
    cases e4
    obtain ⟨m, hm⟩ : ∃ m, rdOf false l2 (p : Int) = m := ⟨_, rfl⟩
    rw [hm] at x4
    have HMT := K0 (show markT n l2 j = m by unfold markT; rw [show ((n : Int) + (j : Int)) = (p : Int) by omega]; exact hm)
    have HTK := K0 (show l1.take (j + 1) = l1.take j ++ [l1[j]] by rw [List.take_add_one, List.getElem?_eq_getElem hlt]; rfl)
    have HTL := K0 (show (l1.take j).length = j by rw [List.length_take]; omega)
    simp only [Int.toNat_natCast] at x1 x3 x4
    have HW := K0 (show wrap64 ((n : Int) + (j : Int)) = (p : Int) by unfold wrap64; omega)
    have Q0 : ((0 : Int) ≤ (j : Int)) = True := eq_true (by omega)
    have Q1 : ((j : Int) < (l1.length : Int)) = True := eq_true (by omega)
    have Q2 : (j < l1.length) = True := eq_true hlt
    have U0 : ((0 : Int) ≤ (p : Int)) = True := eq_true (by omega)
    have U1 : ((p : Int) < (l2.length : Int)) = True := eq_true (by omega)
    have U2 : (p < l2.length) = True := eq_true (by omega)
    have hd2 : decide ((j : Int) < (l1.length : Int)) = true := decide_eq_true (by omega)
    have HP := K0 hp
    rw [← hp] at x4
    clear hm hp
    cases m with
    | false =>
      clear x1 x3 hl0 hC0 hl1 hC1
      go_wp2
      go_roundg (l1.length - (j + 1))
      case measure => have := hg.out; omega
      case rel => exact ⟨j + 1, by simp, ⟨by have := hg.out; omega⟩, HB, ⟨by
        rw [HTK.out, toldP_snoc, HTL.out, Nat.zero_add, HMT.out, if_neg Bool.false_ne_true, List.append_nil]
        exact HO.out⟩⟩
    | true =>
      obtain ⟨z, hz⟩ : ∃ z, l1[j] = z := ⟨_, rfl⟩
      have hrd2 : rd_T48 l1 (j : Int) = z := by rw [← hz]; simp [rd_T48, hlt]
      rw [hrd2] at x1 x3 hl0 hC0 hl1 hC1
      obtain ⟨cs, hcl, hFK, hcc⟩ := Kd.V_get HS.out z48 (j : Int) (by omega) (by omega)
      rw [show l1.getD (j : Int).toNat z48 = z from hrd2] at hFK
      obtain ⟨A0', c0', A1', c1', rfl, _, hF0, _, _⟩ := k48_openF hFK
      have hcc0 := hcc 0 _ rfl
      have hsl := Option.some.inj (x1.symm.trans (show w.cell? (ad.add (j * 2)) = some (.slice A0' z.f0.length c0') from hcc0))
      have hsB : B0 = A0' := by injection hsl
      rw [← hsB] at hF0
      have HF0 := K0 hF0; have HL0 := K0 hl0; have HC1 := K0 hC1
      have HZ := K0 (show l1.take (j + 1) = l1.take j ++ [z] by rw [HTK.out, hz])
      have HZC := K0 (HF.out.2.2.2 z (by rw [← hz]; exact List.getElem_mem hlt))
      have HX3 := K0 x3
      replace x1 := pw_cell_below HB.out x1
      replace x3 := pw_cell_below HB.out x3
      clear hrd2 hz hFK hcc hcc0 hF0 hl0 hC0 hl1 hC1 hcl hsl hsB HTK
      go_upto_region 7 with fail
      clear x1 x3 x4
      obtain ⟨W4, hW4⟩ : ∃ W4, wr.alloc (.cells #[.slice B0 z.f0.length k0, .slice none 0 0] 48) = W4 := ⟨_, rfl⟩
      have hb4 : Below wr.heap.size wr W4 := by rw [← hW4]; exact below_alloc (Below.refl _ _) _
      have n4 := blk_new wr (.cells #[.slice B0 z.f0.length k0, .slice none 0 0] 48)
      rw [hW4] at n4 ⊢
      obtain ⟨gX, hgX⟩ : ∃ g, wr.heap.size = g := ⟨_, rfl⟩
      have HO4 := K0 (show Kd.N k48 48 W4 w.heap.size (fun k => ((P1_ k ∧ k < w.heap.size) ∨ w.heap.size ≤ k) ∧ k < gX) u9 (toldP l3 (markT n l2) (l1.take j) 0) from Kd.N_below (Kd.N_mono (Kd.N_bound HO.out) (fun k hk => ⟨hk.1, by rw [← hgX]; exact hk.2⟩)) hb4)
      have HGX := K0 (show w.heap.size ≤ gX by rw [← hgX]; exact HB.out.size)
      rw [hgX] at n4 ⊢
      have HN4 := K0 n4
      have HB4 := K0 (below_step HB.out hb4)
      clear hW4 hb4 n4 hgX HO HB
      go_wp2
      go_loopg [12] z.f1.length (fun gg v12 wi => ∃ (i : Nat) (vB : Value), v12 = .int .i64 (i : Int) ∧ Aside0 (i + gg = z.f1.length) ∧ Aside0 (Below w.heap.size w wi) ∧ Aside0 (wi.heap[gX]? = some (.cells #[.slice B0 z.f0.length k0, vB] 48 (0, 0))) ∧ Aside0 (Kd.N k48 48 wi w.heap.size (fun k => ((P1_ k ∧ k < w.heap.size) ∨ w.heap.size ≤ k) ∧ k < gX) u9 (toldP l3 (markT n l2) (l1.take j) 0)) ∧ Aside0 (Kd.R (Kd.int .i64) 3 wi w.heap.size (fun k => gX < k) vB ((z.f1.take i).map (fun y => rd l3 y))))
      case atStart => exact ⟨0, _, rfl, ⟨by simp⟩, HB4, HN4, HO4, ⟨Kd.R_nil _ _ _ _ _⟩⟩
      case round =>
        clear HB4 HN4 HO4
        obtain ⟨i, vB, rfl, hgi, HBi, HNi, HOi, HV⟩ := hrel
        have hf1 : z.f1.length < 549755813888 := HZC.out.1
        have x3 := pw_cell_below HBi.out HX3.out
        by_cases hlt2 : i < z.f1.length
        case neg =>
          have hd3 : decide ((i : Int) < (z.f1.length : Int)) = false := decide_eq_false (by omega)
          have S2 : (i < z.f1.length) = False := eq_false hlt2
          have hv := HV.out
          rw [List.take_of_length_le (by omega)] at hv
          obtain ⟨A6, k6, e6⟩ := Kd.R_slice hv
          subst e6
          have HFK := K0 (k48_mkF wr (fun k => (P1_ k ∧ k < w.heap.size) ∨ gX < k) ⟨z.f0, z.f1.map (fun y => rd l3 y)⟩ HL0.out (Kd.F_mono (Kd.F_below HF0.out HBi.out) (fun k hk => .inl hk)) (Kd.R_reads' hv).2.1 (Kd.F_mono (Kd.R_F hv) (fun k hk => .inr hk)))
          have hml2 : (z.f1.map (fun y => rd l3 y)).length = z.f1.length := List.length_map _
          have c6 : wr.cell? ⟨gX, 0, none⟩ = some (.slice B0 z.f0.length k0) := (blk_cell HNi.out 0).trans rfl
          have c7 : wr.cell? ⟨gX, 1, none⟩ = some (.slice A6 (z.f1.map (fun y => rd l3 y)).length k6) := (blk_cell HNi.out 1).trans rfl
          have hu48 := Try.underlying48
          have HLN := K0 (show ((toldP l3 (markT n l2) (l1.take j) 0).length + 1) * 48 ≤ 140737488355328 by have := toldP_len l3 (markT n l2) (l1.take j) 0; have := HTL.out; omega)
          rw [hml2] at c7 HFK
          clear hv HV hml2
          go_wp2_with ((with_reducible refine gate_builtin (b := .append) (xs := #[.tmp 58, .tmp 60]) rfl ?_); at_builtin; refine Kd.N_append k48 (w0 := w) (W := wr) w.heap.size rfl (.tmp 58) (.tmp 60) 25 48 (.agg #[.slice none 0 0, .slice none 0 0]) 48 rfl Try.underlying25 (by kernel_rfl) rfl (by decide) (by decide) u9 (toldP l3 (markT n l2) (l1.take j) 0) ⟨z.f0, z.f1.map (fun y => rd l3 y)⟩ [.slice B0 z.f0.length k0, .slice A6 z.f1.length k6] (fun k => (P1_ k ∧ k < w.heap.size) ∨ w.heap.size ≤ k) (fun k => (P1_ k ∧ k < w.heap.size) ∨ gX < k) rfl rfl HFK.out (fun k hk => ⟨hk.imp id (fun h => by have := HGX.out; omega), fun e => by have h1 := (HOi.out.1 k e.symm).2; have h2 := Kd.N_base HOi.out k e.symm; rcases hk with hk | hk <;> omega⟩) (fun k hk => .inr (Nat.le_trans HBi.out.size hk)) (Kd.N_mono HOi.out (fun k hk => hk.1)) HBi.out HBi.out.size HLN.out ?_; intro v5 w5 r5 hb5 hg5 hat5; have HR5 := K0 r5; have HB5 := K0 hb5; clear r5 hb5 hg5 hat5)
          clear c6 c7 x3
          go_wp2
          go_roundg (l1.length - (j + 1))
          case measure => have := hg.out; omega
          case rel => exact ⟨j + 1, by simp, ⟨by have := hg.out; omega⟩, HB5, ⟨by
            rw [HZ.out, toldP_snoc, HTL.out, Nat.zero_add, HMT.out, if_pos rfl]
            exact HR5.out⟩⟩
        obtain ⟨ad3, e3, x6⟩ := Kd.at_int (Kd.C_below HC1.out HBi.out) (i : Int) (by omega) (by omega)
        cases e3
        obtain ⟨y0, hy0⟩ : ∃ y, z.f1[i] = y := ⟨_, rfl⟩
        have hyb := HZC.out.2 y0 (by rw [← hy0]; exact List.getElem_mem hlt2)
        obtain ⟨y, rfl⟩ : ∃ y : Nat, y0 = (y : Int) := ⟨y0.toNat, by omega⟩
        have hrd : rd z.f1 (i : Int) = (y : Int) := by simp [rd, hlt2, hy0]
        rw [hrd] at x6
        obtain ⟨ad5, e5, x7⟩ := Kd.at_int (Kd.C_below HTO.out HBi.out) (y : Int) (by omega) (by omega)
        cases e5
        obtain ⟨u, hu⟩ : ∃ u, rd l3 (y : Int) = u := ⟨_, rfl⟩
        rw [hu] at x7
        simp only [Int.toNat_natCast] at x6 x7
        have HTK2 := K0 (show (z.f1.take (i + 1)).map (fun y => rd l3 y) = (z.f1.take i).map (fun y => rd l3 y) ++ [u] by rw [List.take_add_one, List.getElem?_eq_getElem hlt2, hy0]; simp [hu])
        have HLN := K0 (show (((z.f1.take i).map (fun y => rd l3 y)).length + 1) * 8 ≤ 140737488355328 by rw [List.length_map, List.length_take]; omega)
        have d0 : wr.cell? ⟨gX, 1, none⟩ = some vB := (blk_cell HNi.out 1).trans rfl
        have d1 := x3
        have d2 := x6
        have d3 := x7
        have S0 : ((0 : Int) ≤ (i : Int)) = True := eq_true (by omega)
        have S1 : ((i : Int) < (z.f1.length : Int)) = True := eq_true (by omega)
        have S2 : (i < z.f1.length) = True := eq_true hlt2
        have T0 : ((0 : Int) ≤ (y : Int)) = True := eq_true (by omega)
        have T1 : ((y : Int) < (l3.length : Int)) = True := eq_true (by omega)
        have T2 : (y < l3.length) = True := eq_true (by omega)
        have hd3 : decide ((i : Int) < (z.f1.length : Int)) = true := decide_eq_true (by omega)
        clear hu hrd hy0 hyb
        go_upto_region 10 with fail
        clear x3 x6 x7
        refine start_ (n := 17) (S := fun w' => w'.cell? ⟨gX, 1, none⟩ = some vB ∧ w'.cell? ⟨(ad.add (j * 2)).block, (ad.add (j * 2)).off + 1, none⟩ = some (.slice (some ad3) z.f1.length k1) ∧ w'.cell? (ad3.add i) = some (.int .i64 (y : Int)) ∧ w'.cell? (ad5.add y) = some (.int .i64 u)) (ds := [14, 16]) #[false, false, false, false, false, false, false, false, false, false, false, false, false, false, false, false, false] (by kernel_rfl) rfl rfl ⟨d0, d1, d2, d3⟩ (fun hHeld => ?_)
        refine pure_ (i := 0) (N := some 42) (v := ?_) (a' := ?_) #[true, false, false, false, false, false, false, false, false, false, false, false, false, false, false, false, false] rfl rfl (by kernel_rfl) (fun _ _ _ h => h) (Or.inl ⟨by rfl, ?_⟩) ?_ ?_
        rotate_left
        · intro w'
          go_simp
          with_reducible rfl
        rotate_left
        · simp only [Act.put, List.setIfInBounds_toArray, List.set_cons_zero, List.set_cons_succ, i64_w, i32_w]
          rfl
        refine pure_ (i := 2) (N := some 44) (v := ?_) (a' := ?_) #[true, false, true, false, false, false, false, false, false, false, false, false, false, false, false, false, false] rfl rfl (by kernel_rfl) (fun _ _ _ h => h) (Or.inl ⟨by rfl, ?_⟩) ?_ ?_
        rotate_left
        · intro w'
          go_simp
          with_reducible rfl
        rotate_left
        · simp only [Act.put, List.setIfInBounds_toArray, List.set_cons_zero, List.set_cons_succ, i64_w, i32_w]
          rfl
        refine pure_ (i := 3) (N := some 45) (v := ?_) (a' := ?_) #[true, false, true, true, false, false, false, false, false, false, false, false, false, false, false, false, false] rfl rfl (by kernel_rfl) (fun _ _ _ h => h) (Or.inl ⟨by rfl, ?_⟩) ?_ ?_
        rotate_left
        · intro w'
          go_simp
          with_reducible rfl
        rotate_left
        · simp only [Act.put, List.setIfInBounds_toArray, List.set_cons_zero, List.set_cons_succ, i64_w, i32_w]
          rfl
        refine pure_ (i := 4) (N := some 46) (v := ?_) (a' := ?_) #[true, false, true, true, true, false, false, false, false, false, false, false, false, false, false, false, false] rfl rfl (by kernel_rfl) (fun _ _ _ h => h) (Or.inl ⟨by rfl, ?_⟩) ?_ ?_
        rotate_left
        · intro w'
          go_simp
          with_reducible rfl
        rotate_left
        · simp only [Act.put, List.setIfInBounds_toArray, List.set_cons_zero, List.set_cons_succ, i64_w, i32_w]
          rfl
        refine pure_ (i := 5) (N := some 47) (v := ?_) (a' := ?_) #[true, false, true, true, true, true, false, false, false, false, false, false, false, false, false, false, false] rfl rfl (by kernel_rfl) (fun _ _ _ h => h) (Or.inl ⟨by rfl, ?_⟩) ?_ ?_
        rotate_left
        · intro w'
          go_simp
          with_reducible rfl
        rotate_left
        · simp only [Act.put, List.setIfInBounds_toArray, List.set_cons_zero, List.set_cons_succ, i64_w, i32_w]
          rfl
        refine pure_ (i := 6) (N := some 48) (v := ?_) (a' := ?_) #[true, false, true, true, true, true, true, false, false, false, false, false, false, false, false, false, false] rfl rfl (by kernel_rfl) (fun _ _ _ h => h) (Or.inl ⟨by rfl, ?_⟩) ?_ ?_
        rotate_left
        · intro w'
          go_simp
          with_reducible rfl
        rotate_left
        · simp only [Act.put, List.setIfInBounds_toArray, List.set_cons_zero, List.set_cons_succ, i64_w, i32_w]
          rfl
        refine pure_ (i := 8) (N := some 50) (v := ?_) (a' := ?_) #[true, false, true, true, true, true, true, false, true, false, false, false, false, false, false, false, false] rfl rfl (by kernel_rfl) (fun _ _ _ h => h) (Or.inl ⟨by rfl, ?_⟩) ?_ ?_
        rotate_left
        · intro w'
          go_simp
          with_reducible rfl
        rotate_left
        · simp only [Act.put, List.setIfInBounds_toArray, List.set_cons_zero, List.set_cons_succ, i64_w, i32_w]
          rfl
        refine take_ (i := 1) (N := some 43) (v := ?_) (a' := ?_) #[true, true, true, true, true, true, true, false, true, false, false, false, false, false, false, false, false] rfl rfl (by kernel_rfl) (fun _ _ _ h => h) (Or.inl ⟨by rfl, ?_⟩) hHeld ?_ ?_
        rotate_left
        · rintro w' ⟨s0, s1, s2, s3⟩
          go_simp
          with_reducible rfl
        rotate_left
        · simp only [Act.put, List.setIfInBounds_toArray, List.set_cons_zero, List.set_cons_succ, i64_w, i32_w]
          rfl
        refine take_ (i := 7) (N := some 49) (v := ?_) (a' := ?_) #[true, true, true, true, true, true, true, true, true, false, false, false, false, false, false, false, false] rfl rfl (by kernel_rfl) (fun _ _ _ h => h) (Or.inl ⟨by rfl, ?_⟩) hHeld ?_ ?_
        rotate_left
        · rintro w' ⟨s0, s1, s2, s3⟩
          go_simp
          with_reducible rfl
        rotate_left
        · simp only [Act.put, List.setIfInBounds_toArray, List.set_cons_zero, List.set_cons_succ, i64_w, i32_w]
          rfl
        refine pure_ (i := 9) (N := some 51) (v := ?_) (a' := ?_) #[true, true, true, true, true, true, true, true, true, true, false, false, false, false, false, false, false] rfl rfl (by kernel_rfl) (fun _ _ _ h => h) (Or.inl ⟨by rfl, ?_⟩) ?_ ?_
        rotate_left
        · intro w'
          go_simp
          with_reducible rfl
        rotate_left
        · simp only [Act.put, List.setIfInBounds_toArray, List.set_cons_zero, List.set_cons_succ, i64_w, i32_w]
          rfl
        refine take_ (i := 10) (N := some 52) (v := ?_) (a' := ?_) #[true, true, true, true, true, true, true, true, true, true, true, false, false, false, false, false, false] rfl rfl (by kernel_rfl) (fun _ _ _ h => h) (Or.inl ⟨by rfl, ?_⟩) hHeld ?_ ?_
        rotate_left
        · rintro w' ⟨s0, s1, s2, s3⟩
          go_simp
          with_reducible rfl
        rotate_left
        · simp only [Act.put, List.setIfInBounds_toArray, List.set_cons_zero, List.set_cons_succ, i64_w, i32_w]
          rfl
        refine pure_ (i := 11) (N := some 53) (v := ?_) (a' := ?_) #[true, true, true, true, true, true, true, true, true, true, true, true, false, false, false, false, false] rfl rfl (by kernel_rfl) (fun _ _ _ h => h) (Or.inl ⟨by rfl, ?_⟩) ?_ ?_
        rotate_left
        · intro w'
          go_simp
          with_reducible rfl
        rotate_left
        · simp only [Act.put, List.setIfInBounds_toArray, List.set_cons_zero, List.set_cons_succ, i64_w, i32_w]
          rfl
        refine take_ (i := 12) (N := some 54) (v := ?_) (a' := ?_) #[true, true, true, true, true, true, true, true, true, true, true, true, true, false, false, false, false] rfl rfl (by kernel_rfl) (fun _ _ _ h => h) (Or.inl ⟨by rfl, ?_⟩) hHeld ?_ ?_
        rotate_left
        · rintro w' ⟨s0, s1, s2, s3⟩
          go_simp
          with_reducible rfl
        rotate_left
        · simp only [Act.put, List.setIfInBounds_toArray, List.set_cons_zero, List.set_cons_succ, i64_w, i32_w]
          rfl
        refine one_ (i := 13) (N := some 55) #[true, true, true, true, true, true, true, true, true, true, true, true, true, true, false, false, false] rfl rfl (by kernel_rfl) (by decide) (fun K hK => ?_)
        refine value_ (w1 := ?_) (v := ?_) (by rfl) rfl ?_ ?_
        rotate_left 2
        · go_simp
          constructor
          · rfl
          rfl
        refine hK.out _ _ ⟨pw_cell_below (below_alloc (Below.refl _ _) _) hHeld.1, pw_cell_below (below_alloc (Below.refl _ _) _) hHeld.2.1, pw_cell_below (below_alloc (Below.refl _ _) _) hHeld.2.2.1, pw_cell_below (below_alloc (Below.refl _ _) _) hHeld.2.2.2⟩ (fun hHeld => ?_)
        clear hK K
        refine norm_ (a' := ?_) ?_ ?_
        rotate_left
        · show Act.put _ (some 55) _ = _
          simp only [Act.put, List.setIfInBounds_toArray, List.set_cons_zero, List.set_cons_succ, i64_w, i32_w]
          rfl
        refine last_ (i := 14) (N := some 56) #[true, true, true, true, true, true, true, true, true, true, true, true, true, true, true, false, false] rfl rfl (by kernel_rfl) (by decide) (fun K hK => ?_)
        refine Kd.R_append_step (Kd.int .i64) (w0 := w) (W := wr.drew) w.heap.size (by rfl) (.tmp 43) (.tmp 55) 29 3 (.int .i64 0) 8 rfl Try.underlying29 (by kernel_rfl) rfl (by decide) (by decide) vB ((z.f1.take i).map (fun y => rd l3 y)) u [.int .i64 u] (fun k => gX < k) (fun _ => False) (by rfl) (by rfl) rfl (fun _ h => h.elim) (fun k hk => by have := blk_lt HNi.out; have e : wr.drew.heap.size = wr.heap.size := rfl; omega) (Kd.R_drew HV.out) (below_drew HBi.out) HBi.out.size HLN.out ?_
        intro v6 w6 r6 hb6 hg6 hat6
        obtain ⟨A6, k6, e6⟩ := Kd.R_slice r6
        subst e6; have HR6 := K0 r6; have HB6 := K0 hb6
        have hne6 : ∀ k, k ≤ gX → some k ≠ vB.ownBlock := fun k hk e => by have := HV.out.1 k e.symm; omega
        have HN6 := K0 (blk_grown (show wr.drew.heap[gX]? = _ from HNi.out) hg6 (hne6 gX (Nat.le_refl _)))
        have HO6 := K0 (Kd.N_grown (Kd.N_drew HOi.out) hg6 (fun k hk => hne6 k (Nat.le_of_lt hk.2)))
        have c6 : w6.cell? ⟨gX, 1, none⟩ = some vB := (blk_cell HN6.out 1).trans rfl
        have f6 : w6.frozen? ⟨gX, 1, none⟩ = false := blk_frozen HN6.out 1
        clear r6 hb6 hg6 hat6 hne6
        refine hK.out _ _ ?_
        clear hK K
        refine norm_ (a' := ?_) ?_ ?_
        rotate_left
        · show Act.put _ (some 56) _ = _
          simp only [Act.put, List.setIfInBounds_toArray, List.set_cons_zero, List.set_cons_succ, i64_w, i32_w]
          rfl
        refine pure_ (i := 15) (N := some 57) (v := ?_) (a' := ?_) #[true, true, true, true, true, true, true, true, true, true, true, true, true, true, true, true, false] rfl rfl (by kernel_rfl) (fun _ _ _ h => h) (Or.inl ⟨by rfl, ?_⟩) ?_ ?_
        rotate_left
        · intro w'
          go_simp
          with_reducible rfl
        rotate_left
        · simp only [Act.put, List.setIfInBounds_toArray, List.set_cons_zero, List.set_cons_succ, i64_w, i32_w]
          rfl
        refine last_ (i := 16) (N := none) #[true, true, true, true, true, true, true, true, true, true, true, true, true, true, true, true, true] rfl rfl (by kernel_rfl) (by decide) (fun K hK => ?_)
        refine skip_ (w1 := ?_) (by rfl) rfl ?_ ?_
        rotate_left
        · go_simp
          rfl
        refine hK.out _ _ ?_
        clear hK K
        refine done_ (by kernel_rfl) ?_
        go_wp2
        go_roundg (z.f1.length - (i + 1))
        case measure => have := hgi.out; omega
        case rel => exact ⟨i + 1, _, by simp, ⟨by have := hgi.out; omega⟩, ⟨HB6.out.setCell (show w.heap.size ≤ gX from HGX.out) _⟩, ⟨blk_put HN6.out 1 _ rfl⟩, ⟨Kd.N_far (p := ⟨gX, 1, none⟩) HO6.out (fun k hk => by show k ≠ gX; omega) _⟩, ⟨by rw [HTK2.out]; exact Kd.R_far (p := ⟨gX, 1, none⟩) (by simpa only [List.length_append, List.length_singleton, List.length_map, List.length_take, List.length_cons, List.length_nil, Nat.zero_add] using HR6.out) (fun k hk => by show k ≠ gX; omega) _⟩⟩
def sequiturref25_numbers.l0 : Nat → Int → List Bool → Bool → List Int → Int → Int → Option (List Int)
  | 0, _, _, _, _, _, _ => none
  | k + 1, x0, x1, x2, x7, x8, x9 => if x9 < (x1.length : Int) then (if 0 ≤ x9 then (if x9 < (x7.length : Int) then ((some (x7.set (x9 : Int).toNat x8 : List Int)).bind fun y281 => (if rdOf false x1 x9 = true then (sequiturref25_numbers.l0 k x0 x1 x2 y281 (wrap64 (x8 + 1)) (wrap64 (x9 + 1))) else (if x9 < x0 then (if x2 = true then (sequiturref25_numbers.l0 k x0 x1 x2 y281 (wrap64 (x8 + 1)) (wrap64 (x9 + 1))) else (sequiturref25_numbers.l0 k x0 x1 x2 y281 x8 (wrap64 (x9 + 1)))) else (sequiturref25_numbers.l0 k x0 x1 x2 y281 x8 (wrap64 (x9 + 1)))))) else (none)) else (none)) else (some x7)
def sequiturref25_numbers.f (k : Nat) (a0 : Int) (l1 : List Bool) (a2 : Bool) : Option (List Int) := if 0 ≤ (l1.length : Int) then (if ((l1.length : Int) : Int).toNat ≤ 35184372088832 then (sequiturref25_numbers.l0 k a0 l1 a2 (List.replicate ((l1.length : Int) : Int).toNat 0) 0 0) else (none)) else (none)
set_option maxHeartbeats 8000000 in
set_option maxRecDepth 100000 in
theorem sequiturref25_numbers.calls (k : Nat) (a0 : Int) (A1 : Option Addr) (c1 : Nat) (l1 : List Bool) (a2 : Bool) (r : List Int) (w : World) (hr1 : Kd.C Kd.bool w A1 l1.length l1) (hc1 : l1.length ≤ c1) (h : sequiturref25_numbers.f k a0 l1 a2 = some r) :
    Calls Try.prog 34 #[.int .i64 a0, .slice A1 l1.length c1, .bool a2] w fun e w' => ∃ v0_ : Value, e = .returned (v0_) ∧ Kd.R (Kd.int .i64) 3 w' w.heap.size (fun _ => True) v0_ r ∧ Below w.heap.size w w' := by
  have HR1 := K0 hr1; have HC1 := K0 hc1; clear hr1 hc1
  have HB := K0 (Below.refl w.heap.size w)
  have H : (if 0 ≤ (l1.length : Int) then (if ((l1.length : Int) : Int).toNat ≤ 35184372088832 then (sequiturref25_numbers.l0 k a0 l1 a2 (List.replicate ((l1.length : Int) : Int).toNat 0) 0 0) else (none)) else (none)) = some r := h
  clear h
  by_cases c4 : 0 ≤ (l1.length : Int)
  case neg =>
    rw [if_neg c4] at H
    exact absurd H (by simp)
  rw [if_pos c4] at H
  have c4b0 := eq_true c4
  have c4b1 : decide (0 ≤ (l1.length : Int)) = true := decide_eq_true c4
  clear c4
  by_cases c5 : ((l1.length : Int) : Int).toNat ≤ 35184372088832
  case neg =>
    rw [if_neg c5] at H
    exact absurd H (by simp)
  rw [if_pos c5] at H
  have c5b0 := eq_true c5
  have c5b1 : decide (((l1.length : Int) : Int).toNat ≤ 35184372088832) = true := decide_eq_true c5
  clear c5
  obtain ⟨y278, hy278⟩ : ∃ y_ : List Int, y_ = (List.replicate ((l1.length : Int) : Int).toNat 0) := ⟨_, rfl⟩
  replace H : (sequiturref25_numbers.l0 k a0 l1 a2 y278 0 0) = some r := by first | (rw [hy278]; with_reducible exact H) | (have H2_ := (Option.bind_some _ _).symm.trans H; rw [hy278]; with_reducible exact H2_) | (have H2_ := (Option.bind_some _ _).symm.trans H; with_reducible exact H2_) | with_reducible exact H | (rw [hy278]; exact H) | exact H
  have Ny278 := K0 hy278; clear hy278
  have H' := K0 H
  clear H
  go_enter Try.func34, Try.ntmps34
  go_wp2_with (first | ((with_reducible refine gate_dst (N := 12) rfl ?_); refine Kd.R_make (Kd.int .i64) _ 3 rfl (N := 12) rfl 29 _ _ rfl (l1.length : Int) rfl rfl Try.underlying29 (.int .i64 0) 8 info3 rfl (by decide) (by omega) 0 (ok := fun _ => True) (okp := fun _ => True) rfl (fun _ hk => hk) trivial (of_decide_eq_true (by first | (with_reducible assumption) | assumption)) (Nat.le_trans (Nat.mul_le_mul_right _ (of_decide_eq_true (by first | (with_reducible assumption) | assumption) : (l1.length : Int).toNat ≤ 35184372088832)) (by omega)) (Below.refl _ _) (Nat.le_refl _) ?_; intro v279 w6 ho7 hb hg_ hnew_; clear hg_ hnew_; (first | rw [← Ny278.out] at ho7 | (simp only [Int.reduceToNat] at ho7; rw [← Ny278.out] at ho7)); have n0_ := K0 (Kd.R_lower ho7 (below_size (by repeat (first | (with_reducible first | exact HB.out | apply below_alloc | apply pw_below_drewN | apply below_drew1) | exact HB.out)))); have n1_ := K0 (below_step (by repeat (first | (with_reducible first | exact HB.out | apply below_alloc | apply pw_below_drewN | apply below_drew1) | exact HB.out)) hb); clear HB; have HO280 := n0_; have HB := n1_; clear n0_ n1_; clear hb ho7))
  go_loopg [8, 9] k (fun kq v8 v9 w' => ∃ (x7_1 : List Int) (x8_1 : Int) (x9_1 : Int), v8 = .int .i64 x8_1 ∧ v9 = .int .i64 x9_1 ∧ Aside0 (sequiturref25_numbers.l0 kq a0 l1 a2 x7_1 x8_1 x9_1 = some r) ∧ Aside0 (kq ≤ k) ∧ Aside0 (Kd.R (Kd.int .i64) 3 w' w.heap.size (fun _ => True) v279 x7_1) ∧ Aside0 (Below w.heap.size w w'))
  case atStart => exact ⟨(y278), (0), (0), (by first | rfl | (simp; done) | (simp [*]; done)), (by first | rfl | (simp; done) | (simp [*]; done)), H', ⟨Nat.le_refl _⟩, ⟨by (with_reducible repeat (first | apply Kd.R_alloc | apply Kd.R_drewN | apply Kd.R_drew)); exact HO280.out⟩, ⟨by repeat (first | (with_reducible first | exact HB.out | apply below_alloc | apply pw_below_drewN | apply below_drew1) | exact HB.out)⟩⟩
  case round =>
    clear H'; try clear c1; try clear p2; try clear c3; try clear c4; try clear c4b0; try clear c4b1; try clear c5; try clear c5b0; try clear c5b1
    obtain ⟨x7_1, x8_1, x9_1, rfl, rfl, HA, HK1, HO_7, HB⟩ := hrel
    cases gk with
    | zero => exact absurd HA.out (by simp [sequiturref25_numbers.l0])
    | succ k1 =>
      have H := HA.out
      clear HA
      simp only [sequiturref25_numbers.l0] at H
      by_cases c8 : x9_1 < (l1.length : Int)
      case neg =>
        rw [if_neg c8] at H
        have c8b0 : decide (x9_1 < (l1.length : Int)) = false := decide_eq_false c8
        clear c8
        as_aux_lemma =>
          obtain rfl := Option.some.inj H
          go_wp2
          go_ret
          exact ⟨_, by first | rfl | (simp [errW_none, errW_some] <;> rfl) | (simp [*, errW_none, errW_some] <;> rfl), by (with_reducible repeat (first | apply Kd.R_alloc | apply Kd.R_drewN | apply Kd.R_drew)); exact HO_7.out, by repeat (first | (with_reducible first | exact HB.out | apply below_alloc | apply pw_below_drewN | apply below_drew1) | exact HB.out)⟩
      rw [if_pos c8] at H
      have c8b0 : decide (x9_1 < (l1.length : Int)) = true := decide_eq_true c8
      clear c8
      by_cases c9 : 0 ≤ x9_1
      case neg =>
        rw [if_neg c9] at H
        exact absurd H (by simp)
      rw [if_pos c9] at H
      have c9b0 : decide (0 ≤ x9_1) = true := decide_eq_true c9
      clear c9
      by_cases c10 : x9_1 < (x7_1.length : Int)
      case neg =>
        rw [if_neg c10] at H
        exact absurd H (by simp)
      rw [if_pos c10] at H
      have c10b0 : decide (x9_1 < (x7_1.length : Int)) = true := decide_eq_true c10
      clear c10
      obtain ⟨y281, hy281⟩ : ∃ y_ : List Int, y_ = (x7_1.set (x9_1 : Int).toNat x8_1) := ⟨_, rfl⟩
      replace H : (if rdOf false l1 x9_1 = true then (sequiturref25_numbers.l0 k1 a0 l1 a2 y281 (wrap64 (x8_1 + 1)) (wrap64 (x9_1 + 1))) else (if x9_1 < a0 then (if a2 = true then (sequiturref25_numbers.l0 k1 a0 l1 a2 y281 (wrap64 (x8_1 + 1)) (wrap64 (x9_1 + 1))) else (sequiturref25_numbers.l0 k1 a0 l1 a2 y281 x8_1 (wrap64 (x9_1 + 1)))) else (sequiturref25_numbers.l0 k1 a0 l1 a2 y281 x8_1 (wrap64 (x9_1 + 1))))) = some r := by first | (rw [hy281]; with_reducible exact H) | (have H2_ := (Option.bind_some _ _).symm.trans H; rw [hy281]; with_reducible exact H2_) | (have H2_ := (Option.bind_some _ _).symm.trans H; with_reducible exact H2_) | with_reducible exact H | (rw [hy281]; exact H) | exact H
      have Ny281 := K0 hy281; clear hy281
      obtain ⟨bq12, hbq12⟩ : ∃ b_ : Bool, b_ = (rdOf false l1 x9_1) := ⟨_, rfl⟩
      replace H : (if bq12 = true then (sequiturref25_numbers.l0 k1 a0 l1 a2 y281 (wrap64 (x8_1 + 1)) (wrap64 (x9_1 + 1))) else (if x9_1 < a0 then (if a2 = true then (sequiturref25_numbers.l0 k1 a0 l1 a2 y281 (wrap64 (x8_1 + 1)) (wrap64 (x9_1 + 1))) else (sequiturref25_numbers.l0 k1 a0 l1 a2 y281 x8_1 (wrap64 (x9_1 + 1)))) else (sequiturref25_numbers.l0 k1 a0 l1 a2 y281 x8_1 (wrap64 (x9_1 + 1))))) = some r := by rw [← hbq12] at H; exact H
      have Nbq12 := K0 hbq12; clear hbq12
      by_cases c13 : bq12 = true
      case pos =>
        subst c13
        have H1 : (sequiturref25_numbers.l0 k1 a0 l1 a2 y281 (wrap64 (x8_1 + 1)) (wrap64 (x9_1 + 1))) = some r := by rw [if_pos rfl] at H; exact H
        clear H
        have H := H1
        clear H1
        as_aux_lemma =>
          have H' := K0 H
          clear H
          have p11 : 0 ≤ (x9_1 : Int) := of_decide_eq_true (by first | (with_reducible assumption) | assumption)
          have q11 : (x9_1 : Int) < ((x7_1.length : Int) : Int) := of_decide_eq_true (by first | (with_reducible assumption) | assumption)
          obtain ⟨go11, co11, eo11, gb11, gl11, cl11, HG11⟩ := Kd.R_form HO_7.out (by omega)
          (first | cases eo11 | (injection eo11 with ea_ en_ ec_; (first | subst ea_ | (injection ea_ with ea_; subst ea_)); subst ec_; clear en_))
          have GB11 := K0 gb11; have GG11 := K0 HG11; clear gb11 gl11 HG11
          obtain ⟨hx11_0, hf11_0⟩ := Kd.R_celln 0 HO_7.out (x9_1 : Int) p11 q11
          replace p11 := eq_true p11; replace q11 := eq_true q11
          have HP14 := Kd.R_putg HO_7.out (x9_1 : Int) x8_1
          go_wp2_with (first | ((with_reducible refine gate_store (t := 3) (p := 22) rfl ?_); refine store_event (t := 3) (p := 22) (v := ?vo_w15) (w1 := (wr.setCell ⟨go11, (x9_1 : Int).toNat, none⟩ (.int .i64 x8_1))) ?hg ?ho ?hn ?hr ?_; (case ho => rfl); (case hg => rfl); (case hn => rfl); (case hr => first | (go_simp; done) | (go_simp; rfl)); intro w15 hw; have hg : wr.grownBy w15 (some go11) := (by rw [hw]; exact HP14.2); have hp_ : Kd.R (Kd.int .i64) 3 w15 w.heap.size (fun _ => True) (.slice (some ⟨go11, 0, none⟩) x7_1.length co11) y281 := (by rw [hw, Ny281.out]; exact HP14.1); clear HP14; have n0_ := K0 (hp_); have n1_ := K0 ((by rw [hw]; exact below_set (HB.out) GB11.out : Below w.heap.size w w15)); clear HO_7; clear HB; have HO_7 := n0_; have HB := n1_; clear n0_ n1_; clear hg hw hp_; have p282 : 0 ≤ (x9_1 : Int) := of_decide_eq_true (by first | (with_reducible assumption) | assumption); have q282 : x9_1 < (l1.length : Int) := of_decide_eq_true (by first | (with_reducible assumption) | assumption); obtain ⟨ad282, e282, hx282_0⟩ := Kd.at_bool HR1.out x9_1 p282 q282; (try rw [← Nbq12.out] at hx282_0); cases e282; replace hx282_0 := (HB.out.cell (World.block_lt_of_cell? w _ hx282_0)).trans hx282_0; replace p282 := eq_true p282; replace q282 := eq_true q282))
          go_roundg k1
          case measure => have := HK1.out; omega
          case rel => exact ⟨(y281), (wrap64 (x8_1 + 1)), (wrap64 (x9_1 + 1)), (by first | rfl | (simp; done) | (simp [*]; done)), (by first | rfl | (simp; done) | (simp [*]; done)), H', ⟨by have := HK1.out; omega⟩, ⟨by (with_reducible repeat (first | apply Kd.R_alloc | apply Kd.R_drewN | apply Kd.R_drew)); exact HO_7.out⟩, ⟨by repeat (first | (with_reducible first | exact HB.out | apply below_alloc | apply pw_below_drewN | apply below_drew1) | exact HB.out)⟩⟩
      replace c13 := Bool.eq_false_iff.mpr c13
      subst c13
      have H1 : (if x9_1 < a0 then (if a2 = true then (sequiturref25_numbers.l0 k1 a0 l1 a2 y281 (wrap64 (x8_1 + 1)) (wrap64 (x9_1 + 1))) else (sequiturref25_numbers.l0 k1 a0 l1 a2 y281 x8_1 (wrap64 (x9_1 + 1)))) else (sequiturref25_numbers.l0 k1 a0 l1 a2 y281 x8_1 (wrap64 (x9_1 + 1)))) = some r := by rw [if_neg (show ¬ (false = true) by decide)] at H; exact H
      clear H
      have H := H1
      clear H1
      by_cases c16 : x9_1 < a0
      case neg =>
        rw [if_neg c16] at H
        have c16b0 : decide (x9_1 < a0) = false := decide_eq_false c16
        clear c16
        as_aux_lemma =>
          have H' := K0 H
          clear H
          have p11 : 0 ≤ (x9_1 : Int) := of_decide_eq_true (by first | (with_reducible assumption) | assumption)
          have q11 : (x9_1 : Int) < ((x7_1.length : Int) : Int) := of_decide_eq_true (by first | (with_reducible assumption) | assumption)
          obtain ⟨go11, co11, eo11, gb11, gl11, cl11, HG11⟩ := Kd.R_form HO_7.out (by omega)
          (first | cases eo11 | (injection eo11 with ea_ en_ ec_; (first | subst ea_ | (injection ea_ with ea_; subst ea_)); subst ec_; clear en_))
          have GB11 := K0 gb11; have GG11 := K0 HG11; clear gb11 gl11 HG11
          obtain ⟨hx11_0, hf11_0⟩ := Kd.R_celln 0 HO_7.out (x9_1 : Int) p11 q11
          replace p11 := eq_true p11; replace q11 := eq_true q11
          have HP22 := Kd.R_putg HO_7.out (x9_1 : Int) x8_1
          go_wp2_with (first | ((with_reducible refine gate_store (t := 3) (p := 22) rfl ?_); refine store_event (t := 3) (p := 22) (v := ?vo_w23) (w1 := (wr.setCell ⟨go11, (x9_1 : Int).toNat, none⟩ (.int .i64 x8_1))) ?hg ?ho ?hn ?hr ?_; (case ho => rfl); (case hg => rfl); (case hn => rfl); (case hr => first | (go_simp; done) | (go_simp; rfl)); intro w23 hw; have hg : wr.grownBy w23 (some go11) := (by rw [hw]; exact HP22.2); have hp_ : Kd.R (Kd.int .i64) 3 w23 w.heap.size (fun _ => True) (.slice (some ⟨go11, 0, none⟩) x7_1.length co11) y281 := (by rw [hw, Ny281.out]; exact HP22.1); clear HP22; have n0_ := K0 (hp_); have n1_ := K0 ((by rw [hw]; exact below_set (HB.out) GB11.out : Below w.heap.size w w23)); clear HO_7; clear HB; have HO_7 := n0_; have HB := n1_; clear n0_ n1_; clear hg hw hp_; have p282 : 0 ≤ (x9_1 : Int) := of_decide_eq_true (by first | (with_reducible assumption) | assumption); have q282 : x9_1 < (l1.length : Int) := of_decide_eq_true (by first | (with_reducible assumption) | assumption); obtain ⟨ad282, e282, hx282_0⟩ := Kd.at_bool HR1.out x9_1 p282 q282; (try rw [← Nbq12.out] at hx282_0); cases e282; replace hx282_0 := (HB.out.cell (World.block_lt_of_cell? w _ hx282_0)).trans hx282_0; replace p282 := eq_true p282; replace q282 := eq_true q282))
          go_roundg k1
          case measure => have := HK1.out; omega
          case rel => exact ⟨(y281), (x8_1), (wrap64 (x9_1 + 1)), (by first | rfl | (simp; done) | (simp [*]; done)), (by first | rfl | (simp; done) | (simp [*]; done)), H', ⟨by have := HK1.out; omega⟩, ⟨by (with_reducible repeat (first | apply Kd.R_alloc | apply Kd.R_drewN | apply Kd.R_drew)); exact HO_7.out⟩, ⟨by repeat (first | (with_reducible first | exact HB.out | apply below_alloc | apply pw_below_drewN | apply below_drew1) | exact HB.out)⟩⟩
      rw [if_pos c16] at H
      have c16b0 : decide (x9_1 < a0) = true := decide_eq_true c16
      clear c16
      by_cases c17 : a2 = true
      case pos =>
        subst c17
        have H1 : (sequiturref25_numbers.l0 k1 a0 l1 true y281 (wrap64 (x8_1 + 1)) (wrap64 (x9_1 + 1))) = some r := by rw [if_pos rfl] at H; exact H
        clear H
        have H := H1
        clear H1
        as_aux_lemma =>
          have H' := K0 H
          clear H
          have p11 : 0 ≤ (x9_1 : Int) := of_decide_eq_true (by first | (with_reducible assumption) | assumption)
          have q11 : (x9_1 : Int) < ((x7_1.length : Int) : Int) := of_decide_eq_true (by first | (with_reducible assumption) | assumption)
          obtain ⟨go11, co11, eo11, gb11, gl11, cl11, HG11⟩ := Kd.R_form HO_7.out (by omega)
          (first | cases eo11 | (injection eo11 with ea_ en_ ec_; (first | subst ea_ | (injection ea_ with ea_; subst ea_)); subst ec_; clear en_))
          have GB11 := K0 gb11; have GG11 := K0 HG11; clear gb11 gl11 HG11
          obtain ⟨hx11_0, hf11_0⟩ := Kd.R_celln 0 HO_7.out (x9_1 : Int) p11 q11
          replace p11 := eq_true p11; replace q11 := eq_true q11
          have HP18 := Kd.R_putg HO_7.out (x9_1 : Int) x8_1
          go_wp2_with (first | ((with_reducible refine gate_store (t := 3) (p := 22) rfl ?_); refine store_event (t := 3) (p := 22) (v := ?vo_w19) (w1 := (wr.setCell ⟨go11, (x9_1 : Int).toNat, none⟩ (.int .i64 x8_1))) ?hg ?ho ?hn ?hr ?_; (case ho => rfl); (case hg => rfl); (case hn => rfl); (case hr => first | (go_simp; done) | (go_simp; rfl)); intro w19 hw; have hg : wr.grownBy w19 (some go11) := (by rw [hw]; exact HP18.2); have hp_ : Kd.R (Kd.int .i64) 3 w19 w.heap.size (fun _ => True) (.slice (some ⟨go11, 0, none⟩) x7_1.length co11) y281 := (by rw [hw, Ny281.out]; exact HP18.1); clear HP18; have n0_ := K0 (hp_); have n1_ := K0 ((by rw [hw]; exact below_set (HB.out) GB11.out : Below w.heap.size w w19)); clear HO_7; clear HB; have HO_7 := n0_; have HB := n1_; clear n0_ n1_; clear hg hw hp_; have p282 : 0 ≤ (x9_1 : Int) := of_decide_eq_true (by first | (with_reducible assumption) | assumption); have q282 : x9_1 < (l1.length : Int) := of_decide_eq_true (by first | (with_reducible assumption) | assumption); obtain ⟨ad282, e282, hx282_0⟩ := Kd.at_bool HR1.out x9_1 p282 q282; (try rw [← Nbq12.out] at hx282_0); cases e282; replace hx282_0 := (HB.out.cell (World.block_lt_of_cell? w _ hx282_0)).trans hx282_0; replace p282 := eq_true p282; replace q282 := eq_true q282))
          go_roundg k1
          case measure => have := HK1.out; omega
          case rel => exact ⟨(y281), (wrap64 (x8_1 + 1)), (wrap64 (x9_1 + 1)), (by first | rfl | (simp; done) | (simp [*]; done)), (by first | rfl | (simp; done) | (simp [*]; done)), H', ⟨by have := HK1.out; omega⟩, ⟨by (with_reducible repeat (first | apply Kd.R_alloc | apply Kd.R_drewN | apply Kd.R_drew)); exact HO_7.out⟩, ⟨by repeat (first | (with_reducible first | exact HB.out | apply below_alloc | apply pw_below_drewN | apply below_drew1) | exact HB.out)⟩⟩
      replace c17 := Bool.eq_false_iff.mpr c17
      subst c17
      have H1 : (sequiturref25_numbers.l0 k1 a0 l1 false y281 x8_1 (wrap64 (x9_1 + 1))) = some r := by rw [if_neg (show ¬ (false = true) by decide)] at H; exact H
      clear H
      have H := H1
      clear H1
      as_aux_lemma =>
        have H' := K0 H
        clear H
        have p11 : 0 ≤ (x9_1 : Int) := of_decide_eq_true (by first | (with_reducible assumption) | assumption)
        have q11 : (x9_1 : Int) < ((x7_1.length : Int) : Int) := of_decide_eq_true (by first | (with_reducible assumption) | assumption)
        obtain ⟨go11, co11, eo11, gb11, gl11, cl11, HG11⟩ := Kd.R_form HO_7.out (by omega)
        (first | cases eo11 | (injection eo11 with ea_ en_ ec_; (first | subst ea_ | (injection ea_ with ea_; subst ea_)); subst ec_; clear en_))
        have GB11 := K0 gb11; have GG11 := K0 HG11; clear gb11 gl11 HG11
        obtain ⟨hx11_0, hf11_0⟩ := Kd.R_celln 0 HO_7.out (x9_1 : Int) p11 q11
        replace p11 := eq_true p11; replace q11 := eq_true q11
        have HP20 := Kd.R_putg HO_7.out (x9_1 : Int) x8_1
        go_wp2_with (first | ((with_reducible refine gate_store (t := 3) (p := 22) rfl ?_); refine store_event (t := 3) (p := 22) (v := ?vo_w21) (w1 := (wr.setCell ⟨go11, (x9_1 : Int).toNat, none⟩ (.int .i64 x8_1))) ?hg ?ho ?hn ?hr ?_; (case ho => rfl); (case hg => rfl); (case hn => rfl); (case hr => first | (go_simp; done) | (go_simp; rfl)); intro w21 hw; have hg : wr.grownBy w21 (some go11) := (by rw [hw]; exact HP20.2); have hp_ : Kd.R (Kd.int .i64) 3 w21 w.heap.size (fun _ => True) (.slice (some ⟨go11, 0, none⟩) x7_1.length co11) y281 := (by rw [hw, Ny281.out]; exact HP20.1); clear HP20; have n0_ := K0 (hp_); have n1_ := K0 ((by rw [hw]; exact below_set (HB.out) GB11.out : Below w.heap.size w w21)); clear HO_7; clear HB; have HO_7 := n0_; have HB := n1_; clear n0_ n1_; clear hg hw hp_; have p282 : 0 ≤ (x9_1 : Int) := of_decide_eq_true (by first | (with_reducible assumption) | assumption); have q282 : x9_1 < (l1.length : Int) := of_decide_eq_true (by first | (with_reducible assumption) | assumption); obtain ⟨ad282, e282, hx282_0⟩ := Kd.at_bool HR1.out x9_1 p282 q282; (try rw [← Nbq12.out] at hx282_0); cases e282; replace hx282_0 := (HB.out.cell (World.block_lt_of_cell? w _ hx282_0)).trans hx282_0; replace p282 := eq_true p282; replace q282 := eq_true q282))
        go_roundg k1
        case measure => have := HK1.out; omega
        case rel => exact ⟨(y281), (x8_1), (wrap64 (x9_1 + 1)), (by first | rfl | (simp; done) | (simp [*]; done)), (by first | rfl | (simp; done) | (simp [*]; done)), H', ⟨by have := HK1.out; omega⟩, ⟨by (with_reducible repeat (first | apply Kd.R_alloc | apply Kd.R_drewN | apply Kd.R_drew)); exact HO_7.out⟩, ⟨by repeat (first | (with_reducible first | exact HB.out | apply below_alloc | apply pw_below_drewN | apply below_drew1) | exact HB.out)⟩⟩
end Go.Proofs.Ytppkeonhbkahmaa.P
