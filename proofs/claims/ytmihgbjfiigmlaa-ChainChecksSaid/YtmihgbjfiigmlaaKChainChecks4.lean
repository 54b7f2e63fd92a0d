import Derived.Test.YtmihgbjfiigmlaaKChainChecks1
import Derived.Test.YtmihgbjfiigmlaaKChainChecks3
-- Printed by wip/tools/pp.py of this claim's session (over the kit's print.py); Lean checks it.
namespace Go.Proofs.Ytmihgbjfiigmlaa.P
open Go.RowKit Go.Proofs.YtmihgbjfiigmlaaW.PrintWords Go.Proofs.YtmihgbjfiigmlaaW.PrintLast Go.Proofs.YtmihgbjfiigmlaaW.PrintMore
attribute [local go_sem] max2_int min2_int max_two min_two max_three min_three max_four min_four   -- for this text's walks alone
set_option linter.unusedVariables false
set_option linter.unusedSimpArgs false

/-! ### chain_Step: function 37 -/
mutual
def chain_Step.l0 : Nat → List (List Int) → List Int → List Int → Int → Int → List Int → List Int → Option (List Int × Int × Int)
  | 0, _, _, _, _, _, _, _ => none
  | k + 1, x0, x10, x29, x30, x31, x384000, x384001 => if x31 < x30 then (if 0 ≤ x31 then (if x31 < (x29.length : Int) then (if (rd x29 x31) < 0 then (chain_Step.j1 k x0 x10 x31 (rd x29 x31) x29 x30 x31 true x384000 x384001) else (chain_Step.j1 k x0 x10 x31 (rd x29 x31) x29 x30 x31 (decide ((rd x29 x31) ≥ (x0.length : Int))) x384000 x384001)) else (none)) else (none)) else ((lit_Within.f k x10 x384000).bind fun t385 => (if t385 = true then (some (x10, 0, 0)) else (some (([] : List Int), 0, 30))))
def chain_Step.j1 : Nat → List (List Int) → List Int → Int → Int → List Int → Int → Int → Bool → List Int → List Int → Option (List Int × Int × Int)
  | 0, _, _, _, _, _, _, _, _, _, _ => none
  | k + 1, x0, x10, x11, x12, x29, x30, x31, x43, x384000, x384001 => if x43 = true then (some (([] : List Int), x11, 3)) else (if x11 = 0 then (if 0 ≤ x12 then (if x12 < (x0.length : Int) then ((lit_Clean.f (rd_L3 x0 x12)).bind fun bt388 => (chain_Step.l0 k x0 bt388.1 x29 x30 (wrap64 (x31 + 1)) x384000 x384001)) else (none)) else (none)) else (if 0 ≤ x12 then (if x12 < (x0.length : Int) then ((lit_Pivot.f k x10 (rd_L3 x0 x12)).bind fun bt393 => (if bt393.2 = true then ((lit_Has.f k x10 bt393.1).bind fun t395 => (if t395 = true then ((lit_Has.f k (rd_L3 x0 x12) (wrap64 (-bt393.1))).bind fun t397 => (chain_Step.j2 k x0 x10 x11 x12 bt393.1 x29 x30 x31 (!t397) x384000 x384001)) else (chain_Step.j2 k x0 x10 x11 x12 bt393.1 x29 x30 x31 true x384000 x384001))) else (some (([] : List Int), x11, 30)))) else (none)) else (none)))
def chain_Step.j2 : Nat → List (List Int) → List Int → Int → Int → Int → List Int → Int → Int → Bool → List Int → List Int → Option (List Int × Int × Int)
  | 0, _, _, _, _, _, _, _, _, _, _, _ => none
  | k + 1, x0, x10, x11, x12, x13, x29, x30, x31, x80, x384000, x384001 => if x80 = true then (if 0 ≤ x12 then (if x12 < (x0.length : Int) then ((lit_Resolve.f k x10 (rd_L3 x0 x12) (wrap64 (-x13))).bind fun bt399 => (if bt399.2 = 0 then (chain_Step.l0 k x0 bt399.1 x29 x30 (wrap64 (x31 + 1)) x384000 x384001) else (some (([] : List Int), x11, 30)))) else (none)) else (none)) else (if 0 ≤ x12 then (if x12 < (x0.length : Int) then ((lit_Resolve.f k x10 (rd_L3 x0 x12) x13).bind fun bt404 => (if bt404.2 = 0 then (chain_Step.l0 k x0 bt404.1 x29 x30 (wrap64 (x31 + 1)) x384000 x384001) else (some (([] : List Int), x11, 30)))) else (none)) else (none))
end
def chain_Step.f (k : Nat) (l0 : List (List Int)) (a1 : Int) (l2_0 : List Int) (l2_1 : List Int) : Option (List Int × Int × Int) := (lit_Right.f k l2_0 a1).bind fun t384 => (if t384 = 0 then (if (l2_1.length : Int) = 0 then (some (([] : List Int), 0, 3)) else (chain_Step.l0 k l0 ([] : List Int) l2_1 (l2_1.length : Int) 0 l2_0 l2_1)) else (some (([] : List Int), 0, t384)))
theorem chain_Step.mono_l : ∀ k, (∀ y0 y1 y2 y3 y4 y5 y6, LeO (chain_Step.l0 k y0 y1 y2 y3 y4 y5 y6) (chain_Step.l0 (k + 1) y0 y1 y2 y3 y4 y5 y6)) ∧ (∀ y0 y1 y2 y3 y4 y5 y6 y7 y8 y9, LeO (chain_Step.j1 k y0 y1 y2 y3 y4 y5 y6 y7 y8 y9) (chain_Step.j1 (k + 1) y0 y1 y2 y3 y4 y5 y6 y7 y8 y9)) ∧ (∀ y0 y1 y2 y3 y4 y5 y6 y7 y8 y9 y10, LeO (chain_Step.j2 k y0 y1 y2 y3 y4 y5 y6 y7 y8 y9 y10) (chain_Step.j2 (k + 1) y0 y1 y2 y3 y4 y5 y6 y7 y8 y9 y10))
  | 0 => ⟨fun _ _ _ _ _ _ _ r h => by simp [chain_Step.l0] at h, fun _ _ _ _ _ _ _ _ _ _ r h => by simp [chain_Step.j1] at h, fun _ _ _ _ _ _ _ _ _ _ _ r h => by simp [chain_Step.j2] at h⟩
  | k + 1 => by
    obtain ⟨ih0, ih1, ih2⟩ := chain_Step.mono_l k
    refine ⟨?_, ?_, ?_⟩
    · intro y0 y1 y2 y3 y4 y5 y6
      unfold chain_Step.l0
      repeat' first
      | (with_reducible exact ih0 _ _ _ _ _ _ _)
      | (with_reducible exact ih1 _ _ _ _ _ _ _ _ _ _)
      | (with_reducible exact ih2 _ _ _ _ _ _ _ _ _ _ _)
      | (with_reducible exact lit_Has.mono _ _ _)
      | (with_reducible exact lit_Pivot.mono _ _ _)
      | (with_reducible exact lit_Resolve.mono _ _ _ _)
      | (with_reducible exact lit_Right.mono _ _ _)
      | (with_reducible exact lit_Within.mono _ _ _)
      | (with_reducible exact LeO.refl _)
      | (with_reducible exact LeO.none _)
      | (with_reducible refine LeO.ite ?_ ?_)
      | (with_reducible refine LeO.bind ?_ (fun _ => ?_))
      | exact ih0 _ _ _ _ _ _ _
      | exact ih1 _ _ _ _ _ _ _ _ _ _
      | exact ih2 _ _ _ _ _ _ _ _ _ _ _
      | exact lit_Has.mono _ _ _
      | exact lit_Pivot.mono _ _ _
      | exact lit_Resolve.mono _ _ _ _
      | exact lit_Right.mono _ _ _
      | exact lit_Within.mono _ _ _
      | exact LeO.none _
      | refine LeO.ite ?_ ?_
      | refine LeO.bind ?_ (fun _ => ?_)
    · intro y0 y1 y2 y3 y4 y5 y6 y7 y8 y9
      unfold chain_Step.j1
      repeat' first
      | (with_reducible exact ih0 _ _ _ _ _ _ _)
      | (with_reducible exact ih1 _ _ _ _ _ _ _ _ _ _)
      | (with_reducible exact ih2 _ _ _ _ _ _ _ _ _ _ _)
      | (with_reducible exact lit_Has.mono _ _ _)
      | (with_reducible exact lit_Pivot.mono _ _ _)
      | (with_reducible exact lit_Resolve.mono _ _ _ _)
      | (with_reducible exact lit_Right.mono _ _ _)
      | (with_reducible exact lit_Within.mono _ _ _)
      | (with_reducible exact LeO.refl _)
      | (with_reducible exact LeO.none _)
      | (with_reducible refine LeO.ite ?_ ?_)
      | (with_reducible refine LeO.bind ?_ (fun _ => ?_))
      | exact ih0 _ _ _ _ _ _ _
      | exact ih1 _ _ _ _ _ _ _ _ _ _
      | exact ih2 _ _ _ _ _ _ _ _ _ _ _
      | exact lit_Has.mono _ _ _
      | exact lit_Pivot.mono _ _ _
      | exact lit_Resolve.mono _ _ _ _
      | exact lit_Right.mono _ _ _
      | exact lit_Within.mono _ _ _
      | exact LeO.none _
      | refine LeO.ite ?_ ?_
      | refine LeO.bind ?_ (fun _ => ?_)
    · intro y0 y1 y2 y3 y4 y5 y6 y7 y8 y9 y10
      unfold chain_Step.j2
      repeat' first
      | (with_reducible exact ih0 _ _ _ _ _ _ _)
      | (with_reducible exact ih1 _ _ _ _ _ _ _ _ _ _)
      | (with_reducible exact ih2 _ _ _ _ _ _ _ _ _ _ _)
      | (with_reducible exact lit_Has.mono _ _ _)
      | (with_reducible exact lit_Pivot.mono _ _ _)
      | (with_reducible exact lit_Resolve.mono _ _ _ _)
      | (with_reducible exact lit_Right.mono _ _ _)
      | (with_reducible exact lit_Within.mono _ _ _)
      | (with_reducible exact LeO.refl _)
      | (with_reducible exact LeO.none _)
      | (with_reducible refine LeO.ite ?_ ?_)
      | (with_reducible refine LeO.bind ?_ (fun _ => ?_))
      | exact ih0 _ _ _ _ _ _ _
      | exact ih1 _ _ _ _ _ _ _ _ _ _
      | exact ih2 _ _ _ _ _ _ _ _ _ _ _
      | exact lit_Has.mono _ _ _
      | exact lit_Pivot.mono _ _ _
      | exact lit_Resolve.mono _ _ _ _
      | exact lit_Right.mono _ _ _
      | exact lit_Within.mono _ _ _
      | exact LeO.none _
      | refine LeO.ite ?_ ?_
      | refine LeO.bind ?_ (fun _ => ?_)
theorem chain_Step.mono : ∀ a0 a1 a2 a3 k, LeO (chain_Step.f k a0 a1 a2 a3) (chain_Step.f (k + 1) a0 a1 a2 a3) := by
  intro a0 a1 a2 a3 k
  obtain ⟨ih0, ih1, ih2⟩ := chain_Step.mono_l k
  unfold chain_Step.f
  repeat' first
      | (with_reducible exact ih0 _ _ _ _ _ _ _)
      | (with_reducible exact ih1 _ _ _ _ _ _ _ _ _ _)
      | (with_reducible exact ih2 _ _ _ _ _ _ _ _ _ _ _)
      | (with_reducible exact lit_Has.mono _ _ _)
      | (with_reducible exact lit_Pivot.mono _ _ _)
      | (with_reducible exact lit_Resolve.mono _ _ _ _)
      | (with_reducible exact lit_Right.mono _ _ _)
      | (with_reducible exact lit_Within.mono _ _ _)
      | (with_reducible exact LeO.refl _)
      | (with_reducible exact LeO.none _)
      | (with_reducible refine LeO.ite ?_ ?_)
      | (with_reducible refine LeO.bind ?_ (fun _ => ?_))
      | exact ih0 _ _ _ _ _ _ _
      | exact ih1 _ _ _ _ _ _ _ _ _ _
      | exact ih2 _ _ _ _ _ _ _ _ _ _ _
      | exact lit_Has.mono _ _ _
      | exact lit_Pivot.mono _ _ _
      | exact lit_Resolve.mono _ _ _ _
      | exact lit_Right.mono _ _ _
      | exact lit_Within.mono _ _ _
      | exact LeO.none _
      | refine LeO.ite ?_ ?_
      | refine LeO.bind ?_ (fun _ => ?_)
set_option maxHeartbeats 8000000 in
set_option maxRecDepth 100000 in
theorem chain_Step.calls (k : Nat) (A0 : Option Addr) (c0 : Nat) (l0 : List (List Int)) (a1 : Int) (A2_0 : Option Addr) (c2_0 : Nat) (l2_0 : List Int) (A2_1 : Option Addr) (c2_1 : Nat) (l2_1 : List Int) (r1 : List Int) (r2 : Int) (r3 : Int) (w : World) (hr0 : Kd.C (Kd.slice 3 (Kd.int .i64)) w A0 l0.length l0) (hc0 : l0.length ≤ c0) (hr2_0 : Kd.C (Kd.int .i64) w A2_0 l2_0.length l2_0) (hc2_0 : l2_0.length ≤ c2_0) (hr2_1 : Kd.C (Kd.int .i64) w A2_1 l2_1.length l2_1) (hc2_1 : l2_1.length ≤ c2_1) (h : chain_Step.f k l0 a1 l2_0 l2_1 = some (r1, r2, r3)) :
    Calls Try.prog 37 #[.slice A0 l0.length c0, .int .i64 a1, .agg #[.slice A2_0 l2_0.length c2_0, .slice A2_1 l2_1.length c2_1]] w fun e w' => ∃ v0_ : Value, e = .returned (.tuple #[v0_, .int .i64 r2, .int .i64 r3]) ∧ Kd.R (Kd.int .i64) 3 w' w.heap.size (fun _ => True) v0_ r1 ∧ Below w.heap.size w w' := by
  have hu43 := Try.underlying43
  have HR0 := Aside0.mk hr0
  have HC0 := Aside0.mk hc0
  clear hr0 hc0
  have HR2_0 := Aside0.mk hr2_0
  have HC2_0 := Aside0.mk hc2_0
  clear hr2_0 hc2_0
  have HR2_1 := Aside0.mk hr2_1
  have HC2_1 := Aside0.mk hc2_1
  clear hr2_1 hc2_1
  have HB := Aside0.mk (Below.refl w.heap.size w)
  have H : ((lit_Right.f k l2_0 a1).bind fun t384 => (if t384 = 0 then (if (l2_1.length : Int) = 0 then (some (([] : List Int), 0, 3)) else (chain_Step.l0 k l0 ([] : List Int) l2_1 (l2_1.length : Int) 0 l2_0 l2_1)) else (some (([] : List Int), 0, t384)))) = some (r1, r2, r3) := h
  clear h
  replace H := Option.bind_eq_some_iff.mp H
  obtain ⟨t384, A40, H⟩ := H
  replace H : (if t384 = 0 then (if (l2_1.length : Int) = 0 then (some (([] : List Int), 0, 3)) else (chain_Step.l0 k l0 ([] : List Int) l2_1 (l2_1.length : Int) 0 l2_0 l2_1)) else (some (([] : List Int), 0, t384))) = some (r1, r2, r3) := H
  have A4 := Aside0.mk A40
  clear A40
  by_cases c5 : t384 = 0
  · rw [if_pos c5] at H
    have c5b0 : (t384 == 0) = true := beq_iff_eq.mpr c5
    have c5b1 : (t384 != 0) = false := bne_eq_false_iff_eq.mpr c5
    clear c5
    by_cases c6 : (l2_1.length : Int) = 0
    · rw [if_pos c6] at H
      have c6b0 : ((l2_1.length : Int) == 0) = true := beq_iff_eq.mpr c6
      have c6b1 : ((l2_1.length : Int) != 0) = false := bne_eq_false_iff_eq.mpr c6
      clear c6
      as_aux_lemma =>
        simp only [Option.some.injEq, Prod.mk.injEq] at H
        obtain ⟨rfl, rfl, rfl⟩ := H
        go_enter Try.func37, Try.ntmps37
        go_wp2_with (first | ((with_reducible refine gate_dst (N := 5) rfl ?_); (try (refine gate_guard (by rfl) ?_; dsimp only)); refine box_event ?hg (N := 5) ?hd (cs := #[.slice A2_0 l2_0.length c2_0, .slice A2_1 l2_1.length c2_1]) (t := 43) ?hr ?_; (case hd => rfl); (case hg => rfl); (case hr => first | (go_simp; done) | (go_simp; rfl)); intro gb383 hg w7 hbox hb; have n0_ := Aside0.mk (below_step (by repeat (first | (with_reducible first | exact HB.out | apply below_alloc | apply pw_below_drewN | apply below_drew1) | exact HB.out)) hb); have n1_ := Aside0.mk (hbox); have n2_ := Aside0.mk ((by rw [hg]; exact (below_size (by repeat (first | (with_reducible first | exact HB.out | apply below_alloc | apply pw_below_drewN | apply below_drew1) | exact HB.out))) : w.heap.size ≤ gb383)); have n3_ := Aside0.mk ((by rw [hg]; exact (below_size (by repeat (first | (with_reducible first | exact HB.out | apply below_alloc | apply pw_below_drewN | apply below_drew1) | exact HB.out))) : w.heap.size ≤ gb383)); clear HB; have HB := n0_; have BK383 := n1_; have GW383 := n2_; have GE383 := n3_; clear n0_ n1_ n2_ n3_; clear hb hbox hg; have hcz8_0 : w7.cell? ⟨gb383, 0, none⟩ = some (.slice A2_0 l2_0.length c2_0) := (blk_cell BK383.out 0).trans rfl; have hcz8_1 : w7.cell? ⟨gb383, 1, none⟩ = some (.slice A2_1 l2_1.length c2_1) := (blk_cell BK383.out 1).trans rfl; have hfz8_0 := blk_frozen BK383.out 0; have hfz8_1 := blk_frozen BK383.out 1) | ((with_reducible refine gate_callee (f := 19) rfl ?_); refine goesL_ (some 20) rfl rfl Try.func19 (by kernel_rfl) rfl #[.slice A2_0 l2_0.length c2_0, .int .i64 a1] rfl (by (try simp only [List.map_toArray, List.map_cons, List.map_nil]); first | done | rfl | (simp only [List.length_drop, List.length_take]; rfl)) ?_; (with_reducible refine (lit_Right.calls k _ _ l2_0 a1 t384 _ ?side1 ?side2 A4.out).mono ?_); (case side1 => repeat (first | exact (Kd.C_below HR2_0.out HB.out) | (with_reducible refine Kd.C_alloc ?_ _) | (with_reducible refine Kd.C_drewN ?_ _) | (with_reducible refine Kd.C_drew ?_))); (case side2 => exact HC2_0.out); rintro e w' ⟨rfl, ⟨nd, rfl⟩⟩; refine ⟨_, rfl, ?_⟩))
        go_ret3
        exact ⟨_, by first | rfl | (simp [errW_none, errW_some] <;> rfl) | (simp [*, errW_none, errW_some] <;> rfl), by first | exact Kd.R_nil _ _ _ _ _ | exact Kd.N_nil _ _ _ _ _ | exact Kd.V_nil _ _ _ _ _ | exact Kd.Q_nil _ _ _ _ _ | exact Kd.S_nil _ _ _ _ _, by repeat (first | (with_reducible first | exact HB.out | apply below_alloc | apply pw_below_drewN | apply below_drew1 | refine below_set ?_ GE383.out) | exact HB.out)⟩
    · rw [if_neg c6] at H
      have c6b0 : ((l2_1.length : Int) == 0) = false := beq_eq_false_iff_ne.mpr c6
      have c6b1 : ((l2_1.length : Int) != 0) = true := bne_iff_ne.mpr c6
      have c6b2 : ¬ (l2_1 = []) := fun h_ => c6 (by rw [h_]; rfl)
      have H' := Aside0.mk H
      clear H
      go_enter Try.func37, Try.ntmps37
      go_wp2_with (first | ((with_reducible refine gate_dst (N := 5) rfl ?_); (try (refine gate_guard (by rfl) ?_; dsimp only)); refine box_event ?hg (N := 5) ?hd (cs := #[.slice A2_0 l2_0.length c2_0, .slice A2_1 l2_1.length c2_1]) (t := 43) ?hr ?_; (case hd => rfl); (case hg => rfl); (case hr => first | (go_simp; done) | (go_simp; rfl)); intro gb383 hg w9 hbox hb; have n0_ := Aside0.mk (below_step (by repeat (first | (with_reducible first | exact HB.out | apply below_alloc | apply pw_below_drewN | apply below_drew1) | exact HB.out)) hb); have n1_ := Aside0.mk (hbox); have n2_ := Aside0.mk ((by rw [hg]; exact (below_size (by repeat (first | (with_reducible first | exact HB.out | apply below_alloc | apply pw_below_drewN | apply below_drew1) | exact HB.out))) : w.heap.size ≤ gb383)); have n3_ := Aside0.mk ((by rw [hg]; exact (below_size (by repeat (first | (with_reducible first | exact HB.out | apply below_alloc | apply pw_below_drewN | apply below_drew1) | exact HB.out))) : w.heap.size ≤ gb383)); clear HB; have HB := n0_; have BK383 := n1_; have GW383 := n2_; have GE383 := n3_; clear n0_ n1_ n2_ n3_; clear hb hbox hg; have hcz10_0 : w9.cell? ⟨gb383, 0, none⟩ = some (.slice A2_0 l2_0.length c2_0) := (blk_cell BK383.out 0).trans rfl; have hcz10_1 : w9.cell? ⟨gb383, 1, none⟩ = some (.slice A2_1 l2_1.length c2_1) := (blk_cell BK383.out 1).trans rfl; have hfz10_0 := blk_frozen BK383.out 0; have hfz10_1 := blk_frozen BK383.out 1) | ((with_reducible refine gate_callee (f := 19) rfl ?_); refine goesL_ (some 20) rfl rfl Try.func19 (by kernel_rfl) rfl #[.slice A2_0 l2_0.length c2_0, .int .i64 a1] rfl (by (try simp only [List.map_toArray, List.map_cons, List.map_nil]); first | done | rfl | (simp only [List.length_drop, List.length_take]; rfl)) ?_; (with_reducible refine (lit_Right.calls k _ _ l2_0 a1 t384 _ ?side1 ?side2 A4.out).mono ?_); (case side1 => repeat (first | exact (Kd.C_below HR2_0.out HB.out) | (with_reducible refine Kd.C_alloc ?_ _) | (with_reducible refine Kd.C_drewN ?_ _) | (with_reducible refine Kd.C_drew ?_))); (case side2 => exact HC2_0.out); rintro e w' ⟨rfl, ⟨nd, rfl⟩⟩; refine ⟨_, rfl, ?_⟩))
      go_loopg [10, 31] k (fun kq v10 v31 w' => ∃ (x10_1 : List Int) (x31_1 : Int), v31 = .int .i64 x31_1 ∧ Aside0 (chain_Step.l0 kq l0 x10_1 l2_1 (l2_1.length : Int) x31_1 l2_0 l2_1 = some (r1, r2, r3)) ∧ Aside0 (kq ≤ k) ∧ Aside0 (Kd.R (Kd.int .i64) 3 w' w.heap.size (fun _ => True) v10 x10_1) ∧ Aside0 (w'.heap[gb383]? = some (.cells #[(.slice A2_0 l2_0.length c2_0), (.slice A2_1 l2_1.length c2_1)] 43 (0, 0))) ∧ Aside0 (Below w.heap.size w w'))
      case atStart => exact ⟨(([] : List Int)), (0), (by first | rfl | (simp; done) | (simp [*]; done)), H', ⟨Nat.le_refl _⟩, ⟨by first | exact Kd.R_nil _ _ _ _ _ | exact Kd.N_nil _ _ _ _ _ | exact Kd.V_nil _ _ _ _ _ | exact Kd.Q_nil _ _ _ _ _ | exact Kd.S_nil _ _ _ _ _⟩, ⟨by (with_reducible repeat (first | refine blk_drewN ?_ _ | refine blk_drew ?_ | refine blk_alloc ?_ _)); exact BK383.out⟩, ⟨by repeat (first | (with_reducible first | exact HB.out | apply below_alloc | apply pw_below_drewN | apply below_drew1 | refine below_set ?_ GE383.out) | exact HB.out)⟩⟩
      case round =>
        clear H'
        try clear c1
        try clear c2
        try clear p2
        try clear c3
        try clear c5
        try clear c5b0
        try clear c5b1
        try clear c6
        try clear c6b0
        try clear c6b1
        try clear c6b2
        try clear hcz10_0
        try clear hcz10_1
        try clear hcz8_0
        try clear hcz8_1
        try clear hfz10_0
        try clear hfz10_1
        try clear hfz8_0
        try clear hfz8_1
        obtain ⟨x10_1, x31_1, rfl, HA, HK1, HO_10, BK383, HB⟩ := hrel
        cases gk with
        | zero => exact absurd HA.out (by simp [chain_Step.l0])
        | succ k1 =>
          have H := HA.out
          clear HA
          simp only [chain_Step.l0] at H
          by_cases c11 : x31_1 < (l2_1.length : Int)
          · rw [if_pos c11] at H
            have c11b0 : decide (x31_1 < (l2_1.length : Int)) = true := decide_eq_true c11
            clear c11
            by_cases c12 : 0 ≤ x31_1
            · rw [if_pos c12] at H
              have c12b0 : decide (0 ≤ x31_1) = true := decide_eq_true c12
              clear c12
              by_cases c13 : x31_1 < (l2_1.length : Int)
              · rw [if_pos c13] at H
                have c13b0 : decide (x31_1 < (l2_1.length : Int)) = true := decide_eq_true c13
                clear c13
                have HC14 := Aside0.mk H
                clear H
                have p386 : 0 ≤ (x31_1 : Int) := of_decide_eq_true (by first | (with_reducible assumption) | assumption)
                have q386 : x31_1 < (l2_1.length : Int) := of_decide_eq_true (by first | (with_reducible assumption) | assumption)
                obtain ⟨ad386, e386, hx386_0⟩ := Kd.at_int HR2_1.out x31_1 p386 q386
                cases e386
                replace hx386_0 := (HB.out.cell (World.block_lt_of_cell? w _ hx386_0)).trans hx386_0
                replace p386 := eq_true p386
                replace q386 := eq_true q386
                go_upto_region 10 with (fail)
                go_cut [43] (fun v43 wc => ∃ (kq : Nat) (x43_13 : Bool), v43 = .bool x43_13 ∧ Aside0 (chain_Step.j1 kq l0 x10_1 x31_1 (rd l2_1 x31_1) l2_1 (l2_1.length : Int) x31_1 x43_13 l2_0 l2_1 = some (r1, r2, r3)) ∧ Aside0 (kq ≤ k1) ∧ Aside0 (Kd.R (Kd.int .i64) 3 wc w.heap.size (fun _ => True) u10 x10_1) ∧ Aside0 (wc.heap[gb383]? = some (.cells #[(.slice A2_0 l2_0.length c2_0), (.slice (some ad386) l2_1.length c2_1)] 43 (0, 0))) ∧ Aside0 (Below w.heap.size w wc))
                case first =>
                  have H := HC14.out
                  clear HC14
                  by_cases c15 : (rd l2_1 x31_1) < 0
                  · rw [if_pos c15] at H
                    have c15b0 : decide ((rd l2_1 x31_1) < 0) = true := decide_eq_true c15
                    clear c15
                    (first | rw [c15b0] | (simp only [i64_w, i32_w]; rw [c15b0]) | skip)
                    as_aux_lemma =>
                      have H' := Aside0.mk H
                      clear H
                      go_wp2
                      go_meet
                      case rel => exact ⟨_, (true), (by first | rfl | (simp; done) | (simp [*]; done)), H', ⟨by have := HK1.out; first | omega | exact Nat.le_refl _⟩, ⟨by (with_reducible repeat (first | apply Kd.R_alloc | apply Kd.R_drewN | apply Kd.R_drew)); exact HO_10.out⟩, ⟨by (with_reducible repeat (first | refine blk_drewN ?_ _ | refine blk_drew ?_ | refine blk_alloc ?_ _)); exact BK383.out⟩, ⟨by repeat (first | (with_reducible first | exact HB.out | apply below_alloc | apply pw_below_drewN | apply below_drew1 | refine below_set ?_ GE383.out) | exact HB.out)⟩⟩
                  · rw [if_neg c15] at H
                    have c15b0 : decide ((rd l2_1 x31_1) < 0) = false := decide_eq_false c15
                    clear c15
                    (first | rw [c15b0] | (simp only [i64_w, i32_w]; rw [c15b0]) | skip)
                    as_aux_lemma =>
                      have H' := Aside0.mk H
                      clear H
                      go_wp2
                      go_meet
                      case rel => exact ⟨_, (decide ((rd l2_1 x31_1) ≥ (l0.length : Int))), (by first | rfl | (simp; done) | (simp [*]; done)), H', ⟨by have := HK1.out; first | omega | exact Nat.le_refl _⟩, ⟨by (with_reducible repeat (first | apply Kd.R_alloc | apply Kd.R_drewN | apply Kd.R_drew)); exact HO_10.out⟩, ⟨by (with_reducible repeat (first | refine blk_drewN ?_ _ | refine blk_drew ?_ | refine blk_alloc ?_ _)); exact BK383.out⟩, ⟨by repeat (first | (with_reducible first | exact HB.out | apply below_alloc | apply pw_below_drewN | apply below_drew1 | refine below_set ?_ GE383.out) | exact HB.out)⟩⟩
                case rest =>
                  clear HC14
                  try clear c1
                  try clear c2
                  try clear p2
                  try clear c3
                  try clear p3
                  try clear q3
                  try clear hx3
                  try clear c5
                  try clear c5b0
                  try clear c5b1
                  try clear c6
                  try clear c6b0
                  try clear c6b1
                  try clear c6b2
                  try clear c11
                  try clear c11b0
                  try clear c12
                  try clear c12b0
                  try clear c13
                  try clear c13b0
                  try clear c15
                  try clear c15b0
                  try clear hcz10_0
                  try clear hcz10_1
                  try clear hcz8_0
                  try clear hcz8_1
                  try clear hfz10_0
                  try clear hfz10_1
                  try clear hfz8_0
                  try clear hfz8_1
                  try clear hx386_0
                  try clear p2
                  try clear p386
                  try clear q386
                  obtain ⟨kq, x43_13, rfl, HA, HJ13, HO_10, BK383, HB⟩ := hcut
                  cases kq with
                  | zero => exact absurd HA.out (by simp [chain_Step.j1])
                  | succ kj13 =>
                    have H := HA.out
                    clear HA
                    simp only [chain_Step.j1] at H
                    by_cases c16 : x43_13 = true
                    · subst c16
                      have H1 : (some (([] : List Int), x31_1, 3)) = some (r1, r2, r3) := by rw [if_pos rfl] at H; exact H
                      clear H
                      have H := H1
                      clear H1
                      as_aux_lemma =>
                        simp only [Option.some.injEq, Prod.mk.injEq] at H
                        obtain ⟨rfl, rfl, rfl⟩ := H
                        go_wp2
                        go_ret3
                        exact ⟨_, by first | rfl | (simp [errW_none, errW_some] <;> rfl) | (simp [*, errW_none, errW_some] <;> rfl), by first | exact Kd.R_nil _ _ _ _ _ | exact Kd.N_nil _ _ _ _ _ | exact Kd.V_nil _ _ _ _ _ | exact Kd.Q_nil _ _ _ _ _ | exact Kd.S_nil _ _ _ _ _, by repeat (first | (with_reducible first | exact HB.out | apply below_alloc | apply pw_below_drewN | apply below_drew1 | refine below_set ?_ GE383.out) | exact HB.out)⟩
                    · replace c16 := Bool.eq_false_iff.mpr c16
                      subst c16
                      have H1 : (if x31_1 = 0 then (if 0 ≤ (rd l2_1 x31_1) then (if (rd l2_1 x31_1) < (l0.length : Int) then ((lit_Clean.f (rd_L3 l0 (rd l2_1 x31_1))).bind fun bt388 => (chain_Step.l0 kj13 l0 bt388.1 l2_1 (l2_1.length : Int) (wrap64 (x31_1 + 1)) l2_0 l2_1)) else (none)) else (none)) else (if 0 ≤ (rd l2_1 x31_1) then (if (rd l2_1 x31_1) < (l0.length : Int) then ((lit_Pivot.f kj13 x10_1 (rd_L3 l0 (rd l2_1 x31_1))).bind fun bt393 => (if bt393.2 = true then ((lit_Has.f kj13 x10_1 bt393.1).bind fun t395 => (if t395 = true then ((lit_Has.f kj13 (rd_L3 l0 (rd l2_1 x31_1)) (wrap64 (-bt393.1))).bind fun t397 => (chain_Step.j2 kj13 l0 x10_1 x31_1 (rd l2_1 x31_1) bt393.1 l2_1 (l2_1.length : Int) x31_1 (!t397) l2_0 l2_1)) else (chain_Step.j2 kj13 l0 x10_1 x31_1 (rd l2_1 x31_1) bt393.1 l2_1 (l2_1.length : Int) x31_1 true l2_0 l2_1))) else (some (([] : List Int), x31_1, 30)))) else (none)) else (none))) = some (r1, r2, r3) := by rw [if_neg (show ¬ (false = true) by decide)] at H; exact H
                      clear H
                      have H := H1
                      clear H1
                      by_cases c17 : x31_1 = 0
                      · rw [if_pos c17] at H
                        have c17b0 : (x31_1 == 0) = true := beq_iff_eq.mpr c17
                        have c17b1 : (x31_1 != 0) = false := bne_eq_false_iff_eq.mpr c17
                        clear c17
                        by_cases c18 : 0 ≤ (rd l2_1 x31_1)
                        · rw [if_pos c18] at H
                          have c18b0 : decide (0 ≤ (rd l2_1 x31_1)) = true := decide_eq_true c18
                          clear c18
                          by_cases c19 : (rd l2_1 x31_1) < (l0.length : Int)
                          · rw [if_pos c19] at H
                            have c19b0 : decide ((rd l2_1 x31_1) < (l0.length : Int)) = true := decide_eq_true c19
                            clear c19
                            replace H := Option.bind_eq_some_iff.mp H
                            obtain ⟨⟨t388, t389⟩, A200, H⟩ := H
                            replace H : (chain_Step.l0 kj13 l0 t388 l2_1 (l2_1.length : Int) (wrap64 (x31_1 + 1)) l2_0 l2_1) = some (r1, r2, r3) := H
                            have A20 := Aside0.mk A200
                            clear A200
                            as_aux_lemma =>
                              have H' := Aside0.mk H
                              clear H
                              have p387 : 0 ≤ ((rd l2_1 x31_1) : Int) := of_decide_eq_true (by first | (with_reducible assumption) | assumption)
                              have q387 : (rd l2_1 x31_1) < (l0.length : Int) := of_decide_eq_true (by first | (with_reducible assumption) | assumption)
                              obtain ⟨ad387, A387_0, c387_0, e387, hx387_0, hl387_0, hi387_0⟩ := at_L3 HR0.out (rd l2_1 x31_1) p387 q387
                              cases e387
                              replace hx387_0 := (HB.out.cell (World.block_lt_of_cell? w _ hx387_0)).trans hx387_0
                              have HR387_0 := Aside0.mk hi387_0
                              have HC387_0 := Aside0.mk hl387_0
                              clear hi387_0 hl387_0
                              replace p387 := eq_true p387
                              replace q387 := eq_true q387
                              go_wp2_with (first | ((with_reducible refine gate_callee (f := 17) rfl ?_); refine goesL_ (some 52) rfl rfl Try.func17 (by kernel_rfl) rfl #[.slice A387_0 (rd_L3 l0 (rd l2_1 x31_1)).length c387_0] rfl (by (try simp only [List.map_toArray, List.map_cons, List.map_nil]); first | done | rfl | (simp only [List.length_drop, List.length_take]; rfl)) ?_; (with_reducible refine (lit_Clean.calls _ _ (rd_L3 l0 (rd l2_1 x31_1)) t388 t389 _ ?side1 ?side2 A20.out).mono ?_); (case side1 => repeat (first | exact (Kd.C_below HR387_0.out HB.out) | (with_reducible refine Kd.C_alloc ?_ _) | (with_reducible refine Kd.C_drewN ?_ _) | (with_reducible refine Kd.C_drew ?_))); (case side2 => exact HC387_0.out); rintro e w21 ⟨v390, rfl, ho0, hb⟩; refine ⟨_, rfl, ?_⟩; have n0_ := Aside0.mk (Kd.R_elder' (by (with_reducible repeat (first | apply Kd.R_alloc | apply Kd.R_drewN | apply Kd.R_drew)); exact HO_10.out) (Kd.R_base ho0) hb); have n1_ := Aside0.mk (Kd.R_lower (Kd.R_new' ho0 (Kd.R_lt (by (with_reducible repeat (first | apply Kd.R_alloc | apply Kd.R_drewN | apply Kd.R_drew)); exact HO_10.out))) (below_size (by repeat (first | (with_reducible first | exact HB.out | apply below_alloc | apply pw_below_drewN | apply below_drew1 | refine below_set ?_ GE383.out) | exact HB.out)))); have n2_ := Aside0.mk (blk_below (g := gb383) (o := .cells #[.slice A2_0 l2_0.length c2_0, .slice (some ad386) l2_1.length c2_1] 43 (0, 0)) (by (with_reducible repeat (first | refine blk_drewN ?_ _ | refine blk_drew ?_ | refine blk_alloc ?_ _)); exact BK383.out) hb); have n3_ := Aside0.mk (below_step (by repeat (first | (with_reducible first | exact HB.out | apply below_alloc | apply pw_below_drewN | apply below_drew1 | refine below_set ?_ GE383.out) | exact HB.out)) hb); clear HO_10; clear BK383; clear HB; have HO_10 := n0_; have HO391 := n1_; have BK383 := n2_; have HB := n3_; clear n0_ n1_ n2_ n3_; (try clear hb); (try clear hb2); (try clear hk); (try clear hi); (try clear ho0)))
                              go_roundg kj13
                              case measure => have := HK1.out; have := HJ13.out; omega
                              case rel => exact ⟨(t388), (wrap64 (x31_1 + 1)), (by first | rfl | (simp; done) | (simp [*]; done)), H', ⟨by have := HK1.out; have := HJ13.out; omega⟩, ⟨by (with_reducible repeat (first | apply Kd.R_alloc | apply Kd.R_drewN | apply Kd.R_drew)); exact Kd.R_mono HO391.out (fun _ hk => trivial)⟩, ⟨by (with_reducible repeat (first | refine blk_drewN ?_ _ | refine blk_drew ?_ | refine blk_alloc ?_ _)); exact BK383.out⟩, ⟨by repeat (first | (with_reducible first | exact HB.out | apply below_alloc | apply pw_below_drewN | apply below_drew1 | refine below_set ?_ GE383.out) | exact HB.out)⟩⟩
                          · rw [if_neg c19] at H
                            exact absurd H (by simp)
                        · rw [if_neg c18] at H
                          exact absurd H (by simp)
                      · rw [if_neg c17] at H
                        have c17b0 : (x31_1 == 0) = false := beq_eq_false_iff_ne.mpr c17
                        have c17b1 : (x31_1 != 0) = true := bne_iff_ne.mpr c17
                        by_cases c22 : 0 ≤ (rd l2_1 x31_1)
                        · rw [if_pos c22] at H
                          have c22b0 : decide (0 ≤ (rd l2_1 x31_1)) = true := decide_eq_true c22
                          clear c22
                          by_cases c23 : (rd l2_1 x31_1) < (l0.length : Int)
                          · rw [if_pos c23] at H
                            have c23b0 : decide ((rd l2_1 x31_1) < (l0.length : Int)) = true := decide_eq_true c23
                            clear c23
                            replace H := Option.bind_eq_some_iff.mp H
                            obtain ⟨⟨t393, t394⟩, A240, H⟩ := H
                            replace H : (if t394 = true then ((lit_Has.f kj13 x10_1 t393).bind fun t395 => (if t395 = true then ((lit_Has.f kj13 (rd_L3 l0 (rd l2_1 x31_1)) (wrap64 (-t393))).bind fun t397 => (chain_Step.j2 kj13 l0 x10_1 x31_1 (rd l2_1 x31_1) t393 l2_1 (l2_1.length : Int) x31_1 (!t397) l2_0 l2_1)) else (chain_Step.j2 kj13 l0 x10_1 x31_1 (rd l2_1 x31_1) t393 l2_1 (l2_1.length : Int) x31_1 true l2_0 l2_1))) else (some (([] : List Int), x31_1, 30))) = some (r1, r2, r3) := H
                            have A24 := Aside0.mk A240
                            clear A240
                            by_cases c25 : t394 = true
                            · subst c25
                              have H1 : ((lit_Has.f kj13 x10_1 t393).bind fun t395 => (if t395 = true then ((lit_Has.f kj13 (rd_L3 l0 (rd l2_1 x31_1)) (wrap64 (-t393))).bind fun t397 => (chain_Step.j2 kj13 l0 x10_1 x31_1 (rd l2_1 x31_1) t393 l2_1 (l2_1.length : Int) x31_1 (!t397) l2_0 l2_1)) else (chain_Step.j2 kj13 l0 x10_1 x31_1 (rd l2_1 x31_1) t393 l2_1 (l2_1.length : Int) x31_1 true l2_0 l2_1))) = some (r1, r2, r3) := by rw [if_pos rfl] at H; exact H
                              clear H
                              have H := H1
                              clear H1
                              have HC26 := Aside0.mk H
                              clear H
                              have p392 : 0 ≤ ((rd l2_1 x31_1) : Int) := of_decide_eq_true (by first | (with_reducible assumption) | assumption)
                              have q392 : (rd l2_1 x31_1) < (l0.length : Int) := of_decide_eq_true (by first | (with_reducible assumption) | assumption)
                              obtain ⟨ad392, A392_0, c392_0, e392, hx392_0, hl392_0, hi392_0⟩ := at_L3 HR0.out (rd l2_1 x31_1) p392 q392
                              cases e392
                              replace hx392_0 := (HB.out.cell (World.block_lt_of_cell? w _ hx392_0)).trans hx392_0
                              have HR392_0 := Aside0.mk hi392_0
                              have HC392_0 := Aside0.mk hl392_0
                              clear hi392_0 hl392_0
                              replace p392 := eq_true p392
                              replace q392 := eq_true q392
                              obtain ⟨Ao27, co27, eo27⟩ := Kd.R_slice HO_10.out
                              subst eo27
                              go_upto_region 17 with (first | ((with_reducible refine gate_callee (f := 22) rfl ?_); refine goesL_ (some 61) rfl rfl Try.func22 (by kernel_rfl) rfl #[.slice Ao27 x10_1.length co27, .slice A392_0 (rd_L3 l0 (rd l2_1 x31_1)).length c392_0] rfl (by (try simp only [List.map_toArray, List.map_cons, List.map_nil]); first | done | rfl | (simp only [List.length_drop, List.length_take]; rfl)) ?_; (with_reducible refine (lit_Pivot.calls kj13 _ _ x10_1 _ _ (rd_L3 l0 (rd l2_1 x31_1)) t393 true _ ?side1 ?side2 ?side3 ?side4 A24.out).mono ?_); (case side1 => repeat (first | exact (Kd.R_reads' HO_10.out).2.2 | (with_reducible refine Kd.C_alloc ?_ _) | (with_reducible refine Kd.C_drewN ?_ _) | (with_reducible refine Kd.C_drew ?_))); (case side2 => exact (Kd.R_reads' HO_10.out).2.1); (case side3 => repeat (first | exact (Kd.C_below HR392_0.out HB.out) | (with_reducible refine Kd.C_alloc ?_ _) | (with_reducible refine Kd.C_drewN ?_ _) | (with_reducible refine Kd.C_drew ?_))); (case side4 => exact HC392_0.out); rintro e w' ⟨rfl, ⟨nd, rfl⟩⟩; refine ⟨_, rfl, ?_⟩))
                              (try simp only [Act.put, List.setIfInBounds_toArray, List.set_cons_zero, List.set_cons_succ])
                              go_cut [80] (fun v80 wc => ∃ (kq : Nat) (x80_25 : Bool), v80 = .bool x80_25 ∧ Aside0 (chain_Step.j2 kq l0 x10_1 x31_1 (rd l2_1 x31_1) t393 l2_1 (l2_1.length : Int) x31_1 x80_25 l2_0 l2_1 = some (r1, r2, r3)) ∧ Aside0 (kq ≤ kj13) ∧ Aside0 (Kd.R (Kd.int .i64) 3 wc w.heap.size (fun _ => True) (.slice Ao27 x10_1.length co27) x10_1) ∧ Aside0 (wc.heap[gb383]? = some (.cells #[(.slice A2_0 l2_0.length c2_0), (.slice (some ad386) l2_1.length c2_1)] 43 (0, 0))) ∧ Aside0 (Below w.heap.size w wc))
                              case first =>
                                have H := HC26.out
                                clear HC26
                                replace H := Option.bind_eq_some_iff.mp H
                                obtain ⟨t395, A280, H⟩ := H
                                replace H : (if t395 = true then ((lit_Has.f kj13 (rd_L3 l0 (rd l2_1 x31_1)) (wrap64 (-t393))).bind fun t397 => (chain_Step.j2 kj13 l0 x10_1 x31_1 (rd l2_1 x31_1) t393 l2_1 (l2_1.length : Int) x31_1 (!t397) l2_0 l2_1)) else (chain_Step.j2 kj13 l0 x10_1 x31_1 (rd l2_1 x31_1) t393 l2_1 (l2_1.length : Int) x31_1 true l2_0 l2_1)) = some (r1, r2, r3) := H
                                have A28 := Aside0.mk A280
                                clear A280
                                by_cases c29 : t395 = true
                                · subst c29
                                  have H1 : ((lit_Has.f kj13 (rd_L3 l0 (rd l2_1 x31_1)) (wrap64 (-t393))).bind fun t397 => (chain_Step.j2 kj13 l0 x10_1 x31_1 (rd l2_1 x31_1) t393 l2_1 (l2_1.length : Int) x31_1 (!t397) l2_0 l2_1)) = some (r1, r2, r3) := by rw [if_pos rfl] at H; exact H
                                  clear H
                                  have H := H1
                                  clear H1
                                  replace H := Option.bind_eq_some_iff.mp H
                                  obtain ⟨t397, A300, H⟩ := H
                                  replace H : (chain_Step.j2 kj13 l0 x10_1 x31_1 (rd l2_1 x31_1) t393 l2_1 (l2_1.length : Int) x31_1 (!t397) l2_0 l2_1) = some (r1, r2, r3) := H
                                  have A30 := Aside0.mk A300
                                  clear A300
                                  as_aux_lemma =>
                                    have H' := Aside0.mk H
                                    clear H
                                    go_wp2_with (first | ((with_reducible refine gate_callee (f := 15) rfl ?_); refine goesL_ (some 69) rfl rfl Try.func15 (by kernel_rfl) rfl #[.slice Ao27 x10_1.length co27, .int .i64 t393] rfl (by (try simp only [List.map_toArray, List.map_cons, List.map_nil]); first | done | rfl | (simp only [List.length_drop, List.length_take]; rfl)) ?_; (with_reducible refine (lit_Has.calls kj13 _ _ x10_1 t393 true _ ?side1 ?side2 A28.out).mono ?_); (case side1 => repeat (first | exact (Kd.R_reads' HO_10.out).2.2 | (with_reducible refine Kd.C_alloc ?_ _) | (with_reducible refine Kd.C_drewN ?_ _) | (with_reducible refine Kd.C_drew ?_))); (case side2 => exact (Kd.R_reads' HO_10.out).2.1); rintro e w' ⟨rfl, ⟨nd, rfl⟩⟩; refine ⟨_, rfl, ?_⟩; have p396 : 0 ≤ ((rd l2_1 x31_1) : Int) := of_decide_eq_true (by first | (with_reducible assumption) | assumption); have q396 : (rd l2_1 x31_1) < (l0.length : Int) := of_decide_eq_true (by first | (with_reducible assumption) | assumption); replace p396 := eq_true p396; replace q396 := eq_true q396) | (go_at_call 15; (with_reducible refine (lit_Has.calls kj13 _ _ (rd_L3 l0 (rd l2_1 x31_1)) (wrap64 (-t393)) t397 _ ?side1 ?side2 A30.out).mono ?_); (case side1 => repeat (first | exact (Kd.C_below HR392_0.out (by repeat (first | (with_reducible first | exact HB.out | apply below_alloc | apply pw_below_drewN | apply below_drew1 | refine below_set ?_ GE383.out) | exact HB.out))) | (with_reducible refine Kd.C_alloc ?_ _) | (with_reducible refine Kd.C_drewN ?_ _) | (with_reducible refine Kd.C_drew ?_))); (case side2 => exact HC392_0.out); rintro e w' ⟨rfl, ⟨nd, rfl⟩⟩))
                                    go_meet
                                    case rel => exact ⟨_, (!t397), (by first | rfl | (simp; done) | (simp [*]; done)), H', ⟨by have := HK1.out; have := HJ13.out; first | omega | exact Nat.le_refl _⟩, ⟨by (with_reducible repeat (first | apply Kd.R_alloc | apply Kd.R_drewN | apply Kd.R_drew)); exact HO_10.out⟩, ⟨by (with_reducible repeat (first | refine blk_drewN ?_ _ | refine blk_drew ?_ | refine blk_alloc ?_ _)); exact BK383.out⟩, ⟨by repeat (first | (with_reducible first | exact HB.out | apply below_alloc | apply pw_below_drewN | apply below_drew1 | refine below_set ?_ GE383.out) | exact HB.out)⟩⟩
                                · replace c29 := Bool.eq_false_iff.mpr c29
                                  subst c29
                                  have H1 : (chain_Step.j2 kj13 l0 x10_1 x31_1 (rd l2_1 x31_1) t393 l2_1 (l2_1.length : Int) x31_1 true l2_0 l2_1) = some (r1, r2, r3) := by rw [if_neg (show ¬ (false = true) by decide)] at H; exact H
                                  clear H
                                  have H := H1
                                  clear H1
                                  as_aux_lemma =>
                                    have H' := Aside0.mk H
                                    clear H
                                    go_wp2_with (first | ((with_reducible refine gate_callee (f := 15) rfl ?_); refine goesL_ (some 69) rfl rfl Try.func15 (by kernel_rfl) rfl #[.slice Ao27 x10_1.length co27, .int .i64 t393] rfl (by (try simp only [List.map_toArray, List.map_cons, List.map_nil]); first | done | rfl | (simp only [List.length_drop, List.length_take]; rfl)) ?_; (with_reducible refine (lit_Has.calls kj13 _ _ x10_1 t393 false _ ?side1 ?side2 A28.out).mono ?_); (case side1 => repeat (first | exact (Kd.R_reads' HO_10.out).2.2 | (with_reducible refine Kd.C_alloc ?_ _) | (with_reducible refine Kd.C_drewN ?_ _) | (with_reducible refine Kd.C_drew ?_))); (case side2 => exact (Kd.R_reads' HO_10.out).2.1); rintro e w' ⟨rfl, ⟨nd, rfl⟩⟩; refine ⟨_, rfl, ?_⟩))
                                    go_meet
                                    case rel => exact ⟨_, (true), (by first | rfl | (simp; done) | (simp [*]; done)), H', ⟨by have := HK1.out; have := HJ13.out; first | omega | exact Nat.le_refl _⟩, ⟨by (with_reducible repeat (first | apply Kd.R_alloc | apply Kd.R_drewN | apply Kd.R_drew)); exact HO_10.out⟩, ⟨by (with_reducible repeat (first | refine blk_drewN ?_ _ | refine blk_drew ?_ | refine blk_alloc ?_ _)); exact BK383.out⟩, ⟨by repeat (first | (with_reducible first | exact HB.out | apply below_alloc | apply pw_below_drewN | apply below_drew1 | refine below_set ?_ GE383.out) | exact HB.out)⟩⟩
                              case rest =>
                                clear HC26
                                try clear c1
                                try clear c2
                                try clear p2
                                try clear c3
                                try clear p3
                                try clear q3
                                try clear hx3
                                try clear c5
                                try clear c5b0
                                try clear c5b1
                                try clear c6
                                try clear c6b0
                                try clear c6b1
                                try clear c6b2
                                try clear p6
                                try clear c11
                                try clear c11b0
                                try clear c12
                                try clear c12b0
                                try clear c13
                                try clear c13b0
                                try clear c15
                                try clear c15b0
                                try clear c16
                                try clear c17
                                try clear c17b0
                                try clear c17b1
                                try clear c18
                                try clear c18b0
                                try clear c19
                                try clear c19b0
                                try clear c22
                                try clear c22b0
                                try clear c23
                                try clear c23b0
                                try clear c25
                                try clear c29
                                try clear hcz10_0
                                try clear hcz10_1
                                try clear hcz8_0
                                try clear hcz8_1
                                try clear hfz10_0
                                try clear hfz10_1
                                try clear hfz8_0
                                try clear hfz8_1
                                try clear hx386_0
                                try clear hx387_0
                                try clear hx392_0
                                try clear hx396_0
                                try clear p2
                                try clear p3
                                try clear p386
                                try clear p387
                                try clear p392
                                try clear p396
                                try clear q3
                                try clear q386
                                try clear q387
                                try clear q392
                                try clear q396
                                obtain ⟨kq, x80_25, rfl, HA, HJ25, HO_10, BK383, HB⟩ := hcut
                                cases kq with
                                | zero => exact absurd HA.out (by simp [chain_Step.j2])
                                | succ kj25 =>
                                  have H := HA.out
                                  clear HA
                                  simp only [chain_Step.j2] at H
                                  by_cases c31 : x80_25 = true
                                  · subst c31
                                    have H1 : (if 0 ≤ (rd l2_1 x31_1) then (if (rd l2_1 x31_1) < (l0.length : Int) then ((lit_Resolve.f kj25 x10_1 (rd_L3 l0 (rd l2_1 x31_1)) (wrap64 (-t393))).bind fun bt399 => (if bt399.2 = 0 then (chain_Step.l0 kj25 l0 bt399.1 l2_1 (l2_1.length : Int) (wrap64 (x31_1 + 1)) l2_0 l2_1) else (some (([] : List Int), x31_1, 30)))) else (none)) else (none)) = some (r1, r2, r3) := by rw [if_pos rfl] at H; exact H
                                    clear H
                                    have H := H1
                                    clear H1
                                    by_cases c32 : 0 ≤ (rd l2_1 x31_1)
                                    · rw [if_pos c32] at H
                                      have c32b0 : decide (0 ≤ (rd l2_1 x31_1)) = true := decide_eq_true c32
                                      clear c32
                                      by_cases c33 : (rd l2_1 x31_1) < (l0.length : Int)
                                      · rw [if_pos c33] at H
                                        have c33b0 : decide ((rd l2_1 x31_1) < (l0.length : Int)) = true := decide_eq_true c33
                                        clear c33
                                        replace H := Option.bind_eq_some_iff.mp H
                                        obtain ⟨⟨t399, t400⟩, A340, H⟩ := H
                                        replace H : (if t400 = 0 then (chain_Step.l0 kj25 l0 t399 l2_1 (l2_1.length : Int) (wrap64 (x31_1 + 1)) l2_0 l2_1) else (some (([] : List Int), x31_1, 30))) = some (r1, r2, r3) := H
                                        have A34 := Aside0.mk A340
                                        clear A340
                                        by_cases c35 : t400 = 0
                                        · rw [if_pos c35] at H
                                          have c35b0 : (t400 == 0) = true := beq_iff_eq.mpr c35
                                          have c35b1 : (t400 != 0) = false := bne_eq_false_iff_eq.mpr c35
                                          clear c35
                                          as_aux_lemma =>
                                            have H' := Aside0.mk H
                                            clear H
                                            have p398 : 0 ≤ ((rd l2_1 x31_1) : Int) := of_decide_eq_true (by first | (with_reducible assumption) | assumption)
                                            have q398 : (rd l2_1 x31_1) < (l0.length : Int) := of_decide_eq_true (by first | (with_reducible assumption) | assumption)
                                            obtain ⟨ad398, A398_0, c398_0, e398, hx398_0, hl398_0, hi398_0⟩ := at_L3 HR0.out (rd l2_1 x31_1) p398 q398
                                            obtain rfl : ad392 = ad398 := (by injection e398)
                                            replace hx398_0 := (HB.out.cell (World.block_lt_of_cell? w _ hx398_0)).trans hx398_0
                                            have HR398_0 := Aside0.mk hi398_0
                                            have HC398_0 := Aside0.mk hl398_0
                                            clear hi398_0 hl398_0
                                            replace p398 := eq_true p398
                                            replace q398 := eq_true q398
                                            go_wp2_with (first | ((with_reducible refine gate_callee (f := 14) rfl ?_); refine goesL_ (some 90) rfl rfl Try.func14 (by kernel_rfl) rfl #[.slice Ao27 x10_1.length co27, .slice A398_0 (rd_L3 l0 (rd l2_1 x31_1)).length c398_0, .int .i64 (wrap64 (-t393))] rfl (by (try simp only [List.map_toArray, List.map_cons, List.map_nil]); first | done | rfl | (simp only [List.length_drop, List.length_take]; rfl)) ?_; (with_reducible refine (lit_Resolve.calls kj25 _ _ x10_1 _ _ (rd_L3 l0 (rd l2_1 x31_1)) (wrap64 (-t393)) t399 t400 _ ?side1 ?side2 ?side3 ?side4 A34.out).mono ?_); (case side1 => repeat (first | exact (Kd.R_reads' HO_10.out).2.2 | (with_reducible refine Kd.C_alloc ?_ _) | (with_reducible refine Kd.C_drewN ?_ _) | (with_reducible refine Kd.C_drew ?_))); (case side2 => exact (Kd.R_reads' HO_10.out).2.1); (case side3 => repeat (first | exact (Kd.C_below HR398_0.out HB.out) | (with_reducible refine Kd.C_alloc ?_ _) | (with_reducible refine Kd.C_drewN ?_ _) | (with_reducible refine Kd.C_drew ?_))); (case side4 => exact HC398_0.out); rintro e w36 ⟨v401, rfl, ho0, hb⟩; refine ⟨_, rfl, ?_⟩; have n0_ := Aside0.mk (Kd.R_elder' (by (with_reducible repeat (first | apply Kd.R_alloc | apply Kd.R_drewN | apply Kd.R_drew)); exact HO_10.out) (Kd.R_base ho0) hb); have n1_ := Aside0.mk (Kd.R_lower (Kd.R_new' ho0 (Kd.R_lt (by (with_reducible repeat (first | apply Kd.R_alloc | apply Kd.R_drewN | apply Kd.R_drew)); exact HO_10.out))) (below_size (by repeat (first | (with_reducible first | exact HB.out | apply below_alloc | apply pw_below_drewN | apply below_drew1 | refine below_set ?_ GE383.out) | exact HB.out)))); have n2_ := Aside0.mk (blk_below (g := gb383) (o := .cells #[.slice A2_0 l2_0.length c2_0, .slice (some ad386) l2_1.length c2_1] 43 (0, 0)) (by (with_reducible repeat (first | refine blk_drewN ?_ _ | refine blk_drew ?_ | refine blk_alloc ?_ _)); exact BK383.out) hb); have n3_ := Aside0.mk (below_step (by repeat (first | (with_reducible first | exact HB.out | apply below_alloc | apply pw_below_drewN | apply below_drew1 | refine below_set ?_ GE383.out) | exact HB.out)) hb); clear HO_10; clear BK383; clear HB; have HO_10 := n0_; have HO402 := n1_; have BK383 := n2_; have HB := n3_; clear n0_ n1_ n2_ n3_; (try clear hb); (try clear hb2); (try clear hk); (try clear hi); (try clear ho0)))
                                            go_roundg kj25
                                            case measure => have := HK1.out; have := HJ13.out; have := HJ25.out; omega
                                            case rel => exact ⟨(t399), (wrap64 (x31_1 + 1)), (by first | rfl | (simp; done) | (simp [*]; done)), H', ⟨by have := HK1.out; have := HJ13.out; have := HJ25.out; omega⟩, ⟨by (with_reducible repeat (first | apply Kd.R_alloc | apply Kd.R_drewN | apply Kd.R_drew)); exact Kd.R_mono HO402.out (fun _ hk => trivial)⟩, ⟨by (with_reducible repeat (first | refine blk_drewN ?_ _ | refine blk_drew ?_ | refine blk_alloc ?_ _)); exact BK383.out⟩, ⟨by repeat (first | (with_reducible first | exact HB.out | apply below_alloc | apply pw_below_drewN | apply below_drew1 | refine below_set ?_ GE383.out) | exact HB.out)⟩⟩
                                        · rw [if_neg c35] at H
                                          have c35b0 : (t400 == 0) = false := beq_eq_false_iff_ne.mpr c35
                                          have c35b1 : (t400 != 0) = true := bne_iff_ne.mpr c35
                                          as_aux_lemma =>
                                            simp only [Option.some.injEq, Prod.mk.injEq] at H
                                            obtain ⟨rfl, rfl, rfl⟩ := H
                                            have p398 : 0 ≤ ((rd l2_1 x31_1) : Int) := of_decide_eq_true (by first | (with_reducible assumption) | assumption)
                                            have q398 : (rd l2_1 x31_1) < (l0.length : Int) := of_decide_eq_true (by first | (with_reducible assumption) | assumption)
                                            obtain ⟨ad398, A398_0, c398_0, e398, hx398_0, hl398_0, hi398_0⟩ := at_L3 HR0.out (rd l2_1 x31_1) p398 q398
                                            obtain rfl : ad392 = ad398 := (by injection e398)
                                            replace hx398_0 := (HB.out.cell (World.block_lt_of_cell? w _ hx398_0)).trans hx398_0
                                            have HR398_0 := Aside0.mk hi398_0
                                            have HC398_0 := Aside0.mk hl398_0
                                            clear hi398_0 hl398_0
                                            replace p398 := eq_true p398
                                            replace q398 := eq_true q398
                                            go_wp2_with (first | ((with_reducible refine gate_callee (f := 14) rfl ?_); refine goesL_ (some 90) rfl rfl Try.func14 (by kernel_rfl) rfl #[.slice Ao27 x10_1.length co27, .slice A398_0 (rd_L3 l0 (rd l2_1 x31_1)).length c398_0, .int .i64 (wrap64 (-t393))] rfl (by (try simp only [List.map_toArray, List.map_cons, List.map_nil]); first | done | rfl | (simp only [List.length_drop, List.length_take]; rfl)) ?_; (with_reducible refine (lit_Resolve.calls kj25 _ _ x10_1 _ _ (rd_L3 l0 (rd l2_1 x31_1)) (wrap64 (-t393)) t399 t400 _ ?side1 ?side2 ?side3 ?side4 A34.out).mono ?_); (case side1 => repeat (first | exact (Kd.R_reads' HO_10.out).2.2 | (with_reducible refine Kd.C_alloc ?_ _) | (with_reducible refine Kd.C_drewN ?_ _) | (with_reducible refine Kd.C_drew ?_))); (case side2 => exact (Kd.R_reads' HO_10.out).2.1); (case side3 => repeat (first | exact (Kd.C_below HR398_0.out HB.out) | (with_reducible refine Kd.C_alloc ?_ _) | (with_reducible refine Kd.C_drewN ?_ _) | (with_reducible refine Kd.C_drew ?_))); (case side4 => exact HC398_0.out); rintro e w37 ⟨v401, rfl, ho0, hb⟩; refine ⟨_, rfl, ?_⟩; have n0_ := Aside0.mk (Kd.R_elder' (by (with_reducible repeat (first | apply Kd.R_alloc | apply Kd.R_drewN | apply Kd.R_drew)); exact HO_10.out) (Kd.R_base ho0) hb); have n1_ := Aside0.mk (Kd.R_lower (Kd.R_new' ho0 (Kd.R_lt (by (with_reducible repeat (first | apply Kd.R_alloc | apply Kd.R_drewN | apply Kd.R_drew)); exact HO_10.out))) (below_size (by repeat (first | (with_reducible first | exact HB.out | apply below_alloc | apply pw_below_drewN | apply below_drew1 | refine below_set ?_ GE383.out) | exact HB.out)))); have n2_ := Aside0.mk (blk_below (g := gb383) (o := .cells #[.slice A2_0 l2_0.length c2_0, .slice (some ad386) l2_1.length c2_1] 43 (0, 0)) (by (with_reducible repeat (first | refine blk_drewN ?_ _ | refine blk_drew ?_ | refine blk_alloc ?_ _)); exact BK383.out) hb); have n3_ := Aside0.mk (below_step (by repeat (first | (with_reducible first | exact HB.out | apply below_alloc | apply pw_below_drewN | apply below_drew1 | refine below_set ?_ GE383.out) | exact HB.out)) hb); clear HO_10; clear BK383; clear HB; have HO_10 := n0_; have HO402 := n1_; have BK383 := n2_; have HB := n3_; clear n0_ n1_ n2_ n3_; (try clear hb); (try clear hb2); (try clear hk); (try clear hi); (try clear ho0)))
                                            go_ret3
                                            exact ⟨_, by first | rfl | (simp [errW_none, errW_some] <;> rfl) | (simp [*, errW_none, errW_some] <;> rfl), by first | exact Kd.R_nil _ _ _ _ _ | exact Kd.N_nil _ _ _ _ _ | exact Kd.V_nil _ _ _ _ _ | exact Kd.Q_nil _ _ _ _ _ | exact Kd.S_nil _ _ _ _ _, by repeat (first | (with_reducible first | exact HB.out | apply below_alloc | apply pw_below_drewN | apply below_drew1 | refine below_set ?_ GE383.out) | exact HB.out)⟩
                                      · rw [if_neg c33] at H
                                        exact absurd H (by simp)
                                    · rw [if_neg c32] at H
                                      exact absurd H (by simp)
                                  · replace c31 := Bool.eq_false_iff.mpr c31
                                    subst c31
                                    have H1 : (if 0 ≤ (rd l2_1 x31_1) then (if (rd l2_1 x31_1) < (l0.length : Int) then ((lit_Resolve.f kj25 x10_1 (rd_L3 l0 (rd l2_1 x31_1)) t393).bind fun bt404 => (if bt404.2 = 0 then (chain_Step.l0 kj25 l0 bt404.1 l2_1 (l2_1.length : Int) (wrap64 (x31_1 + 1)) l2_0 l2_1) else (some (([] : List Int), x31_1, 30)))) else (none)) else (none)) = some (r1, r2, r3) := by rw [if_neg (show ¬ (false = true) by decide)] at H; exact H
                                    clear H
                                    have H := H1
                                    clear H1
                                    by_cases c38 : 0 ≤ (rd l2_1 x31_1)
                                    · rw [if_pos c38] at H
                                      have c38b0 : decide (0 ≤ (rd l2_1 x31_1)) = true := decide_eq_true c38
                                      clear c38
                                      by_cases c39 : (rd l2_1 x31_1) < (l0.length : Int)
                                      · rw [if_pos c39] at H
                                        have c39b0 : decide ((rd l2_1 x31_1) < (l0.length : Int)) = true := decide_eq_true c39
                                        clear c39
                                        replace H := Option.bind_eq_some_iff.mp H
                                        obtain ⟨⟨t404, t405⟩, A400, H⟩ := H
                                        replace H : (if t405 = 0 then (chain_Step.l0 kj25 l0 t404 l2_1 (l2_1.length : Int) (wrap64 (x31_1 + 1)) l2_0 l2_1) else (some (([] : List Int), x31_1, 30))) = some (r1, r2, r3) := H
                                        have A40 := Aside0.mk A400
                                        clear A400
                                        by_cases c41 : t405 = 0
                                        · rw [if_pos c41] at H
                                          have c41b0 : (t405 == 0) = true := beq_iff_eq.mpr c41
                                          have c41b1 : (t405 != 0) = false := bne_eq_false_iff_eq.mpr c41
                                          clear c41
                                          as_aux_lemma =>
                                            have H' := Aside0.mk H
                                            clear H
                                            have p403 : 0 ≤ ((rd l2_1 x31_1) : Int) := of_decide_eq_true (by first | (with_reducible assumption) | assumption)
                                            have q403 : (rd l2_1 x31_1) < (l0.length : Int) := of_decide_eq_true (by first | (with_reducible assumption) | assumption)
                                            obtain ⟨ad403, A403_0, c403_0, e403, hx403_0, hl403_0, hi403_0⟩ := at_L3 HR0.out (rd l2_1 x31_1) p403 q403
                                            obtain rfl : ad392 = ad403 := (by injection e403)
                                            replace hx403_0 := (HB.out.cell (World.block_lt_of_cell? w _ hx403_0)).trans hx403_0
                                            have HR403_0 := Aside0.mk hi403_0
                                            have HC403_0 := Aside0.mk hl403_0
                                            clear hi403_0 hl403_0
                                            replace p403 := eq_true p403
                                            replace q403 := eq_true q403
                                            go_wp2_with (first | ((with_reducible refine gate_callee (f := 14) rfl ?_); refine goesL_ (some 90) rfl rfl Try.func14 (by kernel_rfl) rfl #[.slice Ao27 x10_1.length co27, .slice A403_0 (rd_L3 l0 (rd l2_1 x31_1)).length c403_0, .int .i64 t393] rfl (by (try simp only [List.map_toArray, List.map_cons, List.map_nil]); first | done | rfl | (simp only [List.length_drop, List.length_take]; rfl)) ?_; (with_reducible refine (lit_Resolve.calls kj25 _ _ x10_1 _ _ (rd_L3 l0 (rd l2_1 x31_1)) t393 t404 t405 _ ?side1 ?side2 ?side3 ?side4 A40.out).mono ?_); (case side1 => repeat (first | exact (Kd.R_reads' HO_10.out).2.2 | (with_reducible refine Kd.C_alloc ?_ _) | (with_reducible refine Kd.C_drewN ?_ _) | (with_reducible refine Kd.C_drew ?_))); (case side2 => exact (Kd.R_reads' HO_10.out).2.1); (case side3 => repeat (first | exact (Kd.C_below HR403_0.out HB.out) | (with_reducible refine Kd.C_alloc ?_ _) | (with_reducible refine Kd.C_drewN ?_ _) | (with_reducible refine Kd.C_drew ?_))); (case side4 => exact HC403_0.out); rintro e w42 ⟨v406, rfl, ho0, hb⟩; refine ⟨_, rfl, ?_⟩; have n0_ := Aside0.mk (Kd.R_elder' (by (with_reducible repeat (first | apply Kd.R_alloc | apply Kd.R_drewN | apply Kd.R_drew)); exact HO_10.out) (Kd.R_base ho0) hb); have n1_ := Aside0.mk (Kd.R_lower (Kd.R_new' ho0 (Kd.R_lt (by (with_reducible repeat (first | apply Kd.R_alloc | apply Kd.R_drewN | apply Kd.R_drew)); exact HO_10.out))) (below_size (by repeat (first | (with_reducible first | exact HB.out | apply below_alloc | apply pw_below_drewN | apply below_drew1 | refine below_set ?_ GE383.out) | exact HB.out)))); have n2_ := Aside0.mk (blk_below (g := gb383) (o := .cells #[.slice A2_0 l2_0.length c2_0, .slice (some ad386) l2_1.length c2_1] 43 (0, 0)) (by (with_reducible repeat (first | refine blk_drewN ?_ _ | refine blk_drew ?_ | refine blk_alloc ?_ _)); exact BK383.out) hb); have n3_ := Aside0.mk (below_step (by repeat (first | (with_reducible first | exact HB.out | apply below_alloc | apply pw_below_drewN | apply below_drew1 | refine below_set ?_ GE383.out) | exact HB.out)) hb); clear HO_10; clear BK383; clear HB; have HO_10 := n0_; have HO407 := n1_; have BK383 := n2_; have HB := n3_; clear n0_ n1_ n2_ n3_; (try clear hb); (try clear hb2); (try clear hk); (try clear hi); (try clear ho0)))
                                            go_roundg kj25
                                            case measure => have := HK1.out; have := HJ13.out; have := HJ25.out; omega
                                            case rel => exact ⟨(t404), (wrap64 (x31_1 + 1)), (by first | rfl | (simp; done) | (simp [*]; done)), H', ⟨by have := HK1.out; have := HJ13.out; have := HJ25.out; omega⟩, ⟨by (with_reducible repeat (first | apply Kd.R_alloc | apply Kd.R_drewN | apply Kd.R_drew)); exact Kd.R_mono HO407.out (fun _ hk => trivial)⟩, ⟨by (with_reducible repeat (first | refine blk_drewN ?_ _ | refine blk_drew ?_ | refine blk_alloc ?_ _)); exact BK383.out⟩, ⟨by repeat (first | (with_reducible first | exact HB.out | apply below_alloc | apply pw_below_drewN | apply below_drew1 | refine below_set ?_ GE383.out) | exact HB.out)⟩⟩
                                        · rw [if_neg c41] at H
                                          have c41b0 : (t405 == 0) = false := beq_eq_false_iff_ne.mpr c41
                                          have c41b1 : (t405 != 0) = true := bne_iff_ne.mpr c41
                                          as_aux_lemma =>
                                            simp only [Option.some.injEq, Prod.mk.injEq] at H
                                            obtain ⟨rfl, rfl, rfl⟩ := H
                                            have p403 : 0 ≤ ((rd l2_1 x31_1) : Int) := of_decide_eq_true (by first | (with_reducible assumption) | assumption)
                                            have q403 : (rd l2_1 x31_1) < (l0.length : Int) := of_decide_eq_true (by first | (with_reducible assumption) | assumption)
                                            obtain ⟨ad403, A403_0, c403_0, e403, hx403_0, hl403_0, hi403_0⟩ := at_L3 HR0.out (rd l2_1 x31_1) p403 q403
                                            obtain rfl : ad392 = ad403 := (by injection e403)
                                            replace hx403_0 := (HB.out.cell (World.block_lt_of_cell? w _ hx403_0)).trans hx403_0
                                            have HR403_0 := Aside0.mk hi403_0
                                            have HC403_0 := Aside0.mk hl403_0
                                            clear hi403_0 hl403_0
                                            replace p403 := eq_true p403
                                            replace q403 := eq_true q403
                                            go_wp2_with (first | ((with_reducible refine gate_callee (f := 14) rfl ?_); refine goesL_ (some 90) rfl rfl Try.func14 (by kernel_rfl) rfl #[.slice Ao27 x10_1.length co27, .slice A403_0 (rd_L3 l0 (rd l2_1 x31_1)).length c403_0, .int .i64 t393] rfl (by (try simp only [List.map_toArray, List.map_cons, List.map_nil]); first | done | rfl | (simp only [List.length_drop, List.length_take]; rfl)) ?_; (with_reducible refine (lit_Resolve.calls kj25 _ _ x10_1 _ _ (rd_L3 l0 (rd l2_1 x31_1)) t393 t404 t405 _ ?side1 ?side2 ?side3 ?side4 A40.out).mono ?_); (case side1 => repeat (first | exact (Kd.R_reads' HO_10.out).2.2 | (with_reducible refine Kd.C_alloc ?_ _) | (with_reducible refine Kd.C_drewN ?_ _) | (with_reducible refine Kd.C_drew ?_))); (case side2 => exact (Kd.R_reads' HO_10.out).2.1); (case side3 => repeat (first | exact (Kd.C_below HR403_0.out HB.out) | (with_reducible refine Kd.C_alloc ?_ _) | (with_reducible refine Kd.C_drewN ?_ _) | (with_reducible refine Kd.C_drew ?_))); (case side4 => exact HC403_0.out); rintro e w43 ⟨v406, rfl, ho0, hb⟩; refine ⟨_, rfl, ?_⟩; have n0_ := Aside0.mk (Kd.R_elder' (by (with_reducible repeat (first | apply Kd.R_alloc | apply Kd.R_drewN | apply Kd.R_drew)); exact HO_10.out) (Kd.R_base ho0) hb); have n1_ := Aside0.mk (Kd.R_lower (Kd.R_new' ho0 (Kd.R_lt (by (with_reducible repeat (first | apply Kd.R_alloc | apply Kd.R_drewN | apply Kd.R_drew)); exact HO_10.out))) (below_size (by repeat (first | (with_reducible first | exact HB.out | apply below_alloc | apply pw_below_drewN | apply below_drew1 | refine below_set ?_ GE383.out) | exact HB.out)))); have n2_ := Aside0.mk (blk_below (g := gb383) (o := .cells #[.slice A2_0 l2_0.length c2_0, .slice (some ad386) l2_1.length c2_1] 43 (0, 0)) (by (with_reducible repeat (first | refine blk_drewN ?_ _ | refine blk_drew ?_ | refine blk_alloc ?_ _)); exact BK383.out) hb); have n3_ := Aside0.mk (below_step (by repeat (first | (with_reducible first | exact HB.out | apply below_alloc | apply pw_below_drewN | apply below_drew1 | refine below_set ?_ GE383.out) | exact HB.out)) hb); clear HO_10; clear BK383; clear HB; have HO_10 := n0_; have HO407 := n1_; have BK383 := n2_; have HB := n3_; clear n0_ n1_ n2_ n3_; (try clear hb); (try clear hb2); (try clear hk); (try clear hi); (try clear ho0)))
                                            go_ret3
                                            exact ⟨_, by first | rfl | (simp [errW_none, errW_some] <;> rfl) | (simp [*, errW_none, errW_some] <;> rfl), by first | exact Kd.R_nil _ _ _ _ _ | exact Kd.N_nil _ _ _ _ _ | exact Kd.V_nil _ _ _ _ _ | exact Kd.Q_nil _ _ _ _ _ | exact Kd.S_nil _ _ _ _ _, by repeat (first | (with_reducible first | exact HB.out | apply below_alloc | apply pw_below_drewN | apply below_drew1 | refine below_set ?_ GE383.out) | exact HB.out)⟩
                                      · rw [if_neg c39] at H
                                        exact absurd H (by simp)
                                    · rw [if_neg c38] at H
                                      exact absurd H (by simp)
                            · replace c25 := Bool.eq_false_iff.mpr c25
                              subst c25
                              have H1 : (some (([] : List Int), x31_1, 30)) = some (r1, r2, r3) := by rw [if_neg (show ¬ (false = true) by decide)] at H; exact H
                              clear H
                              have H := H1
                              clear H1
                              as_aux_lemma =>
                                simp only [Option.some.injEq, Prod.mk.injEq] at H
                                obtain ⟨rfl, rfl, rfl⟩ := H
                                have p392 : 0 ≤ ((rd l2_1 x31_1) : Int) := of_decide_eq_true (by first | (with_reducible assumption) | assumption)
                                have q392 : (rd l2_1 x31_1) < (l0.length : Int) := of_decide_eq_true (by first | (with_reducible assumption) | assumption)
                                obtain ⟨ad392, A392_0, c392_0, e392, hx392_0, hl392_0, hi392_0⟩ := at_L3 HR0.out (rd l2_1 x31_1) p392 q392
                                cases e392
                                replace hx392_0 := (HB.out.cell (World.block_lt_of_cell? w _ hx392_0)).trans hx392_0
                                have HR392_0 := Aside0.mk hi392_0
                                have HC392_0 := Aside0.mk hl392_0
                                clear hi392_0 hl392_0
                                replace p392 := eq_true p392
                                replace q392 := eq_true q392
                                obtain ⟨Ao44, co44, eo44⟩ := Kd.R_slice HO_10.out
                                subst eo44
                                go_wp2_with (first | ((with_reducible refine gate_callee (f := 22) rfl ?_); refine goesL_ (some 61) rfl rfl Try.func22 (by kernel_rfl) rfl #[.slice Ao44 x10_1.length co44, .slice A392_0 (rd_L3 l0 (rd l2_1 x31_1)).length c392_0] rfl (by (try simp only [List.map_toArray, List.map_cons, List.map_nil]); first | done | rfl | (simp only [List.length_drop, List.length_take]; rfl)) ?_; (with_reducible refine (lit_Pivot.calls kj13 _ _ x10_1 _ _ (rd_L3 l0 (rd l2_1 x31_1)) t393 false _ ?side1 ?side2 ?side3 ?side4 A24.out).mono ?_); (case side1 => repeat (first | exact (Kd.R_reads' HO_10.out).2.2 | (with_reducible refine Kd.C_alloc ?_ _) | (with_reducible refine Kd.C_drewN ?_ _) | (with_reducible refine Kd.C_drew ?_))); (case side2 => exact (Kd.R_reads' HO_10.out).2.1); (case side3 => repeat (first | exact (Kd.C_below HR392_0.out HB.out) | (with_reducible refine Kd.C_alloc ?_ _) | (with_reducible refine Kd.C_drewN ?_ _) | (with_reducible refine Kd.C_drew ?_))); (case side4 => exact HC392_0.out); rintro e w' ⟨rfl, ⟨nd, rfl⟩⟩; refine ⟨_, rfl, ?_⟩))
                                go_ret3
                                exact ⟨_, by first | rfl | (simp [errW_none, errW_some] <;> rfl) | (simp [*, errW_none, errW_some] <;> rfl), by first | exact Kd.R_nil _ _ _ _ _ | exact Kd.N_nil _ _ _ _ _ | exact Kd.V_nil _ _ _ _ _ | exact Kd.Q_nil _ _ _ _ _ | exact Kd.S_nil _ _ _ _ _, by repeat (first | (with_reducible first | exact HB.out | apply below_alloc | apply pw_below_drewN | apply below_drew1 | refine below_set ?_ GE383.out) | exact HB.out)⟩
                          · rw [if_neg c23] at H
                            exact absurd H (by simp)
                        · rw [if_neg c22] at H
                          exact absurd H (by simp)
              · rw [if_neg c13] at H
                exact absurd H (by simp)
            · rw [if_neg c12] at H
              exact absurd H (by simp)
          · rw [if_neg c11] at H
            have c11b0 : decide (x31_1 < (l2_1.length : Int)) = false := decide_eq_false c11
            clear c11
            replace H := Option.bind_eq_some_iff.mp H
            obtain ⟨t385, A450, H⟩ := H
            replace H : (if t385 = true then (some (x10_1, 0, 0)) else (some (([] : List Int), 0, 30))) = some (r1, r2, r3) := H
            have A45 := Aside0.mk A450
            clear A450
            by_cases c46 : t385 = true
            · subst c46
              have H1 : (some (x10_1, 0, 0)) = some (r1, r2, r3) := by rw [if_pos rfl] at H; exact H
              clear H
              have H := H1
              clear H1
              as_aux_lemma =>
                simp only [Option.some.injEq, Prod.mk.injEq] at H
                obtain ⟨rfl, rfl, rfl⟩ := H
                have hcz47_0 : wr.cell? ⟨gb383, 0, none⟩ = some (.slice A2_0 l2_0.length c2_0) := (blk_cell BK383.out 0).trans rfl
                have hcz47_1 : wr.cell? ⟨gb383, 1, none⟩ = some (.slice A2_1 l2_1.length c2_1) := (blk_cell BK383.out 1).trans rfl
                have hfz47_0 := blk_frozen BK383.out 0
                have hfz47_1 := blk_frozen BK383.out 1
                obtain ⟨Ao48, co48, eo48⟩ := Kd.R_slice HO_10.out
                subst eo48
                go_wp2_with (first | ((with_reducible refine gate_callee (f := 27) rfl ?_); refine goesL_ (some 101) rfl rfl Try.func27 (by kernel_rfl) rfl #[.slice Ao48 x10_1.length co48, .slice A2_0 l2_0.length c2_0] rfl (by (try simp only [List.map_toArray, List.map_cons, List.map_nil]); first | done | rfl | (simp only [List.length_drop, List.length_take]; rfl)) ?_; (with_reducible refine (lit_Within.calls k1 _ _ x10_1 _ _ l2_0 true _ ?side1 ?side2 ?side3 ?side4 A45.out).mono ?_); (case side1 => repeat (first | exact (Kd.R_reads' HO_10.out).2.2 | (with_reducible refine Kd.C_alloc ?_ _) | (with_reducible refine Kd.C_drewN ?_ _) | (with_reducible refine Kd.C_drew ?_))); (case side2 => exact (Kd.R_reads' HO_10.out).2.1); (case side3 => repeat (first | exact (Kd.C_below HR2_0.out HB.out) | (with_reducible refine Kd.C_alloc ?_ _) | (with_reducible refine Kd.C_drewN ?_ _) | (with_reducible refine Kd.C_drew ?_))); (case side4 => exact HC2_0.out); rintro e w' ⟨rfl, ⟨nd, rfl⟩⟩; refine ⟨_, rfl, ?_⟩))
                go_ret3
                exact ⟨_, by first | rfl | (simp [errW_none, errW_some] <;> rfl) | (simp [*, errW_none, errW_some] <;> rfl), by (with_reducible repeat (first | apply Kd.R_alloc | apply Kd.R_drewN | apply Kd.R_drew)); exact HO_10.out, by repeat (first | (with_reducible first | exact HB.out | apply below_alloc | apply pw_below_drewN | apply below_drew1 | refine below_set ?_ GE383.out) | exact HB.out)⟩
            · replace c46 := Bool.eq_false_iff.mpr c46
              subst c46
              have H1 : (some (([] : List Int), 0, 30)) = some (r1, r2, r3) := by rw [if_neg (show ¬ (false = true) by decide)] at H; exact H
              clear H
              have H := H1
              clear H1
              as_aux_lemma =>
                simp only [Option.some.injEq, Prod.mk.injEq] at H
                obtain ⟨rfl, rfl, rfl⟩ := H
                have hcz49_0 : wr.cell? ⟨gb383, 0, none⟩ = some (.slice A2_0 l2_0.length c2_0) := (blk_cell BK383.out 0).trans rfl
                have hcz49_1 : wr.cell? ⟨gb383, 1, none⟩ = some (.slice A2_1 l2_1.length c2_1) := (blk_cell BK383.out 1).trans rfl
                have hfz49_0 := blk_frozen BK383.out 0
                have hfz49_1 := blk_frozen BK383.out 1
                obtain ⟨Ao50, co50, eo50⟩ := Kd.R_slice HO_10.out
                subst eo50
                go_wp2_with (first | ((with_reducible refine gate_callee (f := 27) rfl ?_); refine goesL_ (some 101) rfl rfl Try.func27 (by kernel_rfl) rfl #[.slice Ao50 x10_1.length co50, .slice A2_0 l2_0.length c2_0] rfl (by (try simp only [List.map_toArray, List.map_cons, List.map_nil]); first | done | rfl | (simp only [List.length_drop, List.length_take]; rfl)) ?_; (with_reducible refine (lit_Within.calls k1 _ _ x10_1 _ _ l2_0 false _ ?side1 ?side2 ?side3 ?side4 A45.out).mono ?_); (case side1 => repeat (first | exact (Kd.R_reads' HO_10.out).2.2 | (with_reducible refine Kd.C_alloc ?_ _) | (with_reducible refine Kd.C_drewN ?_ _) | (with_reducible refine Kd.C_drew ?_))); (case side2 => exact (Kd.R_reads' HO_10.out).2.1); (case side3 => repeat (first | exact (Kd.C_below HR2_0.out HB.out) | (with_reducible refine Kd.C_alloc ?_ _) | (with_reducible refine Kd.C_drewN ?_ _) | (with_reducible refine Kd.C_drew ?_))); (case side4 => exact HC2_0.out); rintro e w' ⟨rfl, ⟨nd, rfl⟩⟩; refine ⟨_, rfl, ?_⟩))
                go_ret3
                exact ⟨_, by first | rfl | (simp [errW_none, errW_some] <;> rfl) | (simp [*, errW_none, errW_some] <;> rfl), by first | exact Kd.R_nil _ _ _ _ _ | exact Kd.N_nil _ _ _ _ _ | exact Kd.V_nil _ _ _ _ _ | exact Kd.Q_nil _ _ _ _ _ | exact Kd.S_nil _ _ _ _ _, by repeat (first | (with_reducible first | exact HB.out | apply below_alloc | apply pw_below_drewN | apply below_drew1 | refine below_set ?_ GE383.out) | exact HB.out)⟩
  · rw [if_neg c5] at H
    have c5b0 : (t384 == 0) = false := beq_eq_false_iff_ne.mpr c5
    have c5b1 : (t384 != 0) = true := bne_iff_ne.mpr c5
    as_aux_lemma =>
      simp only [Option.some.injEq, Prod.mk.injEq] at H
      obtain ⟨rfl, rfl, rfl⟩ := H
      go_enter Try.func37, Try.ntmps37
      go_wp2_with (first | ((with_reducible refine gate_dst (N := 5) rfl ?_); (try (refine gate_guard (by rfl) ?_; dsimp only)); refine box_event ?hg (N := 5) ?hd (cs := #[.slice A2_0 l2_0.length c2_0, .slice A2_1 l2_1.length c2_1]) (t := 43) ?hr ?_; (case hd => rfl); (case hg => rfl); (case hr => first | (go_simp; done) | (go_simp; rfl)); intro gb383 hg w51 hbox hb; have n0_ := Aside0.mk (below_step (by repeat (first | (with_reducible first | exact HB.out | apply below_alloc | apply pw_below_drewN | apply below_drew1) | exact HB.out)) hb); have n1_ := Aside0.mk (hbox); have n2_ := Aside0.mk ((by rw [hg]; exact (below_size (by repeat (first | (with_reducible first | exact HB.out | apply below_alloc | apply pw_below_drewN | apply below_drew1) | exact HB.out))) : w.heap.size ≤ gb383)); have n3_ := Aside0.mk ((by rw [hg]; exact (below_size (by repeat (first | (with_reducible first | exact HB.out | apply below_alloc | apply pw_below_drewN | apply below_drew1) | exact HB.out))) : w.heap.size ≤ gb383)); clear HB; have HB := n0_; have BK383 := n1_; have GW383 := n2_; have GE383 := n3_; clear n0_ n1_ n2_ n3_; clear hb hbox hg; have hcz52_0 : w51.cell? ⟨gb383, 0, none⟩ = some (.slice A2_0 l2_0.length c2_0) := (blk_cell BK383.out 0).trans rfl; have hcz52_1 : w51.cell? ⟨gb383, 1, none⟩ = some (.slice A2_1 l2_1.length c2_1) := (blk_cell BK383.out 1).trans rfl; have hfz52_0 := blk_frozen BK383.out 0; have hfz52_1 := blk_frozen BK383.out 1) | ((with_reducible refine gate_callee (f := 19) rfl ?_); refine goesL_ (some 20) rfl rfl Try.func19 (by kernel_rfl) rfl #[.slice A2_0 l2_0.length c2_0, .int .i64 a1] rfl (by (try simp only [List.map_toArray, List.map_cons, List.map_nil]); first | done | rfl | (simp only [List.length_drop, List.length_take]; rfl)) ?_; (with_reducible refine (lit_Right.calls k _ _ l2_0 a1 t384 _ ?side1 ?side2 A4.out).mono ?_); (case side1 => repeat (first | exact (Kd.C_below HR2_0.out HB.out) | (with_reducible refine Kd.C_alloc ?_ _) | (with_reducible refine Kd.C_drewN ?_ _) | (with_reducible refine Kd.C_drew ?_))); (case side2 => exact HC2_0.out); rintro e w' ⟨rfl, ⟨nd, rfl⟩⟩; refine ⟨_, rfl, ?_⟩))
      go_ret3
      exact ⟨_, by first | rfl | (simp [errW_none, errW_some] <;> rfl) | (simp [*, errW_none, errW_some] <;> rfl), by first | exact Kd.R_nil _ _ _ _ _ | exact Kd.N_nil _ _ _ _ _ | exact Kd.V_nil _ _ _ _ _ | exact Kd.Q_nil _ _ _ _ _ | exact Kd.S_nil _ _ _ _ _, by repeat (first | (with_reducible first | exact HB.out | apply below_alloc | apply pw_below_drewN | apply below_drew1 | refine below_set ?_ GE383.out) | exact HB.out)⟩

end Go.Proofs.Ytmihgbjfiigmlaa.P
