-- Printed by wip/tools/pp.py of this claim's session (over the kit's print.py); Lean checks it.
import Derived.Test.YtkfnaiobgddjpaaPx0
import Derived.Test.YtkfnaiobgddjpaaPxArange
import Derived.Test.YtkfnaiobgddjpaaPxF16
import Derived.Test.YtkfnaiobgddjpaaPxF48
import Derived.Test.YtkfnaiobgddjpaaPxF50
import Derived.RangeFuncNested
import Derived.RangeFuncBound
import Derived.RangeFuncCalls
import Derived.RangeFuncLeaves
import Derived.Shelf.Abstract
import Derived.Shelf.RegionOpen
import Derived.OwnWalkIn
import Derived.TacticsInMore
import Derived.LoopNIn
import Derived.LoopIn
namespace Go.Proofs.Ytkfnaiobgddjpaa.P
open Go.RowKit Go.Proofs.YtkfnaiobgddjpaaW.PrintWords Go.Proofs.YtkfnaiobgddjpaaW.PrintLast Go.Proofs.YtkfnaiobgddjpaaW.PrintMore
attribute [local go_sem] max2_int min2_int max_two min_two max_three min_three max_four min_four   -- for this text's walks alone
set_option linter.unusedVariables false
set_option linter.unusedSimpArgs false

-- SOLO
-- IMPORTS Derived.RangeFuncNested Derived.RangeFuncBound Derived.RangeFuncCalls Derived.RangeFuncLeaves Derived.Shelf.Abstract Derived.Shelf.RegionOpen Derived.OwnWalkIn Derived.TacticsInMore Derived.LoopNIn Derived.LoopIn
/-! ### AUX tabAll -/
section
open Go.Shelf
attribute [local go_sem] Oper.semAt_some
def table_All.l0 : Nat → Int → List (List Int) → Int → Int → Option (List (List Bool))
  | 0, _, _, _, _ => none
  | k + 1, n, l, x12, x13 => if x13 < x12 then ((table_Values.f k n x13).bind fun v => ((cnf_Holds.f k n l v).bind fun b => ((table_All.l0 k n l x12 (wrap64 (x13 + 1))).bind fun r => (some (if b.2 = true then v :: r else r))))) else (some [])
def table_All.f (k : Nat) (a0_0 : Int) (l0_1 : List (List Int)) : Option (List (List Bool)) :=
  (table_wrong.f k a0_0 l0_1).bind fun e => if e = 0 then (if 0 ≤ a0_0 then table_All.l0 k a0_0 l0_1 (shl .i64 1 a0_0) 0 else none) else (some [])

set_option maxRecDepth 100000 in
set_option maxHeartbeats 2000000 in
theorem table_All.seq (k : Nat) (a0_0 : Int) (l0_1 : List (List Int)) (items : List (List Bool)) (h : table_All.f k a0_0 l0_1 = some items) (B : Nat) (A : Option Addr) (c : Nat) (w : World)
    (hb : w.heap[B]? = some (.cells #[.int .i64 a0_0, .slice A l0_1.length c] 29 (0, 0))) (wc : World) (hbc : Below wc.heap.size wc w) (hr : Kd.C (Kd.slice 3 (Kd.int .i64)) wc A l0_1.length l0_1) (hc : l0_1.length ≤ c) :
    SeqW Try.prog 49 #[.pointer (some ⟨B, 0, none⟩)] (fun W v b => Kd.R Kd.bool 4 W w.heap.size (fun _ => True) v b) items wc.heap.size B w := by
  intro l J Jx W hW hJ hJx hY h0
  unfold table_All.f at h
  obtain ⟨e, he, h2⟩ := Option.bind_eq_some_iff.mp h
  have hB : B < w.heap.size := (Array.getElem?_eq_some_iff.1 hb).1
  have hbW := (hW.block _ hB).trans hb
  have hcW : Below wc.heap.size wc W := hbc.trans (hW.mono hbc.size)
  have hrW := Kd.C_below hr hcW
  have hc0 : W.cell? ⟨B, 0, none⟩ = some (.int .i64 a0_0) := by simp [World.cell?, hbW]
  have hc1 : W.cell? ⟨B, 1, none⟩ = some (.slice A l0_1.length c) := by simp [World.cell?, hbW]
  have HE := Aside0.mk he
  have H := Aside0.mk h2
  have HR := Aside0.mk hrW
  have HY := Aside0.mk hY
  have HJ := Aside0.mk hJ
  have HJx := Aside0.mk hJx
  have H0 := Aside0.mk h0
  have HC := Aside0.mk hc
  clear he h2 hrW hY hJ hJx h0 hc
  have huC := Try.underlying29
  refine callsIn_of_wp Try.func49 rfl trivial ?_ rfl
  simp only [Try.ntmps49, List.size_toArray, List.length_cons, List.length_nil, Nat.reduceAdd, Nat.reduceSub, Array.replicate_succ, Array.replicate_zero, List.push_toArray, List.append_toArray, List.nil_append, List.cons_append]
  clear h
  by_cases e0 : e = 0
  · subst e0
    replace H : (if 0 ≤ a0_0 then table_All.l0 k a0_0 l0_1 (shl .i64 1 a0_0) 0 else none) = some items := by have := H.out; rwa [if_pos rfl] at this
    by_cases n0 : 0 ≤ a0_0
    · rw [if_pos n0] at H
      obtain ⟨N, hN⟩ : ∃ N : Int, shl .i64 1 a0_0 = N := ⟨_, rfl⟩
      rw [hN] at H
      have hN1 : wrap64 (1 * 2 ^ min a0_0.toNat 64) = N := (i64_w _).symm.trans hN
      have hN2 : wrap64 (2 ^ min a0_0.toNat 64) = N := by rw [Int.one_mul] at hN1; exact hN1
      have hNb : N ≤ 9223372036854775807 := by rw [← hN2]; unfold wrap64; omega
      clear hN1
      clear hN
      have H := Aside0.mk H
      gi_wp2_with (refine ⟨trivial, rfl, ?_⟩; gi_at_call 48; refine (callsIn_wide.2 (table_wrong.calls k a0_0 A c l0_1 0 _ HR.out HC.out HE.out)).mono ?_; rintro e' w' ⟨rfl, hb1⟩; have g0 := pw_cell_below hb1 hc0; have g1 := pw_cell_below hb1 hc1)
      rw [hN2]
      clear hN2
      gi_loopw [13] (fun c13 wr => ∃ (kq : Nat) (x13 : Int) (pre rest : List (List Bool)), c13 = .int .i64 x13 ∧ 0 ≤ x13 ∧ Aside0 (table_All.l0 kq a0_0 l0_1 N x13 = some rest) ∧ Aside0 (items = pre ++ rest) ∧ Aside0 (J pre wr) ∧ Aside0 (Below wc.heap.size wc wr) ∧ Aside0 (w.heap.size ≤ wr.heap.size ∧ wr.heap[B]? = some (.cells #[.int .i64 a0_0, .slice A l0_1.length c] 29 (0, 0)))) (fun c13 _ => (N - intOf c13).toNat)
      case atStart => exact ⟨k, 0, [], items, rfl, by omega, H, ⟨rfl⟩, ⟨HJ.out _ _ _ H0.out hb1⟩, ⟨hcW.trans (hb1.mono hcW.size)⟩, ⟨Nat.le_trans hW.size hb1.size, (hb1.block _ (Array.getElem?_eq_some_iff.1 hbW).1).trans hbW⟩⟩
      case round =>
        obtain ⟨kq, x13, pre, rest, rfl, hx0, HA, HP, HJp, HBw, HBx⟩ := hrel
        cases kq with
        | zero => exact absurd HA.out (by simp [table_All.l0])
        | succ kq =>
          have H := HA.out
          clear HA
          simp only [table_All.l0] at H
          have q0 : wr.cell? ⟨B, 0, none⟩ = some (.int .i64 a0_0) := blk_cell HBx.out.2 0
          have q1 : wr.cell? ⟨B, 1, none⟩ = some (.slice A l0_1.length c) := blk_cell HBx.out.2 1
          have HR' := Aside0.mk (Kd.C_below hr HBw.out)
          by_cases hlt : x13 < N
          · rw [if_pos hlt] at H
            obtain ⟨v, hv, H⟩ := Option.bind_eq_some_iff.mp H
            obtain ⟨⟨b1, b2⟩, hbb, H⟩ := Option.bind_eq_some_iff.mp H
            obtain ⟨r, hr', H⟩ := Option.bind_eq_some_iff.mp H
            have HV := Aside0.mk hv
            have HBB := Aside0.mk hbb
            have HRR := Aside0.mk hr'
            have HI := Aside0.mk (Option.some.inj H)
            clear hv hbb hr' H
            have hl0 : decide (x13 < N) = true := decide_eq_true hlt
            rw [show wrap64 (x13 + 1) = x13 + 1 from by unfold wrap64; omega] at HRR
            have HRR0 := HRR
            have hx1 : wrap64 (x13 + 1) = x13 + 1 := by unfold wrap64; omega
            cases b2 with
            | false =>
              have HI2 : r = rest := by simpa using HI.out
              subst HI2
              gi_wp2_with (first | (refine ⟨trivial, rfl, ?_⟩; gi_at_call 16; refine (callsIn_wide.2 (table_Values.calls kq a0_0 x13 v _ HV.out)).mono ?_; rintro e' w1 ⟨v0, rfl, hR, hb2⟩; have p0 := pw_cell_below hb2 q0; have p1 := pw_cell_below hb2 q1; obtain ⟨A1, c1, rfl, hc1', hrd⟩ := Kd.R_reads hR; have HRd := Aside0.mk hrd; have HC1 := Aside0.mk hc1'; have HR2 := Aside0.mk hR; clear hR hrd hc1') | (refine ⟨trivial, rfl, ?_⟩; gi_at_call 50; refine (callsIn_wide.2 (cnf_Holds.calls kq a0_0 A c l0_1 A1 c1 v b1 false _ (Kd.C_below HR'.out hb2) HC.out HRd.out HC1.out HBB.out)).mono ?_; rintro e' w2 ⟨rfl, hb3⟩))
              refine ⟨(fun f h => by cases h), ?_⟩
              gi_wp2
              go_roundw
              case rel => exact ⟨kq, x13 + 1, pre, r, rfl, by omega, HRR0, HP, ⟨HJ.out _ _ _ HJp.out (hb2.trans (hb3.mono hb2.size))⟩, ⟨HBw.out.trans ((hb2.trans (hb3.mono hb2.size)).mono HBw.out.size)⟩, ⟨Nat.le_trans HBx.out.1 (Nat.le_trans hb2.size hb3.size), ((hb2.trans (hb3.mono hb2.size)).block _ (Array.getElem?_eq_some_iff.1 HBx.out.2).1).trans HBx.out.2⟩⟩
              case measure => simp [intOf]; omega
            | true =>
              have HI2 : v :: r = rest := by simpa using HI.out
              have hpre : pre ++ [v] <+: items := ⟨r, by rw [HP.out, ← HI2]; simp⟩
              gi_wp2_with (first | (refine ⟨trivial, rfl, ?_⟩; gi_at_call 16; refine (callsIn_wide.2 (table_Values.calls kq a0_0 x13 v _ HV.out)).mono ?_; rintro e' w1 ⟨v0, rfl, hR, hb2⟩; have p0 := pw_cell_below hb2 q0; have p1 := pw_cell_below hb2 q1; obtain ⟨A1, c1, rfl, hc1', hrd⟩ := Kd.R_reads hR; have HRd := Aside0.mk hrd; have HC1 := Aside0.mk hc1'; have HR2 := Aside0.mk hR; clear hR hrd hc1') | (refine ⟨trivial, rfl, ?_⟩; gi_at_call 50; refine (callsIn_wide.2 (cnf_Holds.calls kq a0_0 A c l0_1 A1 c1 v b1 true _ (Kd.C_below HR'.out hb2) HC.out HRd.out HC1.out HBB.out)).mono ?_; rintro e' w2 ⟨rfl, hb3⟩; obtain ⟨fn, tmps, assign, body, hy, hRn⟩ := HY.out pre v (.slice A1 v.length c1) w2 hpre (HJ.out _ _ _ HJp.out (hb2.trans (hb3.mono hb2.size))) (Kd.R_lower (Kd.R_below HR2.out hb3) HBx.out.1)))
              refine ⟨rfl, hRn.mono ?_⟩
              rintro e' w3 (⟨rfl, hJ3, hk3⟩ | ⟨rfl, hJ3⟩)
              · gi_wp2
                go_roundw
                case rel => exact ⟨kq, x13 + 1, pre ++ [v], r, rfl, by omega, HRR0, ⟨by rw [HP.out, ← HI2]; simp⟩, ⟨hJ3⟩, ⟨HBw.out.trans (((hb2.trans (hb3.mono hb2.size)).mono HBw.out.size).trans hk3.1)⟩, ⟨Nat.le_trans HBx.out.1 (Nat.le_trans hb2.size (Nat.le_trans hb3.size hk3.1.size)), hk3.2.trans (((hb2.trans (hb3.mono hb2.size)).block _ (Array.getElem?_eq_some_iff.1 HBx.out.2).1).trans HBx.out.2)⟩⟩
                case measure => simp [intOf]; omega
              · gi_wp2
                refine bodyPost_ret (results_none rfl _ _ _) rfl ?_
                exact ⟨⟨_, rfl⟩, .inr ⟨pre, v, hpre, hJ3⟩⟩
          · rw [if_neg hlt] at H
            have hr0 : rest = [] := by simpa using H.symm
            have hl0 : decide (x13 < N) = false := decide_eq_false hlt
            subst hr0
            gi_wp2
            go_end0
            refine ⟨⟨_, rfl⟩, .inl ?_⟩
            rw [HP.out, List.append_nil]
            exact HJp.out
    · rw [if_neg n0] at H
      cases H
  · replace H : items = [] := by have := H.out; rw [if_neg e0] at this; simpa using this.symm
    have c1 : (e != 0) = true := by simpa using e0
    have c2 : (e == 0) = false := by simpa using e0
    clear e0
    gi_wp2_with (refine ⟨trivial, rfl, ?_⟩; gi_at_call 48; refine (callsIn_wide.2 (table_wrong.calls k a0_0 A c l0_1 e _ HR.out HC.out HE.out)).mono ?_; rintro e' w' ⟨rfl, hb1⟩)
    refine bodyPost_ret (results_none rfl _ _ _) rfl ?_
    refine ⟨⟨_, rfl⟩, .inl ?_⟩
    rw [H]
    exact HJ.out _ _ _ H0.out hb1

theorem table_All.mono_l : ∀ k, (∀ y0 y1 y2 y3, LeO (table_All.l0 k y0 y1 y2 y3) (table_All.l0 (k + 1) y0 y1 y2 y3))
  | 0 => fun _ _ _ _ r h => by simp [table_All.l0] at h
  | k + 1 => by
    have ih0 := table_All.mono_l k
    intro y0 y1 y2 y3
    unfold table_All.l0
    repeat' first
      | (with_reducible exact ih0 _ _ _ _)
      | (with_reducible exact cnf_Holds.mono _ _ _ _)
      | (with_reducible exact table_Values.mono _ _ _)
      | (with_reducible exact LeO.refl _)
      | (with_reducible exact LeO.none _)
      | (with_reducible refine LeO.ite ?_ ?_)
      | (with_reducible refine LeO.bind ?_ (fun _ => ?_))
theorem table_All.mono : ∀ a0_0 l0_1 k, LeO (table_All.f k a0_0 l0_1) (table_All.f (k + 1) a0_0 l0_1) := by
  intro a0_0 l0_1 k
  have ih0 := table_All.mono_l k
  unfold table_All.f
  repeat' first
      | (with_reducible exact ih0 _ _ _ _)
      | (with_reducible exact table_wrong.mono _ _ _)
      | (with_reducible exact LeO.refl _)
      | (with_reducible exact LeO.none _)
      | (with_reducible refine LeO.ite ?_ ?_)
      | (with_reducible refine LeO.bind ?_ (fun _ => ?_))
set_option maxHeartbeats 1000000 in
theorem table_All.callsIn (a0_0 : Int) (A : Option Addr) (c n : Nat) (w : World) :
    CallsIn Fence.wide 0 Try.prog 22 #[.agg #[.int .i64 a0_0, .slice A n c]] w fun e w' =>
      e = .returned (.func (.func 49) #[] #[.pointer (some ⟨w.heap.size, 0, none⟩)]) ∧ w' = w.alloc (.cells #[.int .i64 a0_0, .slice A n c] 29) := by
  have huC := Try.underlying29
  refine callsIn_of_wp Try.func22 rfl trivial ?_ rfl
  simp only [Try.ntmps22, List.size_toArray, List.length_cons, List.length_nil, Nat.reduceAdd, Nat.reduceSub, Array.replicate_succ, Array.replicate_zero, List.push_toArray, List.append_toArray, List.nil_append, List.cons_append]
  gi_wp2
  go_ret
  exact ⟨rfl, rfl⟩
end


end Go.Proofs.Ytkfnaiobgddjpaa.P
