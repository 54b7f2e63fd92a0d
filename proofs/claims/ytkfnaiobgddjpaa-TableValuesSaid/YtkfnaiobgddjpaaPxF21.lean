-- Printed by wip/tools/pp.py of this claim's session (over the kit's print.py); Lean checks it.
import Derived.Test.YtkfnaiobgddjpaaPx0
import Derived.Test.YtkfnaiobgddjpaaPxArange
import Derived.Test.YtkfnaiobgddjpaaPxAtabAll
import Derived.Test.YtkfnaiobgddjpaaPxF48
import Derived.RangeFuncNested
import Derived.RangeFuncBound
import Derived.RangeFuncCalls
import Derived.RangeFuncLeaves
import Derived.Shelf.Abstract
import Derived.Shelf.RegionOpen
import Derived.OwnWalkIn
import Derived.TacticsInMore
import Derived.LoopNIn
import Derived.LoopIn
namespace Go.Proofs.Ytkfnaiobgddjpaa.P
open Go.RowKit Go.Proofs.YtkfnaiobgddjpaaW.PrintWords Go.Proofs.YtkfnaiobgddjpaaW.PrintLast Go.Proofs.YtkfnaiobgddjpaaW.PrintMore
attribute [local go_sem] max2_int min2_int max_two min_two max_three min_three max_four min_four   -- for this text's walks alone
set_option linter.unusedVariables false
set_option linter.unusedSimpArgs false

-- SOLO
-- IMPORTS Derived.RangeFuncNested Derived.RangeFuncBound Derived.RangeFuncCalls Derived.RangeFuncLeaves Derived.Shelf.Abstract Derived.Shelf.RegionOpen Derived.OwnWalkIn Derived.TacticsInMore Derived.LoopNIn Derived.LoopIn
/-! ### table_Count: function 21 -/
section
open Go.Shelf
attribute [local go_sem] Oper.semAt_some
def table_Count.n (l : List (List Bool)) : Int := l.foldl (fun n _ => wrap64 (n + 1)) 0
theorem table_Count.n_snoc (l : List (List Bool)) (b : List Bool) : table_Count.n (l ++ [b]) = wrap64 (table_Count.n l + 1) := by simp [table_Count.n, List.foldl_append]
def table_Count.f (k : Nat) (a0_0 : Int) (l0_1 : List (List Int)) : Option (Int × Int) :=
  (table_All.f k a0_0 l0_1).bind fun l => (table_wrong.f k a0_0 l0_1).bind fun e => some (table_Count.n l, e)

set_option maxRecDepth 100000 in
set_option maxHeartbeats 2000000 in
theorem table_Count.calls (k : Nat) (a0_0 : Int) (A0_1 : Option Addr) (c0_1 : Nat) (l0_1 : List (List Int)) (r1 : Int) (r2 : Int) (w : World)
    (hr0_1 : Kd.C (Kd.slice 3 (Kd.int .i64)) w A0_1 l0_1.length l0_1) (hc0_1 : l0_1.length ≤ c0_1) (h : table_Count.f k a0_0 l0_1 = some (r1, r2)) :
    Calls Try.prog 21 #[.agg #[.int .i64 a0_0, .slice A0_1 l0_1.length c0_1]] w fun e w' => e = .returned (.tuple #[.int .i64 r1, .int .i64 r2]) ∧ Below w.heap.size w w' := by
  unfold table_Count.f at h
  obtain ⟨items, hit, h⟩ := Option.bind_eq_some_iff.mp h
  obtain ⟨e, he, h⟩ := Option.bind_eq_some_iff.mp h
  simp only [Option.some.injEq, Prod.mk.injEq] at h
  obtain ⟨rfl, rfl⟩ := h
  have HIT := Aside0.mk hit
  have HE := Aside0.mk he
  have HR := Aside0.mk hr0_1
  have HC := Aside0.mk hc0_1
  clear hit he hr0_1 hc0_1
  have huC := Try.underlying29
  have hmx : Try.prog.follows .mixedOrders = true := by kernel_rfl
  refine calls_of_wp_marks Try.func21 rfl ?_
  simp only [Try.ntmps21, List.size_toArray, List.length_cons, List.length_nil, Nat.reduceAdd, Nat.reduceSub, Array.replicate_succ, Array.replicate_zero, List.push_toArray, List.append_toArray, List.nil_append, List.cons_append]
  go_wp2_with (go_at_call 22; refine (callsIn_wide.1 (table_All.callsIn a0_0 A0_1 c0_1 l0_1.length _)).mono ?_; rintro e' w' ⟨rfl, rfl⟩)
  obtain ⟨W0, hW0⟩ : ∃ W0 : World, (((w.alloc (.cells #[.int .i64 a0_0, .slice A0_1 l0_1.length c0_1] 29)).alloc (.cells #[.int .i64 0] 3)).alloc (.cells #[.int .i64 a0_0, .slice A0_1 l0_1.length c0_1] 29)) = W0 := ⟨_, rfl⟩
  have k0 : W0.heap[w.heap.size]? = some (.cells #[.int .i64 a0_0, .slice A0_1 l0_1.length c0_1] 29 (0, 0)) := by rw [← hW0]; exact blk_alloc (blk_alloc (blk_new w _) _) _
  have k1 : W0.heap[w.heap.size + 1]? = some (.cells #[.int .i64 0] 3 (0, 0)) := by
    rw [← hW0]; refine blk_alloc ?_ _; have := blk_new (w.alloc (.cells #[.int .i64 a0_0, .slice A0_1 l0_1.length c0_1] 29)) (.cells #[.int .i64 0] 3); rwa [World.size_alloc] at this
  have k4 : W0.heap[w.heap.size + 1 + 1]? = some (.cells #[.int .i64 a0_0, .slice A0_1 l0_1.length c0_1] 29 (0, 0)) := by
    rw [← hW0]; have := blk_new ((w.alloc (.cells #[.int .i64 a0_0, .slice A0_1 l0_1.length c0_1] 29)).alloc (.cells #[.int .i64 0] 3)) (.cells #[.int .i64 a0_0, .slice A0_1 l0_1.length c0_1] 29); rwa [World.size_alloc, World.size_alloc] at this
  have kB : Below w.heap.size w W0 := by rw [← hW0]; exact below_alloc (below_alloc (below_alloc (Below.refl _ w) _) _) _
  have kS : W0.heap.size = w.heap.size + 1 + 1 + 1 := by rw [← hW0]; simp
  rw [hW0]
  clear hW0
  have KB := Aside0.mk kB
  have KS := Aside0.mk kS
  clear kB kS
  refine range_w (p := 7) (gf := 49) (lb := #[.pointer (some ⟨w.heap.size + 1 + 1, 0, none⟩)]) rfl (enters_of Try.func49 (by kernel_rfl) rfl)
    (table_All.seq k a0_0 l0_1 items HIT.out (w.heap.size + 1 + 1) A0_1 c0_1 W0 k4 w KB.out HR.out HC.out) KB.out.size (by have := KS.out; omega)
    (fun W r o o' v b hi hr ho => Kd_R_putObj hi o' hr ho)
    (fun pre W => W.heap[w.heap.size]? = some (.cells #[.int .i64 a0_0, .slice A0_1 l0_1.length c0_1] 29 (0, 0)) ∧ W.heap[w.heap.size + 1]? = some (.cells #[.int .i64 (table_Count.n pre)] 3 (0, 0)) ∧ Below w.heap.size w W)
    (fun cd pre W => False)
    (fun pre A B row h hg hr => ⟨blk_ownG h.1 hg hr, blk_ownG h.2.1 hg hr, below_ownG h.2.2 (Nat.le_refl _) (by have := KS.out; omega) hg hr⟩)
    (fun cd pre A B row h hg hr => h.elim)
    ⟨k0, k1, KB.out⟩
    (fun v => { tmps := #[.agg #[.int .i64 a0_0, .slice A0_1 l0_1.length c0_1], .pointer (some ⟨w.heap.size, 0, none⟩), .int .i64 0, .int .i64 0, .pointer (some ⟨w.heap.size + 1, 0, none⟩), .agg #[.int .i64 a0_0, .slice A0_1 l0_1.length c0_1], .func (.func 49) #[] #[.pointer (some ⟨w.heap.size + 1 + 1, 0, none⟩)], v, undef, undef, undef, undef, undef], defers := [] })
    ?assign ?body ?done ?stop
  case assign =>
    intro l v W K hK
    gi_wp2
    exact hK
  case body =>
    rintro l pre b v W hpre ⟨j0, j1, jB⟩ hit
    obtain ⟨A1, c1, rfl, hc1, hrd⟩ := Kd.R_reads hit
    have JB := Aside0.mk jB
    clear jB hit hrd
    have g1 := blk_cell j1 0
    have f1 := blk_frozen j1 0
    simp only [List.getElem?_toArray, List.getElem?_cons_zero] at g1
    have J0 := Aside0.mk j0
    have J1 := Aside0.mk j1
    clear j0 j1 k0 k1 k4
    obtain ⟨m, hm⟩ : ∃ m, wrap64 (table_Count.n pre + 1) = m := ⟨_, rfl⟩
    have hm2 : table_Count.n (pre ++ [b]) = m := by rw [table_Count.n_snoc, hm]
    generalize table_Count.n pre = n0 at *
    gi_wp2
    refine ⟨KeepsOthers.setCell _ _ _, ⟨(Below.refl _ W).setCell (p := ⟨w.heap.size + 1, 0, none⟩) (by simp) _, Below.heap_setCell W _ _ _ (by simp)⟩, ?_, ?_, ?_⟩
    · exact blk_far J0.out (by simp) _
    · rw [hm2]; exact blk_put J1.out 0 _ rfl
    · exact JB.out.setCell (p := ⟨w.heap.size + 1, 0, none⟩) (by simp) _
  case done =>
    rintro D W hD ⟨j0, j1, jB⟩ hK
    have JB := Aside0.mk jB
    clear jB k0 k1 k4
    have HK := Aside0.mk hK
    clear hK
    have g0 := blk_cell j0 0
    have g01 := blk_cell j0 1
    have g1 := blk_cell j1 0
    simp only [List.getElem?_toArray, List.getElem?_cons_zero, List.getElem?_cons_succ] at g0 g01 g1
    have J0 := Aside0.mk j0
    have J1 := Aside0.mk j1
    clear j0 j1
    obtain ⟨n0, h0⟩ : ∃ n0, table_Count.n items = n0 := ⟨_, rfl⟩
    rw [h0] at g1 J1
    have h0 := Aside0.mk h0
    go_wp2
    refine start_ (n := 5) (S := fun w' => w'.cell? ⟨w.heap.size + 1, 0, none⟩ = some (.int .i64 n0) ∧ w'.cell? ⟨w.heap.size, 0, none⟩ = some (.int .i64 a0_0) ∧ w'.cell? ⟨w.heap.size, 1, none⟩ = some (.slice A0_1 l0_1.length c0_1)) (ds := []) #[false, false, false, false, false] (by kernel_rfl) rfl rfl ⟨g1, g0, g01⟩ (fun hHeld => ?_)
    refine take_ (i := 0) (N := some 10) (v := ?_) (a' := ?_) #[true, false, false, false, false] rfl rfl (by kernel_rfl) (fun _ _ _ h => h) (Or.inl ⟨by rfl, ?_⟩) hHeld ?_ ?_
    rotate_left
    · rintro w' ⟨s0, s1, s2⟩
      go_simp
      with_reducible rfl
    rotate_left
    · simp only [Act.put, List.setIfInBounds_toArray, List.set_cons_zero, List.set_cons_succ, i64_w, i32_w]
      rfl
    refine take_ (i := 1) (N := some 11) (v := ?_) (a' := ?_) #[true, true, false, false, false] rfl rfl (by kernel_rfl) (fun _ _ _ h => h) (Or.inl ⟨by rfl, ?_⟩) hHeld ?_ ?_
    rotate_left
    · rintro w' ⟨s0, s1, s2⟩
      go_simp
      with_reducible rfl
    rotate_left
    · simp only [Act.put, List.setIfInBounds_toArray, List.set_cons_zero, List.set_cons_succ, i64_w, i32_w]
      rfl
    refine one_ (i := 2) (N := some 12) #[true, true, true, false, false] rfl rfl (by kernel_rfl) (by decide) (fun K hK => ?_)
    refine goes_ Try.func48 (by kernel_rfl) rfl #[.agg #[.int .i64 a0_0, .slice A0_1 l0_1.length c0_1]] (by rfl) rfl rfl (by simp only [List.map_toArray, List.map_cons, List.map_nil]; rfl) ?_
    with_reducible refine (table_wrong.calls k a0_0 A0_1 c0_1 l0_1 e _ (Kd.C_below HR.out (below_drew JB.out)) HC.out HE.out).mono ?_
    rintro e' w1 ⟨rfl, hb1⟩
    refine ⟨_, rfl, ?_⟩
    refine hK.out _ _ ⟨blk_cell (blk_below (blk_drew J1.out) hb1) 0, blk_cell (blk_below (blk_drew J0.out) hb1) 0, blk_cell (blk_below (blk_drew J0.out) hb1) 1⟩ (fun hHeld => ?_)
    clear hK K
    refine norm_ (a' := ?_) ?_ ?_
    rotate_left
    · show Act.put _ (some 12) _ = _
      simp only [Act.put, List.setIfInBounds_toArray, List.set_cons_zero, List.set_cons_succ, i64_w, i32_w]
      rfl
    refine pure_ (i := 3) (N := some 2) (v := ?_) (a' := ?_) #[true, true, true, true, false] rfl rfl (by kernel_rfl) (fun _ _ _ h => h) (Or.inl ⟨by rfl, ?_⟩) ?_ ?_
    rotate_left
    · intro w'
      go_simp
      with_reducible rfl
    rotate_left
    · simp only [Act.put, List.setIfInBounds_toArray, List.set_cons_zero, List.set_cons_succ, i64_w, i32_w]
      rfl
    refine pure_ (i := 4) (N := some 3) (v := ?_) (a' := ?_) #[true, true, true, true, true] rfl rfl (by kernel_rfl) (fun _ _ _ h => h) (Or.inl ⟨by rfl, ?_⟩) ?_ ?_
    rotate_left
    · intro w'
      go_simp
      with_reducible rfl
    rotate_left
    · simp only [Act.put, List.setIfInBounds_toArray, List.set_cons_zero, List.set_cons_succ, i64_w, i32_w]
      rfl
    refine done_ (by kernel_rfl) ?_
    go_wp2
    have hKf := blk_below (blk_drew HK.out) hb1
    refine leaves_mark hKf (results_tmp2 rfl _ _ _) ⟨by simp [h0.out], ?_⟩
    exact (JB.out.trans ((below_then (below_drew (Below.refl _ W)) (Nat.le_refl _) hb1).mono JB.out.size)).trans (belowK_b (w := w) (Nat.le_refl _) _ D _ _ (by have := KS.out; omega) hKf rfl rfl)
  case stop =>
    rintro D cd pre b W hD hpre h hK
    exact h.elim
theorem table_Count.mono : ∀ a0_0 l0_1 k, LeO (table_Count.f k a0_0 l0_1) (table_Count.f (k + 1) a0_0 l0_1) := by
  intro a0_0 l0_1 k
  unfold table_Count.f
  exact LeO.bind (table_All.mono _ _ _) (fun l => LeO.bind (table_wrong.mono _ _ _) (fun _ => LeO.refl _))
end


end Go.Proofs.Ytkfnaiobgddjpaa.P
