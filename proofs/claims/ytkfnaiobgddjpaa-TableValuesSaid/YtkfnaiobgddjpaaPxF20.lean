-- Printed by wip/tools/pp.py of this claim's session (over the kit's print.py); Lean checks it.
import Derived.Test.YtkfnaiobgddjpaaPx0
import Derived.Test.YtkfnaiobgddjpaaPxArange
import Derived.Test.YtkfnaiobgddjpaaPxAtabAll
import Derived.Test.YtkfnaiobgddjpaaPxF48
import Derived.RangeFuncNested
import Derived.RangeFuncBound
import Derived.RangeFuncCalls
import Derived.RangeFuncLeaves
import Derived.Shelf.Abstract
import Derived.Shelf.RegionOpen
import Derived.OwnWalkIn
import Derived.TacticsInMore
import Derived.LoopNIn
import Derived.LoopIn
namespace Go.Proofs.Ytkfnaiobgddjpaa.P
open Go.RowKit Go.Proofs.YtkfnaiobgddjpaaW.PrintWords Go.Proofs.YtkfnaiobgddjpaaW.PrintLast Go.Proofs.YtkfnaiobgddjpaaW.PrintMore
attribute [local go_sem] max2_int min2_int max_two min_two max_three min_three max_four min_four   -- for this text's walks alone
set_option linter.unusedVariables false
set_option linter.unusedSimpArgs false

-- SOLO
-- IMPORTS Derived.RangeFuncNested Derived.RangeFuncBound Derived.RangeFuncCalls Derived.RangeFuncLeaves Derived.Shelf.Abstract Derived.Shelf.RegionOpen Derived.OwnWalkIn Derived.TacticsInMore Derived.LoopNIn Derived.LoopIn
/-! ### table_First: function 20 -/
section
open Go.Shelf
attribute [local go_sem] Oper.semAt_some
def table_First.f (k : Nat) (a0_0 : Int) (l0_1 : List (List Int)) : Option (List Bool × Bool × Int) :=
  (table_All.f k a0_0 l0_1).bind fun l => match l with
    | [] => (table_wrong.f k a0_0 l0_1).bind fun e => some ([], false, e)
    | v :: _ => some (v, true, 0)

set_option maxRecDepth 100000 in
set_option maxHeartbeats 2000000 in
theorem table_First.calls (k : Nat) (a0_0 : Int) (A0_1 : Option Addr) (c0_1 : Nat) (l0_1 : List (List Int)) (r1 : List Bool) (r2 : Bool) (r3 : Int) (w : World)
    (hr0_1 : Kd.C (Kd.slice 3 (Kd.int .i64)) w A0_1 l0_1.length l0_1) (hc0_1 : l0_1.length ≤ c0_1) (h : table_First.f k a0_0 l0_1 = some (r1, r2, r3)) :
    Calls Try.prog 20 #[.agg #[.int .i64 a0_0, .slice A0_1 l0_1.length c0_1]] w fun e w' => ∃ v0_ : Value, e = .returned (.tuple #[v0_, .bool r2, .int .i64 r3]) ∧ Kd.R Kd.bool 4 w' w.heap.size (fun _ => True) v0_ r1 ∧ Below w.heap.size w w' := by
  unfold table_First.f at h
  obtain ⟨items, hit, h⟩ := Option.bind_eq_some_iff.mp h
  have HIT := Aside0.mk hit
  have H := Aside0.mk h
  have HR := Aside0.mk hr0_1
  have HC := Aside0.mk hc0_1
  clear hit h hr0_1 hc0_1
  have huC := Try.underlying29
  refine (callsIn_wide (n := 0)).1 ?_
  refine callsIn_of_wp_marks Try.func20 rfl trivial ?_ rfl
  simp only [Try.ntmps20, List.size_toArray, List.length_cons, List.length_nil, Nat.reduceAdd, Nat.reduceSub, Array.replicate_succ, Array.replicate_zero, List.push_toArray, List.append_toArray, List.nil_append, List.cons_append]
  gi_wp2_with (refine ⟨trivial, rfl, ?_⟩; gi_at_call 22; refine (table_All.callsIn a0_0 A0_1 c0_1 l0_1.length _).mono ?_; rintro e' w' ⟨rfl, rfl⟩)
  obtain ⟨W0, hW0⟩ : ∃ W0 : World, (((((w.alloc (.cells #[.int .i64 a0_0, .slice A0_1 l0_1.length c0_1] 29)).alloc (.cells #[.slice none 0 0] 23)).alloc (.cells #[.bool false] 4)).alloc (.cells #[.int .i64 0] 31)).alloc (.cells #[.int .i64 a0_0, .slice A0_1 l0_1.length c0_1] 29)) = W0 := ⟨_, rfl⟩
  have k0 : W0.heap[w.heap.size]? = some (.cells #[.int .i64 a0_0, .slice A0_1 l0_1.length c0_1] 29 (0, 0)) := by rw [← hW0]; exact blk_alloc (blk_alloc (blk_alloc (blk_alloc (blk_new w _) _) _) _) _
  have k1 : W0.heap[w.heap.size + 1]? = some (.cells #[.slice none 0 0] 23 (0, 0)) := by
    rw [← hW0]; refine blk_alloc (blk_alloc (blk_alloc ?_ _) _) _; have := blk_new (w.alloc (.cells #[.int .i64 a0_0, .slice A0_1 l0_1.length c0_1] 29)) (.cells #[.slice none 0 0] 23); rwa [World.size_alloc] at this
  have k2 : W0.heap[w.heap.size + 1 + 1]? = some (.cells #[.bool false] 4 (0, 0)) := by
    rw [← hW0]; refine blk_alloc (blk_alloc ?_ _) _; have := blk_new ((w.alloc (.cells #[.int .i64 a0_0, .slice A0_1 l0_1.length c0_1] 29)).alloc (.cells #[.slice none 0 0] 23)) (.cells #[.bool false] 4); rwa [World.size_alloc, World.size_alloc] at this
  have k3 : W0.heap[w.heap.size + 1 + 1 + 1]? = some (.cells #[.int .i64 0] 31 (0, 0)) := by
    rw [← hW0]; refine blk_alloc ?_ _; have := blk_new (((w.alloc (.cells #[.int .i64 a0_0, .slice A0_1 l0_1.length c0_1] 29)).alloc (.cells #[.slice none 0 0] 23)).alloc (.cells #[.bool false] 4)) (.cells #[.int .i64 0] 31); rwa [World.size_alloc, World.size_alloc, World.size_alloc] at this
  have k4 : W0.heap[w.heap.size + 1 + 1 + 1 + 1]? = some (.cells #[.int .i64 a0_0, .slice A0_1 l0_1.length c0_1] 29 (0, 0)) := by
    rw [← hW0]; have := blk_new ((((w.alloc (.cells #[.int .i64 a0_0, .slice A0_1 l0_1.length c0_1] 29)).alloc (.cells #[.slice none 0 0] 23)).alloc (.cells #[.bool false] 4)).alloc (.cells #[.int .i64 0] 31)) (.cells #[.int .i64 a0_0, .slice A0_1 l0_1.length c0_1] 29); rwa [World.size_alloc, World.size_alloc, World.size_alloc, World.size_alloc] at this
  have kB : Below w.heap.size w W0 := by rw [← hW0]; exact below_alloc (below_alloc (below_alloc (below_alloc (below_alloc (Below.refl _ w) _) _) _) _) _
  have kS : W0.heap.size = w.heap.size + 1 + 1 + 1 + 1 + 1 := by rw [← hW0]; simp
  rw [hW0]
  clear hW0
  have KB := Aside0.mk kB
  have KS := Aside0.mk kS
  clear kB kS
  refine range_wide (p := 8) (gf := 49) (lb := #[.pointer (some ⟨w.heap.size + 1 + 1 + 1 + 1, 0, none⟩)]) rfl (enters_of Try.func49 (by kernel_rfl) rfl)
    (table_All.seq k a0_0 l0_1 items HIT.out (w.heap.size + 1 + 1 + 1 + 1) A0_1 c0_1 W0 k4 w KB.out HR.out HC.out) KB.out.size (by have := KS.out; omega)
    (fun W r o o' v b hi hr ho => Kd_R_putObj hi o' hr ho)
    (fun pre W => pre = [] ∧ W.heap[w.heap.size]? = some (.cells #[.int .i64 a0_0, .slice A0_1 l0_1.length c0_1] 29 (0, 0)) ∧ W.heap[w.heap.size + 1]? = some (.cells #[.slice none 0 0] 23 (0, 0)) ∧ W.heap[w.heap.size + 1 + 1]? = some (.cells #[.bool false] 4 (0, 0)) ∧ W.heap[w.heap.size + 1 + 1 + 1]? = some (.cells #[.int .i64 0] 31 (0, 0)) ∧ Below w.heap.size w W)
    (fun cd pre W => cd = .ret ∧ ∃ b v0, pre = [b] ∧ W.heap[w.heap.size + 1]? = some (.cells #[v0] 23 (0, 0)) ∧ Kd.R Kd.bool 4 W w.heap.size (fun _ => True) v0 b ∧ W.heap[w.heap.size + 1 + 1]? = some (.cells #[.bool true] 4 (0, 0)) ∧ W.heap[w.heap.size + 1 + 1 + 1]? = some (.cells #[.int .i64 0] 31 (0, 0)) ∧ Below w.heap.size w W)
    (fun pre A B row h hg hr => ⟨h.1, blk_ownG h.2.1 hg hr, blk_ownG h.2.2.1 hg hr, blk_ownG h.2.2.2.1 hg hr, blk_ownG h.2.2.2.2.1 hg hr, below_ownG h.2.2.2.2.2 (Nat.le_refl _) (by have := KS.out; omega) hg hr⟩)
    (fun cd pre A B row h hg hr => by
      obtain ⟨h1, b, v0, h2, h3, h4, h5, h6, h7⟩ := h
      exact ⟨h1, b, v0, h2, blk_ownG h3 hg hr, Kd_R_ownG h4 hg hr, blk_ownG h5 hg hr, blk_ownG h6 hg hr, below_ownG h7 (Nat.le_refl _) (by have := KS.out; omega) hg hr⟩)
    ⟨rfl, k0, k1, k2, k3, KB.out⟩
    (fun v => { tmps := #[.agg #[.int .i64 a0_0, .slice A0_1 l0_1.length c0_1], .pointer (some ⟨w.heap.size, 0, none⟩), .pointer (some ⟨w.heap.size + 1, 0, none⟩), .pointer (some ⟨w.heap.size + 1 + 1, 0, none⟩), .pointer (some ⟨w.heap.size + 1 + 1 + 1, 0, none⟩), v, .agg #[.int .i64 a0_0, .slice A0_1 l0_1.length c0_1], .func (.func 49) #[] #[.pointer (some ⟨w.heap.size + 1 + 1 + 1 + 1, 0, none⟩)], v, undef, undef, undef], defers := [] })
    ?assign ?body ?done ?stop
  case assign =>
    intro l v W K hK
    gi_wp2
    exact hK
  case body =>
    rintro l pre b v W hpre ⟨rfl, j0, j1, j2, j3, jB⟩ hit
    obtain ⟨A1, c1, rfl, hc1, hrd⟩ := Kd.R_reads hit
    have JB := Aside0.mk jB
    have HIt := Aside0.mk hit
    clear jB hit hrd
    have g1 := blk_cell j1 0
    have f1 := blk_frozen j1 0
    have g2 := blk_cell j2 0
    have f2 := blk_frozen j2 0
    have g3 := blk_cell j3 0
    have f3 := blk_frozen j3 0
    simp only [List.getElem?_toArray, List.getElem?_cons_zero] at g1 g2 g3
    have J1 := Aside0.mk j1
    have J2 := Aside0.mk j2
    have J3 := Aside0.mk j3
    clear j0 j1 j2 j3 k0 k1 k2 k3 k4
    gi_wp2
    have hR5 : Kd.R Kd.bool 4 W w.heap.size (fun k => w.heap.size + 5 ≤ k) (.slice A1 b.length c1) b := Kd.R_lower (Kd.R_mono (Kd.R_bound HIt.out) (fun k hk => by have := hk.2.1; have := KS.out; omega)) (by have := KS.out; omega)
    refine ⟨((KeepsOthers.setCell _ _ _).trans (KeepsOthers.setCell _ _ _)).trans (KeepsOthers.setCell _ _ _), rfl, b, .slice A1 b.length c1, rfl, ?_, ?_, ?_, ?_, ?_⟩
    · exact blk_far (blk_far (blk_put J1.out 0 _ rfl) (by simp) _) (by first | (simp; done) | (simp; omega)) _
    · exact Kd.R_mono (Kd.R_far (Kd.R_far (Kd.R_far hR5 (fun k hk => by simp; omega) _) (fun k hk => by simp; omega) _) (fun k hk => by simp; omega) _) (fun _ _ => trivial)
    · exact blk_far (blk_put (blk_far J2.out (by simp) _) 0 _ rfl) (by simp) _
    · exact blk_put (blk_far (blk_far J3.out (by first | (simp; done) | (simp; omega)) _) (by simp) _) 0 _ rfl
    · exact ((JB.out.setCell (p := ⟨w.heap.size + 1, 0, none⟩) (by simp) _).setCell (p := ⟨w.heap.size + 1 + 1, 0, none⟩) (by first | (simp; done) | (simp; omega)) _).setCell (p := ⟨w.heap.size + 1 + 1 + 1, 0, none⟩) (by first | (simp; done) | (simp; omega)) _
  case done =>
    rintro D W hD ⟨h0, j0, j1, j2, j3, jB⟩ hK
    subst h0
    obtain ⟨e, he, hh⟩ := Option.bind_eq_some_iff.mp H.out
    have HE := Aside0.mk he
    simp only [Option.some.injEq, Prod.mk.injEq] at hh
    obtain ⟨rfl, rfl, rfl⟩ := hh
    have JB := Aside0.mk jB
    clear he jB k0 k1 k2 k3 k4
    have HK := Aside0.mk hK
    clear hK
    have g0 := blk_cell j0 0
    have g01 := blk_cell j0 1
    simp only [List.getElem?_toArray, List.getElem?_cons_zero, List.getElem?_cons_succ] at g0 g01
    have J0 := Aside0.mk j0
    have J1 := Aside0.mk j1
    have J2 := Aside0.mk j2
    have J3 := Aside0.mk j3
    clear j0 j1 j2 j3
    gi_wp2_with (refine ⟨trivial, rfl, ?_⟩; gi_at_call 48; refine (callsIn_wide.2 (table_wrong.calls k a0_0 A0_1 c0_1 l0_1 e _ (Kd.C_below HR.out JB.out) HC.out HE.out)).mono ?_; rintro e' w1 ⟨rfl, hb1⟩; have g1 := blk_cell (blk_below J1.out hb1) 0; have f1 := blk_frozen (blk_below J1.out hb1) 0; have g2 := blk_cell (blk_below J2.out hb1) 0; have f2 := blk_frozen (blk_below J2.out hb1) 0; have g3 := blk_cell (blk_below J3.out hb1) 0; have f3 := blk_frozen (blk_below J3.out hb1) 0; simp only [List.getElem?_toArray, List.getElem?_cons_zero] at g1 g2 g3)
    have hk3 : KeepsOthers w1 (((w1.setCell ⟨w.heap.size + 1, 0, none⟩ (.slice none 0 0)).setCell ⟨w.heap.size + 1 + 1, 0, none⟩ (.bool false)).setCell ⟨w.heap.size + 1 + 1 + 1, 0, none⟩ (.int .i64 e)) := ((KeepsOthers.setCell _ _ _).trans (KeepsOthers.setCell _ _ _)).trans (KeepsOthers.setCell _ _ _)
    have hKf := hk3.same D _ (blk_below HK.out hb1) rfl
    refine ⟨by simp, .inl ⟨_, _, rfl, run_takeDeferred hKf, ?_⟩⟩
    have z1 : ∀ o', ((((w1.setCell ⟨w.heap.size + 1, 0, none⟩ (.slice none 0 0)).setCell ⟨w.heap.size + 1 + 1, 0, none⟩ (.bool false)).setCell ⟨w.heap.size + 1 + 1 + 1, 0, none⟩ (.int .i64 e)).putObj D o').heap[w.heap.size + 1]? = some (.cells #[.slice none 0 0] 23 (0, 0)) := fun o' => (World.putObj_heap_other (by have := KS.out; omega)).trans (blk_far (blk_far (blk_put (blk_below J1.out hb1) 0 _ rfl) (by simp) _) (by first | (simp; done) | (simp; omega)) _)
    have z2 : ∀ o', ((((w1.setCell ⟨w.heap.size + 1, 0, none⟩ (.slice none 0 0)).setCell ⟨w.heap.size + 1 + 1, 0, none⟩ (.bool false)).setCell ⟨w.heap.size + 1 + 1 + 1, 0, none⟩ (.int .i64 e)).putObj D o').heap[w.heap.size + 1 + 1]? = some (.cells #[.bool false] 4 (0, 0)) := fun o' => (World.putObj_heap_other (by have := KS.out; omega)).trans (blk_far (blk_put (blk_far (blk_below J2.out hb1) (by simp) _) 0 _ rfl) (by simp) _)
    have z3 : ∀ o', ((((w1.setCell ⟨w.heap.size + 1, 0, none⟩ (.slice none 0 0)).setCell ⟨w.heap.size + 1 + 1, 0, none⟩ (.bool false)).setCell ⟨w.heap.size + 1 + 1 + 1, 0, none⟩ (.int .i64 e)).putObj D o').heap[w.heap.size + 1 + 1 + 1]? = some (.cells #[.int .i64 e] 31 (0, 0)) := fun o' => (World.putObj_heap_other (by have := KS.out; omega)).trans (blk_put (blk_far (blk_far (blk_below J3.out hb1) (by first | (simp; done) | (simp; omega)) _) (by simp) _) 0 _ rfl)
    have y1 := blk_cell (z1 (.deferred none)) 0
    have y2 := blk_cell (z2 (.deferred none)) 0
    have y3 := blk_cell (z3 (.deferred none)) 0
    simp only [List.getElem?_toArray, List.getElem?_cons_zero] at y1 y2 y3
    refine ⟨.tuple #[.slice none 0 0, .bool false, .int .i64 e], by simp [results, Try.results20, go_sem, y1, y2, y3], .slice none 0 0, rfl, Kd.R_nil _ _ _ _ _, ?_⟩
    have hB2 : Below w.heap.size w (((w1.setCell ⟨w.heap.size + 1, 0, none⟩ (.slice none 0 0)).setCell ⟨w.heap.size + 1 + 1, 0, none⟩ (.bool false)).setCell ⟨w.heap.size + 1 + 1 + 1, 0, none⟩ (.int .i64 e)) := (((JB.out.trans (hb1.mono JB.out.size)).setCell (p := ⟨w.heap.size + 1, 0, none⟩) (by simp) _).setCell (p := ⟨w.heap.size + 1 + 1, 0, none⟩) (by first | (simp; done) | (simp; omega)) _).setCell (p := ⟨w.heap.size + 1 + 1 + 1, 0, none⟩) (by first | (simp; done) | (simp; omega)) _
    exact hB2.trans (belowK_b (w := w) (Nat.le_refl _) _ D _ _ (by have := KS.out; omega) hKf rfl rfl)
  case stop =>
    rintro D cd pre b W hD hpre ⟨rfl, b', v0, hb', j1, hR, j2, j3, jB⟩ hK
    obtain ⟨t, ht⟩ := hpre
    have hb2 : items = b' :: t := by rw [← ht, hb']; rfl
    have hh := H.out
    rw [hb2] at hh
    simp only [Option.some.injEq, Prod.mk.injEq] at hh
    obtain ⟨rfl, rfl, rfl⟩ := hh
    have J1 := Aside0.mk j1
    have J2 := Aside0.mk j2
    have J3 := Aside0.mk j3
    have JB := Aside0.mk jB
    have HR1 := Aside0.mk hR
    have HK := Aside0.mk hK
    clear j1 j2 j3 jB hR hK k0 k1 k2 k3 k4 ht hb' hb2 H HIT
    gi_wp2
    refine ⟨by simp, .inl ⟨_, _, rfl, run_takeDeferred HK.out, ?_⟩⟩
    have y1 := blk_cell (show (W.putObj D (.deferred none)).heap[w.heap.size + 1]? = _ from (World.putObj_heap_other (by have := KS.out; omega)).trans J1.out) 0
    have y2 := blk_cell (show (W.putObj D (.deferred none)).heap[w.heap.size + 1 + 1]? = _ from (World.putObj_heap_other (by have := KS.out; omega)).trans J2.out) 0
    have y3 := blk_cell (show (W.putObj D (.deferred none)).heap[w.heap.size + 1 + 1 + 1]? = _ from (World.putObj_heap_other (by have := KS.out; omega)).trans J3.out) 0
    simp only [List.getElem?_toArray, List.getElem?_cons_zero] at y1 y2 y3
    refine ⟨.tuple #[v0, .bool true, .int .i64 0], by simp [results, Try.results20, go_sem, y1, y2, y3], v0, rfl, Kd_R_putObj HR1.out _ HK.out rfl, ?_⟩
    exact JB.out.trans (belowK_b (w := w) (Nat.le_refl _) _ D _ _ (by have := KS.out; omega) HK.out rfl rfl)
theorem table_First.mono : ∀ a0_0 l0_1 k, LeO (table_First.f k a0_0 l0_1) (table_First.f (k + 1) a0_0 l0_1) := by
  intro a0_0 l0_1 k
  unfold table_First.f
  refine LeO.bind (table_All.mono _ _ _) (fun l => ?_)
  cases l with
  | nil => exact LeO.bind (table_wrong.mono _ _ _) (fun _ => LeO.refl _)
  | cons v t => exact LeO.refl _
end


end Go.Proofs.Ytkfnaiobgddjpaa.P
