import Derived.Test.YtkfnaiobgddjpaaPuA
import Derived.Test.YtkfnaiobgddjpaaPxF15
namespace Go.Proofs.Ytkfnaiobgddjpaa.Pu
open Go.RowKit Go.Proofs.Ytkfnaiobgddjpaa.P Go.Proofs.YtkfnaiobgddjpaaW.PrintWords Go.Proofs.YtkfnaiobgddjpaaW.PrintLast Go.Proofs.YtkfnaiobgddjpaaW.PrintMore

theorem Bools_loop (a b : List Bool) (hl : a.length = b.length) (hs : a.length < 4611686018427387904) : ∀ (n i : Nat), n + i = a.length → Tells (fun k => sequiturbase_Bools.l0 k a b (i : Int)) (a.drop i == b.drop i)
  | 0, i, h => by
    refine Tells.succ (fun k => by rw [sequiturbase_Bools.l0]) (Tells.neg (by omega) ?_)
    rw [List.drop_of_length_le (by omega), List.drop_of_length_le (by omega)]; exact Tells.const _
  | n + 1, i, h => by
    refine Tells.succ (fun k => by rw [sequiturbase_Bools.l0]) (Tells.pos (by omega) (Tells.pos (by omega) (Tells.pos (by omega) ?_)))
    rw [rdOf_at _ _ _ (by omega : i < a.length), rdOf_at _ _ _ (by omega : i < b.length), w64s (by omega : i < a.length) hs,
      List.drop_eq_getElem_cons (by omega : i < a.length), List.drop_eq_getElem_cons (by omega : i < b.length), List.cons_beq_cons]
    by_cases e : a[i] = b[i]
    · rw [e]; refine Tells.neg (by simp) ?_
      rw [beq_self_eq_true, Bool.true_and]
      exact Bools_loop a b hl hs n (i + 1) (by omega)
    · refine Tells.pos (by simpa using e) ?_
      rw [beq_eq_false_iff_ne.mpr e, Bool.false_and]; exact Tells.const _
theorem Bools (a b : List Bool) (hs : a.length < 4611686018427387904) : Tells (fun k => sequiturbase_Bools.f k a b) (a == b) := by
  unfold sequiturbase_Bools.f
  by_cases h : a.length = b.length
  · exact Tells.pos (by omega) (Bools_loop a b h hs a.length 0 rfl)
  · refine Tells.neg (by omega) ?_
    rw [show (a == b) = false from beq_eq_false_iff_ne.mpr fun e => h (by rw [e])]
    exact Tells.const _
end Go.Proofs.Ytkfnaiobgddjpaa.Pu
