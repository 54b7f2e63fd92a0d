import Derived.Test.YtkfnaiobgddjpaaPuBools
import Derived.Test.YtkfnaiobgddjpaaPuValues
import Derived.Test.YtkfnaiobgddjpaaPuGoes19
import Derived.Test.YtkfnaiobgddjpaaPxF3
namespace Go.Proofs.Ytkfnaiobgddjpaa.Pure
open Go.RowKit Go.Proofs.Ytkfnaiobgddjpaa.P Go.Proofs.Ytkfnaiobgddjpaa.Pu Go.Proofs.YtkfnaiobgddjpaaW.PrintWords Go.Proofs.YtkfnaiobgddjpaaW.PrintLast
theorem TableValues : sequiturlaw19_TableValues.Pure := fun a0 a1 _ _ => by
  refine Tells.ex (v := true) ?_
  unfold sequiturlaw19_TableValues.f
  refine Tells.bind (table_Values_ev a0 a1) (Tells.bind (ref19_Values_ev a0 a1) (Tells.bind (Bools _ _ (by have := valsI_short a0 a1; omega)) ?_))
  exact Tells.pos (by simp) (Tells.bind goes19 (Tells.const _))
end Go.Proofs.Ytkfnaiobgddjpaa.Pure
