import Derived.Test.YtkfnaiobgddjpaaPuA
import Derived.Test.YtkfnaiobgddjpaaPxF18
namespace Go.Proofs.Ytkfnaiobgddjpaa.Pu
open Go.RowKit Go.Proofs.Ytkfnaiobgddjpaa.P Go.Proofs.YtkfnaiobgddjpaaW.PrintWords Go.Proofs.YtkfnaiobgddjpaaW.PrintLast Go.Proofs.YtkfnaiobgddjpaaW.PrintMore
theorem goes19_at : sequiturlaw19_goes.f 40 = some true := by decide +kernel
theorem goes19 : Tells (fun k => sequiturlaw19_goes.f k) true := Tells.mono sequiturlaw19_goes.mono goes19_at
end Go.Proofs.Ytkfnaiobgddjpaa.Pu
