import Derived.Test.YtppkeonhbkahmaaKCoreStays1
import Derived.Test.YtppkeonhbkahmaaKCoreStays4
namespace Go.Proofs.Ytppkeonhbkahmaa.P
open Go.RowKit Go.Proofs.YtppkeonhbkahmaaW.PrintWords Go.Proofs.YtppkeonhbkahmaaW.PrintLast Go.Proofs.YtppkeonhbkahmaaW.PrintMore
attribute [local go_sem] max2_int min2_int max_two min_two max_three min_three max_four min_four
set_option linter.unusedVariables false
set_option linter.unusedSimpArgs false
end Go.Proofs.Ytppkeonhbkahmaa.P
