/-
  No cell of these rows narrows 'for every input' (looked for: loops, veiled, ifaces, maps, wideKeys, modest, calm, conditions, laid).
  DERIVED. THE GIVEN ROWS OF THIS SEAT. 12 by the template 'for every input the law returns true; each argument reads behind the call as it read before'; 0 by the template 'total and deterministic' (their statements: YtkfnaiobgddjpaaTotals.lean).
  GIVEN WITH THE SEED: the statements are not yours to turn. If you find one false, say at which input.
  Laid BY PROGRAM, IN A SANDBOX (cutbox-rows.mjs): the forced cells as the released guide's own fill.sh prints them over the translation aa9654472fc665f0… (all of the seat's roots in one cut). By AI agents, Wed Nov 11 2026. No macro, syntax, notation, axiom, sorry.
-/
import Derived.Test.YtkfnaiobgddjpaaChecked
import GoSem.Claim
import GoSem.ClaimJoined
import GoSem.ClaimMapViews
import Derived.JoinedTies
import Derived.KernelRfl
namespace Go.Proofs.Ytkfnaiobgddjpaa
/- THE CELL 'sum', in the pinned program and in every row, IS THE sha256 OF THE DUMP (.gsa) THAT YtkfnaiobgddjpaaProg.lean LOADS. Nothing in Lean hashes anything: it is a label: what it is worth is what the hold of that sum in a sandbox is worth. -/
noncomputable def Try.pinned : Pinned := { name := "ytkfnaiobgddjpaa", sum := "aa9654472fc665f0518d76579c3893f3d9f80f5c392981d1c8121844b7c5800c", checked := Try.checked }
namespace Rows
def none {H : Type} : Left H := { results := [], args := [] }

/-- 'sequiturlaw19.TableValues': WHATEVER THE INPUT: true; the input reads as it did. -/
def tableValuesSpec : ChangeSpec := { name := "tableValues", fn := fun _ => fun
  | [d1, d2] => { results := [.lit (.bool true)], args := [d1, d2] }
  | _ => none }
def tableValuesRow : OpenClaim := { program := "ytkfnaiobgddjpaa", sum := "aa9654472fc665f0518d76579c3893f3d9f80f5c392981d1c8121844b7c5800c", func := "sequitur/sequiturlaw19.TableValues", spec := "tableValues", unfollowed := true, recurses := true, apart := false }
def TableValuesSaid : Prop := tableValuesRow.holds Try.pinned (OpenSpec.ofChange tableValuesSpec)

/-- ITS FALSE NEIGHBOUR: 'it returns false'. Refute it at one input. -/
def tableValuesWrong : ChangeSpec := { name := "tableValues", fn := fun _ => fun
  | [d1, d2] => { results := [.lit (.bool false)], args := [d1, d2] }
  | _ => none }
def TableValuesWrongFalsely : Prop := tableValuesRow.holds Try.pinned (OpenSpec.ofChange tableValuesWrong)

/-- 'sequiturlaw19.TableFirsts': WHATEVER THE INPUT: true; the input reads as it did. -/
def tableFirstsSpec : ChangeSpec := { name := "tableFirsts", fn := fun _ => fun
  | [d] => { results := [.lit (.bool true)], args := [d] }
  | _ => none }
def tableFirstsRow : OpenClaim := { program := "ytkfnaiobgddjpaa", sum := "aa9654472fc665f0518d76579c3893f3d9f80f5c392981d1c8121844b7c5800c", func := "sequitur/sequiturlaw19.TableFirsts", spec := "tableFirsts", unfollowed := true, recurses := true, apart := false }
def TableFirstsSaid : Prop := tableFirstsRow.holds Try.pinned (OpenSpec.ofChange tableFirstsSpec)

/-- ITS FALSE NEIGHBOUR: 'it returns false'. Refute it at one input. -/
def tableFirstsWrong : ChangeSpec := { name := "tableFirsts", fn := fun _ => fun
  | [d] => { results := [.lit (.bool false)], args := [d] }
  | _ => none }
def TableFirstsWrongFalsely : Prop := tableFirstsRow.holds Try.pinned (OpenSpec.ofChange tableFirstsWrong)

/-- 'sequiturlaw19.TableLeaves': WHATEVER THE INPUT: true; the input reads as it did. -/
def tableLeavesSpec : ChangeSpec := { name := "tableLeaves", fn := fun _ => fun
  | [d1, d2] => { results := [.lit (.bool true)], args := [d1, d2] }
  | _ => none }
def tableLeavesRow : OpenClaim := { program := "ytkfnaiobgddjpaa", sum := "aa9654472fc665f0518d76579c3893f3d9f80f5c392981d1c8121844b7c5800c", func := "sequitur/sequiturlaw19.TableLeaves", spec := "tableLeaves", unfollowed := true, recurses := true, apart := false }
def TableLeavesSaid : Prop := tableLeavesRow.holds Try.pinned (OpenSpec.ofChange tableLeavesSpec)

/-- ITS FALSE NEIGHBOUR: 'it returns false'. Refute it at one input. -/
def tableLeavesWrong : ChangeSpec := { name := "tableLeaves", fn := fun _ => fun
  | [d1, d2] => { results := [.lit (.bool false)], args := [d1, d2] }
  | _ => none }
def TableLeavesWrongFalsely : Prop := tableLeavesRow.holds Try.pinned (OpenSpec.ofChange tableLeavesWrong)

/-- 'sequiturlaw19.TableImplies': WHATEVER THE INPUT: true; the input reads as it did. -/
def tableImpliesSpec : ChangeSpec := { name := "tableImplies", fn := fun _ => fun
  | [d1, d2, d3] => { results := [.lit (.bool true)], args := [d1, d2, d3] }
  | _ => none }
def tableImpliesRow : OpenClaim := { program := "ytkfnaiobgddjpaa", sum := "aa9654472fc665f0518d76579c3893f3d9f80f5c392981d1c8121844b7c5800c", func := "sequitur/sequiturlaw19.TableImplies", spec := "tableImplies", unfollowed := true, recurses := true, apart := false }
def TableImpliesSaid : Prop := tableImpliesRow.holds Try.pinned (OpenSpec.ofChange tableImpliesSpec)

/-- ITS FALSE NEIGHBOUR: 'it returns false'. Refute it at one input. -/
def tableImpliesWrong : ChangeSpec := { name := "tableImplies", fn := fun _ => fun
  | [d1, d2, d3] => { results := [.lit (.bool false)], args := [d1, d2, d3] }
  | _ => none }
def TableImpliesWrongFalsely : Prop := tableImpliesRow.holds Try.pinned (OpenSpec.ofChange tableImpliesWrong)

/-- 'sequiturlaw19.TableTakes': WHATEVER THE INPUT: true; the input reads as it did. -/
def tableTakesSpec : ChangeSpec := { name := "tableTakes", fn := fun _ => fun
  | [d1, d2] => { results := [.lit (.bool true)], args := [d1, d2] }
  | _ => none }
def tableTakesRow : OpenClaim := { program := "ytkfnaiobgddjpaa", sum := "aa9654472fc665f0518d76579c3893f3d9f80f5c392981d1c8121844b7c5800c", func := "sequitur/sequiturlaw19.TableTakes", spec := "tableTakes", unfollowed := true, recurses := true, apart := false }
def TableTakesSaid : Prop := tableTakesRow.holds Try.pinned (OpenSpec.ofChange tableTakesSpec)

/-- ITS FALSE NEIGHBOUR: 'it returns false'. Refute it at one input. -/
def tableTakesWrong : ChangeSpec := { name := "tableTakes", fn := fun _ => fun
  | [d1, d2] => { results := [.lit (.bool false)], args := [d1, d2] }
  | _ => none }
def TableTakesWrongFalsely : Prop := tableTakesRow.holds Try.pinned (OpenSpec.ofChange tableTakesWrong)

/-- 'sequiturlaw25.CoreMinimals': WHATEVER THE INPUT: true; the input reads as it did. -/
def coreMinimalsSpec : ChangeSpec := { name := "coreMinimals", fn := fun _ => fun
  | [d] => { results := [.lit (.bool true)], args := [d] }
  | _ => none }
def coreMinimalsRow : OpenClaim := { program := "ytkfnaiobgddjpaa", sum := "aa9654472fc665f0518d76579c3893f3d9f80f5c392981d1c8121844b7c5800c", func := "sequitur/sequiturlaw25.CoreMinimals", spec := "coreMinimals", unfollowed := true, recurses := true, apart := false }
def CoreMinimalsSaid : Prop := coreMinimalsRow.holds Try.pinned (OpenSpec.ofChange coreMinimalsSpec)

/-- ITS FALSE NEIGHBOUR: 'it returns false'. Refute it at one input. -/
def coreMinimalsWrong : ChangeSpec := { name := "coreMinimals", fn := fun _ => fun
  | [d] => { results := [.lit (.bool false)], args := [d] }
  | _ => none }
def CoreMinimalsWrongFalsely : Prop := coreMinimalsRow.holds Try.pinned (OpenSpec.ofChange coreMinimalsWrong)

/-- 'sequiturlaw25.CoreLeast': WHATEVER THE INPUT: true; the input reads as it did. -/
def coreLeastSpec : ChangeSpec := { name := "coreLeast", fn := fun _ => fun
  | [d] => { results := [.lit (.bool true)], args := [d] }
  | _ => none }
def coreLeastRow : OpenClaim := { program := "ytkfnaiobgddjpaa", sum := "aa9654472fc665f0518d76579c3893f3d9f80f5c392981d1c8121844b7c5800c", func := "sequitur/sequiturlaw25.CoreLeast", spec := "coreLeast", unfollowed := true, recurses := true, apart := false }
def CoreLeastSaid : Prop := coreLeastRow.holds Try.pinned (OpenSpec.ofChange coreLeastSpec)

/-- ITS FALSE NEIGHBOUR: 'it returns false'. Refute it at one input. -/
def coreLeastWrong : ChangeSpec := { name := "coreLeast", fn := fun _ => fun
  | [d] => { results := [.lit (.bool false)], args := [d] }
  | _ => none }
def CoreLeastWrongFalsely : Prop := coreLeastRow.holds Try.pinned (OpenSpec.ofChange coreLeastWrong)

/-- 'sequiturlaw23.RupSteps': WHATEVER THE INPUT: true; the input reads as it did. -/
def rupStepsSpec : ChangeSpec := { name := "rupSteps", fn := fun _ => fun
  | [d1, d2] => { results := [.lit (.bool true)], args := [d1, d2] }
  | _ => none }
def rupStepsRow : OpenClaim := { program := "ytkfnaiobgddjpaa", sum := "aa9654472fc665f0518d76579c3893f3d9f80f5c392981d1c8121844b7c5800c", func := "sequitur/sequiturlaw23.RupSteps", spec := "rupSteps", unfollowed := true, recurses := true, apart := false }
def RupStepsSaid : Prop := rupStepsRow.holds Try.pinned (OpenSpec.ofChange rupStepsSpec)

/-- ITS FALSE NEIGHBOUR: 'it returns false'. Refute it at one input. -/
def rupStepsWrong : ChangeSpec := { name := "rupSteps", fn := fun _ => fun
  | [d1, d2] => { results := [.lit (.bool false)], args := [d1, d2] }
  | _ => none }
def RupStepsWrongFalsely : Prop := rupStepsRow.holds Try.pinned (OpenSpec.ofChange rupStepsWrong)

/-- 'sequiturlaw23.RupMore': WHATEVER THE INPUT: true; the input reads as it did. -/
def rupMoreSpec : ChangeSpec := { name := "rupMore", fn := fun _ => fun
  | [d1, d2, d3, d4] => { results := [.lit (.bool true)], args := [d1, d2, d3, d4] }
  | _ => none }
def rupMoreRow : OpenClaim := { program := "ytkfnaiobgddjpaa", sum := "aa9654472fc665f0518d76579c3893f3d9f80f5c392981d1c8121844b7c5800c", func := "sequitur/sequiturlaw23.RupMore", spec := "rupMore", unfollowed := true, recurses := true, apart := false }
def RupMoreSaid : Prop := rupMoreRow.holds Try.pinned (OpenSpec.ofChange rupMoreSpec)

/-- ITS FALSE NEIGHBOUR: 'it returns false'. Refute it at one input. -/
def rupMoreWrong : ChangeSpec := { name := "rupMore", fn := fun _ => fun
  | [d1, d2, d3, d4] => { results := [.lit (.bool false)], args := [d1, d2, d3, d4] }
  | _ => none }
def RupMoreWrongFalsely : Prop := rupMoreRow.holds Try.pinned (OpenSpec.ofChange rupMoreWrong)

/-- 'sequiturlaw23.RupChecks': WHATEVER THE INPUT: true; the input reads as it did. -/
def rupChecksSpec : ChangeSpec := { name := "rupChecks", fn := fun _ => fun
  | [d1, d2, d3] => { results := [.lit (.bool true)], args := [d1, d2, d3] }
  | _ => none }
def rupChecksRow : OpenClaim := { program := "ytkfnaiobgddjpaa", sum := "aa9654472fc665f0518d76579c3893f3d9f80f5c392981d1c8121844b7c5800c", func := "sequitur/sequiturlaw23.RupChecks", spec := "rupChecks", unfollowed := true, recurses := true, apart := false }
def RupChecksSaid : Prop := rupChecksRow.holds Try.pinned (OpenSpec.ofChange rupChecksSpec)

/-- ITS FALSE NEIGHBOUR: 'it returns false'. Refute it at one input. -/
def rupChecksWrong : ChangeSpec := { name := "rupChecks", fn := fun _ => fun
  | [d1, d2, d3] => { results := [.lit (.bool false)], args := [d1, d2, d3] }
  | _ => none }
def RupChecksWrongFalsely : Prop := rupChecksRow.holds Try.pinned (OpenSpec.ofChange rupChecksWrong)

/-- 'sequiturlaw23.RupSound': WHATEVER THE INPUT: true; the input reads as it did. -/
def rupSoundSpec : ChangeSpec := { name := "rupSound", fn := fun _ => fun
  | [d1, d2, d3] => { results := [.lit (.bool true)], args := [d1, d2, d3] }
  | _ => none }
def rupSoundRow : OpenClaim := { program := "ytkfnaiobgddjpaa", sum := "aa9654472fc665f0518d76579c3893f3d9f80f5c392981d1c8121844b7c5800c", func := "sequitur/sequiturlaw23.RupSound", spec := "rupSound", unfollowed := true, recurses := true, apart := false }
def RupSoundSaid : Prop := rupSoundRow.holds Try.pinned (OpenSpec.ofChange rupSoundSpec)

/-- ITS FALSE NEIGHBOUR: 'it returns false'. Refute it at one input. -/
def rupSoundWrong : ChangeSpec := { name := "rupSound", fn := fun _ => fun
  | [d1, d2, d3] => { results := [.lit (.bool false)], args := [d1, d2, d3] }
  | _ => none }
def RupSoundWrongFalsely : Prop := rupSoundRow.holds Try.pinned (OpenSpec.ofChange rupSoundWrong)

/-- 'sequiturlaw23.RupOwn': WHATEVER THE INPUT: true; the input reads as it did. -/
def rupOwnSpec : ChangeSpec := { name := "rupOwn", fn := fun _ => fun
  | [d1, d2, d3] => { results := [.lit (.bool true)], args := [d1, d2, d3] }
  | _ => none }
def rupOwnRow : OpenClaim := { program := "ytkfnaiobgddjpaa", sum := "aa9654472fc665f0518d76579c3893f3d9f80f5c392981d1c8121844b7c5800c", func := "sequitur/sequiturlaw23.RupOwn", spec := "rupOwn", unfollowed := true, recurses := true, apart := false }
def RupOwnSaid : Prop := rupOwnRow.holds Try.pinned (OpenSpec.ofChange rupOwnSpec)

/-- ITS FALSE NEIGHBOUR: 'it returns false'. Refute it at one input. -/
def rupOwnWrong : ChangeSpec := { name := "rupOwn", fn := fun _ => fun
  | [d1, d2, d3] => { results := [.lit (.bool false)], args := [d1, d2, d3] }
  | _ => none }
def RupOwnWrongFalsely : Prop := rupOwnRow.holds Try.pinned (OpenSpec.ofChange rupOwnWrong)

/- THE SECOND FORM. 'bulk': how many values and letters a reading holds, each counted each time it is reached (what is shared counts as often as it is met; a slice's spare places count too). A statement '..UptoSaid' is the law's where the arguments, and the package variables that the reading takes, are together of bulk at most 1048576: NARROWER than '..Said'. Prove '..Said' where nothing that the law and all that it calls make is longer than what came in: it says more and counts as full. Else prove '..UptoSaid'. A law counts once. -/
mutual
def uptoBulk {H : Type} : DataW H → Nat
  | .lit (.string bytes) => bytes.length + 1
  | .lit _ => 1
  | .nil => 1
  | .ptr d => uptoBulk d + 1
  | .slice elems spare => uptoBulkAll elems + uptoBulkAll spare + 1
  | .agg parts => uptoBulkAll parts + 1
  | .iface _ d => uptoBulk d + 1
  | .map entries => uptoBulkEntries entries + 1
  | .held _ => 1
def uptoBulkAll {H : Type} : List (DataW H) → Nat
  | [] => 0
  | d :: r => uptoBulk d + uptoBulkAll r
def uptoBulkEntries {H : Type} : List (Lit × DataW H) → Nat
  | [] => 0
  | x :: r => uptoBulkEntry x + uptoBulkEntries r
def uptoBulkEntry {H : Type} : Lit × DataW H → Nat
  | (.string bytes, d) => bytes.length + uptoBulk d + 1
  | (_, d) => uptoBulk d + 1
 end
def uptoSmall : (H : Type) → List (DataW H) → Bool := fun _ ds => decide (uptoBulkAll ds ≤ 1048576)
def OpenSpec.upto (s : _root_.Go.ChangeSpec) : _root_.Go.OpenSpec := { _root_.Go.OpenSpec.ofChange s with cond := some uptoSmall }

/-- 'sequiturlaw19.TableValues', WHERE WHAT IT READS IS OF BULK AT MOST 1048576: true; the input reads as it did. -/
def tableValuesUptoRow : OpenClaim := { program := "ytkfnaiobgddjpaa", sum := "aa9654472fc665f0518d76579c3893f3d9f80f5c392981d1c8121844b7c5800c", func := "sequitur/sequiturlaw19.TableValues", spec := "tableValues", unfollowed := true, recurses := true, apart := false, narrowed := true }
def TableValuesUptoSaid : Prop := tableValuesUptoRow.holds Try.pinned (OpenSpec.upto tableValuesSpec)

/-- 'sequiturlaw19.TableFirsts', WHERE WHAT IT READS IS OF BULK AT MOST 1048576: true; the input reads as it did. -/
def tableFirstsUptoRow : OpenClaim := { program := "ytkfnaiobgddjpaa", sum := "aa9654472fc665f0518d76579c3893f3d9f80f5c392981d1c8121844b7c5800c", func := "sequitur/sequiturlaw19.TableFirsts", spec := "tableFirsts", unfollowed := true, recurses := true, apart := false, narrowed := true }
def TableFirstsUptoSaid : Prop := tableFirstsUptoRow.holds Try.pinned (OpenSpec.upto tableFirstsSpec)

/-- 'sequiturlaw19.TableLeaves', WHERE WHAT IT READS IS OF BULK AT MOST 1048576: true; the input reads as it did. -/
def tableLeavesUptoRow : OpenClaim := { program := "ytkfnaiobgddjpaa", sum := "aa9654472fc665f0518d76579c3893f3d9f80f5c392981d1c8121844b7c5800c", func := "sequitur/sequiturlaw19.TableLeaves", spec := "tableLeaves", unfollowed := true, recurses := true, apart := false, narrowed := true }
def TableLeavesUptoSaid : Prop := tableLeavesUptoRow.holds Try.pinned (OpenSpec.upto tableLeavesSpec)

/-- 'sequiturlaw19.TableImplies', WHERE WHAT IT READS IS OF BULK AT MOST 1048576: true; the input reads as it did. -/
def tableImpliesUptoRow : OpenClaim := { program := "ytkfnaiobgddjpaa", sum := "aa9654472fc665f0518d76579c3893f3d9f80f5c392981d1c8121844b7c5800c", func := "sequitur/sequiturlaw19.TableImplies", spec := "tableImplies", unfollowed := true, recurses := true, apart := false, narrowed := true }
def TableImpliesUptoSaid : Prop := tableImpliesUptoRow.holds Try.pinned (OpenSpec.upto tableImpliesSpec)

/-- 'sequiturlaw19.TableTakes', WHERE WHAT IT READS IS OF BULK AT MOST 1048576: true; the input reads as it did. -/
def tableTakesUptoRow : OpenClaim := { program := "ytkfnaiobgddjpaa", sum := "aa9654472fc665f0518d76579c3893f3d9f80f5c392981d1c8121844b7c5800c", func := "sequitur/sequiturlaw19.TableTakes", spec := "tableTakes", unfollowed := true, recurses := true, apart := false, narrowed := true }
def TableTakesUptoSaid : Prop := tableTakesUptoRow.holds Try.pinned (OpenSpec.upto tableTakesSpec)

/-- 'sequiturlaw25.CoreMinimals', WHERE WHAT IT READS IS OF BULK AT MOST 1048576: true; the input reads as it did. -/
def coreMinimalsUptoRow : OpenClaim := { program := "ytkfnaiobgddjpaa", sum := "aa9654472fc665f0518d76579c3893f3d9f80f5c392981d1c8121844b7c5800c", func := "sequitur/sequiturlaw25.CoreMinimals", spec := "coreMinimals", unfollowed := true, recurses := true, apart := false, narrowed := true }
def CoreMinimalsUptoSaid : Prop := coreMinimalsUptoRow.holds Try.pinned (OpenSpec.upto coreMinimalsSpec)

/-- 'sequiturlaw25.CoreLeast', WHERE WHAT IT READS IS OF BULK AT MOST 1048576: true; the input reads as it did. -/
def coreLeastUptoRow : OpenClaim := { program := "ytkfnaiobgddjpaa", sum := "aa9654472fc665f0518d76579c3893f3d9f80f5c392981d1c8121844b7c5800c", func := "sequitur/sequiturlaw25.CoreLeast", spec := "coreLeast", unfollowed := true, recurses := true, apart := false, narrowed := true }
def CoreLeastUptoSaid : Prop := coreLeastUptoRow.holds Try.pinned (OpenSpec.upto coreLeastSpec)

/-- 'sequiturlaw23.RupSteps', WHERE WHAT IT READS IS OF BULK AT MOST 1048576: true; the input reads as it did. -/
def rupStepsUptoRow : OpenClaim := { program := "ytkfnaiobgddjpaa", sum := "aa9654472fc665f0518d76579c3893f3d9f80f5c392981d1c8121844b7c5800c", func := "sequitur/sequiturlaw23.RupSteps", spec := "rupSteps", unfollowed := true, recurses := true, apart := false, narrowed := true }
def RupStepsUptoSaid : Prop := rupStepsUptoRow.holds Try.pinned (OpenSpec.upto rupStepsSpec)

/-- 'sequiturlaw23.RupMore', WHERE WHAT IT READS IS OF BULK AT MOST 1048576: true; the input reads as it did. -/
def rupMoreUptoRow : OpenClaim := { program := "ytkfnaiobgddjpaa", sum := "aa9654472fc665f0518d76579c3893f3d9f80f5c392981d1c8121844b7c5800c", func := "sequitur/sequiturlaw23.RupMore", spec := "rupMore", unfollowed := true, recurses := true, apart := false, narrowed := true }
def RupMoreUptoSaid : Prop := rupMoreUptoRow.holds Try.pinned (OpenSpec.upto rupMoreSpec)

/-- 'sequiturlaw23.RupChecks', WHERE WHAT IT READS IS OF BULK AT MOST 1048576: true; the input reads as it did. -/
def rupChecksUptoRow : OpenClaim := { program := "ytkfnaiobgddjpaa", sum := "aa9654472fc665f0518d76579c3893f3d9f80f5c392981d1c8121844b7c5800c", func := "sequitur/sequiturlaw23.RupChecks", spec := "rupChecks", unfollowed := true, recurses := true, apart := false, narrowed := true }
def RupChecksUptoSaid : Prop := rupChecksUptoRow.holds Try.pinned (OpenSpec.upto rupChecksSpec)

/-- 'sequiturlaw23.RupSound', WHERE WHAT IT READS IS OF BULK AT MOST 1048576: true; the input reads as it did. -/
def rupSoundUptoRow : OpenClaim := { program := "ytkfnaiobgddjpaa", sum := "aa9654472fc665f0518d76579c3893f3d9f80f5c392981d1c8121844b7c5800c", func := "sequitur/sequiturlaw23.RupSound", spec := "rupSound", unfollowed := true, recurses := true, apart := false, narrowed := true }
def RupSoundUptoSaid : Prop := rupSoundUptoRow.holds Try.pinned (OpenSpec.upto rupSoundSpec)

/-- 'sequiturlaw23.RupOwn', WHERE WHAT IT READS IS OF BULK AT MOST 1048576: true; the input reads as it did. -/
def rupOwnUptoRow : OpenClaim := { program := "ytkfnaiobgddjpaa", sum := "aa9654472fc665f0518d76579c3893f3d9f80f5c392981d1c8121844b7c5800c", func := "sequitur/sequiturlaw23.RupOwn", spec := "rupOwn", unfollowed := true, recurses := true, apart := false, narrowed := true }
def RupOwnUptoSaid : Prop := rupOwnUptoRow.holds Try.pinned (OpenSpec.upto rupOwnSpec)

end Rows
end Go.Proofs.Ytkfnaiobgddjpaa
