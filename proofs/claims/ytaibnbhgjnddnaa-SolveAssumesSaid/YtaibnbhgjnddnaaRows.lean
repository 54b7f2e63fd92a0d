/-
  No cell of these rows narrows 'for every input' (looked for: loops, veiled, ifaces, maps, wideKeys, modest, calm, conditions, laid).
  DERIVED. THE GIVEN ROWS OF THIS SEAT. 5 by the template 'for every input the law returns true; each argument reads behind the call as it read before'; 0 by the template 'total and deterministic' (their statements: YtaibnbhgjnddnaaTotals.lean).
  GIVEN WITH THE SEED: the statements are not yours to turn. If you find one false, say at which input.
  Laid BY PROGRAM, IN A SANDBOX (cutbox-rows.mjs): the forced cells as the released guide's own fill.sh prints them over the translation fea3685d2e8ab79b… (all of the seat's roots in one cut). By AI agents, Wed Nov 11 2026. No macro, syntax, notation, axiom, sorry.
-/
import Derived.Test.YtaibnbhgjnddnaaChecked
import GoSem.Claim
import GoSem.ClaimJoined
import GoSem.ClaimMapViews
import Derived.JoinedTies
import Derived.KernelRfl
namespace Go.Proofs.Ytaibnbhgjnddnaa
/- THE CELL 'sum', in the pinned program and in every row, IS THE sha256 OF THE DUMP (.gsa) THAT YtaibnbhgjnddnaaProg.lean LOADS. Nothing in Lean hashes anything: it is a label: what it is worth is what the hold of that sum in a sandbox is worth. -/
noncomputable def Try.pinned : Pinned := { name := "ytaibnbhgjnddnaa", sum := "fea3685d2e8ab79b928e564cbd628b2bef784e0bfa23335d4fd18eb20ace0eb9", checked := Try.checked }
namespace Rows
def none {H : Type} : Left H := { results := [], args := [] }

/-- 'sequiturlaw22.SolveAssumes': WHATEVER THE INPUT: true; the input reads as it did. -/
def solveAssumesSpec : ChangeSpec := { name := "solveAssumes", fn := fun _ => fun
  | [d1, d2] => { results := [.lit (.bool true)], args := [d1, d2] }
  | _ => none }
def solveAssumesRow : OpenClaim := { program := "ytaibnbhgjnddnaa", sum := "fea3685d2e8ab79b928e564cbd628b2bef784e0bfa23335d4fd18eb20ace0eb9", func := "sequitur/sequiturlaw22.SolveAssumes", spec := "solveAssumes", unfollowed := true, recurses := true, apart := false }
def SolveAssumesSaid : Prop := solveAssumesRow.holds Try.pinned (OpenSpec.ofChange solveAssumesSpec)

/-- ITS FALSE NEIGHBOUR: 'it returns false'. Refute it at one input. -/
def solveAssumesWrong : ChangeSpec := { name := "solveAssumes", fn := fun _ => fun
  | [d1, d2] => { results := [.lit (.bool false)], args := [d1, d2] }
  | _ => none }
def SolveAssumesWrongFalsely : Prop := solveAssumesRow.holds Try.pinned (OpenSpec.ofChange solveAssumesWrong)

/-- 'sequiturlaw22.SolveOnce': WHATEVER THE INPUT: true; the input reads as it did. -/
def solveOnceSpec : ChangeSpec := { name := "solveOnce", fn := fun _ => fun
  | [d] => { results := [.lit (.bool true)], args := [d] }
  | _ => none }
def solveOnceRow : OpenClaim := { program := "ytaibnbhgjnddnaa", sum := "fea3685d2e8ab79b928e564cbd628b2bef784e0bfa23335d4fd18eb20ace0eb9", func := "sequitur/sequiturlaw22.SolveOnce", spec := "solveOnce", unfollowed := true, recurses := true, apart := false }
def SolveOnceSaid : Prop := solveOnceRow.holds Try.pinned (OpenSpec.ofChange solveOnceSpec)

/-- ITS FALSE NEIGHBOUR: 'it returns false'. Refute it at one input. -/
def solveOnceWrong : ChangeSpec := { name := "solveOnce", fn := fun _ => fun
  | [d] => { results := [.lit (.bool false)], args := [d] }
  | _ => none }
def SolveOnceWrongFalsely : Prop := solveOnceRow.holds Try.pinned (OpenSpec.ofChange solveOnceWrong)

/-- 'sequiturlaw22.SolveRuns': WHATEVER THE INPUT: true; the input reads as it did. -/
def solveRunsSpec : ChangeSpec := { name := "solveRuns", fn := fun _ => fun
  | [d1, d2] => { results := [.lit (.bool true)], args := [d1, d2] }
  | _ => none }
def solveRunsRow : OpenClaim := { program := "ytaibnbhgjnddnaa", sum := "fea3685d2e8ab79b928e564cbd628b2bef784e0bfa23335d4fd18eb20ace0eb9", func := "sequitur/sequiturlaw22.SolveRuns", spec := "solveRuns", unfollowed := true, recurses := true, apart := false }
def SolveRunsSaid : Prop := solveRunsRow.holds Try.pinned (OpenSpec.ofChange solveRunsSpec)

/-- ITS FALSE NEIGHBOUR: 'it returns false'. Refute it at one input. -/
def solveRunsWrong : ChangeSpec := { name := "solveRuns", fn := fun _ => fun
  | [d1, d2] => { results := [.lit (.bool false)], args := [d1, d2] }
  | _ => none }
def SolveRunsWrongFalsely : Prop := solveRunsRow.holds Try.pinned (OpenSpec.ofChange solveRunsWrong)

/-- 'sequiturlaw22.SolveUnders': WHATEVER THE INPUT: true; the input reads as it did. -/
def solveUndersSpec : ChangeSpec := { name := "solveUnders", fn := fun _ => fun
  | [d1, d2, d3] => { results := [.lit (.bool true)], args := [d1, d2, d3] }
  | _ => none }
def solveUndersRow : OpenClaim := { program := "ytaibnbhgjnddnaa", sum := "fea3685d2e8ab79b928e564cbd628b2bef784e0bfa23335d4fd18eb20ace0eb9", func := "sequitur/sequiturlaw22.SolveUnders", spec := "solveUnders", unfollowed := true, recurses := true, apart := false }
def SolveUndersSaid : Prop := solveUndersRow.holds Try.pinned (OpenSpec.ofChange solveUndersSpec)

/-- ITS FALSE NEIGHBOUR: 'it returns false'. Refute it at one input. -/
def solveUndersWrong : ChangeSpec := { name := "solveUnders", fn := fun _ => fun
  | [d1, d2, d3] => { results := [.lit (.bool false)], args := [d1, d2, d3] }
  | _ => none }
def SolveUndersWrongFalsely : Prop := solveUndersRow.holds Try.pinned (OpenSpec.ofChange solveUndersWrong)

/-- 'sequiturlaw22.SolveDecides': WHATEVER THE INPUT: true; the input reads as it did. -/
def solveDecidesSpec : ChangeSpec := { name := "solveDecides", fn := fun _ => fun
  | [d] => { results := [.lit (.bool true)], args := [d] }
  | _ => none }
def solveDecidesRow : OpenClaim := { program := "ytaibnbhgjnddnaa", sum := "fea3685d2e8ab79b928e564cbd628b2bef784e0bfa23335d4fd18eb20ace0eb9", func := "sequitur/sequiturlaw22.SolveDecides", spec := "solveDecides", unfollowed := true, recurses := true, apart := false }
def SolveDecidesSaid : Prop := solveDecidesRow.holds Try.pinned (OpenSpec.ofChange solveDecidesSpec)

/-- ITS FALSE NEIGHBOUR: 'it returns false'. Refute it at one input. -/
def solveDecidesWrong : ChangeSpec := { name := "solveDecides", fn := fun _ => fun
  | [d] => { results := [.lit (.bool false)], args := [d] }
  | _ => none }
def SolveDecidesWrongFalsely : Prop := solveDecidesRow.holds Try.pinned (OpenSpec.ofChange solveDecidesWrong)

/- THE SECOND FORM. 'bulk': how many values and letters a reading holds, each counted each time it is reached (what is shared counts as often as it is met; a slice's spare places count too). A statement '..UptoSaid' is the law's where the arguments, and the package variables that the reading takes, are together of bulk at most 1048576: NARROWER than '..Said'. Prove '..Said' where nothing that the law and all that it calls make is longer than what came in: it says more and counts as full. Else prove '..UptoSaid'. A law counts once. -/
mutual
def uptoBulk {H : Type} : DataW H → Nat
  | .lit (.string bytes) => bytes.length + 1
  | .lit _ => 1
  | .nil => 1
  | .ptr d => uptoBulk d + 1
  | .slice elems spare => uptoBulkAll elems + uptoBulkAll spare + 1
  | .agg parts => uptoBulkAll parts + 1
  | .iface _ d => uptoBulk d + 1
  | .map entries => uptoBulkEntries entries + 1
  | .held _ => 1
def uptoBulkAll {H : Type} : List (DataW H) → Nat
  | [] => 0
  | d :: r => uptoBulk d + uptoBulkAll r
def uptoBulkEntries {H : Type} : List (Lit × DataW H) → Nat
  | [] => 0
  | x :: r => uptoBulkEntry x + uptoBulkEntries r
def uptoBulkEntry {H : Type} : Lit × DataW H → Nat
  | (.string bytes, d) => bytes.length + uptoBulk d + 1
  | (_, d) => uptoBulk d + 1
 end
def uptoSmall : (H : Type) → List (DataW H) → Bool := fun _ ds => decide (uptoBulkAll ds ≤ 1048576)
def OpenSpec.upto (s : _root_.Go.ChangeSpec) : _root_.Go.OpenSpec := { _root_.Go.OpenSpec.ofChange s with cond := some uptoSmall }

/-- 'sequiturlaw22.SolveAssumes', WHERE WHAT IT READS IS OF BULK AT MOST 1048576: true; the input reads as it did. -/
def solveAssumesUptoRow : OpenClaim := { program := "ytaibnbhgjnddnaa", sum := "fea3685d2e8ab79b928e564cbd628b2bef784e0bfa23335d4fd18eb20ace0eb9", func := "sequitur/sequiturlaw22.SolveAssumes", spec := "solveAssumes", unfollowed := true, recurses := true, apart := false, narrowed := true }
def SolveAssumesUptoSaid : Prop := solveAssumesUptoRow.holds Try.pinned (OpenSpec.upto solveAssumesSpec)

/-- 'sequiturlaw22.SolveOnce', WHERE WHAT IT READS IS OF BULK AT MOST 1048576: true; the input reads as it did. -/
def solveOnceUptoRow : OpenClaim := { program := "ytaibnbhgjnddnaa", sum := "fea3685d2e8ab79b928e564cbd628b2bef784e0bfa23335d4fd18eb20ace0eb9", func := "sequitur/sequiturlaw22.SolveOnce", spec := "solveOnce", unfollowed := true, recurses := true, apart := false, narrowed := true }
def SolveOnceUptoSaid : Prop := solveOnceUptoRow.holds Try.pinned (OpenSpec.upto solveOnceSpec)

/-- 'sequiturlaw22.SolveRuns', WHERE WHAT IT READS IS OF BULK AT MOST 1048576: true; the input reads as it did. -/
def solveRunsUptoRow : OpenClaim := { program := "ytaibnbhgjnddnaa", sum := "fea3685d2e8ab79b928e564cbd628b2bef784e0bfa23335d4fd18eb20ace0eb9", func := "sequitur/sequiturlaw22.SolveRuns", spec := "solveRuns", unfollowed := true, recurses := true, apart := false, narrowed := true }
def SolveRunsUptoSaid : Prop := solveRunsUptoRow.holds Try.pinned (OpenSpec.upto solveRunsSpec)

/-- 'sequiturlaw22.SolveUnders', WHERE WHAT IT READS IS OF BULK AT MOST 1048576: true; the input reads as it did. -/
def solveUndersUptoRow : OpenClaim := { program := "ytaibnbhgjnddnaa", sum := "fea3685d2e8ab79b928e564cbd628b2bef784e0bfa23335d4fd18eb20ace0eb9", func := "sequitur/sequiturlaw22.SolveUnders", spec := "solveUnders", unfollowed := true, recurses := true, apart := false, narrowed := true }
def SolveUndersUptoSaid : Prop := solveUndersUptoRow.holds Try.pinned (OpenSpec.upto solveUndersSpec)

/-- 'sequiturlaw22.SolveDecides', WHERE WHAT IT READS IS OF BULK AT MOST 1048576: true; the input reads as it did. -/
def solveDecidesUptoRow : OpenClaim := { program := "ytaibnbhgjnddnaa", sum := "fea3685d2e8ab79b928e564cbd628b2bef784e0bfa23335d4fd18eb20ace0eb9", func := "sequitur/sequiturlaw22.SolveDecides", spec := "solveDecides", unfollowed := true, recurses := true, apart := false, narrowed := true }
def SolveDecidesUptoSaid : Prop := solveDecidesUptoRow.holds Try.pinned (OpenSpec.upto solveDecidesSpec)

end Rows
end Go.Proofs.Ytaibnbhgjnddnaa
