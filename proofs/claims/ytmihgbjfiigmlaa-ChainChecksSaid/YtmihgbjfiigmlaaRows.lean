/-
  No cell of these rows narrows 'for every input' (looked for: loops, veiled, ifaces, maps, wideKeys, modest, calm, conditions, laid).
  DERIVED. THE GIVEN ROWS OF THIS SEAT. 10 by the template 'for every input the law returns true; each argument reads behind the call as it read before'; 0 by the template 'total and deterministic' (their statements: YtmihgbjfiigmlaaTotals.lean).
  GIVEN WITH THE SEED: the statements are not yours to turn. If you find one false, say at which input.
  Laid BY PROGRAM, IN A SANDBOX (cutbox-rows.mjs): the forced cells as the released guide's own fill.sh prints them over the translation 68e129f6a581bdaf… (all of the seat's roots in one cut). By AI agents, Wed Nov 11 2026. No macro, syntax, notation, axiom, sorry.
-/
import Derived.Test.YtmihgbjfiigmlaaChecked
import GoSem.Claim
import GoSem.ClaimJoined
import GoSem.ClaimMapViews
import Derived.JoinedTies
import Derived.KernelRfl
namespace Go.Proofs.Ytmihgbjfiigmlaa
/- THE CELL 'sum', in the pinned program and in every row, IS THE sha256 OF THE DUMP (.gsa) THAT YtmihgbjfiigmlaaProg.lean LOADS. Nothing in Lean hashes anything: it is a label: what it is worth is what the hold of that sum in a sandbox is worth. -/
noncomputable def Try.pinned : Pinned := { name := "ytmihgbjfiigmlaa", sum := "68e129f6a581bdaf0900126928d4b7681e48a6ea2a8b1e77b0be60864a82bf74", checked := Try.checked }
namespace Rows
def none {H : Type} : Left H := { results := [], args := [] }

/-- 'sequiturlaw17.LitSound': WHATEVER THE INPUT: true; the input reads as it did. -/
def litSoundSpec : ChangeSpec := { name := "litSound", fn := fun _ => fun
  | [d1, d2, d3, d4] => { results := [.lit (.bool true)], args := [d1, d2, d3, d4] }
  | _ => none }
def litSoundRow : OpenClaim := { program := "ytmihgbjfiigmlaa", sum := "68e129f6a581bdaf0900126928d4b7681e48a6ea2a8b1e77b0be60864a82bf74", func := "sequitur/sequiturlaw17.LitSound", spec := "litSound", unfollowed := true, recurses := true, apart := false }
def LitSoundSaid : Prop := litSoundRow.holds Try.pinned (OpenSpec.ofChange litSoundSpec)

/-- ITS FALSE NEIGHBOUR: 'it returns false'. Refute it at one input. -/
def litSoundWrong : ChangeSpec := { name := "litSound", fn := fun _ => fun
  | [d1, d2, d3, d4] => { results := [.lit (.bool false)], args := [d1, d2, d3, d4] }
  | _ => none }
def LitSoundWrongFalsely : Prop := litSoundRow.holds Try.pinned (OpenSpec.ofChange litSoundWrong)

/-- 'sequiturlaw17.LitRight': WHATEVER THE INPUT: true; the input reads as it did. -/
def litRightSpec : ChangeSpec := { name := "litRight", fn := fun _ => fun
  | [d1, d2] => { results := [.lit (.bool true)], args := [d1, d2] }
  | _ => none }
def litRightRow : OpenClaim := { program := "ytmihgbjfiigmlaa", sum := "68e129f6a581bdaf0900126928d4b7681e48a6ea2a8b1e77b0be60864a82bf74", func := "sequitur/sequiturlaw17.LitRight", spec := "litRight", unfollowed := true, recurses := true, apart := false }
def LitRightSaid : Prop := litRightRow.holds Try.pinned (OpenSpec.ofChange litRightSpec)

/-- ITS FALSE NEIGHBOUR: 'it returns false'. Refute it at one input. -/
def litRightWrong : ChangeSpec := { name := "litRight", fn := fun _ => fun
  | [d1, d2] => { results := [.lit (.bool false)], args := [d1, d2] }
  | _ => none }
def LitRightWrongFalsely : Prop := litRightRow.holds Try.pinned (OpenSpec.ofChange litRightWrong)

/-- 'sequiturlaw17.LitResolves': WHATEVER THE INPUT: true; the input reads as it did. -/
def litResolvesSpec : ChangeSpec := { name := "litResolves", fn := fun _ => fun
  | [d1, d2, d3] => { results := [.lit (.bool true)], args := [d1, d2, d3] }
  | _ => none }
def litResolvesRow : OpenClaim := { program := "ytmihgbjfiigmlaa", sum := "68e129f6a581bdaf0900126928d4b7681e48a6ea2a8b1e77b0be60864a82bf74", func := "sequitur/sequiturlaw17.LitResolves", spec := "litResolves", unfollowed := true, recurses := true, apart := false }
def LitResolvesSaid : Prop := litResolvesRow.holds Try.pinned (OpenSpec.ofChange litResolvesSpec)

/-- ITS FALSE NEIGHBOUR: 'it returns false'. Refute it at one input. -/
def litResolvesWrong : ChangeSpec := { name := "litResolves", fn := fun _ => fun
  | [d1, d2, d3] => { results := [.lit (.bool false)], args := [d1, d2, d3] }
  | _ => none }
def LitResolvesWrongFalsely : Prop := litResolvesRow.holds Try.pinned (OpenSpec.ofChange litResolvesWrong)

/-- 'sequiturlaw17.LitHolds': WHATEVER THE INPUT: true; the input reads as it did. -/
def litHoldsSpec : ChangeSpec := { name := "litHolds", fn := fun _ => fun
  | [d1, d2, d3, d4] => { results := [.lit (.bool true)], args := [d1, d2, d3, d4] }
  | _ => none }
def litHoldsRow : OpenClaim := { program := "ytmihgbjfiigmlaa", sum := "68e129f6a581bdaf0900126928d4b7681e48a6ea2a8b1e77b0be60864a82bf74", func := "sequitur/sequiturlaw17.LitHolds", spec := "litHolds", unfollowed := true, recurses := true, apart := false }
def LitHoldsSaid : Prop := litHoldsRow.holds Try.pinned (OpenSpec.ofChange litHoldsSpec)

/-- ITS FALSE NEIGHBOUR: 'it returns false'. Refute it at one input. -/
def litHoldsWrong : ChangeSpec := { name := "litHolds", fn := fun _ => fun
  | [d1, d2, d3, d4] => { results := [.lit (.bool false)], args := [d1, d2, d3, d4] }
  | _ => none }
def LitHoldsWrongFalsely : Prop := litHoldsRow.holds Try.pinned (OpenSpec.ofChange litHoldsWrong)

/-- 'sequiturlaw17.LitClean': WHATEVER THE INPUT: true; the input reads as it did. -/
def litCleanSpec : ChangeSpec := { name := "litClean", fn := fun _ => fun
  | [d1, d2] => { results := [.lit (.bool true)], args := [d1, d2] }
  | _ => none }
def litCleanRow : OpenClaim := { program := "ytmihgbjfiigmlaa", sum := "68e129f6a581bdaf0900126928d4b7681e48a6ea2a8b1e77b0be60864a82bf74", func := "sequitur/sequiturlaw17.LitClean", spec := "litClean", unfollowed := true, recurses := true, apart := false }
def LitCleanSaid : Prop := litCleanRow.holds Try.pinned (OpenSpec.ofChange litCleanSpec)

/-- ITS FALSE NEIGHBOUR: 'it returns false'. Refute it at one input. -/
def litCleanWrong : ChangeSpec := { name := "litClean", fn := fun _ => fun
  | [d1, d2] => { results := [.lit (.bool false)], args := [d1, d2] }
  | _ => none }
def LitCleanWrongFalsely : Prop := litCleanRow.holds Try.pinned (OpenSpec.ofChange litCleanWrong)

/-- 'sequiturlaw17.LitWithin': WHATEVER THE INPUT: true; the input reads as it did. -/
def litWithinSpec : ChangeSpec := { name := "litWithin", fn := fun _ => fun
  | [d1, d2, d3] => { results := [.lit (.bool true)], args := [d1, d2, d3] }
  | _ => none }
def litWithinRow : OpenClaim := { program := "ytmihgbjfiigmlaa", sum := "68e129f6a581bdaf0900126928d4b7681e48a6ea2a8b1e77b0be60864a82bf74", func := "sequitur/sequiturlaw17.LitWithin", spec := "litWithin", unfollowed := true, recurses := true, apart := false }
def LitWithinSaid : Prop := litWithinRow.holds Try.pinned (OpenSpec.ofChange litWithinSpec)

/-- ITS FALSE NEIGHBOUR: 'it returns false'. Refute it at one input. -/
def litWithinWrong : ChangeSpec := { name := "litWithin", fn := fun _ => fun
  | [d1, d2, d3] => { results := [.lit (.bool false)], args := [d1, d2, d3] }
  | _ => none }
def LitWithinWrongFalsely : Prop := litWithinRow.holds Try.pinned (OpenSpec.ofChange litWithinWrong)

/-- 'sequiturlaw24.ChainSteps': WHATEVER THE INPUT: true; the input reads as it did. -/
def chainStepsSpec : ChangeSpec := { name := "chainSteps", fn := fun _ => fun
  | [d1, d2, d3] => { results := [.lit (.bool true)], args := [d1, d2, d3] }
  | _ => none }
def chainStepsRow : OpenClaim := { program := "ytmihgbjfiigmlaa", sum := "68e129f6a581bdaf0900126928d4b7681e48a6ea2a8b1e77b0be60864a82bf74", func := "sequitur/sequiturlaw24.ChainSteps", spec := "chainSteps", unfollowed := true, recurses := true, apart := false }
def ChainStepsSaid : Prop := chainStepsRow.holds Try.pinned (OpenSpec.ofChange chainStepsSpec)

/-- ITS FALSE NEIGHBOUR: 'it returns false'. Refute it at one input. -/
def chainStepsWrong : ChangeSpec := { name := "chainSteps", fn := fun _ => fun
  | [d1, d2, d3] => { results := [.lit (.bool false)], args := [d1, d2, d3] }
  | _ => none }
def ChainStepsWrongFalsely : Prop := chainStepsRow.holds Try.pinned (OpenSpec.ofChange chainStepsWrong)

/-- 'sequiturlaw24.ChainImplies': WHATEVER THE INPUT: true; the input reads as it did. -/
def chainImpliesSpec : ChangeSpec := { name := "chainImplies", fn := fun _ => fun
  | [d1, d2] => { results := [.lit (.bool true)], args := [d1, d2] }
  | _ => none }
def chainImpliesRow : OpenClaim := { program := "ytmihgbjfiigmlaa", sum := "68e129f6a581bdaf0900126928d4b7681e48a6ea2a8b1e77b0be60864a82bf74", func := "sequitur/sequiturlaw24.ChainImplies", spec := "chainImplies", unfollowed := true, recurses := true, apart := false }
def ChainImpliesSaid : Prop := chainImpliesRow.holds Try.pinned (OpenSpec.ofChange chainImpliesSpec)

/-- ITS FALSE NEIGHBOUR: 'it returns false'. Refute it at one input. -/
def chainImpliesWrong : ChangeSpec := { name := "chainImplies", fn := fun _ => fun
  | [d1, d2] => { results := [.lit (.bool false)], args := [d1, d2] }
  | _ => none }
def ChainImpliesWrongFalsely : Prop := chainImpliesRow.holds Try.pinned (OpenSpec.ofChange chainImpliesWrong)

/-- 'sequiturlaw24.ChainChecks': WHATEVER THE INPUT: true; the input reads as it did. -/
def chainChecksSpec : ChangeSpec := { name := "chainChecks", fn := fun _ => fun
  | [d1, d2] => { results := [.lit (.bool true)], args := [d1, d2] }
  | _ => none }
def chainChecksRow : OpenClaim := { program := "ytmihgbjfiigmlaa", sum := "68e129f6a581bdaf0900126928d4b7681e48a6ea2a8b1e77b0be60864a82bf74", func := "sequitur/sequiturlaw24.ChainChecks", spec := "chainChecks", unfollowed := true, recurses := true, apart := false }
def ChainChecksSaid : Prop := chainChecksRow.holds Try.pinned (OpenSpec.ofChange chainChecksSpec)

/-- ITS FALSE NEIGHBOUR: 'it returns false'. Refute it at one input. -/
def chainChecksWrong : ChangeSpec := { name := "chainChecks", fn := fun _ => fun
  | [d1, d2] => { results := [.lit (.bool false)], args := [d1, d2] }
  | _ => none }
def ChainChecksWrongFalsely : Prop := chainChecksRow.holds Try.pinned (OpenSpec.ofChange chainChecksWrong)

/-- 'sequiturlaw24.ChainFrom': WHATEVER THE INPUT: true; the input reads as it did. -/
def chainFromSpec : ChangeSpec := { name := "chainFrom", fn := fun _ => fun
  | [d1, d2] => { results := [.lit (.bool true)], args := [d1, d2] }
  | _ => none }
def chainFromRow : OpenClaim := { program := "ytmihgbjfiigmlaa", sum := "68e129f6a581bdaf0900126928d4b7681e48a6ea2a8b1e77b0be60864a82bf74", func := "sequitur/sequiturlaw24.ChainFrom", spec := "chainFrom", unfollowed := true, recurses := true, apart := false }
def ChainFromSaid : Prop := chainFromRow.holds Try.pinned (OpenSpec.ofChange chainFromSpec)

/-- ITS FALSE NEIGHBOUR: 'it returns false'. Refute it at one input. -/
def chainFromWrong : ChangeSpec := { name := "chainFrom", fn := fun _ => fun
  | [d1, d2] => { results := [.lit (.bool false)], args := [d1, d2] }
  | _ => none }
def ChainFromWrongFalsely : Prop := chainFromRow.holds Try.pinned (OpenSpec.ofChange chainFromWrong)

/- THE SECOND FORM. 'bulk': how many values and letters a reading holds, each counted each time it is reached (what is shared counts as often as it is met; a slice's spare places count too). A statement '..UptoSaid' is the law's where the arguments, and the package variables that the reading takes, are together of bulk at most 1048576: NARROWER than '..Said'. Prove '..Said' where nothing that the law and all that it calls make is longer than what came in: it says more and counts as full. Else prove '..UptoSaid'. A law counts once. -/
mutual
def uptoBulk {H : Type} : DataW H → Nat
  | .lit (.string bytes) => bytes.length + 1
  | .lit _ => 1
  | .nil => 1
  | .ptr d => uptoBulk d + 1
  | .slice elems spare => uptoBulkAll elems + uptoBulkAll spare + 1
  | .agg parts => uptoBulkAll parts + 1
  | .iface _ d => uptoBulk d + 1
  | .map entries => uptoBulkEntries entries + 1
  | .held _ => 1
def uptoBulkAll {H : Type} : List (DataW H) → Nat
  | [] => 0
  | d :: r => uptoBulk d + uptoBulkAll r
def uptoBulkEntries {H : Type} : List (Lit × DataW H) → Nat
  | [] => 0
  | x :: r => uptoBulkEntry x + uptoBulkEntries r
def uptoBulkEntry {H : Type} : Lit × DataW H → Nat
  | (.string bytes, d) => bytes.length + uptoBulk d + 1
  | (_, d) => uptoBulk d + 1
 end
def uptoSmall : (H : Type) → List (DataW H) → Bool := fun _ ds => decide (uptoBulkAll ds ≤ 1048576)
def OpenSpec.upto (s : _root_.Go.ChangeSpec) : _root_.Go.OpenSpec := { _root_.Go.OpenSpec.ofChange s with cond := some uptoSmall }

/-- 'sequiturlaw17.LitSound', WHERE WHAT IT READS IS OF BULK AT MOST 1048576: true; the input reads as it did. -/
def litSoundUptoRow : OpenClaim := { program := "ytmihgbjfiigmlaa", sum := "68e129f6a581bdaf0900126928d4b7681e48a6ea2a8b1e77b0be60864a82bf74", func := "sequitur/sequiturlaw17.LitSound", spec := "litSound", unfollowed := true, recurses := true, apart := false, narrowed := true }
def LitSoundUptoSaid : Prop := litSoundUptoRow.holds Try.pinned (OpenSpec.upto litSoundSpec)

/-- 'sequiturlaw17.LitRight', WHERE WHAT IT READS IS OF BULK AT MOST 1048576: true; the input reads as it did. -/
def litRightUptoRow : OpenClaim := { program := "ytmihgbjfiigmlaa", sum := "68e129f6a581bdaf0900126928d4b7681e48a6ea2a8b1e77b0be60864a82bf74", func := "sequitur/sequiturlaw17.LitRight", spec := "litRight", unfollowed := true, recurses := true, apart := false, narrowed := true }
def LitRightUptoSaid : Prop := litRightUptoRow.holds Try.pinned (OpenSpec.upto litRightSpec)

/-- 'sequiturlaw17.LitResolves', WHERE WHAT IT READS IS OF BULK AT MOST 1048576: true; the input reads as it did. -/
def litResolvesUptoRow : OpenClaim := { program := "ytmihgbjfiigmlaa", sum := "68e129f6a581bdaf0900126928d4b7681e48a6ea2a8b1e77b0be60864a82bf74", func := "sequitur/sequiturlaw17.LitResolves", spec := "litResolves", unfollowed := true, recurses := true, apart := false, narrowed := true }
def LitResolvesUptoSaid : Prop := litResolvesUptoRow.holds Try.pinned (OpenSpec.upto litResolvesSpec)

/-- 'sequiturlaw17.LitHolds', WHERE WHAT IT READS IS OF BULK AT MOST 1048576: true; the input reads as it did. -/
def litHoldsUptoRow : OpenClaim := { program := "ytmihgbjfiigmlaa", sum := "68e129f6a581bdaf0900126928d4b7681e48a6ea2a8b1e77b0be60864a82bf74", func := "sequitur/sequiturlaw17.LitHolds", spec := "litHolds", unfollowed := true, recurses := true, apart := false, narrowed := true }
def LitHoldsUptoSaid : Prop := litHoldsUptoRow.holds Try.pinned (OpenSpec.upto litHoldsSpec)

/-- 'sequiturlaw17.LitClean', WHERE WHAT IT READS IS OF BULK AT MOST 1048576: true; the input reads as it did. -/
def litCleanUptoRow : OpenClaim := { program := "ytmihgbjfiigmlaa", sum := "68e129f6a581bdaf0900126928d4b7681e48a6ea2a8b1e77b0be60864a82bf74", func := "sequitur/sequiturlaw17.LitClean", spec := "litClean", unfollowed := true, recurses := true, apart := false, narrowed := true }
def LitCleanUptoSaid : Prop := litCleanUptoRow.holds Try.pinned (OpenSpec.upto litCleanSpec)

/-- 'sequiturlaw17.LitWithin', WHERE WHAT IT READS IS OF BULK AT MOST 1048576: true; the input reads as it did. -/
def litWithinUptoRow : OpenClaim := { program := "ytmihgbjfiigmlaa", sum := "68e129f6a581bdaf0900126928d4b7681e48a6ea2a8b1e77b0be60864a82bf74", func := "sequitur/sequiturlaw17.LitWithin", spec := "litWithin", unfollowed := true, recurses := true, apart := false, narrowed := true }
def LitWithinUptoSaid : Prop := litWithinUptoRow.holds Try.pinned (OpenSpec.upto litWithinSpec)

/-- 'sequiturlaw24.ChainSteps', WHERE WHAT IT READS IS OF BULK AT MOST 1048576: true; the input reads as it did. -/
def chainStepsUptoRow : OpenClaim := { program := "ytmihgbjfiigmlaa", sum := "68e129f6a581bdaf0900126928d4b7681e48a6ea2a8b1e77b0be60864a82bf74", func := "sequitur/sequiturlaw24.ChainSteps", spec := "chainSteps", unfollowed := true, recurses := true, apart := false, narrowed := true }
def ChainStepsUptoSaid : Prop := chainStepsUptoRow.holds Try.pinned (OpenSpec.upto chainStepsSpec)

/-- 'sequiturlaw24.ChainImplies', WHERE WHAT IT READS IS OF BULK AT MOST 1048576: true; the input reads as it did. -/
def chainImpliesUptoRow : OpenClaim := { program := "ytmihgbjfiigmlaa", sum := "68e129f6a581bdaf0900126928d4b7681e48a6ea2a8b1e77b0be60864a82bf74", func := "sequitur/sequiturlaw24.ChainImplies", spec := "chainImplies", unfollowed := true, recurses := true, apart := false, narrowed := true }
def ChainImpliesUptoSaid : Prop := chainImpliesUptoRow.holds Try.pinned (OpenSpec.upto chainImpliesSpec)

/-- 'sequiturlaw24.ChainChecks', WHERE WHAT IT READS IS OF BULK AT MOST 1048576: true; the input reads as it did. -/
def chainChecksUptoRow : OpenClaim := { program := "ytmihgbjfiigmlaa", sum := "68e129f6a581bdaf0900126928d4b7681e48a6ea2a8b1e77b0be60864a82bf74", func := "sequitur/sequiturlaw24.ChainChecks", spec := "chainChecks", unfollowed := true, recurses := true, apart := false, narrowed := true }
def ChainChecksUptoSaid : Prop := chainChecksUptoRow.holds Try.pinned (OpenSpec.upto chainChecksSpec)

/-- 'sequiturlaw24.ChainFrom', WHERE WHAT IT READS IS OF BULK AT MOST 1048576: true; the input reads as it did. -/
def chainFromUptoRow : OpenClaim := { program := "ytmihgbjfiigmlaa", sum := "68e129f6a581bdaf0900126928d4b7681e48a6ea2a8b1e77b0be60864a82bf74", func := "sequitur/sequiturlaw24.ChainFrom", spec := "chainFrom", unfollowed := true, recurses := true, apart := false, narrowed := true }
def ChainFromUptoSaid : Prop := chainFromUptoRow.holds Try.pinned (OpenSpec.upto chainFromSpec)

end Rows
end Go.Proofs.Ytmihgbjfiigmlaa
