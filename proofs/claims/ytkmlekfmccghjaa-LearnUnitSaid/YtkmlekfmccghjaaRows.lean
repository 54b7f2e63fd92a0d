/-
  No cell of these rows narrows 'for every input' (looked for: loops, veiled, ifaces, maps, wideKeys, modest, calm, conditions, laid).
  DERIVED. THE GIVEN ROWS OF THIS SEAT. 5 by the template 'for every input the law returns true; each argument reads behind the call as it read before'; 0 by the template 'total and deterministic' (their statements: YtkmlekfmccghjaaTotals.lean).
  GIVEN WITH THE SEED: the statements are not yours to turn. If you find one false, say at which input.
  Laid BY PROGRAM, IN A SANDBOX (cutbox-rows.mjs): the forced cells as the released guide's own fill.sh prints them over the translation c1af62078386fd78… (all of the seat's roots in one cut). By AI agents, Wed Nov 11 2026. No macro, syntax, notation, axiom, sorry.
-/
import Derived.Test.YtkmlekfmccghjaaChecked
import GoSem.Claim
import GoSem.ClaimJoined
import GoSem.ClaimMapViews
import Derived.JoinedTies
import Derived.KernelRfl
namespace Go.Proofs.Ytkmlekfmccghjaa
/- THE CELL 'sum', in the pinned program and in every row, IS THE sha256 OF THE DUMP (.gsa) THAT YtkmlekfmccghjaaProg.lean LOADS. Nothing in Lean hashes anything: it is a label: what it is worth is what the hold of that sum in a sandbox is worth. -/
noncomputable def Try.pinned : Pinned := { name := "ytkmlekfmccghjaa", sum := "c1af62078386fd78b8029c5da2c5f9f59b828e51904eb0ddc3e0bd6a605f377d", checked := Try.checked }
namespace Rows
def none {H : Type} : Left H := { results := [], args := [] }

/-- 'sequiturlaw20.UnitPlays': WHATEVER THE INPUT: true; the input reads as it did. -/
def unitPlaysSpec : ChangeSpec := { name := "unitPlays", fn := fun _ => fun
  | [d1, d2] => { results := [.lit (.bool true)], args := [d1, d2] }
  | _ => none }
def unitPlaysRow : OpenClaim := { program := "ytkmlekfmccghjaa", sum := "c1af62078386fd78b8029c5da2c5f9f59b828e51904eb0ddc3e0bd6a605f377d", func := "sequitur/sequiturlaw20.UnitPlays", spec := "unitPlays", unfollowed := true, recurses := true, apart := false }
def UnitPlaysSaid : Prop := unitPlaysRow.holds Try.pinned (OpenSpec.ofChange unitPlaysSpec)

/-- ITS FALSE NEIGHBOUR: 'it returns false'. Refute it at one input. -/
def unitPlaysWrong : ChangeSpec := { name := "unitPlays", fn := fun _ => fun
  | [d1, d2] => { results := [.lit (.bool false)], args := [d1, d2] }
  | _ => none }
def UnitPlaysWrongFalsely : Prop := unitPlaysRow.holds Try.pinned (OpenSpec.ofChange unitPlaysWrong)

/-- 'sequiturlaw21.LearnFirst': WHATEVER THE INPUT: true; the input reads as it did. -/
def learnFirstSpec : ChangeSpec := { name := "learnFirst", fn := fun _ => fun
  | [d1, d2, d3] => { results := [.lit (.bool true)], args := [d1, d2, d3] }
  | _ => none }
def learnFirstRow : OpenClaim := { program := "ytkmlekfmccghjaa", sum := "c1af62078386fd78b8029c5da2c5f9f59b828e51904eb0ddc3e0bd6a605f377d", func := "sequitur/sequiturlaw21.LearnFirst", spec := "learnFirst", unfollowed := true, recurses := true, apart := false }
def LearnFirstSaid : Prop := learnFirstRow.holds Try.pinned (OpenSpec.ofChange learnFirstSpec)

/-- ITS FALSE NEIGHBOUR: 'it returns false'. Refute it at one input. -/
def learnFirstWrong : ChangeSpec := { name := "learnFirst", fn := fun _ => fun
  | [d1, d2, d3] => { results := [.lit (.bool false)], args := [d1, d2, d3] }
  | _ => none }
def LearnFirstWrongFalsely : Prop := learnFirstRow.holds Try.pinned (OpenSpec.ofChange learnFirstWrong)

/-- 'sequiturlaw21.LearnFollows': WHATEVER THE INPUT: true; the input reads as it did. -/
def learnFollowsSpec : ChangeSpec := { name := "learnFollows", fn := fun _ => fun
  | [d1, d2] => { results := [.lit (.bool true)], args := [d1, d2] }
  | _ => none }
def learnFollowsRow : OpenClaim := { program := "ytkmlekfmccghjaa", sum := "c1af62078386fd78b8029c5da2c5f9f59b828e51904eb0ddc3e0bd6a605f377d", func := "sequitur/sequiturlaw21.LearnFollows", spec := "learnFollows", unfollowed := true, recurses := true, apart := false }
def LearnFollowsSaid : Prop := learnFollowsRow.holds Try.pinned (OpenSpec.ofChange learnFollowsSpec)

/-- ITS FALSE NEIGHBOUR: 'it returns false'. Refute it at one input. -/
def learnFollowsWrong : ChangeSpec := { name := "learnFollows", fn := fun _ => fun
  | [d1, d2] => { results := [.lit (.bool false)], args := [d1, d2] }
  | _ => none }
def LearnFollowsWrongFalsely : Prop := learnFollowsRow.holds Try.pinned (OpenSpec.ofChange learnFollowsWrong)

/-- 'sequiturlaw21.LearnTrace': WHATEVER THE INPUT: true; the input reads as it did. -/
def learnTraceSpec : ChangeSpec := { name := "learnTrace", fn := fun _ => fun
  | [d1, d2, d3] => { results := [.lit (.bool true)], args := [d1, d2, d3] }
  | _ => none }
def learnTraceRow : OpenClaim := { program := "ytkmlekfmccghjaa", sum := "c1af62078386fd78b8029c5da2c5f9f59b828e51904eb0ddc3e0bd6a605f377d", func := "sequitur/sequiturlaw21.LearnTrace", spec := "learnTrace", unfollowed := true, recurses := true, apart := false }
def LearnTraceSaid : Prop := learnTraceRow.holds Try.pinned (OpenSpec.ofChange learnTraceSpec)

/-- ITS FALSE NEIGHBOUR: 'it returns false'. Refute it at one input. -/
def learnTraceWrong : ChangeSpec := { name := "learnTrace", fn := fun _ => fun
  | [d1, d2, d3] => { results := [.lit (.bool false)], args := [d1, d2, d3] }
  | _ => none }
def LearnTraceWrongFalsely : Prop := learnTraceRow.holds Try.pinned (OpenSpec.ofChange learnTraceWrong)

/-- 'sequiturlaw21.LearnUnit': WHATEVER THE INPUT: true; the input reads as it did. -/
def learnUnitSpec : ChangeSpec := { name := "learnUnit", fn := fun _ => fun
  | [d1, d2] => { results := [.lit (.bool true)], args := [d1, d2] }
  | _ => none }
def learnUnitRow : OpenClaim := { program := "ytkmlekfmccghjaa", sum := "c1af62078386fd78b8029c5da2c5f9f59b828e51904eb0ddc3e0bd6a605f377d", func := "sequitur/sequiturlaw21.LearnUnit", spec := "learnUnit", unfollowed := true, recurses := true, apart := false }
def LearnUnitSaid : Prop := learnUnitRow.holds Try.pinned (OpenSpec.ofChange learnUnitSpec)

/-- ITS FALSE NEIGHBOUR: 'it returns false'. Refute it at one input. -/
def learnUnitWrong : ChangeSpec := { name := "learnUnit", fn := fun _ => fun
  | [d1, d2] => { results := [.lit (.bool false)], args := [d1, d2] }
  | _ => none }
def LearnUnitWrongFalsely : Prop := learnUnitRow.holds Try.pinned (OpenSpec.ofChange learnUnitWrong)

/- THE SECOND FORM. 'bulk': how many values and letters a reading holds, each counted each time it is reached (what is shared counts as often as it is met; a slice's spare places count too). A statement '..UptoSaid' is the law's where the arguments, and the package variables that the reading takes, are together of bulk at most 1048576: NARROWER than '..Said'. Prove '..Said' where nothing that the law and all that it calls make is longer than what came in: it says more and counts as full. Else prove '..UptoSaid'. A law counts once. -/
mutual
def uptoBulk {H : Type} : DataW H → Nat
  | .lit (.string bytes) => bytes.length + 1
  | .lit _ => 1
  | .nil => 1
  | .ptr d => uptoBulk d + 1
  | .slice elems spare => uptoBulkAll elems + uptoBulkAll spare + 1
  | .agg parts => uptoBulkAll parts + 1
  | .iface _ d => uptoBulk d + 1
  | .map entries => uptoBulkEntries entries + 1
  | .held _ => 1
def uptoBulkAll {H : Type} : List (DataW H) → Nat
  | [] => 0
  | d :: r => uptoBulk d + uptoBulkAll r
def uptoBulkEntries {H : Type} : List (Lit × DataW H) → Nat
  | [] => 0
  | x :: r => uptoBulkEntry x + uptoBulkEntries r
def uptoBulkEntry {H : Type} : Lit × DataW H → Nat
  | (.string bytes, d) => bytes.length + uptoBulk d + 1
  | (_, d) => uptoBulk d + 1
 end
def uptoSmall : (H : Type) → List (DataW H) → Bool := fun _ ds => decide (uptoBulkAll ds ≤ 1048576)
def OpenSpec.upto (s : _root_.Go.ChangeSpec) : _root_.Go.OpenSpec := { _root_.Go.OpenSpec.ofChange s with cond := some uptoSmall }

/-- 'sequiturlaw20.UnitPlays', WHERE WHAT IT READS IS OF BULK AT MOST 1048576: true; the input reads as it did. -/
def unitPlaysUptoRow : OpenClaim := { program := "ytkmlekfmccghjaa", sum := "c1af62078386fd78b8029c5da2c5f9f59b828e51904eb0ddc3e0bd6a605f377d", func := "sequitur/sequiturlaw20.UnitPlays", spec := "unitPlays", unfollowed := true, recurses := true, apart := false, narrowed := true }
def UnitPlaysUptoSaid : Prop := unitPlaysUptoRow.holds Try.pinned (OpenSpec.upto unitPlaysSpec)

/-- 'sequiturlaw21.LearnFirst', WHERE WHAT IT READS IS OF BULK AT MOST 1048576: true; the input reads as it did. -/
def learnFirstUptoRow : OpenClaim := { program := "ytkmlekfmccghjaa", sum := "c1af62078386fd78b8029c5da2c5f9f59b828e51904eb0ddc3e0bd6a605f377d", func := "sequitur/sequiturlaw21.LearnFirst", spec := "learnFirst", unfollowed := true, recurses := true, apart := false, narrowed := true }
def LearnFirstUptoSaid : Prop := learnFirstUptoRow.holds Try.pinned (OpenSpec.upto learnFirstSpec)

/-- 'sequiturlaw21.LearnFollows', WHERE WHAT IT READS IS OF BULK AT MOST 1048576: true; the input reads as it did. -/
def learnFollowsUptoRow : OpenClaim := { program := "ytkmlekfmccghjaa", sum := "c1af62078386fd78b8029c5da2c5f9f59b828e51904eb0ddc3e0bd6a605f377d", func := "sequitur/sequiturlaw21.LearnFollows", spec := "learnFollows", unfollowed := true, recurses := true, apart := false, narrowed := true }
def LearnFollowsUptoSaid : Prop := learnFollowsUptoRow.holds Try.pinned (OpenSpec.upto learnFollowsSpec)

/-- 'sequiturlaw21.LearnTrace', WHERE WHAT IT READS IS OF BULK AT MOST 1048576: true; the input reads as it did. -/
def learnTraceUptoRow : OpenClaim := { program := "ytkmlekfmccghjaa", sum := "c1af62078386fd78b8029c5da2c5f9f59b828e51904eb0ddc3e0bd6a605f377d", func := "sequitur/sequiturlaw21.LearnTrace", spec := "learnTrace", unfollowed := true, recurses := true, apart := false, narrowed := true }
def LearnTraceUptoSaid : Prop := learnTraceUptoRow.holds Try.pinned (OpenSpec.upto learnTraceSpec)

/-- 'sequiturlaw21.LearnUnit', WHERE WHAT IT READS IS OF BULK AT MOST 1048576: true; the input reads as it did. -/
def learnUnitUptoRow : OpenClaim := { program := "ytkmlekfmccghjaa", sum := "c1af62078386fd78b8029c5da2c5f9f59b828e51904eb0ddc3e0bd6a605f377d", func := "sequitur/sequiturlaw21.LearnUnit", spec := "learnUnit", unfollowed := true, recurses := true, apart := false, narrowed := true }
def LearnUnitUptoSaid : Prop := learnUnitUptoRow.holds Try.pinned (OpenSpec.upto learnUnitSpec)

end Rows
end Go.Proofs.Ytkmlekfmccghjaa
