/-
  No cell of these rows narrows 'for every input' (looked for: loops, veiled, ifaces, maps, wideKeys, modest, calm, conditions, laid).
  DERIVED. THE GIVEN ROWS OF THIS SEAT. 3 by the template 'for every input the law returns true; each argument reads behind the call as it read before'; 0 by the template 'total and deterministic' (their statements: YtppkeonhbkahmaaTotals.lean).
  GIVEN WITH THE SEED: the statements are not yours to turn. If you find one false, say at which input.
  Laid BY PROGRAM, IN A SANDBOX (cutbox-rows.mjs): the forced cells as the released guide's own fill.sh prints them over the translation 8d4464fe71af4e37… (all of the seat's roots in one cut). By AI agents, Wed Nov 11 2026. No macro, syntax, notation, axiom, sorry.
-/
import Derived.Test.YtppkeonhbkahmaaChecked
import GoSem.Claim
import GoSem.ClaimJoined
import GoSem.ClaimMapViews
import Derived.JoinedTies
import Derived.KernelRfl
namespace Go.Proofs.Ytppkeonhbkahmaa
/- THE CELL 'sum', in the pinned program and in every row, IS THE sha256 OF THE DUMP (.gsa) THAT YtppkeonhbkahmaaProg.lean LOADS. Nothing in Lean hashes anything: it is a label: what it is worth is what the hold of that sum in a sandbox is worth. -/
noncomputable def Try.pinned : Pinned := { name := "ytppkeonhbkahmaa", sum := "8d4464fe71af4e37b7f22dbfdfcd67fb3eec8483428fedea1587f2dd848112d8", checked := Try.checked }
namespace Rows
def none {H : Type} : Left H := { results := [], args := [] }

/-- 'sequiturlaw25.CoreRefuted': WHATEVER THE INPUT: true; the input reads as it did. -/
def coreRefutedSpec : ChangeSpec := { name := "coreRefuted", fn := fun _ => fun
  | [d1, d2] => { results := [.lit (.bool true)], args := [d1, d2] }
  | _ => none }
def coreRefutedRow : OpenClaim := { program := "ytppkeonhbkahmaa", sum := "8d4464fe71af4e37b7f22dbfdfcd67fb3eec8483428fedea1587f2dd848112d8", func := "sequitur/sequiturlaw25.CoreRefuted", spec := "coreRefuted", unfollowed := true, recurses := true, apart := false }
def CoreRefutedSaid : Prop := coreRefutedRow.holds Try.pinned (OpenSpec.ofChange coreRefutedSpec)

/-- ITS FALSE NEIGHBOUR: 'it returns false'. Refute it at one input. -/
def coreRefutedWrong : ChangeSpec := { name := "coreRefuted", fn := fun _ => fun
  | [d1, d2] => { results := [.lit (.bool false)], args := [d1, d2] }
  | _ => none }
def CoreRefutedWrongFalsely : Prop := coreRefutedRow.holds Try.pinned (OpenSpec.ofChange coreRefutedWrong)

/-- 'sequiturlaw25.CoreTrims': WHATEVER THE INPUT: true; the input reads as it did. -/
def coreTrimsSpec : ChangeSpec := { name := "coreTrims", fn := fun _ => fun
  | [d1, d2] => { results := [.lit (.bool true)], args := [d1, d2] }
  | _ => none }
def coreTrimsRow : OpenClaim := { program := "ytppkeonhbkahmaa", sum := "8d4464fe71af4e37b7f22dbfdfcd67fb3eec8483428fedea1587f2dd848112d8", func := "sequitur/sequiturlaw25.CoreTrims", spec := "coreTrims", unfollowed := true, recurses := true, apart := false }
def CoreTrimsSaid : Prop := coreTrimsRow.holds Try.pinned (OpenSpec.ofChange coreTrimsSpec)

/-- ITS FALSE NEIGHBOUR: 'it returns false'. Refute it at one input. -/
def coreTrimsWrong : ChangeSpec := { name := "coreTrims", fn := fun _ => fun
  | [d1, d2] => { results := [.lit (.bool false)], args := [d1, d2] }
  | _ => none }
def CoreTrimsWrongFalsely : Prop := coreTrimsRow.holds Try.pinned (OpenSpec.ofChange coreTrimsWrong)

/-- 'sequiturlaw25.CoreStays': WHATEVER THE INPUT: true; the input reads as it did. -/
def coreStaysSpec : ChangeSpec := { name := "coreStays", fn := fun _ => fun
  | [d1, d2] => { results := [.lit (.bool true)], args := [d1, d2] }
  | _ => none }
def coreStaysRow : OpenClaim := { program := "ytppkeonhbkahmaa", sum := "8d4464fe71af4e37b7f22dbfdfcd67fb3eec8483428fedea1587f2dd848112d8", func := "sequitur/sequiturlaw25.CoreStays", spec := "coreStays", unfollowed := true, recurses := true, apart := false }
def CoreStaysSaid : Prop := coreStaysRow.holds Try.pinned (OpenSpec.ofChange coreStaysSpec)

/-- ITS FALSE NEIGHBOUR: 'it returns false'. Refute it at one input. -/
def coreStaysWrong : ChangeSpec := { name := "coreStays", fn := fun _ => fun
  | [d1, d2] => { results := [.lit (.bool false)], args := [d1, d2] }
  | _ => none }
def CoreStaysWrongFalsely : Prop := coreStaysRow.holds Try.pinned (OpenSpec.ofChange coreStaysWrong)

/- THE SECOND FORM. 'bulk': how many values and letters a reading holds, each counted each time it is reached (what is shared counts as often as it is met; a slice's spare places count too). A statement '..UptoSaid' is the law's where the arguments, and the package variables that the reading takes, are together of bulk at most 1048576: NARROWER than '..Said'. Prove '..Said' where nothing that the law and all that it calls make is longer than what came in: it says more and counts as full. Else prove '..UptoSaid'. A law counts once. -/
mutual
def uptoBulk {H : Type} : DataW H → Nat
  | .lit (.string bytes) => bytes.length + 1
  | .lit _ => 1
  | .nil => 1
  | .ptr d => uptoBulk d + 1
  | .slice elems spare => uptoBulkAll elems + uptoBulkAll spare + 1
  | .agg parts => uptoBulkAll parts + 1
  | .iface _ d => uptoBulk d + 1
  | .map entries => uptoBulkEntries entries + 1
  | .held _ => 1
def uptoBulkAll {H : Type} : List (DataW H) → Nat
  | [] => 0
  | d :: r => uptoBulk d + uptoBulkAll r
def uptoBulkEntries {H : Type} : List (Lit × DataW H) → Nat
  | [] => 0
  | x :: r => uptoBulkEntry x + uptoBulkEntries r
def uptoBulkEntry {H : Type} : Lit × DataW H → Nat
  | (.string bytes, d) => bytes.length + uptoBulk d + 1
  | (_, d) => uptoBulk d + 1
 end
def uptoSmall : (H : Type) → List (DataW H) → Bool := fun _ ds => decide (uptoBulkAll ds ≤ 1048576)
def OpenSpec.upto (s : _root_.Go.ChangeSpec) : _root_.Go.OpenSpec := { _root_.Go.OpenSpec.ofChange s with cond := some uptoSmall }

/-- 'sequiturlaw25.CoreRefuted', WHERE WHAT IT READS IS OF BULK AT MOST 1048576: true; the input reads as it did. -/
def coreRefutedUptoRow : OpenClaim := { program := "ytppkeonhbkahmaa", sum := "8d4464fe71af4e37b7f22dbfdfcd67fb3eec8483428fedea1587f2dd848112d8", func := "sequitur/sequiturlaw25.CoreRefuted", spec := "coreRefuted", unfollowed := true, recurses := true, apart := false, narrowed := true }
def CoreRefutedUptoSaid : Prop := coreRefutedUptoRow.holds Try.pinned (OpenSpec.upto coreRefutedSpec)

/-- 'sequiturlaw25.CoreTrims', WHERE WHAT IT READS IS OF BULK AT MOST 1048576: true; the input reads as it did. -/
def coreTrimsUptoRow : OpenClaim := { program := "ytppkeonhbkahmaa", sum := "8d4464fe71af4e37b7f22dbfdfcd67fb3eec8483428fedea1587f2dd848112d8", func := "sequitur/sequiturlaw25.CoreTrims", spec := "coreTrims", unfollowed := true, recurses := true, apart := false, narrowed := true }
def CoreTrimsUptoSaid : Prop := coreTrimsUptoRow.holds Try.pinned (OpenSpec.upto coreTrimsSpec)

/-- 'sequiturlaw25.CoreStays', WHERE WHAT IT READS IS OF BULK AT MOST 1048576: true; the input reads as it did. -/
def coreStaysUptoRow : OpenClaim := { program := "ytppkeonhbkahmaa", sum := "8d4464fe71af4e37b7f22dbfdfcd67fb3eec8483428fedea1587f2dd848112d8", func := "sequitur/sequiturlaw25.CoreStays", spec := "coreStays", unfollowed := true, recurses := true, apart := false, narrowed := true }
def CoreStaysUptoSaid : Prop := coreStaysUptoRow.holds Try.pinned (OpenSpec.upto coreStaysSpec)

end Rows
end Go.Proofs.Ytppkeonhbkahmaa
