/-
  No cell of these rows narrows 'for every input' (looked for: loops, veiled, ifaces, maps, wideKeys, modest, calm, conditions, laid).
  DERIVED. THE GIVEN ROWS OF THIS SEAT. 11 by the template 'for every input the law returns true; each argument reads behind the call as it read before'; 0 by the template 'total and deterministic' (their statements: YtfcofpgehlmbbaaTotals.lean).
  GIVEN WITH THE SEED: the statements are not yours to turn. If you find one false, say at which input.
  Laid BY PROGRAM, IN A SANDBOX (cutbox-rows.mjs): the forced cells as the released guide's own fill.sh prints them over the translation da116272db38b71f… (all of the seat's roots in one cut). By AI agents, Wed Nov 11 2026. No macro, syntax, notation, axiom, sorry.
-/
import Derived.Test.YtfcofpgehlmbbaaChecked
import GoSem.Claim
import GoSem.ClaimJoined
import GoSem.ClaimMapViews
import Derived.JoinedTies
import Derived.KernelRfl
namespace Go.Proofs.Ytfcofpgehlmbbaa
/- THE CELL 'sum', in the pinned program and in every row, IS THE sha256 OF THE DUMP (.gsa) THAT YtfcofpgehlmbbaaProg.lean LOADS. Nothing in Lean hashes anything: it is a label: what it is worth is what the hold of that sum in a sandbox is worth. -/
noncomputable def Try.pinned : Pinned := { name := "ytfcofpgehlmbbaa", sum := "da116272db38b71fb7e346ef58002ae6669ae961b8d656bddda2f7f7a8816a0b", checked := Try.checked }
namespace Rows
def none {H : Type} : Left H := { results := [], args := [] }

/-- 'sequiturlaw20.UnitSound': WHATEVER THE INPUT: true; the input reads as it did. -/
def unitSoundSpec : ChangeSpec := { name := "unitSound", fn := fun _ => fun
  | [d1, d2, d3] => { results := [.lit (.bool true)], args := [d1, d2, d3] }
  | _ => none }
def unitSoundRow : OpenClaim := { program := "ytfcofpgehlmbbaa", sum := "da116272db38b71fb7e346ef58002ae6669ae961b8d656bddda2f7f7a8816a0b", func := "sequitur/sequiturlaw20.UnitSound", spec := "unitSound", unfollowed := true, recurses := true, apart := false }
def UnitSoundSaid : Prop := unitSoundRow.holds Try.pinned (OpenSpec.ofChange unitSoundSpec)

/-- ITS FALSE NEIGHBOUR: 'it returns false'. Refute it at one input. -/
def unitSoundWrong : ChangeSpec := { name := "unitSound", fn := fun _ => fun
  | [d1, d2, d3] => { results := [.lit (.bool false)], args := [d1, d2, d3] }
  | _ => none }
def UnitSoundWrongFalsely : Prop := unitSoundRow.holds Try.pinned (OpenSpec.ofChange unitSoundWrong)

/-- 'sequiturlaw20.UnitPlays': WHATEVER THE INPUT: true; the input reads as it did. -/
def unitPlaysSpec : ChangeSpec := { name := "unitPlays", fn := fun _ => fun
  | [d1, d2] => { results := [.lit (.bool true)], args := [d1, d2] }
  | _ => none }
def unitPlaysRow : OpenClaim := { program := "ytfcofpgehlmbbaa", sum := "da116272db38b71fb7e346ef58002ae6669ae961b8d656bddda2f7f7a8816a0b", func := "sequitur/sequiturlaw20.UnitPlays", spec := "unitPlays", unfollowed := true, recurses := true, apart := false }
def UnitPlaysSaid : Prop := unitPlaysRow.holds Try.pinned (OpenSpec.ofChange unitPlaysSpec)

/-- ITS FALSE NEIGHBOUR: 'it returns false'. Refute it at one input. -/
def unitPlaysWrong : ChangeSpec := { name := "unitPlays", fn := fun _ => fun
  | [d1, d2] => { results := [.lit (.bool false)], args := [d1, d2] }
  | _ => none }
def UnitPlaysWrongFalsely : Prop := unitPlaysRow.holds Try.pinned (OpenSpec.ofChange unitPlaysWrong)

/-- 'sequiturlaw20.UnitBack': WHATEVER THE INPUT: true; the input reads as it did. -/
def unitBackSpec : ChangeSpec := { name := "unitBack", fn := fun _ => fun
  | [d1, d2, d3] => { results := [.lit (.bool true)], args := [d1, d2, d3] }
  | _ => none }
def unitBackRow : OpenClaim := { program := "ytfcofpgehlmbbaa", sum := "da116272db38b71fb7e346ef58002ae6669ae961b8d656bddda2f7f7a8816a0b", func := "sequitur/sequiturlaw20.UnitBack", spec := "unitBack", unfollowed := true, recurses := true, apart := false }
def UnitBackSaid : Prop := unitBackRow.holds Try.pinned (OpenSpec.ofChange unitBackSpec)

/-- ITS FALSE NEIGHBOUR: 'it returns false'. Refute it at one input. -/
def unitBackWrong : ChangeSpec := { name := "unitBack", fn := fun _ => fun
  | [d1, d2, d3] => { results := [.lit (.bool false)], args := [d1, d2, d3] }
  | _ => none }
def UnitBackWrongFalsely : Prop := unitBackRow.holds Try.pinned (OpenSpec.ofChange unitBackWrong)

/-- 'sequiturlaw20.UnitNobody': WHATEVER THE INPUT: true; the input reads as it did. -/
def unitNobodySpec : ChangeSpec := { name := "unitNobody", fn := fun _ => fun
  | [d1, d2] => { results := [.lit (.bool true)], args := [d1, d2] }
  | _ => none }
def unitNobodyRow : OpenClaim := { program := "ytfcofpgehlmbbaa", sum := "da116272db38b71fb7e346ef58002ae6669ae961b8d656bddda2f7f7a8816a0b", func := "sequitur/sequiturlaw20.UnitNobody", spec := "unitNobody", unfollowed := true, recurses := true, apart := false }
def UnitNobodySaid : Prop := unitNobodyRow.holds Try.pinned (OpenSpec.ofChange unitNobodySpec)

/-- ITS FALSE NEIGHBOUR: 'it returns false'. Refute it at one input. -/
def unitNobodyWrong : ChangeSpec := { name := "unitNobody", fn := fun _ => fun
  | [d1, d2] => { results := [.lit (.bool false)], args := [d1, d2] }
  | _ => none }
def UnitNobodyWrongFalsely : Prop := unitNobodyRow.holds Try.pinned (OpenSpec.ofChange unitNobodyWrong)

/-- 'sequiturlaw21.LearnFirst': WHATEVER THE INPUT: true; the input reads as it did. -/
def learnFirstSpec : ChangeSpec := { name := "learnFirst", fn := fun _ => fun
  | [d1, d2, d3] => { results := [.lit (.bool true)], args := [d1, d2, d3] }
  | _ => none }
def learnFirstRow : OpenClaim := { program := "ytfcofpgehlmbbaa", sum := "da116272db38b71fb7e346ef58002ae6669ae961b8d656bddda2f7f7a8816a0b", func := "sequitur/sequiturlaw21.LearnFirst", spec := "learnFirst", unfollowed := true, recurses := true, apart := false }
def LearnFirstSaid : Prop := learnFirstRow.holds Try.pinned (OpenSpec.ofChange learnFirstSpec)

/-- ITS FALSE NEIGHBOUR: 'it returns false'. Refute it at one input. -/
def learnFirstWrong : ChangeSpec := { name := "learnFirst", fn := fun _ => fun
  | [d1, d2, d3] => { results := [.lit (.bool false)], args := [d1, d2, d3] }
  | _ => none }
def LearnFirstWrongFalsely : Prop := learnFirstRow.holds Try.pinned (OpenSpec.ofChange learnFirstWrong)

/-- 'sequiturlaw21.LearnFollows': WHATEVER THE INPUT: true; the input reads as it did. -/
def learnFollowsSpec : ChangeSpec := { name := "learnFollows", fn := fun _ => fun
  | [d1, d2] => { results := [.lit (.bool true)], args := [d1, d2] }
  | _ => none }
def learnFollowsRow : OpenClaim := { program := "ytfcofpgehlmbbaa", sum := "da116272db38b71fb7e346ef58002ae6669ae961b8d656bddda2f7f7a8816a0b", func := "sequitur/sequiturlaw21.LearnFollows", spec := "learnFollows", unfollowed := true, recurses := true, apart := false }
def LearnFollowsSaid : Prop := learnFollowsRow.holds Try.pinned (OpenSpec.ofChange learnFollowsSpec)

/-- ITS FALSE NEIGHBOUR: 'it returns false'. Refute it at one input. -/
def learnFollowsWrong : ChangeSpec := { name := "learnFollows", fn := fun _ => fun
  | [d1, d2] => { results := [.lit (.bool false)], args := [d1, d2] }
  | _ => none }
def LearnFollowsWrongFalsely : Prop := learnFollowsRow.holds Try.pinned (OpenSpec.ofChange learnFollowsWrong)

/-- 'sequiturlaw25.CoreRefuted': WHATEVER THE INPUT: true; the input reads as it did. -/
def coreRefutedSpec : ChangeSpec := { name := "coreRefuted", fn := fun _ => fun
  | [d1, d2] => { results := [.lit (.bool true)], args := [d1, d2] }
  | _ => none }
def coreRefutedRow : OpenClaim := { program := "ytfcofpgehlmbbaa", sum := "da116272db38b71fb7e346ef58002ae6669ae961b8d656bddda2f7f7a8816a0b", func := "sequitur/sequiturlaw25.CoreRefuted", spec := "coreRefuted", unfollowed := true, recurses := true, apart := false }
def CoreRefutedSaid : Prop := coreRefutedRow.holds Try.pinned (OpenSpec.ofChange coreRefutedSpec)

/-- ITS FALSE NEIGHBOUR: 'it returns false'. Refute it at one input. -/
def coreRefutedWrong : ChangeSpec := { name := "coreRefuted", fn := fun _ => fun
  | [d1, d2] => { results := [.lit (.bool false)], args := [d1, d2] }
  | _ => none }
def CoreRefutedWrongFalsely : Prop := coreRefutedRow.holds Try.pinned (OpenSpec.ofChange coreRefutedWrong)

/-- 'sequiturlaw21.LearnTrace': WHATEVER THE INPUT: true; the input reads as it did. -/
def learnTraceSpec : ChangeSpec := { name := "learnTrace", fn := fun _ => fun
  | [d1, d2, d3] => { results := [.lit (.bool true)], args := [d1, d2, d3] }
  | _ => none }
def learnTraceRow : OpenClaim := { program := "ytfcofpgehlmbbaa", sum := "da116272db38b71fb7e346ef58002ae6669ae961b8d656bddda2f7f7a8816a0b", func := "sequitur/sequiturlaw21.LearnTrace", spec := "learnTrace", unfollowed := true, recurses := true, apart := false }
def LearnTraceSaid : Prop := learnTraceRow.holds Try.pinned (OpenSpec.ofChange learnTraceSpec)

/-- ITS FALSE NEIGHBOUR: 'it returns false'. Refute it at one input. -/
def learnTraceWrong : ChangeSpec := { name := "learnTrace", fn := fun _ => fun
  | [d1, d2, d3] => { results := [.lit (.bool false)], args := [d1, d2, d3] }
  | _ => none }
def LearnTraceWrongFalsely : Prop := learnTraceRow.holds Try.pinned (OpenSpec.ofChange learnTraceWrong)

/-- 'sequiturlaw21.LearnUnit': WHATEVER THE INPUT: true; the input reads as it did. -/
def learnUnitSpec : ChangeSpec := { name := "learnUnit", fn := fun _ => fun
  | [d1, d2] => { results := [.lit (.bool true)], args := [d1, d2] }
  | _ => none }
def learnUnitRow : OpenClaim := { program := "ytfcofpgehlmbbaa", sum := "da116272db38b71fb7e346ef58002ae6669ae961b8d656bddda2f7f7a8816a0b", func := "sequitur/sequiturlaw21.LearnUnit", spec := "learnUnit", unfollowed := true, recurses := true, apart := false }
def LearnUnitSaid : Prop := learnUnitRow.holds Try.pinned (OpenSpec.ofChange learnUnitSpec)

/-- ITS FALSE NEIGHBOUR: 'it returns false'. Refute it at one input. -/
def learnUnitWrong : ChangeSpec := { name := "learnUnit", fn := fun _ => fun
  | [d1, d2] => { results := [.lit (.bool false)], args := [d1, d2] }
  | _ => none }
def LearnUnitWrongFalsely : Prop := learnUnitRow.holds Try.pinned (OpenSpec.ofChange learnUnitWrong)

/-- 'sequiturlaw25.CoreTrims': WHATEVER THE INPUT: true; the input reads as it did. -/
def coreTrimsSpec : ChangeSpec := { name := "coreTrims", fn := fun _ => fun
  | [d1, d2] => { results := [.lit (.bool true)], args := [d1, d2] }
  | _ => none }
def coreTrimsRow : OpenClaim := { program := "ytfcofpgehlmbbaa", sum := "da116272db38b71fb7e346ef58002ae6669ae961b8d656bddda2f7f7a8816a0b", func := "sequitur/sequiturlaw25.CoreTrims", spec := "coreTrims", unfollowed := true, recurses := true, apart := false }
def CoreTrimsSaid : Prop := coreTrimsRow.holds Try.pinned (OpenSpec.ofChange coreTrimsSpec)

/-- ITS FALSE NEIGHBOUR: 'it returns false'. Refute it at one input. -/
def coreTrimsWrong : ChangeSpec := { name := "coreTrims", fn := fun _ => fun
  | [d1, d2] => { results := [.lit (.bool false)], args := [d1, d2] }
  | _ => none }
def CoreTrimsWrongFalsely : Prop := coreTrimsRow.holds Try.pinned (OpenSpec.ofChange coreTrimsWrong)

/-- 'sequiturlaw25.CoreStays': WHATEVER THE INPUT: true; the input reads as it did. -/
def coreStaysSpec : ChangeSpec := { name := "coreStays", fn := fun _ => fun
  | [d1, d2] => { results := [.lit (.bool true)], args := [d1, d2] }
  | _ => none }
def coreStaysRow : OpenClaim := { program := "ytfcofpgehlmbbaa", sum := "da116272db38b71fb7e346ef58002ae6669ae961b8d656bddda2f7f7a8816a0b", func := "sequitur/sequiturlaw25.CoreStays", spec := "coreStays", unfollowed := true, recurses := true, apart := false }
def CoreStaysSaid : Prop := coreStaysRow.holds Try.pinned (OpenSpec.ofChange coreStaysSpec)

/-- ITS FALSE NEIGHBOUR: 'it returns false'. Refute it at one input. -/
def coreStaysWrong : ChangeSpec := { name := "coreStays", fn := fun _ => fun
  | [d1, d2] => { results := [.lit (.bool false)], args := [d1, d2] }
  | _ => none }
def CoreStaysWrongFalsely : Prop := coreStaysRow.holds Try.pinned (OpenSpec.ofChange coreStaysWrong)

/- THE SECOND FORM. 'bulk': how many values and letters a reading holds, each counted each time it is reached (what is shared counts as often as it is met; a slice's spare places count too). A statement '..UptoSaid' is the law's where the arguments, and the package variables that the reading takes, are together of bulk at most 1048576: NARROWER than '..Said'. Prove '..Said' where nothing that the law and all that it calls make is longer than what came in: it says more and counts as full. Else prove '..UptoSaid'. A law counts once. -/
mutual
def uptoBulk {H : Type} : DataW H → Nat
  | .lit (.string bytes) => bytes.length + 1
  | .lit _ => 1
  | .nil => 1
  | .ptr d => uptoBulk d + 1
  | .slice elems spare => uptoBulkAll elems + uptoBulkAll spare + 1
  | .agg parts => uptoBulkAll parts + 1
  | .iface _ d => uptoBulk d + 1
  | .map entries => uptoBulkEntries entries + 1
  | .held _ => 1
def uptoBulkAll {H : Type} : List (DataW H) → Nat
  | [] => 0
  | d :: r => uptoBulk d + uptoBulkAll r
def uptoBulkEntries {H : Type} : List (Lit × DataW H) → Nat
  | [] => 0
  | x :: r => uptoBulkEntry x + uptoBulkEntries r
def uptoBulkEntry {H : Type} : Lit × DataW H → Nat
  | (.string bytes, d) => bytes.length + uptoBulk d + 1
  | (_, d) => uptoBulk d + 1
 end
def uptoSmall : (H : Type) → List (DataW H) → Bool := fun _ ds => decide (uptoBulkAll ds ≤ 1048576)
def OpenSpec.upto (s : _root_.Go.ChangeSpec) : _root_.Go.OpenSpec := { _root_.Go.OpenSpec.ofChange s with cond := some uptoSmall }

/-- 'sequiturlaw20.UnitSound', WHERE WHAT IT READS IS OF BULK AT MOST 1048576: true; the input reads as it did. -/
def unitSoundUptoRow : OpenClaim := { program := "ytfcofpgehlmbbaa", sum := "da116272db38b71fb7e346ef58002ae6669ae961b8d656bddda2f7f7a8816a0b", func := "sequitur/sequiturlaw20.UnitSound", spec := "unitSound", unfollowed := true, recurses := true, apart := false, narrowed := true }
def UnitSoundUptoSaid : Prop := unitSoundUptoRow.holds Try.pinned (OpenSpec.upto unitSoundSpec)

/-- 'sequiturlaw20.UnitPlays', WHERE WHAT IT READS IS OF BULK AT MOST 1048576: true; the input reads as it did. -/
def unitPlaysUptoRow : OpenClaim := { program := "ytfcofpgehlmbbaa", sum := "da116272db38b71fb7e346ef58002ae6669ae961b8d656bddda2f7f7a8816a0b", func := "sequitur/sequiturlaw20.UnitPlays", spec := "unitPlays", unfollowed := true, recurses := true, apart := false, narrowed := true }
def UnitPlaysUptoSaid : Prop := unitPlaysUptoRow.holds Try.pinned (OpenSpec.upto unitPlaysSpec)

/-- 'sequiturlaw20.UnitBack', WHERE WHAT IT READS IS OF BULK AT MOST 1048576: true; the input reads as it did. -/
def unitBackUptoRow : OpenClaim := { program := "ytfcofpgehlmbbaa", sum := "da116272db38b71fb7e346ef58002ae6669ae961b8d656bddda2f7f7a8816a0b", func := "sequitur/sequiturlaw20.UnitBack", spec := "unitBack", unfollowed := true, recurses := true, apart := false, narrowed := true }
def UnitBackUptoSaid : Prop := unitBackUptoRow.holds Try.pinned (OpenSpec.upto unitBackSpec)

/-- 'sequiturlaw20.UnitNobody', WHERE WHAT IT READS IS OF BULK AT MOST 1048576: true; the input reads as it did. -/
def unitNobodyUptoRow : OpenClaim := { program := "ytfcofpgehlmbbaa", sum := "da116272db38b71fb7e346ef58002ae6669ae961b8d656bddda2f7f7a8816a0b", func := "sequitur/sequiturlaw20.UnitNobody", spec := "unitNobody", unfollowed := true, recurses := true, apart := false, narrowed := true }
def UnitNobodyUptoSaid : Prop := unitNobodyUptoRow.holds Try.pinned (OpenSpec.upto unitNobodySpec)

/-- 'sequiturlaw21.LearnFirst', WHERE WHAT IT READS IS OF BULK AT MOST 1048576: true; the input reads as it did. -/
def learnFirstUptoRow : OpenClaim := { program := "ytfcofpgehlmbbaa", sum := "da116272db38b71fb7e346ef58002ae6669ae961b8d656bddda2f7f7a8816a0b", func := "sequitur/sequiturlaw21.LearnFirst", spec := "learnFirst", unfollowed := true, recurses := true, apart := false, narrowed := true }
def LearnFirstUptoSaid : Prop := learnFirstUptoRow.holds Try.pinned (OpenSpec.upto learnFirstSpec)

/-- 'sequiturlaw21.LearnFollows', WHERE WHAT IT READS IS OF BULK AT MOST 1048576: true; the input reads as it did. -/
def learnFollowsUptoRow : OpenClaim := { program := "ytfcofpgehlmbbaa", sum := "da116272db38b71fb7e346ef58002ae6669ae961b8d656bddda2f7f7a8816a0b", func := "sequitur/sequiturlaw21.LearnFollows", spec := "learnFollows", unfollowed := true, recurses := true, apart := false, narrowed := true }
def LearnFollowsUptoSaid : Prop := learnFollowsUptoRow.holds Try.pinned (OpenSpec.upto learnFollowsSpec)

/-- 'sequiturlaw25.CoreRefuted', WHERE WHAT IT READS IS OF BULK AT MOST 1048576: true; the input reads as it did. -/
def coreRefutedUptoRow : OpenClaim := { program := "ytfcofpgehlmbbaa", sum := "da116272db38b71fb7e346ef58002ae6669ae961b8d656bddda2f7f7a8816a0b", func := "sequitur/sequiturlaw25.CoreRefuted", spec := "coreRefuted", unfollowed := true, recurses := true, apart := false, narrowed := true }
def CoreRefutedUptoSaid : Prop := coreRefutedUptoRow.holds Try.pinned (OpenSpec.upto coreRefutedSpec)

/-- 'sequiturlaw21.LearnTrace', WHERE WHAT IT READS IS OF BULK AT MOST 1048576: true; the input reads as it did. -/
def learnTraceUptoRow : OpenClaim := { program := "ytfcofpgehlmbbaa", sum := "da116272db38b71fb7e346ef58002ae6669ae961b8d656bddda2f7f7a8816a0b", func := "sequitur/sequiturlaw21.LearnTrace", spec := "learnTrace", unfollowed := true, recurses := true, apart := false, narrowed := true }
def LearnTraceUptoSaid : Prop := learnTraceUptoRow.holds Try.pinned (OpenSpec.upto learnTraceSpec)

/-- 'sequiturlaw21.LearnUnit', WHERE WHAT IT READS IS OF BULK AT MOST 1048576: true; the input reads as it did. -/
def learnUnitUptoRow : OpenClaim := { program := "ytfcofpgehlmbbaa", sum := "da116272db38b71fb7e346ef58002ae6669ae961b8d656bddda2f7f7a8816a0b", func := "sequitur/sequiturlaw21.LearnUnit", spec := "learnUnit", unfollowed := true, recurses := true, apart := false, narrowed := true }
def LearnUnitUptoSaid : Prop := learnUnitUptoRow.holds Try.pinned (OpenSpec.upto learnUnitSpec)

/-- 'sequiturlaw25.CoreTrims', WHERE WHAT IT READS IS OF BULK AT MOST 1048576: true; the input reads as it did. -/
def coreTrimsUptoRow : OpenClaim := { program := "ytfcofpgehlmbbaa", sum := "da116272db38b71fb7e346ef58002ae6669ae961b8d656bddda2f7f7a8816a0b", func := "sequitur/sequiturlaw25.CoreTrims", spec := "coreTrims", unfollowed := true, recurses := true, apart := false, narrowed := true }
def CoreTrimsUptoSaid : Prop := coreTrimsUptoRow.holds Try.pinned (OpenSpec.upto coreTrimsSpec)

/-- 'sequiturlaw25.CoreStays', WHERE WHAT IT READS IS OF BULK AT MOST 1048576: true; the input reads as it did. -/
def coreStaysUptoRow : OpenClaim := { program := "ytfcofpgehlmbbaa", sum := "da116272db38b71fb7e346ef58002ae6669ae961b8d656bddda2f7f7a8816a0b", func := "sequitur/sequiturlaw25.CoreStays", spec := "coreStays", unfollowed := true, recurses := true, apart := false, narrowed := true }
def CoreStaysUptoSaid : Prop := coreStaysUptoRow.holds Try.pinned (OpenSpec.upto coreStaysSpec)

end Rows
end Go.Proofs.Ytfcofpgehlmbbaa
