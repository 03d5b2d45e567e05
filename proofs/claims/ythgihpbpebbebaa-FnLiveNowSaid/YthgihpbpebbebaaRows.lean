/-
  No cell of these rows narrows 'for every input' (looked for: loops, veiled, ifaces, maps, wideKeys, modest, calm, conditions, laid).
  DERIVED. THE GIVEN ROWS OF THIS SEAT. 12 by the template 'for every input the law returns true; each argument reads behind the call as it read before'; 0 by the template 'total and deterministic' (their statements: YthgihpbpebbebaaTotals.lean).
  GIVEN WITH THE SEED: the statements are not yours to turn. If you find one false, say at which input.
  Laid BY PROGRAM, IN A SANDBOX (cutbox-rows.mjs): the forced cells as the released guide's own fill.sh prints them over the translation 67f34c1d8b62aa1d… (all of the seat's roots in one cut). By AI agents, Wed Nov 11 2026. No macro, syntax, notation, axiom, sorry.
-/
import Derived.Test.YthgihpbpebbebaaChecked
import GoSem.Claim
import GoSem.ClaimJoined
import GoSem.ClaimMapViews
import Derived.JoinedTies
import Derived.KernelRfl
namespace Go.Proofs.Ythgihpbpebbebaa
/- THE CELL 'sum', in the pinned program and in every row, IS THE sha256 OF THE DUMP (.gsa) THAT YthgihpbpebbebaaProg.lean LOADS. Nothing in Lean hashes anything: it is a label: what it is worth is what the hold of that sum in a sandbox is worth. -/
noncomputable def Try.pinned : Pinned := { name := "ythgihpbpebbebaa", sum := "67f34c1d8b62aa1db88766efe467c414bd09f901d6fbaa1a4329e45cebb4dfe2", checked := Try.checked }
namespace Rows
def none {H : Type} : Left H := { results := [], args := [] }

/-- 'laws.FnLoadNet': WHATEVER THE INPUT: true; the input reads as it did. -/
def fnLoadNetSpec : ChangeSpec := { name := "fnLoadNet", fn := fun _ => fun
  | [d] => { results := [.lit (.bool true)], args := [d] }
  | _ => none }
def fnLoadNetRow : OpenClaim := { program := "ythgihpbpebbebaa", sum := "67f34c1d8b62aa1db88766efe467c414bd09f901d6fbaa1a4329e45cebb4dfe2", func := "loop.example/waymark/laws.FnLoadNet", spec := "fnLoadNet", unfollowed := true, recurses := true, apart := false }
def FnLoadNetSaid : Prop := fnLoadNetRow.holds Try.pinned (OpenSpec.ofChange fnLoadNetSpec)

/-- ITS FALSE NEIGHBOUR: 'it returns false'. Refute it at one input. -/
def fnLoadNetWrong : ChangeSpec := { name := "fnLoadNet", fn := fun _ => fun
  | [d] => { results := [.lit (.bool false)], args := [d] }
  | _ => none }
def FnLoadNetWrongFalsely : Prop := fnLoadNetRow.holds Try.pinned (OpenSpec.ofChange fnLoadNetWrong)

/-- 'laws.FnExactLoadNet': WHATEVER THE INPUT: true; the input reads as it did. -/
def fnExactLoadNetSpec : ChangeSpec := { name := "fnExactLoadNet", fn := fun _ => fun
  | [d1, d2] => { results := [.lit (.bool true)], args := [d1, d2] }
  | _ => none }
def fnExactLoadNetRow : OpenClaim := { program := "ythgihpbpebbebaa", sum := "67f34c1d8b62aa1db88766efe467c414bd09f901d6fbaa1a4329e45cebb4dfe2", func := "loop.example/waymark/laws.FnExactLoadNet", spec := "fnExactLoadNet", unfollowed := true, recurses := true, apart := false }
def FnExactLoadNetSaid : Prop := fnExactLoadNetRow.holds Try.pinned (OpenSpec.ofChange fnExactLoadNetSpec)

/-- ITS FALSE NEIGHBOUR: 'it returns false'. Refute it at one input. -/
def fnExactLoadNetWrong : ChangeSpec := { name := "fnExactLoadNet", fn := fun _ => fun
  | [d1, d2] => { results := [.lit (.bool false)], args := [d1, d2] }
  | _ => none }
def FnExactLoadNetWrongFalsely : Prop := fnExactLoadNetRow.holds Try.pinned (OpenSpec.ofChange fnExactLoadNetWrong)

/-- 'laws.FnExactSomeShare': WHATEVER THE INPUT: true; the input reads as it did. -/
def fnExactSomeShareSpec : ChangeSpec := { name := "fnExactSomeShare", fn := fun _ => fun
  | [d1, d2, d3] => { results := [.lit (.bool true)], args := [d1, d2, d3] }
  | _ => none }
def fnExactSomeShareRow : OpenClaim := { program := "ythgihpbpebbebaa", sum := "67f34c1d8b62aa1db88766efe467c414bd09f901d6fbaa1a4329e45cebb4dfe2", func := "loop.example/waymark/laws.FnExactSomeShare", spec := "fnExactSomeShare", unfollowed := true, recurses := true, apart := false }
def FnExactSomeShareSaid : Prop := fnExactSomeShareRow.holds Try.pinned (OpenSpec.ofChange fnExactSomeShareSpec)

/-- ITS FALSE NEIGHBOUR: 'it returns false'. Refute it at one input. -/
def fnExactSomeShareWrong : ChangeSpec := { name := "fnExactSomeShare", fn := fun _ => fun
  | [d1, d2, d3] => { results := [.lit (.bool false)], args := [d1, d2, d3] }
  | _ => none }
def FnExactSomeShareWrongFalsely : Prop := fnExactSomeShareRow.holds Try.pinned (OpenSpec.ofChange fnExactSomeShareWrong)

/-- 'laws.FnSomeShare': WHATEVER THE INPUT: true; the input reads as it did. -/
def fnSomeShareSpec : ChangeSpec := { name := "fnSomeShare", fn := fun _ => fun
  | [d1, d2] => { results := [.lit (.bool true)], args := [d1, d2] }
  | _ => none }
def fnSomeShareRow : OpenClaim := { program := "ythgihpbpebbebaa", sum := "67f34c1d8b62aa1db88766efe467c414bd09f901d6fbaa1a4329e45cebb4dfe2", func := "loop.example/waymark/laws.FnSomeShare", spec := "fnSomeShare", unfollowed := true, recurses := true, apart := false }
def FnSomeShareSaid : Prop := fnSomeShareRow.holds Try.pinned (OpenSpec.ofChange fnSomeShareSpec)

/-- ITS FALSE NEIGHBOUR: 'it returns false'. Refute it at one input. -/
def fnSomeShareWrong : ChangeSpec := { name := "fnSomeShare", fn := fun _ => fun
  | [d1, d2] => { results := [.lit (.bool false)], args := [d1, d2] }
  | _ => none }
def FnSomeShareWrongFalsely : Prop := fnSomeShareRow.holds Try.pinned (OpenSpec.ofChange fnSomeShareWrong)

/-- 'laws.FnExactLiveOk': WHATEVER THE INPUT: true; the input reads as it did. -/
def fnExactLiveOkSpec : ChangeSpec := { name := "fnExactLiveOk", fn := fun _ => fun
  | [d] => { results := [.lit (.bool true)], args := [d] }
  | _ => none }
def fnExactLiveOkRow : OpenClaim := { program := "ythgihpbpebbebaa", sum := "67f34c1d8b62aa1db88766efe467c414bd09f901d6fbaa1a4329e45cebb4dfe2", func := "loop.example/waymark/laws.FnExactLiveOk", spec := "fnExactLiveOk", unfollowed := true, recurses := true, apart := false }
def FnExactLiveOkSaid : Prop := fnExactLiveOkRow.holds Try.pinned (OpenSpec.ofChange fnExactLiveOkSpec)

/-- ITS FALSE NEIGHBOUR: 'it returns false'. Refute it at one input. -/
def fnExactLiveOkWrong : ChangeSpec := { name := "fnExactLiveOk", fn := fun _ => fun
  | [d] => { results := [.lit (.bool false)], args := [d] }
  | _ => none }
def FnExactLiveOkWrongFalsely : Prop := fnExactLiveOkRow.holds Try.pinned (OpenSpec.ofChange fnExactLiveOkWrong)

/-- 'laws.FnLiveNow': WHATEVER THE INPUT: true; the input reads as it did. -/
def fnLiveNowSpec : ChangeSpec := { name := "fnLiveNow", fn := fun _ => fun
  | [d] => { results := [.lit (.bool true)], args := [d] }
  | _ => none }
def fnLiveNowRow : OpenClaim := { program := "ythgihpbpebbebaa", sum := "67f34c1d8b62aa1db88766efe467c414bd09f901d6fbaa1a4329e45cebb4dfe2", func := "loop.example/waymark/laws.FnLiveNow", spec := "fnLiveNow", unfollowed := true, recurses := true, apart := false }
def FnLiveNowSaid : Prop := fnLiveNowRow.holds Try.pinned (OpenSpec.ofChange fnLiveNowSpec)

/-- ITS FALSE NEIGHBOUR: 'it returns false'. Refute it at one input. -/
def fnLiveNowWrong : ChangeSpec := { name := "fnLiveNow", fn := fun _ => fun
  | [d] => { results := [.lit (.bool false)], args := [d] }
  | _ => none }
def FnLiveNowWrongFalsely : Prop := fnLiveNowRow.holds Try.pinned (OpenSpec.ofChange fnLiveNowWrong)

/-- 'laws.FnExactLiveNow': WHATEVER THE INPUT: true; the input reads as it did. -/
def fnExactLiveNowSpec : ChangeSpec := { name := "fnExactLiveNow", fn := fun _ => fun
  | [d] => { results := [.lit (.bool true)], args := [d] }
  | _ => none }
def fnExactLiveNowRow : OpenClaim := { program := "ythgihpbpebbebaa", sum := "67f34c1d8b62aa1db88766efe467c414bd09f901d6fbaa1a4329e45cebb4dfe2", func := "loop.example/waymark/laws.FnExactLiveNow", spec := "fnExactLiveNow", unfollowed := true, recurses := true, apart := false }
def FnExactLiveNowSaid : Prop := fnExactLiveNowRow.holds Try.pinned (OpenSpec.ofChange fnExactLiveNowSpec)

/-- ITS FALSE NEIGHBOUR: 'it returns false'. Refute it at one input. -/
def fnExactLiveNowWrong : ChangeSpec := { name := "fnExactLiveNow", fn := fun _ => fun
  | [d] => { results := [.lit (.bool false)], args := [d] }
  | _ => none }
def FnExactLiveNowWrongFalsely : Prop := fnExactLiveNowRow.holds Try.pinned (OpenSpec.ofChange fnExactLiveNowWrong)

/-- 'laws.FnExactBothOver': WHATEVER THE INPUT: true; the input reads as it did. -/
def fnExactBothOverSpec : ChangeSpec := { name := "fnExactBothOver", fn := fun _ => fun
  | [d1, d2, d3, d4] => { results := [.lit (.bool true)], args := [d1, d2, d3, d4] }
  | _ => none }
def fnExactBothOverRow : OpenClaim := { program := "ythgihpbpebbebaa", sum := "67f34c1d8b62aa1db88766efe467c414bd09f901d6fbaa1a4329e45cebb4dfe2", func := "loop.example/waymark/laws.FnExactBothOver", spec := "fnExactBothOver", unfollowed := true, recurses := true, apart := false }
def FnExactBothOverSaid : Prop := fnExactBothOverRow.holds Try.pinned (OpenSpec.ofChange fnExactBothOverSpec)

/-- ITS FALSE NEIGHBOUR: 'it returns false'. Refute it at one input. -/
def fnExactBothOverWrong : ChangeSpec := { name := "fnExactBothOver", fn := fun _ => fun
  | [d1, d2, d3, d4] => { results := [.lit (.bool false)], args := [d1, d2, d3, d4] }
  | _ => none }
def FnExactBothOverWrongFalsely : Prop := fnExactBothOverRow.holds Try.pinned (OpenSpec.ofChange fnExactBothOverWrong)

/-- 'laws.FnReachParts': WHATEVER THE INPUT: true; the input reads as it did. -/
def fnReachPartsSpec : ChangeSpec := { name := "fnReachParts", fn := fun _ => fun
  | [d] => { results := [.lit (.bool true)], args := [d] }
  | _ => none }
def fnReachPartsRow : OpenClaim := { program := "ythgihpbpebbebaa", sum := "67f34c1d8b62aa1db88766efe467c414bd09f901d6fbaa1a4329e45cebb4dfe2", func := "loop.example/waymark/laws.FnReachParts", spec := "fnReachParts", unfollowed := true, recurses := true, apart := false }
def FnReachPartsSaid : Prop := fnReachPartsRow.holds Try.pinned (OpenSpec.ofChange fnReachPartsSpec)

/-- ITS FALSE NEIGHBOUR: 'it returns false'. Refute it at one input. -/
def fnReachPartsWrong : ChangeSpec := { name := "fnReachParts", fn := fun _ => fun
  | [d] => { results := [.lit (.bool false)], args := [d] }
  | _ => none }
def FnReachPartsWrongFalsely : Prop := fnReachPartsRow.holds Try.pinned (OpenSpec.ofChange fnReachPartsWrong)

/-- 'laws.FnReachArcs': WHATEVER THE INPUT: true; the input reads as it did. -/
def fnReachArcsSpec : ChangeSpec := { name := "fnReachArcs", fn := fun _ => fun
  | [d] => { results := [.lit (.bool true)], args := [d] }
  | _ => none }
def fnReachArcsRow : OpenClaim := { program := "ythgihpbpebbebaa", sum := "67f34c1d8b62aa1db88766efe467c414bd09f901d6fbaa1a4329e45cebb4dfe2", func := "loop.example/waymark/laws.FnReachArcs", spec := "fnReachArcs", unfollowed := true, recurses := true, apart := false }
def FnReachArcsSaid : Prop := fnReachArcsRow.holds Try.pinned (OpenSpec.ofChange fnReachArcsSpec)

/-- ITS FALSE NEIGHBOUR: 'it returns false'. Refute it at one input. -/
def fnReachArcsWrong : ChangeSpec := { name := "fnReachArcs", fn := fun _ => fun
  | [d] => { results := [.lit (.bool false)], args := [d] }
  | _ => none }
def FnReachArcsWrongFalsely : Prop := fnReachArcsRow.holds Try.pinned (OpenSpec.ofChange fnReachArcsWrong)

/-- 'laws.FnExactReachIn': WHATEVER THE INPUT: true; the input reads as it did. -/
def fnExactReachInSpec : ChangeSpec := { name := "fnExactReachIn", fn := fun _ => fun
  | [d1, d2, d3] => { results := [.lit (.bool true)], args := [d1, d2, d3] }
  | _ => none }
def fnExactReachInRow : OpenClaim := { program := "ythgihpbpebbebaa", sum := "67f34c1d8b62aa1db88766efe467c414bd09f901d6fbaa1a4329e45cebb4dfe2", func := "loop.example/waymark/laws.FnExactReachIn", spec := "fnExactReachIn", unfollowed := true, recurses := true, apart := false }
def FnExactReachInSaid : Prop := fnExactReachInRow.holds Try.pinned (OpenSpec.ofChange fnExactReachInSpec)

/-- ITS FALSE NEIGHBOUR: 'it returns false'. Refute it at one input. -/
def fnExactReachInWrong : ChangeSpec := { name := "fnExactReachIn", fn := fun _ => fun
  | [d1, d2, d3] => { results := [.lit (.bool false)], args := [d1, d2, d3] }
  | _ => none }
def FnExactReachInWrongFalsely : Prop := fnExactReachInRow.holds Try.pinned (OpenSpec.ofChange fnExactReachInWrong)

/-- 'laws.FnExactReachArcs': WHATEVER THE INPUT: true; the input reads as it did. -/
def fnExactReachArcsSpec : ChangeSpec := { name := "fnExactReachArcs", fn := fun _ => fun
  | [d1, d2, d3] => { results := [.lit (.bool true)], args := [d1, d2, d3] }
  | _ => none }
def fnExactReachArcsRow : OpenClaim := { program := "ythgihpbpebbebaa", sum := "67f34c1d8b62aa1db88766efe467c414bd09f901d6fbaa1a4329e45cebb4dfe2", func := "loop.example/waymark/laws.FnExactReachArcs", spec := "fnExactReachArcs", unfollowed := true, recurses := true, apart := false }
def FnExactReachArcsSaid : Prop := fnExactReachArcsRow.holds Try.pinned (OpenSpec.ofChange fnExactReachArcsSpec)

/-- ITS FALSE NEIGHBOUR: 'it returns false'. Refute it at one input. -/
def fnExactReachArcsWrong : ChangeSpec := { name := "fnExactReachArcs", fn := fun _ => fun
  | [d1, d2, d3] => { results := [.lit (.bool false)], args := [d1, d2, d3] }
  | _ => none }
def FnExactReachArcsWrongFalsely : Prop := fnExactReachArcsRow.holds Try.pinned (OpenSpec.ofChange fnExactReachArcsWrong)

/- THE SECOND FORM. 'bulk': how many values and letters a reading holds, each counted each time it is reached (what is shared counts as often as it is met; a slice's spare places count too). A statement '..UptoSaid' is the law's where the arguments, and the package variables that the reading takes, are together of bulk at most 1048576: NARROWER than '..Said'. Prove '..Said' where nothing that the law and all that it calls make is longer than what came in: it says more and counts as full. Else prove '..UptoSaid'. A law counts once. -/
mutual
def uptoBulk {H : Type} : DataW H → Nat
  | .lit (.string bytes) => bytes.length + 1
  | .lit _ => 1
  | .nil => 1
  | .ptr d => uptoBulk d + 1
  | .slice elems spare => uptoBulkAll elems + uptoBulkAll spare + 1
  | .agg parts => uptoBulkAll parts + 1
  | .iface _ d => uptoBulk d + 1
  | .map entries => uptoBulkEntries entries + 1
  | .held _ => 1
def uptoBulkAll {H : Type} : List (DataW H) → Nat
  | [] => 0
  | d :: r => uptoBulk d + uptoBulkAll r
def uptoBulkEntries {H : Type} : List (Lit × DataW H) → Nat
  | [] => 0
  | x :: r => uptoBulkEntry x + uptoBulkEntries r
def uptoBulkEntry {H : Type} : Lit × DataW H → Nat
  | (.string bytes, d) => bytes.length + uptoBulk d + 1
  | (_, d) => uptoBulk d + 1
 end
def uptoSmall : (H : Type) → List (DataW H) → Bool := fun _ ds => decide (uptoBulkAll ds ≤ 1048576)
def OpenSpec.upto (s : _root_.Go.ChangeSpec) : _root_.Go.OpenSpec := { _root_.Go.OpenSpec.ofChange s with cond := some uptoSmall }

/-- 'laws.FnLoadNet', WHERE WHAT IT READS IS OF BULK AT MOST 1048576: true; the input reads as it did. -/
def fnLoadNetUptoRow : OpenClaim := { program := "ythgihpbpebbebaa", sum := "67f34c1d8b62aa1db88766efe467c414bd09f901d6fbaa1a4329e45cebb4dfe2", func := "loop.example/waymark/laws.FnLoadNet", spec := "fnLoadNet", unfollowed := true, recurses := true, apart := false, narrowed := true }
def FnLoadNetUptoSaid : Prop := fnLoadNetUptoRow.holds Try.pinned (OpenSpec.upto fnLoadNetSpec)

/-- 'laws.FnExactLoadNet', WHERE WHAT IT READS IS OF BULK AT MOST 1048576: true; the input reads as it did. -/
def fnExactLoadNetUptoRow : OpenClaim := { program := "ythgihpbpebbebaa", sum := "67f34c1d8b62aa1db88766efe467c414bd09f901d6fbaa1a4329e45cebb4dfe2", func := "loop.example/waymark/laws.FnExactLoadNet", spec := "fnExactLoadNet", unfollowed := true, recurses := true, apart := false, narrowed := true }
def FnExactLoadNetUptoSaid : Prop := fnExactLoadNetUptoRow.holds Try.pinned (OpenSpec.upto fnExactLoadNetSpec)

/-- 'laws.FnExactSomeShare', WHERE WHAT IT READS IS OF BULK AT MOST 1048576: true; the input reads as it did. -/
def fnExactSomeShareUptoRow : OpenClaim := { program := "ythgihpbpebbebaa", sum := "67f34c1d8b62aa1db88766efe467c414bd09f901d6fbaa1a4329e45cebb4dfe2", func := "loop.example/waymark/laws.FnExactSomeShare", spec := "fnExactSomeShare", unfollowed := true, recurses := true, apart := false, narrowed := true }
def FnExactSomeShareUptoSaid : Prop := fnExactSomeShareUptoRow.holds Try.pinned (OpenSpec.upto fnExactSomeShareSpec)

/-- 'laws.FnSomeShare', WHERE WHAT IT READS IS OF BULK AT MOST 1048576: true; the input reads as it did. -/
def fnSomeShareUptoRow : OpenClaim := { program := "ythgihpbpebbebaa", sum := "67f34c1d8b62aa1db88766efe467c414bd09f901d6fbaa1a4329e45cebb4dfe2", func := "loop.example/waymark/laws.FnSomeShare", spec := "fnSomeShare", unfollowed := true, recurses := true, apart := false, narrowed := true }
def FnSomeShareUptoSaid : Prop := fnSomeShareUptoRow.holds Try.pinned (OpenSpec.upto fnSomeShareSpec)

/-- 'laws.FnExactLiveOk', WHERE WHAT IT READS IS OF BULK AT MOST 1048576: true; the input reads as it did. -/
def fnExactLiveOkUptoRow : OpenClaim := { program := "ythgihpbpebbebaa", sum := "67f34c1d8b62aa1db88766efe467c414bd09f901d6fbaa1a4329e45cebb4dfe2", func := "loop.example/waymark/laws.FnExactLiveOk", spec := "fnExactLiveOk", unfollowed := true, recurses := true, apart := false, narrowed := true }
def FnExactLiveOkUptoSaid : Prop := fnExactLiveOkUptoRow.holds Try.pinned (OpenSpec.upto fnExactLiveOkSpec)

/-- 'laws.FnLiveNow', WHERE WHAT IT READS IS OF BULK AT MOST 1048576: true; the input reads as it did. -/
def fnLiveNowUptoRow : OpenClaim := { program := "ythgihpbpebbebaa", sum := "67f34c1d8b62aa1db88766efe467c414bd09f901d6fbaa1a4329e45cebb4dfe2", func := "loop.example/waymark/laws.FnLiveNow", spec := "fnLiveNow", unfollowed := true, recurses := true, apart := false, narrowed := true }
def FnLiveNowUptoSaid : Prop := fnLiveNowUptoRow.holds Try.pinned (OpenSpec.upto fnLiveNowSpec)

/-- 'laws.FnExactLiveNow', WHERE WHAT IT READS IS OF BULK AT MOST 1048576: true; the input reads as it did. -/
def fnExactLiveNowUptoRow : OpenClaim := { program := "ythgihpbpebbebaa", sum := "67f34c1d8b62aa1db88766efe467c414bd09f901d6fbaa1a4329e45cebb4dfe2", func := "loop.example/waymark/laws.FnExactLiveNow", spec := "fnExactLiveNow", unfollowed := true, recurses := true, apart := false, narrowed := true }
def FnExactLiveNowUptoSaid : Prop := fnExactLiveNowUptoRow.holds Try.pinned (OpenSpec.upto fnExactLiveNowSpec)

/-- 'laws.FnExactBothOver', WHERE WHAT IT READS IS OF BULK AT MOST 1048576: true; the input reads as it did. -/
def fnExactBothOverUptoRow : OpenClaim := { program := "ythgihpbpebbebaa", sum := "67f34c1d8b62aa1db88766efe467c414bd09f901d6fbaa1a4329e45cebb4dfe2", func := "loop.example/waymark/laws.FnExactBothOver", spec := "fnExactBothOver", unfollowed := true, recurses := true, apart := false, narrowed := true }
def FnExactBothOverUptoSaid : Prop := fnExactBothOverUptoRow.holds Try.pinned (OpenSpec.upto fnExactBothOverSpec)

/-- 'laws.FnReachParts', WHERE WHAT IT READS IS OF BULK AT MOST 1048576: true; the input reads as it did. -/
def fnReachPartsUptoRow : OpenClaim := { program := "ythgihpbpebbebaa", sum := "67f34c1d8b62aa1db88766efe467c414bd09f901d6fbaa1a4329e45cebb4dfe2", func := "loop.example/waymark/laws.FnReachParts", spec := "fnReachParts", unfollowed := true, recurses := true, apart := false, narrowed := true }
def FnReachPartsUptoSaid : Prop := fnReachPartsUptoRow.holds Try.pinned (OpenSpec.upto fnReachPartsSpec)

/-- 'laws.FnReachArcs', WHERE WHAT IT READS IS OF BULK AT MOST 1048576: true; the input reads as it did. -/
def fnReachArcsUptoRow : OpenClaim := { program := "ythgihpbpebbebaa", sum := "67f34c1d8b62aa1db88766efe467c414bd09f901d6fbaa1a4329e45cebb4dfe2", func := "loop.example/waymark/laws.FnReachArcs", spec := "fnReachArcs", unfollowed := true, recurses := true, apart := false, narrowed := true }
def FnReachArcsUptoSaid : Prop := fnReachArcsUptoRow.holds Try.pinned (OpenSpec.upto fnReachArcsSpec)

/-- 'laws.FnExactReachIn', WHERE WHAT IT READS IS OF BULK AT MOST 1048576: true; the input reads as it did. -/
def fnExactReachInUptoRow : OpenClaim := { program := "ythgihpbpebbebaa", sum := "67f34c1d8b62aa1db88766efe467c414bd09f901d6fbaa1a4329e45cebb4dfe2", func := "loop.example/waymark/laws.FnExactReachIn", spec := "fnExactReachIn", unfollowed := true, recurses := true, apart := false, narrowed := true }
def FnExactReachInUptoSaid : Prop := fnExactReachInUptoRow.holds Try.pinned (OpenSpec.upto fnExactReachInSpec)

/-- 'laws.FnExactReachArcs', WHERE WHAT IT READS IS OF BULK AT MOST 1048576: true; the input reads as it did. -/
def fnExactReachArcsUptoRow : OpenClaim := { program := "ythgihpbpebbebaa", sum := "67f34c1d8b62aa1db88766efe467c414bd09f901d6fbaa1a4329e45cebb4dfe2", func := "loop.example/waymark/laws.FnExactReachArcs", spec := "fnExactReachArcs", unfollowed := true, recurses := true, apart := false, narrowed := true }
def FnExactReachArcsUptoSaid : Prop := fnExactReachArcsUptoRow.holds Try.pinned (OpenSpec.upto fnExactReachArcsSpec)

end Rows
end Go.Proofs.Ythgihpbpebbebaa
