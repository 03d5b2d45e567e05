/-
  No cell of these rows narrows 'for every input' (looked for: loops, veiled, ifaces, maps, wideKeys, modest, calm, conditions, laid).
  DERIVED. THE GIVEN ROWS OF THIS SEAT. 8 by the template 'for every input the law returns true; each argument reads behind the call as it read before'; 0 by the template 'total and deterministic' (their statements: YtlgolgfcolnddaaTotals.lean).
  GIVEN WITH THE SEED: the statements are not yours to turn. If you find one false, say at which input.
  Laid BY PROGRAM, IN A SANDBOX (cutbox-rows.mjs): the forced cells as the released guide's own fill.sh prints them over the translation c8ee92c542b4a752… (all of the seat's roots in one cut). By AI agents, Wed Nov 11 2026. No macro, syntax, notation, axiom, sorry.
-/
import Derived.Test.YtlgolgfcolnddaaChecked
import GoSem.Claim
import GoSem.ClaimJoined
import GoSem.ClaimMapViews
import Derived.JoinedTies
import Derived.KernelRfl
namespace Go.Proofs.Ytlgolgfcolnddaa
/- THE CELL 'sum', in the pinned program and in every row, IS THE sha256 OF THE DUMP (.gsa) THAT YtlgolgfcolnddaaProg.lean LOADS. Nothing in Lean hashes anything: it is a label: what it is worth is what the hold of that sum in a sandbox is worth. -/
noncomputable def Try.pinned : Pinned := { name := "ytlgolgfcolnddaa", sum := "c8ee92c542b4a752f1bcc18a3f2e531a4860dcf3eb3cb8967a01f4d21c2482a6", checked := Try.checked }
namespace Rows
def none {H : Type} : Left H := { results := [], args := [] }

/-- 'laws.FnSomeOthers': WHATEVER THE INPUT: true; the input reads as it did. -/
def fnSomeOthersSpec : ChangeSpec := { name := "fnSomeOthers", fn := fun _ => fun
  | [d] => { results := [.lit (.bool true)], args := [d] }
  | _ => none }
def fnSomeOthersRow : OpenClaim := { program := "ytlgolgfcolnddaa", sum := "c8ee92c542b4a752f1bcc18a3f2e531a4860dcf3eb3cb8967a01f4d21c2482a6", func := "loop.example/waymark/laws.FnSomeOthers", spec := "fnSomeOthers", unfollowed := true, recurses := true, apart := false }
def FnSomeOthersSaid : Prop := fnSomeOthersRow.holds Try.pinned (OpenSpec.ofChange fnSomeOthersSpec)

/-- ITS FALSE NEIGHBOUR: 'it returns false'. Refute it at one input. -/
def fnSomeOthersWrong : ChangeSpec := { name := "fnSomeOthers", fn := fun _ => fun
  | [d] => { results := [.lit (.bool false)], args := [d] }
  | _ => none }
def FnSomeOthersWrongFalsely : Prop := fnSomeOthersRow.holds Try.pinned (OpenSpec.ofChange fnSomeOthersWrong)

/-- 'laws.FnExactSomeOthers': WHATEVER THE INPUT: true; the input reads as it did. -/
def fnExactSomeOthersSpec : ChangeSpec := { name := "fnExactSomeOthers", fn := fun _ => fun
  | [d1, d2, d3, d4, d5] => { results := [.lit (.bool true)], args := [d1, d2, d3, d4, d5] }
  | _ => none }
def fnExactSomeOthersRow : OpenClaim := { program := "ytlgolgfcolnddaa", sum := "c8ee92c542b4a752f1bcc18a3f2e531a4860dcf3eb3cb8967a01f4d21c2482a6", func := "loop.example/waymark/laws.FnExactSomeOthers", spec := "fnExactSomeOthers", unfollowed := true, recurses := true, apart := false }
def FnExactSomeOthersSaid : Prop := fnExactSomeOthersRow.holds Try.pinned (OpenSpec.ofChange fnExactSomeOthersSpec)

/-- ITS FALSE NEIGHBOUR: 'it returns false'. Refute it at one input. -/
def fnExactSomeOthersWrong : ChangeSpec := { name := "fnExactSomeOthers", fn := fun _ => fun
  | [d1, d2, d3, d4, d5] => { results := [.lit (.bool false)], args := [d1, d2, d3, d4, d5] }
  | _ => none }
def FnExactSomeOthersWrongFalsely : Prop := fnExactSomeOthersRow.holds Try.pinned (OpenSpec.ofChange fnExactSomeOthersWrong)

/-- 'laws.FnSomeWalks': WHATEVER THE INPUT: true; the input reads as it did. -/
def fnSomeWalksSpec : ChangeSpec := { name := "fnSomeWalks", fn := fun _ => fun
  | [d] => { results := [.lit (.bool true)], args := [d] }
  | _ => none }
def fnSomeWalksRow : OpenClaim := { program := "ytlgolgfcolnddaa", sum := "c8ee92c542b4a752f1bcc18a3f2e531a4860dcf3eb3cb8967a01f4d21c2482a6", func := "loop.example/waymark/laws.FnSomeWalks", spec := "fnSomeWalks", unfollowed := true, recurses := true, apart := false }
def FnSomeWalksSaid : Prop := fnSomeWalksRow.holds Try.pinned (OpenSpec.ofChange fnSomeWalksSpec)

/-- ITS FALSE NEIGHBOUR: 'it returns false'. Refute it at one input. -/
def fnSomeWalksWrong : ChangeSpec := { name := "fnSomeWalks", fn := fun _ => fun
  | [d] => { results := [.lit (.bool false)], args := [d] }
  | _ => none }
def FnSomeWalksWrongFalsely : Prop := fnSomeWalksRow.holds Try.pinned (OpenSpec.ofChange fnSomeWalksWrong)

/-- 'laws.FnExactSomeWalks': WHATEVER THE INPUT: true; the input reads as it did. -/
def fnExactSomeWalksSpec : ChangeSpec := { name := "fnExactSomeWalks", fn := fun _ => fun
  | [d1, d2, d3, d4] => { results := [.lit (.bool true)], args := [d1, d2, d3, d4] }
  | _ => none }
def fnExactSomeWalksRow : OpenClaim := { program := "ytlgolgfcolnddaa", sum := "c8ee92c542b4a752f1bcc18a3f2e531a4860dcf3eb3cb8967a01f4d21c2482a6", func := "loop.example/waymark/laws.FnExactSomeWalks", spec := "fnExactSomeWalks", unfollowed := true, recurses := true, apart := false }
def FnExactSomeWalksSaid : Prop := fnExactSomeWalksRow.holds Try.pinned (OpenSpec.ofChange fnExactSomeWalksSpec)

/-- ITS FALSE NEIGHBOUR: 'it returns false'. Refute it at one input. -/
def fnExactSomeWalksWrong : ChangeSpec := { name := "fnExactSomeWalks", fn := fun _ => fun
  | [d1, d2, d3, d4] => { results := [.lit (.bool false)], args := [d1, d2, d3, d4] }
  | _ => none }
def FnExactSomeWalksWrongFalsely : Prop := fnExactSomeWalksRow.holds Try.pinned (OpenSpec.ofChange fnExactSomeWalksWrong)

/-- 'laws.FnSomeFew': WHATEVER THE INPUT: true; the input reads as it did. -/
def fnSomeFewSpec : ChangeSpec := { name := "fnSomeFew", fn := fun _ => fun
  | [d] => { results := [.lit (.bool true)], args := [d] }
  | _ => none }
def fnSomeFewRow : OpenClaim := { program := "ytlgolgfcolnddaa", sum := "c8ee92c542b4a752f1bcc18a3f2e531a4860dcf3eb3cb8967a01f4d21c2482a6", func := "loop.example/waymark/laws.FnSomeFew", spec := "fnSomeFew", unfollowed := true, recurses := true, apart := false }
def FnSomeFewSaid : Prop := fnSomeFewRow.holds Try.pinned (OpenSpec.ofChange fnSomeFewSpec)

/-- ITS FALSE NEIGHBOUR: 'it returns false'. Refute it at one input. -/
def fnSomeFewWrong : ChangeSpec := { name := "fnSomeFew", fn := fun _ => fun
  | [d] => { results := [.lit (.bool false)], args := [d] }
  | _ => none }
def FnSomeFewWrongFalsely : Prop := fnSomeFewRow.holds Try.pinned (OpenSpec.ofChange fnSomeFewWrong)

/-- 'laws.FnSomeNone': WHATEVER THE INPUT: true; the input reads as it did. -/
def fnSomeNoneSpec : ChangeSpec := { name := "fnSomeNone", fn := fun _ => fun
  | [d] => { results := [.lit (.bool true)], args := [d] }
  | _ => none }
def fnSomeNoneRow : OpenClaim := { program := "ytlgolgfcolnddaa", sum := "c8ee92c542b4a752f1bcc18a3f2e531a4860dcf3eb3cb8967a01f4d21c2482a6", func := "loop.example/waymark/laws.FnSomeNone", spec := "fnSomeNone", unfollowed := true, recurses := true, apart := false }
def FnSomeNoneSaid : Prop := fnSomeNoneRow.holds Try.pinned (OpenSpec.ofChange fnSomeNoneSpec)

/-- ITS FALSE NEIGHBOUR: 'it returns false'. Refute it at one input. -/
def fnSomeNoneWrong : ChangeSpec := { name := "fnSomeNone", fn := fun _ => fun
  | [d] => { results := [.lit (.bool false)], args := [d] }
  | _ => none }
def FnSomeNoneWrongFalsely : Prop := fnSomeNoneRow.holds Try.pinned (OpenSpec.ofChange fnSomeNoneWrong)

/-- 'laws.FnNearFirst': WHATEVER THE INPUT: true; the input reads as it did. -/
def fnNearFirstSpec : ChangeSpec := { name := "fnNearFirst", fn := fun _ => fun
  | [d] => { results := [.lit (.bool true)], args := [d] }
  | _ => none }
def fnNearFirstRow : OpenClaim := { program := "ytlgolgfcolnddaa", sum := "c8ee92c542b4a752f1bcc18a3f2e531a4860dcf3eb3cb8967a01f4d21c2482a6", func := "loop.example/waymark/laws.FnNearFirst", spec := "fnNearFirst", unfollowed := true, recurses := true, apart := false }
def FnNearFirstSaid : Prop := fnNearFirstRow.holds Try.pinned (OpenSpec.ofChange fnNearFirstSpec)

/-- ITS FALSE NEIGHBOUR: 'it returns false'. Refute it at one input. -/
def fnNearFirstWrong : ChangeSpec := { name := "fnNearFirst", fn := fun _ => fun
  | [d] => { results := [.lit (.bool false)], args := [d] }
  | _ => none }
def FnNearFirstWrongFalsely : Prop := fnNearFirstRow.holds Try.pinned (OpenSpec.ofChange fnNearFirstWrong)

/-- 'laws.FnExactSeenBest': WHATEVER THE INPUT: true; the input reads as it did. -/
def fnExactSeenBestSpec : ChangeSpec := { name := "fnExactSeenBest", fn := fun _ => fun
  | [d1, d2] => { results := [.lit (.bool true)], args := [d1, d2] }
  | _ => none }
def fnExactSeenBestRow : OpenClaim := { program := "ytlgolgfcolnddaa", sum := "c8ee92c542b4a752f1bcc18a3f2e531a4860dcf3eb3cb8967a01f4d21c2482a6", func := "loop.example/waymark/laws.FnExactSeenBest", spec := "fnExactSeenBest", unfollowed := true, recurses := true, apart := false }
def FnExactSeenBestSaid : Prop := fnExactSeenBestRow.holds Try.pinned (OpenSpec.ofChange fnExactSeenBestSpec)

/-- ITS FALSE NEIGHBOUR: 'it returns false'. Refute it at one input. -/
def fnExactSeenBestWrong : ChangeSpec := { name := "fnExactSeenBest", fn := fun _ => fun
  | [d1, d2] => { results := [.lit (.bool false)], args := [d1, d2] }
  | _ => none }
def FnExactSeenBestWrongFalsely : Prop := fnExactSeenBestRow.holds Try.pinned (OpenSpec.ofChange fnExactSeenBestWrong)

/- THE SECOND FORM. 'bulk': how many values and letters a reading holds, each counted each time it is reached (what is shared counts as often as it is met; a slice's spare places count too). A statement '..UptoSaid' is the law's where the arguments, and the package variables that the reading takes, are together of bulk at most 1048576: NARROWER than '..Said'. Prove '..Said' where nothing that the law and all that it calls make is longer than what came in: it says more and counts as full. Else prove '..UptoSaid'. A law counts once. -/
mutual
def uptoBulk {H : Type} : DataW H → Nat
  | .lit (.string bytes) => bytes.length + 1
  | .lit _ => 1
  | .nil => 1
  | .ptr d => uptoBulk d + 1
  | .slice elems spare => uptoBulkAll elems + uptoBulkAll spare + 1
  | .agg parts => uptoBulkAll parts + 1
  | .iface _ d => uptoBulk d + 1
  | .map entries => uptoBulkEntries entries + 1
  | .held _ => 1
def uptoBulkAll {H : Type} : List (DataW H) → Nat
  | [] => 0
  | d :: r => uptoBulk d + uptoBulkAll r
def uptoBulkEntries {H : Type} : List (Lit × DataW H) → Nat
  | [] => 0
  | x :: r => uptoBulkEntry x + uptoBulkEntries r
def uptoBulkEntry {H : Type} : Lit × DataW H → Nat
  | (.string bytes, d) => bytes.length + uptoBulk d + 1
  | (_, d) => uptoBulk d + 1
 end
def uptoSmall : (H : Type) → List (DataW H) → Bool := fun _ ds => decide (uptoBulkAll ds ≤ 1048576)
def OpenSpec.upto (s : _root_.Go.ChangeSpec) : _root_.Go.OpenSpec := { _root_.Go.OpenSpec.ofChange s with cond := some uptoSmall }

/-- 'laws.FnSomeOthers', WHERE WHAT IT READS IS OF BULK AT MOST 1048576: true; the input reads as it did. -/
def fnSomeOthersUptoRow : OpenClaim := { program := "ytlgolgfcolnddaa", sum := "c8ee92c542b4a752f1bcc18a3f2e531a4860dcf3eb3cb8967a01f4d21c2482a6", func := "loop.example/waymark/laws.FnSomeOthers", spec := "fnSomeOthers", unfollowed := true, recurses := true, apart := false, narrowed := true }
def FnSomeOthersUptoSaid : Prop := fnSomeOthersUptoRow.holds Try.pinned (OpenSpec.upto fnSomeOthersSpec)

/-- 'laws.FnExactSomeOthers', WHERE WHAT IT READS IS OF BULK AT MOST 1048576: true; the input reads as it did. -/
def fnExactSomeOthersUptoRow : OpenClaim := { program := "ytlgolgfcolnddaa", sum := "c8ee92c542b4a752f1bcc18a3f2e531a4860dcf3eb3cb8967a01f4d21c2482a6", func := "loop.example/waymark/laws.FnExactSomeOthers", spec := "fnExactSomeOthers", unfollowed := true, recurses := true, apart := false, narrowed := true }
def FnExactSomeOthersUptoSaid : Prop := fnExactSomeOthersUptoRow.holds Try.pinned (OpenSpec.upto fnExactSomeOthersSpec)

/-- 'laws.FnSomeWalks', WHERE WHAT IT READS IS OF BULK AT MOST 1048576: true; the input reads as it did. -/
def fnSomeWalksUptoRow : OpenClaim := { program := "ytlgolgfcolnddaa", sum := "c8ee92c542b4a752f1bcc18a3f2e531a4860dcf3eb3cb8967a01f4d21c2482a6", func := "loop.example/waymark/laws.FnSomeWalks", spec := "fnSomeWalks", unfollowed := true, recurses := true, apart := false, narrowed := true }
def FnSomeWalksUptoSaid : Prop := fnSomeWalksUptoRow.holds Try.pinned (OpenSpec.upto fnSomeWalksSpec)

/-- 'laws.FnExactSomeWalks', WHERE WHAT IT READS IS OF BULK AT MOST 1048576: true; the input reads as it did. -/
def fnExactSomeWalksUptoRow : OpenClaim := { program := "ytlgolgfcolnddaa", sum := "c8ee92c542b4a752f1bcc18a3f2e531a4860dcf3eb3cb8967a01f4d21c2482a6", func := "loop.example/waymark/laws.FnExactSomeWalks", spec := "fnExactSomeWalks", unfollowed := true, recurses := true, apart := false, narrowed := true }
def FnExactSomeWalksUptoSaid : Prop := fnExactSomeWalksUptoRow.holds Try.pinned (OpenSpec.upto fnExactSomeWalksSpec)

/-- 'laws.FnSomeFew', WHERE WHAT IT READS IS OF BULK AT MOST 1048576: true; the input reads as it did. -/
def fnSomeFewUptoRow : OpenClaim := { program := "ytlgolgfcolnddaa", sum := "c8ee92c542b4a752f1bcc18a3f2e531a4860dcf3eb3cb8967a01f4d21c2482a6", func := "loop.example/waymark/laws.FnSomeFew", spec := "fnSomeFew", unfollowed := true, recurses := true, apart := false, narrowed := true }
def FnSomeFewUptoSaid : Prop := fnSomeFewUptoRow.holds Try.pinned (OpenSpec.upto fnSomeFewSpec)

/-- 'laws.FnSomeNone', WHERE WHAT IT READS IS OF BULK AT MOST 1048576: true; the input reads as it did. -/
def fnSomeNoneUptoRow : OpenClaim := { program := "ytlgolgfcolnddaa", sum := "c8ee92c542b4a752f1bcc18a3f2e531a4860dcf3eb3cb8967a01f4d21c2482a6", func := "loop.example/waymark/laws.FnSomeNone", spec := "fnSomeNone", unfollowed := true, recurses := true, apart := false, narrowed := true }
def FnSomeNoneUptoSaid : Prop := fnSomeNoneUptoRow.holds Try.pinned (OpenSpec.upto fnSomeNoneSpec)

/-- 'laws.FnNearFirst', WHERE WHAT IT READS IS OF BULK AT MOST 1048576: true; the input reads as it did. -/
def fnNearFirstUptoRow : OpenClaim := { program := "ytlgolgfcolnddaa", sum := "c8ee92c542b4a752f1bcc18a3f2e531a4860dcf3eb3cb8967a01f4d21c2482a6", func := "loop.example/waymark/laws.FnNearFirst", spec := "fnNearFirst", unfollowed := true, recurses := true, apart := false, narrowed := true }
def FnNearFirstUptoSaid : Prop := fnNearFirstUptoRow.holds Try.pinned (OpenSpec.upto fnNearFirstSpec)

/-- 'laws.FnExactSeenBest', WHERE WHAT IT READS IS OF BULK AT MOST 1048576: true; the input reads as it did. -/
def fnExactSeenBestUptoRow : OpenClaim := { program := "ytlgolgfcolnddaa", sum := "c8ee92c542b4a752f1bcc18a3f2e531a4860dcf3eb3cb8967a01f4d21c2482a6", func := "loop.example/waymark/laws.FnExactSeenBest", spec := "fnExactSeenBest", unfollowed := true, recurses := true, apart := false, narrowed := true }
def FnExactSeenBestUptoSaid : Prop := fnExactSeenBestUptoRow.holds Try.pinned (OpenSpec.upto fnExactSeenBestSpec)

end Rows
end Go.Proofs.Ytlgolgfcolnddaa
