/-
  No cell of these rows narrows 'for every input' (looked for: loops, veiled, ifaces, maps, wideKeys, modest, calm, conditions, laid).
  DERIVED. THE GIVEN ROWS OF THIS SEAT. 3 by the template 'for every input the law returns true; each argument reads behind the call as it read before'; 0 by the template 'total and deterministic' (their statements: YtbcedkcjodokkaaTotals.lean).
  GIVEN WITH THE SEED: the statements are not yours to turn. If you find one false, say at which input.
  Laid BY PROGRAM, IN A SANDBOX (cutbox-rows.mjs): the forced cells as the released guide's own fill.sh prints them over the translation 6e80acf93557b55a… (all of the seat's roots in one cut). By AI agents, Wed Nov 11 2026. No macro, syntax, notation, axiom, sorry.
-/
import Derived.Test.YtbcedkcjodokkaaChecked
import GoSem.Claim
import GoSem.ClaimJoined
import GoSem.ClaimMapViews
import Derived.JoinedTies
import Derived.KernelRfl
namespace Go.Proofs.Ytbcedkcjodokkaa
/- THE CELL 'sum', in the pinned program and in every row, IS THE sha256 OF THE DUMP (.gsa) THAT YtbcedkcjodokkaaProg.lean LOADS. Nothing in Lean hashes anything: it is a label: what it is worth is what the hold of that sum in a sandbox is worth. -/
noncomputable def Try.pinned : Pinned := { name := "ytbcedkcjodokkaa", sum := "6e80acf93557b55a97150db055733eed0eb4276dcfc4d858ec2993d1c1c1758a", checked := Try.checked }
namespace Rows
def none {H : Type} : Left H := { results := [], args := [] }

/-- 'laws.FnLiveOrder': WHATEVER THE INPUT: true; the input reads as it did. -/
def fnLiveOrderSpec : ChangeSpec := { name := "fnLiveOrder", fn := fun _ => fun
  | [d1, d2] => { results := [.lit (.bool true)], args := [d1, d2] }
  | _ => none }
def fnLiveOrderRow : OpenClaim := { program := "ytbcedkcjodokkaa", sum := "6e80acf93557b55a97150db055733eed0eb4276dcfc4d858ec2993d1c1c1758a", func := "loop.example/waymark/laws.FnLiveOrder", spec := "fnLiveOrder", inPlace := ["slices.overlaps[loop.example/waymark/impl.News]"], unfollowed := true, recurses := true, apart := false }
def FnLiveOrderSaid : Prop := fnLiveOrderRow.holds Try.pinned (OpenSpec.ofChange fnLiveOrderSpec)

/-- ITS FALSE NEIGHBOUR: 'it returns false'. Refute it at one input. -/
def fnLiveOrderWrong : ChangeSpec := { name := "fnLiveOrder", fn := fun _ => fun
  | [d1, d2] => { results := [.lit (.bool false)], args := [d1, d2] }
  | _ => none }
def FnLiveOrderWrongFalsely : Prop := fnLiveOrderRow.holds Try.pinned (OpenSpec.ofChange fnLiveOrderWrong)

/-- 'laws.FnLiveTell': WHATEVER THE INPUT: true; the input reads as it did. -/
def fnLiveTellSpec : ChangeSpec := { name := "fnLiveTell", fn := fun _ => fun
  | [d] => { results := [.lit (.bool true)], args := [d] }
  | _ => none }
def fnLiveTellRow : OpenClaim := { program := "ytbcedkcjodokkaa", sum := "6e80acf93557b55a97150db055733eed0eb4276dcfc4d858ec2993d1c1c1758a", func := "loop.example/waymark/laws.FnLiveTell", spec := "fnLiveTell", inPlace := ["slices.overlaps[loop.example/waymark/impl.News]"], unfollowed := true, recurses := true, apart := false }
def FnLiveTellSaid : Prop := fnLiveTellRow.holds Try.pinned (OpenSpec.ofChange fnLiveTellSpec)

/-- ITS FALSE NEIGHBOUR: 'it returns false'. Refute it at one input. -/
def fnLiveTellWrong : ChangeSpec := { name := "fnLiveTell", fn := fun _ => fun
  | [d] => { results := [.lit (.bool false)], args := [d] }
  | _ => none }
def FnLiveTellWrongFalsely : Prop := fnLiveTellRow.holds Try.pinned (OpenSpec.ofChange fnLiveTellWrong)

/-- 'laws.FnLiveOver': WHATEVER THE INPUT: true; the input reads as it did. -/
def fnLiveOverSpec : ChangeSpec := { name := "fnLiveOver", fn := fun _ => fun
  | [d] => { results := [.lit (.bool true)], args := [d] }
  | _ => none }
def fnLiveOverRow : OpenClaim := { program := "ytbcedkcjodokkaa", sum := "6e80acf93557b55a97150db055733eed0eb4276dcfc4d858ec2993d1c1c1758a", func := "loop.example/waymark/laws.FnLiveOver", spec := "fnLiveOver", inPlace := ["slices.overlaps[loop.example/waymark/impl.News]"], unfollowed := true, recurses := true, apart := false }
def FnLiveOverSaid : Prop := fnLiveOverRow.holds Try.pinned (OpenSpec.ofChange fnLiveOverSpec)

/-- ITS FALSE NEIGHBOUR: 'it returns false'. Refute it at one input. -/
def fnLiveOverWrong : ChangeSpec := { name := "fnLiveOver", fn := fun _ => fun
  | [d] => { results := [.lit (.bool false)], args := [d] }
  | _ => none }
def FnLiveOverWrongFalsely : Prop := fnLiveOverRow.holds Try.pinned (OpenSpec.ofChange fnLiveOverWrong)

/- THE SECOND FORM. 'bulk': how many values and letters a reading holds, each counted each time it is reached (what is shared counts as often as it is met; a slice's spare places count too). A statement '..UptoSaid' is the law's where the arguments, and the package variables that the reading takes, are together of bulk at most 1048576: NARROWER than '..Said'. Prove '..Said' where nothing that the law and all that it calls make is longer than what came in: it says more and counts as full. Else prove '..UptoSaid'. A law counts once. -/
mutual
def uptoBulk {H : Type} : DataW H → Nat
  | .lit (.string bytes) => bytes.length + 1
  | .lit _ => 1
  | .nil => 1
  | .ptr d => uptoBulk d + 1
  | .slice elems spare => uptoBulkAll elems + uptoBulkAll spare + 1
  | .agg parts => uptoBulkAll parts + 1
  | .iface _ d => uptoBulk d + 1
  | .map entries => uptoBulkEntries entries + 1
  | .held _ => 1
def uptoBulkAll {H : Type} : List (DataW H) → Nat
  | [] => 0
  | d :: r => uptoBulk d + uptoBulkAll r
def uptoBulkEntries {H : Type} : List (Lit × DataW H) → Nat
  | [] => 0
  | x :: r => uptoBulkEntry x + uptoBulkEntries r
def uptoBulkEntry {H : Type} : Lit × DataW H → Nat
  | (.string bytes, d) => bytes.length + uptoBulk d + 1
  | (_, d) => uptoBulk d + 1
 end
def uptoSmall : (H : Type) → List (DataW H) → Bool := fun _ ds => decide (uptoBulkAll ds ≤ 1048576)
def OpenSpec.upto (s : _root_.Go.ChangeSpec) : _root_.Go.OpenSpec := { _root_.Go.OpenSpec.ofChange s with cond := some uptoSmall }

/-- 'laws.FnLiveOrder', WHERE WHAT IT READS IS OF BULK AT MOST 1048576: true; the input reads as it did. -/
def fnLiveOrderUptoRow : OpenClaim := { program := "ytbcedkcjodokkaa", sum := "6e80acf93557b55a97150db055733eed0eb4276dcfc4d858ec2993d1c1c1758a", func := "loop.example/waymark/laws.FnLiveOrder", spec := "fnLiveOrder", inPlace := ["slices.overlaps[loop.example/waymark/impl.News]"], unfollowed := true, recurses := true, apart := false, narrowed := true }
def FnLiveOrderUptoSaid : Prop := fnLiveOrderUptoRow.holds Try.pinned (OpenSpec.upto fnLiveOrderSpec)

/-- 'laws.FnLiveTell', WHERE WHAT IT READS IS OF BULK AT MOST 1048576: true; the input reads as it did. -/
def fnLiveTellUptoRow : OpenClaim := { program := "ytbcedkcjodokkaa", sum := "6e80acf93557b55a97150db055733eed0eb4276dcfc4d858ec2993d1c1c1758a", func := "loop.example/waymark/laws.FnLiveTell", spec := "fnLiveTell", inPlace := ["slices.overlaps[loop.example/waymark/impl.News]"], unfollowed := true, recurses := true, apart := false, narrowed := true }
def FnLiveTellUptoSaid : Prop := fnLiveTellUptoRow.holds Try.pinned (OpenSpec.upto fnLiveTellSpec)

/-- 'laws.FnLiveOver', WHERE WHAT IT READS IS OF BULK AT MOST 1048576: true; the input reads as it did. -/
def fnLiveOverUptoRow : OpenClaim := { program := "ytbcedkcjodokkaa", sum := "6e80acf93557b55a97150db055733eed0eb4276dcfc4d858ec2993d1c1c1758a", func := "loop.example/waymark/laws.FnLiveOver", spec := "fnLiveOver", inPlace := ["slices.overlaps[loop.example/waymark/impl.News]"], unfollowed := true, recurses := true, apart := false, narrowed := true }
def FnLiveOverUptoSaid : Prop := fnLiveOverUptoRow.holds Try.pinned (OpenSpec.upto fnLiveOverSpec)

end Rows
end Go.Proofs.Ytbcedkcjodokkaa
