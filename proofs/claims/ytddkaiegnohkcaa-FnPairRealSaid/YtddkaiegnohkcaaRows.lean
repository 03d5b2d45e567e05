/-
  No cell of these rows narrows 'for every input' (looked for: loops, veiled, ifaces, maps, wideKeys, modest, calm, conditions, laid).
  DERIVED. THE GIVEN ROWS OF THIS SEAT. 8 by the template 'for every input the law returns true; each argument reads behind the call as it read before'; 0 by the template 'total and deterministic' (their statements: YtddkaiegnohkcaaTotals.lean).
  GIVEN WITH THE SEED: the statements are not yours to turn. If you find one false, say at which input.
  Laid BY PROGRAM, IN A SANDBOX (cutbox-rows.mjs): the forced cells as the released guide's own fill.sh prints them over the translation dbf8b3e21f9fc6a0… (all of the seat's roots in one cut). By AI agents, Wed Nov 11 2026. No macro, syntax, notation, axiom, sorry.
-/
import Derived.Test.YtddkaiegnohkcaaChecked
import GoSem.Claim
import GoSem.ClaimJoined
import GoSem.ClaimMapViews
import Derived.JoinedTies
import Derived.KernelRfl
namespace Go.Proofs.Ytddkaiegnohkcaa
/- THE CELL 'sum', in the pinned program and in every row, IS THE sha256 OF THE DUMP (.gsa) THAT YtddkaiegnohkcaaProg.lean LOADS. Nothing in Lean hashes anything: it is a label: what it is worth is what the hold of that sum in a sandbox is worth. -/
noncomputable def Try.pinned : Pinned := { name := "ytddkaiegnohkcaa", sum := "dbf8b3e21f9fc6a04d867776977da70c59df1ac9e6e82a389d7c1175706cf7a6", checked := Try.checked }
namespace Rows
def none {H : Type} : Left H := { results := [], args := [] }

/-- 'laws.FnPairWalk': WHATEVER THE INPUT: true; the input reads as it did. -/
def fnPairWalkSpec : ChangeSpec := { name := "fnPairWalk", fn := fun _ => fun
  | [d] => { results := [.lit (.bool true)], args := [d] }
  | _ => none }
def fnPairWalkRow : OpenClaim := { program := "ytddkaiegnohkcaa", sum := "dbf8b3e21f9fc6a04d867776977da70c59df1ac9e6e82a389d7c1175706cf7a6", func := "loop.example/waymark/laws.FnPairWalk", spec := "fnPairWalk", unfollowed := true, recurses := true, apart := false }
def FnPairWalkSaid : Prop := fnPairWalkRow.holds Try.pinned (OpenSpec.ofChange fnPairWalkSpec)

/-- ITS FALSE NEIGHBOUR: 'it returns false'. Refute it at one input. -/
def fnPairWalkWrong : ChangeSpec := { name := "fnPairWalk", fn := fun _ => fun
  | [d] => { results := [.lit (.bool false)], args := [d] }
  | _ => none }
def FnPairWalkWrongFalsely : Prop := fnPairWalkRow.holds Try.pinned (OpenSpec.ofChange fnPairWalkWrong)

/-- 'laws.FnExactPairWith': WHATEVER THE INPUT: true; the input reads as it did. -/
def fnExactPairWithSpec : ChangeSpec := { name := "fnExactPairWith", fn := fun _ => fun
  | [d1, d2, d3, d4] => { results := [.lit (.bool true)], args := [d1, d2, d3, d4] }
  | _ => none }
def fnExactPairWithRow : OpenClaim := { program := "ytddkaiegnohkcaa", sum := "dbf8b3e21f9fc6a04d867776977da70c59df1ac9e6e82a389d7c1175706cf7a6", func := "loop.example/waymark/laws.FnExactPairWith", spec := "fnExactPairWith", unfollowed := true, recurses := true, apart := false }
def FnExactPairWithSaid : Prop := fnExactPairWithRow.holds Try.pinned (OpenSpec.ofChange fnExactPairWithSpec)

/-- ITS FALSE NEIGHBOUR: 'it returns false'. Refute it at one input. -/
def fnExactPairWithWrong : ChangeSpec := { name := "fnExactPairWith", fn := fun _ => fun
  | [d1, d2, d3, d4] => { results := [.lit (.bool false)], args := [d1, d2, d3, d4] }
  | _ => none }
def FnExactPairWithWrongFalsely : Prop := fnExactPairWithRow.holds Try.pinned (OpenSpec.ofChange fnExactPairWithWrong)

/-- 'laws.FnExactPairAll': WHATEVER THE INPUT: true; the input reads as it did. -/
def fnExactPairAllSpec : ChangeSpec := { name := "fnExactPairAll", fn := fun _ => fun
  | [d1, d2, d3] => { results := [.lit (.bool true)], args := [d1, d2, d3] }
  | _ => none }
def fnExactPairAllRow : OpenClaim := { program := "ytddkaiegnohkcaa", sum := "dbf8b3e21f9fc6a04d867776977da70c59df1ac9e6e82a389d7c1175706cf7a6", func := "loop.example/waymark/laws.FnExactPairAll", spec := "fnExactPairAll", unfollowed := true, recurses := true, apart := false }
def FnExactPairAllSaid : Prop := fnExactPairAllRow.holds Try.pinned (OpenSpec.ofChange fnExactPairAllSpec)

/-- ITS FALSE NEIGHBOUR: 'it returns false'. Refute it at one input. -/
def fnExactPairAllWrong : ChangeSpec := { name := "fnExactPairAll", fn := fun _ => fun
  | [d1, d2, d3] => { results := [.lit (.bool false)], args := [d1, d2, d3] }
  | _ => none }
def FnExactPairAllWrongFalsely : Prop := fnExactPairAllRow.holds Try.pinned (OpenSpec.ofChange fnExactPairAllWrong)

/-- 'laws.FnPairReal': WHATEVER THE INPUT: true; the input reads as it did. -/
def fnPairRealSpec : ChangeSpec := { name := "fnPairReal", fn := fun _ => fun
  | [d] => { results := [.lit (.bool true)], args := [d] }
  | _ => none }
def fnPairRealRow : OpenClaim := { program := "ytddkaiegnohkcaa", sum := "dbf8b3e21f9fc6a04d867776977da70c59df1ac9e6e82a389d7c1175706cf7a6", func := "loop.example/waymark/laws.FnPairReal", spec := "fnPairReal", unfollowed := true, recurses := true, apart := false }
def FnPairRealSaid : Prop := fnPairRealRow.holds Try.pinned (OpenSpec.ofChange fnPairRealSpec)

/-- ITS FALSE NEIGHBOUR: 'it returns false'. Refute it at one input. -/
def fnPairRealWrong : ChangeSpec := { name := "fnPairReal", fn := fun _ => fun
  | [d] => { results := [.lit (.bool false)], args := [d] }
  | _ => none }
def FnPairRealWrongFalsely : Prop := fnPairRealRow.holds Try.pinned (OpenSpec.ofChange fnPairRealWrong)

/-- 'laws.FnPairWith': WHATEVER THE INPUT: true; the input reads as it did. -/
def fnPairWithSpec : ChangeSpec := { name := "fnPairWith", fn := fun _ => fun
  | [d] => { results := [.lit (.bool true)], args := [d] }
  | _ => none }
def fnPairWithRow : OpenClaim := { program := "ytddkaiegnohkcaa", sum := "dbf8b3e21f9fc6a04d867776977da70c59df1ac9e6e82a389d7c1175706cf7a6", func := "loop.example/waymark/laws.FnPairWith", spec := "fnPairWith", unfollowed := true, recurses := true, apart := false }
def FnPairWithSaid : Prop := fnPairWithRow.holds Try.pinned (OpenSpec.ofChange fnPairWithSpec)

/-- ITS FALSE NEIGHBOUR: 'it returns false'. Refute it at one input. -/
def fnPairWithWrong : ChangeSpec := { name := "fnPairWith", fn := fun _ => fun
  | [d] => { results := [.lit (.bool false)], args := [d] }
  | _ => none }
def FnPairWithWrongFalsely : Prop := fnPairWithRow.holds Try.pinned (OpenSpec.ofChange fnPairWithWrong)

/-- 'laws.FnPairSum': WHATEVER THE INPUT: true; the input reads as it did. -/
def fnPairSumSpec : ChangeSpec := { name := "fnPairSum", fn := fun _ => fun
  | [d] => { results := [.lit (.bool true)], args := [d] }
  | _ => none }
def fnPairSumRow : OpenClaim := { program := "ytddkaiegnohkcaa", sum := "dbf8b3e21f9fc6a04d867776977da70c59df1ac9e6e82a389d7c1175706cf7a6", func := "loop.example/waymark/laws.FnPairSum", spec := "fnPairSum", unfollowed := true, recurses := true, apart := false }
def FnPairSumSaid : Prop := fnPairSumRow.holds Try.pinned (OpenSpec.ofChange fnPairSumSpec)

/-- ITS FALSE NEIGHBOUR: 'it returns false'. Refute it at one input. -/
def fnPairSumWrong : ChangeSpec := { name := "fnPairSum", fn := fun _ => fun
  | [d] => { results := [.lit (.bool false)], args := [d] }
  | _ => none }
def FnPairSumWrongFalsely : Prop := fnPairSumRow.holds Try.pinned (OpenSpec.ofChange fnPairSumWrong)

/-- 'laws.FnPairAll': WHATEVER THE INPUT: true; the input reads as it did. -/
def fnPairAllSpec : ChangeSpec := { name := "fnPairAll", fn := fun _ => fun
  | [d] => { results := [.lit (.bool true)], args := [d] }
  | _ => none }
def fnPairAllRow : OpenClaim := { program := "ytddkaiegnohkcaa", sum := "dbf8b3e21f9fc6a04d867776977da70c59df1ac9e6e82a389d7c1175706cf7a6", func := "loop.example/waymark/laws.FnPairAll", spec := "fnPairAll", unfollowed := true, recurses := true, apart := false }
def FnPairAllSaid : Prop := fnPairAllRow.holds Try.pinned (OpenSpec.ofChange fnPairAllSpec)

/-- ITS FALSE NEIGHBOUR: 'it returns false'. Refute it at one input. -/
def fnPairAllWrong : ChangeSpec := { name := "fnPairAll", fn := fun _ => fun
  | [d] => { results := [.lit (.bool false)], args := [d] }
  | _ => none }
def FnPairAllWrongFalsely : Prop := fnPairAllRow.holds Try.pinned (OpenSpec.ofChange fnPairAllWrong)

/-- 'laws.FnCostRoads': WHATEVER THE INPUT: true; the input reads as it did. -/
def fnCostRoadsSpec : ChangeSpec := { name := "fnCostRoads", fn := fun _ => fun
  | [d] => { results := [.lit (.bool true)], args := [d] }
  | _ => none }
def fnCostRoadsRow : OpenClaim := { program := "ytddkaiegnohkcaa", sum := "dbf8b3e21f9fc6a04d867776977da70c59df1ac9e6e82a389d7c1175706cf7a6", func := "loop.example/waymark/laws.FnCostRoads", spec := "fnCostRoads", unfollowed := true, recurses := true, apart := false }
def FnCostRoadsSaid : Prop := fnCostRoadsRow.holds Try.pinned (OpenSpec.ofChange fnCostRoadsSpec)

/-- ITS FALSE NEIGHBOUR: 'it returns false'. Refute it at one input. -/
def fnCostRoadsWrong : ChangeSpec := { name := "fnCostRoads", fn := fun _ => fun
  | [d] => { results := [.lit (.bool false)], args := [d] }
  | _ => none }
def FnCostRoadsWrongFalsely : Prop := fnCostRoadsRow.holds Try.pinned (OpenSpec.ofChange fnCostRoadsWrong)

/- THE SECOND FORM. 'bulk': how many values and letters a reading holds, each counted each time it is reached (what is shared counts as often as it is met; a slice's spare places count too). A statement '..UptoSaid' is the law's where the arguments, and the package variables that the reading takes, are together of bulk at most 1048576: NARROWER than '..Said'. Prove '..Said' where nothing that the law and all that it calls make is longer than what came in: it says more and counts as full. Else prove '..UptoSaid'. A law counts once. -/
mutual
def uptoBulk {H : Type} : DataW H → Nat
  | .lit (.string bytes) => bytes.length + 1
  | .lit _ => 1
  | .nil => 1
  | .ptr d => uptoBulk d + 1
  | .slice elems spare => uptoBulkAll elems + uptoBulkAll spare + 1
  | .agg parts => uptoBulkAll parts + 1
  | .iface _ d => uptoBulk d + 1
  | .map entries => uptoBulkEntries entries + 1
  | .held _ => 1
def uptoBulkAll {H : Type} : List (DataW H) → Nat
  | [] => 0
  | d :: r => uptoBulk d + uptoBulkAll r
def uptoBulkEntries {H : Type} : List (Lit × DataW H) → Nat
  | [] => 0
  | x :: r => uptoBulkEntry x + uptoBulkEntries r
def uptoBulkEntry {H : Type} : Lit × DataW H → Nat
  | (.string bytes, d) => bytes.length + uptoBulk d + 1
  | (_, d) => uptoBulk d + 1
 end
def uptoSmall : (H : Type) → List (DataW H) → Bool := fun _ ds => decide (uptoBulkAll ds ≤ 1048576)
def OpenSpec.upto (s : _root_.Go.ChangeSpec) : _root_.Go.OpenSpec := { _root_.Go.OpenSpec.ofChange s with cond := some uptoSmall }

/-- 'laws.FnPairWalk', WHERE WHAT IT READS IS OF BULK AT MOST 1048576: true; the input reads as it did. -/
def fnPairWalkUptoRow : OpenClaim := { program := "ytddkaiegnohkcaa", sum := "dbf8b3e21f9fc6a04d867776977da70c59df1ac9e6e82a389d7c1175706cf7a6", func := "loop.example/waymark/laws.FnPairWalk", spec := "fnPairWalk", unfollowed := true, recurses := true, apart := false, narrowed := true }
def FnPairWalkUptoSaid : Prop := fnPairWalkUptoRow.holds Try.pinned (OpenSpec.upto fnPairWalkSpec)

/-- 'laws.FnExactPairWith', WHERE WHAT IT READS IS OF BULK AT MOST 1048576: true; the input reads as it did. -/
def fnExactPairWithUptoRow : OpenClaim := { program := "ytddkaiegnohkcaa", sum := "dbf8b3e21f9fc6a04d867776977da70c59df1ac9e6e82a389d7c1175706cf7a6", func := "loop.example/waymark/laws.FnExactPairWith", spec := "fnExactPairWith", unfollowed := true, recurses := true, apart := false, narrowed := true }
def FnExactPairWithUptoSaid : Prop := fnExactPairWithUptoRow.holds Try.pinned (OpenSpec.upto fnExactPairWithSpec)

/-- 'laws.FnExactPairAll', WHERE WHAT IT READS IS OF BULK AT MOST 1048576: true; the input reads as it did. -/
def fnExactPairAllUptoRow : OpenClaim := { program := "ytddkaiegnohkcaa", sum := "dbf8b3e21f9fc6a04d867776977da70c59df1ac9e6e82a389d7c1175706cf7a6", func := "loop.example/waymark/laws.FnExactPairAll", spec := "fnExactPairAll", unfollowed := true, recurses := true, apart := false, narrowed := true }
def FnExactPairAllUptoSaid : Prop := fnExactPairAllUptoRow.holds Try.pinned (OpenSpec.upto fnExactPairAllSpec)

/-- 'laws.FnPairReal', WHERE WHAT IT READS IS OF BULK AT MOST 1048576: true; the input reads as it did. -/
def fnPairRealUptoRow : OpenClaim := { program := "ytddkaiegnohkcaa", sum := "dbf8b3e21f9fc6a04d867776977da70c59df1ac9e6e82a389d7c1175706cf7a6", func := "loop.example/waymark/laws.FnPairReal", spec := "fnPairReal", unfollowed := true, recurses := true, apart := false, narrowed := true }
def FnPairRealUptoSaid : Prop := fnPairRealUptoRow.holds Try.pinned (OpenSpec.upto fnPairRealSpec)

/-- 'laws.FnPairWith', WHERE WHAT IT READS IS OF BULK AT MOST 1048576: true; the input reads as it did. -/
def fnPairWithUptoRow : OpenClaim := { program := "ytddkaiegnohkcaa", sum := "dbf8b3e21f9fc6a04d867776977da70c59df1ac9e6e82a389d7c1175706cf7a6", func := "loop.example/waymark/laws.FnPairWith", spec := "fnPairWith", unfollowed := true, recurses := true, apart := false, narrowed := true }
def FnPairWithUptoSaid : Prop := fnPairWithUptoRow.holds Try.pinned (OpenSpec.upto fnPairWithSpec)

/-- 'laws.FnPairSum', WHERE WHAT IT READS IS OF BULK AT MOST 1048576: true; the input reads as it did. -/
def fnPairSumUptoRow : OpenClaim := { program := "ytddkaiegnohkcaa", sum := "dbf8b3e21f9fc6a04d867776977da70c59df1ac9e6e82a389d7c1175706cf7a6", func := "loop.example/waymark/laws.FnPairSum", spec := "fnPairSum", unfollowed := true, recurses := true, apart := false, narrowed := true }
def FnPairSumUptoSaid : Prop := fnPairSumUptoRow.holds Try.pinned (OpenSpec.upto fnPairSumSpec)

/-- 'laws.FnPairAll', WHERE WHAT IT READS IS OF BULK AT MOST 1048576: true; the input reads as it did. -/
def fnPairAllUptoRow : OpenClaim := { program := "ytddkaiegnohkcaa", sum := "dbf8b3e21f9fc6a04d867776977da70c59df1ac9e6e82a389d7c1175706cf7a6", func := "loop.example/waymark/laws.FnPairAll", spec := "fnPairAll", unfollowed := true, recurses := true, apart := false, narrowed := true }
def FnPairAllUptoSaid : Prop := fnPairAllUptoRow.holds Try.pinned (OpenSpec.upto fnPairAllSpec)

/-- 'laws.FnCostRoads', WHERE WHAT IT READS IS OF BULK AT MOST 1048576: true; the input reads as it did. -/
def fnCostRoadsUptoRow : OpenClaim := { program := "ytddkaiegnohkcaa", sum := "dbf8b3e21f9fc6a04d867776977da70c59df1ac9e6e82a389d7c1175706cf7a6", func := "loop.example/waymark/laws.FnCostRoads", spec := "fnCostRoads", unfollowed := true, recurses := true, apart := false, narrowed := true }
def FnCostRoadsUptoSaid : Prop := fnCostRoadsUptoRow.holds Try.pinned (OpenSpec.upto fnCostRoadsSpec)

end Rows
end Go.Proofs.Ytddkaiegnohkcaa
