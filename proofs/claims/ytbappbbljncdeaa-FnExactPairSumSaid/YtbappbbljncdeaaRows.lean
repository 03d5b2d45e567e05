/-
  No cell of these rows narrows 'for every input' (looked for: loops, veiled, ifaces, maps, wideKeys, modest, calm, conditions, laid).
  DERIVED. THE GIVEN ROWS OF THIS SEAT. 12 by the template 'for every input the law returns true; each argument reads behind the call as it read before'; 0 by the template 'total and deterministic' (their statements: YtbappbbljncdeaaTotals.lean).
  GIVEN WITH THE SEED: the statements are not yours to turn. If you find one false, say at which input.
  Laid BY PROGRAM, IN A SANDBOX (cutbox-rows.mjs): the forced cells as the released guide's own fill.sh prints them over the translation 58f053a58c65658f… (all of the seat's roots in one cut). By AI agents, Wed Nov 11 2026. No macro, syntax, notation, axiom, sorry.
-/
import Derived.Test.YtbappbbljncdeaaChecked
import GoSem.Claim
import GoSem.ClaimJoined
import GoSem.ClaimMapViews
import Derived.JoinedTies
import Derived.KernelRfl
namespace Go.Proofs.Ytbappbbljncdeaa
/- THE CELL 'sum', in the pinned program and in every row, IS THE sha256 OF THE DUMP (.gsa) THAT YtbappbbljncdeaaProg.lean LOADS. Nothing in Lean hashes anything: it is a label: what it is worth is what the hold of that sum in a sandbox is worth. -/
noncomputable def Try.pinned : Pinned := { name := "ytbappbbljncdeaa", sum := "58f053a58c65658f1aa43d330f968d76dc8e267b6a564e142a8dc3f57be34a6e", checked := Try.checked }
namespace Rows
def none {H : Type} : Left H := { results := [], args := [] }

/-- 'laws.FnExactReachParts': WHATEVER THE INPUT: true; the input reads as it did. -/
def fnExactReachPartsSpec : ChangeSpec := { name := "fnExactReachParts", fn := fun _ => fun
  | [d] => { results := [.lit (.bool true)], args := [d] }
  | _ => none }
def fnExactReachPartsRow : OpenClaim := { program := "ytbappbbljncdeaa", sum := "58f053a58c65658f1aa43d330f968d76dc8e267b6a564e142a8dc3f57be34a6e", func := "loop.example/waymark/laws.FnExactReachParts", spec := "fnExactReachParts", unfollowed := true, recurses := true, apart := false }
def FnExactReachPartsSaid : Prop := fnExactReachPartsRow.holds Try.pinned (OpenSpec.ofChange fnExactReachPartsSpec)

/-- ITS FALSE NEIGHBOUR: 'it returns false'. Refute it at one input. -/
def fnExactReachPartsWrong : ChangeSpec := { name := "fnExactReachParts", fn := fun _ => fun
  | [d] => { results := [.lit (.bool false)], args := [d] }
  | _ => none }
def FnExactReachPartsWrongFalsely : Prop := fnExactReachPartsRow.holds Try.pinned (OpenSpec.ofChange fnExactReachPartsWrong)

/-- 'laws.FnExactTourCost': WHATEVER THE INPUT: true; the input reads as it did. -/
def fnExactTourCostSpec : ChangeSpec := { name := "fnExactTourCost", fn := fun _ => fun
  | [d1, d2] => { results := [.lit (.bool true)], args := [d1, d2] }
  | _ => none }
def fnExactTourCostRow : OpenClaim := { program := "ytbappbbljncdeaa", sum := "58f053a58c65658f1aa43d330f968d76dc8e267b6a564e142a8dc3f57be34a6e", func := "loop.example/waymark/laws.FnExactTourCost", spec := "fnExactTourCost", unfollowed := true, recurses := true, apart := false }
def FnExactTourCostSaid : Prop := fnExactTourCostRow.holds Try.pinned (OpenSpec.ofChange fnExactTourCostSpec)

/-- ITS FALSE NEIGHBOUR: 'it returns false'. Refute it at one input. -/
def fnExactTourCostWrong : ChangeSpec := { name := "fnExactTourCost", fn := fun _ => fun
  | [d1, d2] => { results := [.lit (.bool false)], args := [d1, d2] }
  | _ => none }
def FnExactTourCostWrongFalsely : Prop := fnExactTourCostRow.holds Try.pinned (OpenSpec.ofChange fnExactTourCostWrong)

/-- 'laws.FnExactLoadAll': WHATEVER THE INPUT: true; the input reads as it did. -/
def fnExactLoadAllSpec : ChangeSpec := { name := "fnExactLoadAll", fn := fun _ => fun
  | [d1, d2] => { results := [.lit (.bool true)], args := [d1, d2] }
  | _ => none }
def fnExactLoadAllRow : OpenClaim := { program := "ytbappbbljncdeaa", sum := "58f053a58c65658f1aa43d330f968d76dc8e267b6a564e142a8dc3f57be34a6e", func := "loop.example/waymark/laws.FnExactLoadAll", spec := "fnExactLoadAll", unfollowed := true, recurses := true, apart := false }
def FnExactLoadAllSaid : Prop := fnExactLoadAllRow.holds Try.pinned (OpenSpec.ofChange fnExactLoadAllSpec)

/-- ITS FALSE NEIGHBOUR: 'it returns false'. Refute it at one input. -/
def fnExactLoadAllWrong : ChangeSpec := { name := "fnExactLoadAll", fn := fun _ => fun
  | [d1, d2] => { results := [.lit (.bool false)], args := [d1, d2] }
  | _ => none }
def FnExactLoadAllWrongFalsely : Prop := fnExactLoadAllRow.holds Try.pinned (OpenSpec.ofChange fnExactLoadAllWrong)

/-- 'laws.FnExactLiveNear': WHATEVER THE INPUT: true; the input reads as it did. -/
def fnExactLiveNearSpec : ChangeSpec := { name := "fnExactLiveNear", fn := fun _ => fun
  | [d1, d2, d3] => { results := [.lit (.bool true)], args := [d1, d2, d3] }
  | _ => none }
def fnExactLiveNearRow : OpenClaim := { program := "ytbappbbljncdeaa", sum := "58f053a58c65658f1aa43d330f968d76dc8e267b6a564e142a8dc3f57be34a6e", func := "loop.example/waymark/laws.FnExactLiveNear", spec := "fnExactLiveNear", unfollowed := true, recurses := true, apart := false }
def FnExactLiveNearSaid : Prop := fnExactLiveNearRow.holds Try.pinned (OpenSpec.ofChange fnExactLiveNearSpec)

/-- ITS FALSE NEIGHBOUR: 'it returns false'. Refute it at one input. -/
def fnExactLiveNearWrong : ChangeSpec := { name := "fnExactLiveNear", fn := fun _ => fun
  | [d1, d2, d3] => { results := [.lit (.bool false)], args := [d1, d2, d3] }
  | _ => none }
def FnExactLiveNearWrongFalsely : Prop := fnExactLiveNearRow.holds Try.pinned (OpenSpec.ofChange fnExactLiveNearWrong)

/-- 'laws.FnExactTourNear': WHATEVER THE INPUT: true; the input reads as it did. -/
def fnExactTourNearSpec : ChangeSpec := { name := "fnExactTourNear", fn := fun _ => fun
  | [d1, d2] => { results := [.lit (.bool true)], args := [d1, d2] }
  | _ => none }
def fnExactTourNearRow : OpenClaim := { program := "ytbappbbljncdeaa", sum := "58f053a58c65658f1aa43d330f968d76dc8e267b6a564e142a8dc3f57be34a6e", func := "loop.example/waymark/laws.FnExactTourNear", spec := "fnExactTourNear", unfollowed := true, recurses := true, apart := false }
def FnExactTourNearSaid : Prop := fnExactTourNearRow.holds Try.pinned (OpenSpec.ofChange fnExactTourNearSpec)

/-- ITS FALSE NEIGHBOUR: 'it returns false'. Refute it at one input. -/
def fnExactTourNearWrong : ChangeSpec := { name := "fnExactTourNear", fn := fun _ => fun
  | [d1, d2] => { results := [.lit (.bool false)], args := [d1, d2] }
  | _ => none }
def FnExactTourNearWrongFalsely : Prop := fnExactTourNearRow.holds Try.pinned (OpenSpec.ofChange fnExactTourNearWrong)

/-- 'laws.FnExactLoadWalk': WHATEVER THE INPUT: true; the input reads as it did. -/
def fnExactLoadWalkSpec : ChangeSpec := { name := "fnExactLoadWalk", fn := fun _ => fun
  | [d1, d2, d3, d4] => { results := [.lit (.bool true)], args := [d1, d2, d3, d4] }
  | _ => none }
def fnExactLoadWalkRow : OpenClaim := { program := "ytbappbbljncdeaa", sum := "58f053a58c65658f1aa43d330f968d76dc8e267b6a564e142a8dc3f57be34a6e", func := "loop.example/waymark/laws.FnExactLoadWalk", spec := "fnExactLoadWalk", unfollowed := true, recurses := true, apart := false }
def FnExactLoadWalkSaid : Prop := fnExactLoadWalkRow.holds Try.pinned (OpenSpec.ofChange fnExactLoadWalkSpec)

/-- ITS FALSE NEIGHBOUR: 'it returns false'. Refute it at one input. -/
def fnExactLoadWalkWrong : ChangeSpec := { name := "fnExactLoadWalk", fn := fun _ => fun
  | [d1, d2, d3, d4] => { results := [.lit (.bool false)], args := [d1, d2, d3, d4] }
  | _ => none }
def FnExactLoadWalkWrongFalsely : Prop := fnExactLoadWalkRow.holds Try.pinned (OpenSpec.ofChange fnExactLoadWalkWrong)

/-- 'laws.FnExactSeenCost': WHATEVER THE INPUT: true; the input reads as it did. -/
def fnExactSeenCostSpec : ChangeSpec := { name := "fnExactSeenCost", fn := fun _ => fun
  | [d1, d2, d3] => { results := [.lit (.bool true)], args := [d1, d2, d3] }
  | _ => none }
def fnExactSeenCostRow : OpenClaim := { program := "ytbappbbljncdeaa", sum := "58f053a58c65658f1aa43d330f968d76dc8e267b6a564e142a8dc3f57be34a6e", func := "loop.example/waymark/laws.FnExactSeenCost", spec := "fnExactSeenCost", unfollowed := true, recurses := true, apart := false }
def FnExactSeenCostSaid : Prop := fnExactSeenCostRow.holds Try.pinned (OpenSpec.ofChange fnExactSeenCostSpec)

/-- ITS FALSE NEIGHBOUR: 'it returns false'. Refute it at one input. -/
def fnExactSeenCostWrong : ChangeSpec := { name := "fnExactSeenCost", fn := fun _ => fun
  | [d1, d2, d3] => { results := [.lit (.bool false)], args := [d1, d2, d3] }
  | _ => none }
def FnExactSeenCostWrongFalsely : Prop := fnExactSeenCostRow.holds Try.pinned (OpenSpec.ofChange fnExactSeenCostWrong)

/-- 'laws.FnExactLiveOver': WHATEVER THE INPUT: true; the input reads as it did. -/
def fnExactLiveOverSpec : ChangeSpec := { name := "fnExactLiveOver", fn := fun _ => fun
  | [d1, d2] => { results := [.lit (.bool true)], args := [d1, d2] }
  | _ => none }
def fnExactLiveOverRow : OpenClaim := { program := "ytbappbbljncdeaa", sum := "58f053a58c65658f1aa43d330f968d76dc8e267b6a564e142a8dc3f57be34a6e", func := "loop.example/waymark/laws.FnExactLiveOver", spec := "fnExactLiveOver", unfollowed := true, recurses := true, apart := false }
def FnExactLiveOverSaid : Prop := fnExactLiveOverRow.holds Try.pinned (OpenSpec.ofChange fnExactLiveOverSpec)

/-- ITS FALSE NEIGHBOUR: 'it returns false'. Refute it at one input. -/
def fnExactLiveOverWrong : ChangeSpec := { name := "fnExactLiveOver", fn := fun _ => fun
  | [d1, d2] => { results := [.lit (.bool false)], args := [d1, d2] }
  | _ => none }
def FnExactLiveOverWrongFalsely : Prop := fnExactLiveOverRow.holds Try.pinned (OpenSpec.ofChange fnExactLiveOverWrong)

/-- 'laws.FnExactLiveTell': WHATEVER THE INPUT: true; the input reads as it did. -/
def fnExactLiveTellSpec : ChangeSpec := { name := "fnExactLiveTell", fn := fun _ => fun
  | [d1, d2] => { results := [.lit (.bool true)], args := [d1, d2] }
  | _ => none }
def fnExactLiveTellRow : OpenClaim := { program := "ytbappbbljncdeaa", sum := "58f053a58c65658f1aa43d330f968d76dc8e267b6a564e142a8dc3f57be34a6e", func := "loop.example/waymark/laws.FnExactLiveTell", spec := "fnExactLiveTell", inPlace := ["slices.overlaps[loop.example/waymark/impl.News]"], unfollowed := true, recurses := true, apart := false }
def FnExactLiveTellSaid : Prop := fnExactLiveTellRow.holds Try.pinned (OpenSpec.ofChange fnExactLiveTellSpec)

/-- ITS FALSE NEIGHBOUR: 'it returns false'. Refute it at one input. -/
def fnExactLiveTellWrong : ChangeSpec := { name := "fnExactLiveTell", fn := fun _ => fun
  | [d1, d2] => { results := [.lit (.bool false)], args := [d1, d2] }
  | _ => none }
def FnExactLiveTellWrongFalsely : Prop := fnExactLiveTellRow.holds Try.pinned (OpenSpec.ofChange fnExactLiveTellWrong)

/-- 'laws.FnExactTourBest': WHATEVER THE INPUT: true; the input reads as it did. -/
def fnExactTourBestSpec : ChangeSpec := { name := "fnExactTourBest", fn := fun _ => fun
  | [d1, d2] => { results := [.lit (.bool true)], args := [d1, d2] }
  | _ => none }
def fnExactTourBestRow : OpenClaim := { program := "ytbappbbljncdeaa", sum := "58f053a58c65658f1aa43d330f968d76dc8e267b6a564e142a8dc3f57be34a6e", func := "loop.example/waymark/laws.FnExactTourBest", spec := "fnExactTourBest", unfollowed := true, recurses := true, apart := false }
def FnExactTourBestSaid : Prop := fnExactTourBestRow.holds Try.pinned (OpenSpec.ofChange fnExactTourBestSpec)

/-- ITS FALSE NEIGHBOUR: 'it returns false'. Refute it at one input. -/
def fnExactTourBestWrong : ChangeSpec := { name := "fnExactTourBest", fn := fun _ => fun
  | [d1, d2] => { results := [.lit (.bool false)], args := [d1, d2] }
  | _ => none }
def FnExactTourBestWrongFalsely : Prop := fnExactTourBestRow.holds Try.pinned (OpenSpec.ofChange fnExactTourBestWrong)

/-- 'laws.FnExactSeenBest': WHATEVER THE INPUT: true; the input reads as it did. -/
def fnExactSeenBestSpec : ChangeSpec := { name := "fnExactSeenBest", fn := fun _ => fun
  | [d1, d2] => { results := [.lit (.bool true)], args := [d1, d2] }
  | _ => none }
def fnExactSeenBestRow : OpenClaim := { program := "ytbappbbljncdeaa", sum := "58f053a58c65658f1aa43d330f968d76dc8e267b6a564e142a8dc3f57be34a6e", func := "loop.example/waymark/laws.FnExactSeenBest", spec := "fnExactSeenBest", unfollowed := true, recurses := true, apart := false }
def FnExactSeenBestSaid : Prop := fnExactSeenBestRow.holds Try.pinned (OpenSpec.ofChange fnExactSeenBestSpec)

/-- ITS FALSE NEIGHBOUR: 'it returns false'. Refute it at one input. -/
def fnExactSeenBestWrong : ChangeSpec := { name := "fnExactSeenBest", fn := fun _ => fun
  | [d1, d2] => { results := [.lit (.bool false)], args := [d1, d2] }
  | _ => none }
def FnExactSeenBestWrongFalsely : Prop := fnExactSeenBestRow.holds Try.pinned (OpenSpec.ofChange fnExactSeenBestWrong)

/-- 'laws.FnExactPairSum': WHATEVER THE INPUT: true; the input reads as it did. -/
def fnExactPairSumSpec : ChangeSpec := { name := "fnExactPairSum", fn := fun _ => fun
  | [d1, d2, d3, d4, d5] => { results := [.lit (.bool true)], args := [d1, d2, d3, d4, d5] }
  | _ => none }
def fnExactPairSumRow : OpenClaim := { program := "ytbappbbljncdeaa", sum := "58f053a58c65658f1aa43d330f968d76dc8e267b6a564e142a8dc3f57be34a6e", func := "loop.example/waymark/laws.FnExactPairSum", spec := "fnExactPairSum", unfollowed := true, recurses := true, apart := false }
def FnExactPairSumSaid : Prop := fnExactPairSumRow.holds Try.pinned (OpenSpec.ofChange fnExactPairSumSpec)

/-- ITS FALSE NEIGHBOUR: 'it returns false'. Refute it at one input. -/
def fnExactPairSumWrong : ChangeSpec := { name := "fnExactPairSum", fn := fun _ => fun
  | [d1, d2, d3, d4, d5] => { results := [.lit (.bool false)], args := [d1, d2, d3, d4, d5] }
  | _ => none }
def FnExactPairSumWrongFalsely : Prop := fnExactPairSumRow.holds Try.pinned (OpenSpec.ofChange fnExactPairSumWrong)

/- THE SECOND FORM. 'bulk': how many values and letters a reading holds, each counted each time it is reached (what is shared counts as often as it is met; a slice's spare places count too). A statement '..UptoSaid' is the law's where the arguments, and the package variables that the reading takes, are together of bulk at most 1048576: NARROWER than '..Said'. Prove '..Said' where nothing that the law and all that it calls make is longer than what came in: it says more and counts as full. Else prove '..UptoSaid'. A law counts once. -/
mutual
def uptoBulk {H : Type} : DataW H → Nat
  | .lit (.string bytes) => bytes.length + 1
  | .lit _ => 1
  | .nil => 1
  | .ptr d => uptoBulk d + 1
  | .slice elems spare => uptoBulkAll elems + uptoBulkAll spare + 1
  | .agg parts => uptoBulkAll parts + 1
  | .iface _ d => uptoBulk d + 1
  | .map entries => uptoBulkEntries entries + 1
  | .held _ => 1
def uptoBulkAll {H : Type} : List (DataW H) → Nat
  | [] => 0
  | d :: r => uptoBulk d + uptoBulkAll r
def uptoBulkEntries {H : Type} : List (Lit × DataW H) → Nat
  | [] => 0
  | x :: r => uptoBulkEntry x + uptoBulkEntries r
def uptoBulkEntry {H : Type} : Lit × DataW H → Nat
  | (.string bytes, d) => bytes.length + uptoBulk d + 1
  | (_, d) => uptoBulk d + 1
 end
def uptoSmall : (H : Type) → List (DataW H) → Bool := fun _ ds => decide (uptoBulkAll ds ≤ 1048576)
def OpenSpec.upto (s : _root_.Go.ChangeSpec) : _root_.Go.OpenSpec := { _root_.Go.OpenSpec.ofChange s with cond := some uptoSmall }

/-- 'laws.FnExactReachParts', WHERE WHAT IT READS IS OF BULK AT MOST 1048576: true; the input reads as it did. -/
def fnExactReachPartsUptoRow : OpenClaim := { program := "ytbappbbljncdeaa", sum := "58f053a58c65658f1aa43d330f968d76dc8e267b6a564e142a8dc3f57be34a6e", func := "loop.example/waymark/laws.FnExactReachParts", spec := "fnExactReachParts", unfollowed := true, recurses := true, apart := false, narrowed := true }
def FnExactReachPartsUptoSaid : Prop := fnExactReachPartsUptoRow.holds Try.pinned (OpenSpec.upto fnExactReachPartsSpec)

/-- 'laws.FnExactTourCost', WHERE WHAT IT READS IS OF BULK AT MOST 1048576: true; the input reads as it did. -/
def fnExactTourCostUptoRow : OpenClaim := { program := "ytbappbbljncdeaa", sum := "58f053a58c65658f1aa43d330f968d76dc8e267b6a564e142a8dc3f57be34a6e", func := "loop.example/waymark/laws.FnExactTourCost", spec := "fnExactTourCost", unfollowed := true, recurses := true, apart := false, narrowed := true }
def FnExactTourCostUptoSaid : Prop := fnExactTourCostUptoRow.holds Try.pinned (OpenSpec.upto fnExactTourCostSpec)

/-- 'laws.FnExactLoadAll', WHERE WHAT IT READS IS OF BULK AT MOST 1048576: true; the input reads as it did. -/
def fnExactLoadAllUptoRow : OpenClaim := { program := "ytbappbbljncdeaa", sum := "58f053a58c65658f1aa43d330f968d76dc8e267b6a564e142a8dc3f57be34a6e", func := "loop.example/waymark/laws.FnExactLoadAll", spec := "fnExactLoadAll", unfollowed := true, recurses := true, apart := false, narrowed := true }
def FnExactLoadAllUptoSaid : Prop := fnExactLoadAllUptoRow.holds Try.pinned (OpenSpec.upto fnExactLoadAllSpec)

/-- 'laws.FnExactLiveNear', WHERE WHAT IT READS IS OF BULK AT MOST 1048576: true; the input reads as it did. -/
def fnExactLiveNearUptoRow : OpenClaim := { program := "ytbappbbljncdeaa", sum := "58f053a58c65658f1aa43d330f968d76dc8e267b6a564e142a8dc3f57be34a6e", func := "loop.example/waymark/laws.FnExactLiveNear", spec := "fnExactLiveNear", unfollowed := true, recurses := true, apart := false, narrowed := true }
def FnExactLiveNearUptoSaid : Prop := fnExactLiveNearUptoRow.holds Try.pinned (OpenSpec.upto fnExactLiveNearSpec)

/-- 'laws.FnExactTourNear', WHERE WHAT IT READS IS OF BULK AT MOST 1048576: true; the input reads as it did. -/
def fnExactTourNearUptoRow : OpenClaim := { program := "ytbappbbljncdeaa", sum := "58f053a58c65658f1aa43d330f968d76dc8e267b6a564e142a8dc3f57be34a6e", func := "loop.example/waymark/laws.FnExactTourNear", spec := "fnExactTourNear", unfollowed := true, recurses := true, apart := false, narrowed := true }
def FnExactTourNearUptoSaid : Prop := fnExactTourNearUptoRow.holds Try.pinned (OpenSpec.upto fnExactTourNearSpec)

/-- 'laws.FnExactLoadWalk', WHERE WHAT IT READS IS OF BULK AT MOST 1048576: true; the input reads as it did. -/
def fnExactLoadWalkUptoRow : OpenClaim := { program := "ytbappbbljncdeaa", sum := "58f053a58c65658f1aa43d330f968d76dc8e267b6a564e142a8dc3f57be34a6e", func := "loop.example/waymark/laws.FnExactLoadWalk", spec := "fnExactLoadWalk", unfollowed := true, recurses := true, apart := false, narrowed := true }
def FnExactLoadWalkUptoSaid : Prop := fnExactLoadWalkUptoRow.holds Try.pinned (OpenSpec.upto fnExactLoadWalkSpec)

/-- 'laws.FnExactSeenCost', WHERE WHAT IT READS IS OF BULK AT MOST 1048576: true; the input reads as it did. -/
def fnExactSeenCostUptoRow : OpenClaim := { program := "ytbappbbljncdeaa", sum := "58f053a58c65658f1aa43d330f968d76dc8e267b6a564e142a8dc3f57be34a6e", func := "loop.example/waymark/laws.FnExactSeenCost", spec := "fnExactSeenCost", unfollowed := true, recurses := true, apart := false, narrowed := true }
def FnExactSeenCostUptoSaid : Prop := fnExactSeenCostUptoRow.holds Try.pinned (OpenSpec.upto fnExactSeenCostSpec)

/-- 'laws.FnExactLiveOver', WHERE WHAT IT READS IS OF BULK AT MOST 1048576: true; the input reads as it did. -/
def fnExactLiveOverUptoRow : OpenClaim := { program := "ytbappbbljncdeaa", sum := "58f053a58c65658f1aa43d330f968d76dc8e267b6a564e142a8dc3f57be34a6e", func := "loop.example/waymark/laws.FnExactLiveOver", spec := "fnExactLiveOver", unfollowed := true, recurses := true, apart := false, narrowed := true }
def FnExactLiveOverUptoSaid : Prop := fnExactLiveOverUptoRow.holds Try.pinned (OpenSpec.upto fnExactLiveOverSpec)

/-- 'laws.FnExactLiveTell', WHERE WHAT IT READS IS OF BULK AT MOST 1048576: true; the input reads as it did. -/
def fnExactLiveTellUptoRow : OpenClaim := { program := "ytbappbbljncdeaa", sum := "58f053a58c65658f1aa43d330f968d76dc8e267b6a564e142a8dc3f57be34a6e", func := "loop.example/waymark/laws.FnExactLiveTell", spec := "fnExactLiveTell", inPlace := ["slices.overlaps[loop.example/waymark/impl.News]"], unfollowed := true, recurses := true, apart := false, narrowed := true }
def FnExactLiveTellUptoSaid : Prop := fnExactLiveTellUptoRow.holds Try.pinned (OpenSpec.upto fnExactLiveTellSpec)

/-- 'laws.FnExactTourBest', WHERE WHAT IT READS IS OF BULK AT MOST 1048576: true; the input reads as it did. -/
def fnExactTourBestUptoRow : OpenClaim := { program := "ytbappbbljncdeaa", sum := "58f053a58c65658f1aa43d330f968d76dc8e267b6a564e142a8dc3f57be34a6e", func := "loop.example/waymark/laws.FnExactTourBest", spec := "fnExactTourBest", unfollowed := true, recurses := true, apart := false, narrowed := true }
def FnExactTourBestUptoSaid : Prop := fnExactTourBestUptoRow.holds Try.pinned (OpenSpec.upto fnExactTourBestSpec)

/-- 'laws.FnExactSeenBest', WHERE WHAT IT READS IS OF BULK AT MOST 1048576: true; the input reads as it did. -/
def fnExactSeenBestUptoRow : OpenClaim := { program := "ytbappbbljncdeaa", sum := "58f053a58c65658f1aa43d330f968d76dc8e267b6a564e142a8dc3f57be34a6e", func := "loop.example/waymark/laws.FnExactSeenBest", spec := "fnExactSeenBest", unfollowed := true, recurses := true, apart := false, narrowed := true }
def FnExactSeenBestUptoSaid : Prop := fnExactSeenBestUptoRow.holds Try.pinned (OpenSpec.upto fnExactSeenBestSpec)

/-- 'laws.FnExactPairSum', WHERE WHAT IT READS IS OF BULK AT MOST 1048576: true; the input reads as it did. -/
def fnExactPairSumUptoRow : OpenClaim := { program := "ytbappbbljncdeaa", sum := "58f053a58c65658f1aa43d330f968d76dc8e267b6a564e142a8dc3f57be34a6e", func := "loop.example/waymark/laws.FnExactPairSum", spec := "fnExactPairSum", unfollowed := true, recurses := true, apart := false, narrowed := true }
def FnExactPairSumUptoSaid : Prop := fnExactPairSumUptoRow.holds Try.pinned (OpenSpec.upto fnExactPairSumSpec)

end Rows
end Go.Proofs.Ytbappbbljncdeaa
