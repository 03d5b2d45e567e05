/-
  No cell of these rows narrows 'for every input' (looked for: loops, veiled, ifaces, maps, wideKeys, modest, calm, conditions, laid).
  DERIVED. THE GIVEN ROWS OF THIS SEAT. 12 by the template 'for every input the law returns true; each argument reads behind the call as it read before'; 0 by the template 'total and deterministic' (their statements: YtgickejeakmenaaTotals.lean).
  GIVEN WITH THE SEED: the statements are not yours to turn. If you find one false, say at which input.
  Laid BY PROGRAM, IN A SANDBOX (cutbox-rows.mjs): the forced cells as the released guide's own fill.sh prints them over the translation 93756555d732419f… (all of the seat's roots in one cut). By AI agents, Wed Nov 11 2026. No macro, syntax, notation, axiom, sorry.
-/
import Derived.Test.YtgickejeakmenaaChecked
import GoSem.Claim
import GoSem.ClaimJoined
import GoSem.ClaimMapViews
import Derived.JoinedTies
import Derived.KernelRfl
namespace Go.Proofs.Ytgickejeakmenaa
/- THE CELL 'sum', in the pinned program and in every row, IS THE sha256 OF THE DUMP (.gsa) THAT YtgickejeakmenaaProg.lean LOADS. Nothing in Lean hashes anything: it is a label: what it is worth is what the hold of that sum in a sandbox is worth. -/
noncomputable def Try.pinned : Pinned := { name := "ytgickejeakmenaa", sum := "93756555d732419f732e8e629038f9796cd93f5b08ee0407adce22e722a58191", checked := Try.checked }
namespace Rows
def none {H : Type} : Left H := { results := [], args := [] }

/-- 'laws.FnTourCost': WHATEVER THE INPUT: true; the input reads as it did. -/
def fnTourCostSpec : ChangeSpec := { name := "fnTourCost", fn := fun _ => fun
  | [d] => { results := [.lit (.bool true)], args := [d] }
  | _ => none }
def fnTourCostRow : OpenClaim := { program := "ytgickejeakmenaa", sum := "93756555d732419f732e8e629038f9796cd93f5b08ee0407adce22e722a58191", func := "loop.example/waymark/laws.FnTourCost", spec := "fnTourCost", unfollowed := true, recurses := true, apart := false }
def FnTourCostSaid : Prop := fnTourCostRow.holds Try.pinned (OpenSpec.ofChange fnTourCostSpec)

/-- ITS FALSE NEIGHBOUR: 'it returns false'. Refute it at one input. -/
def fnTourCostWrong : ChangeSpec := { name := "fnTourCost", fn := fun _ => fun
  | [d] => { results := [.lit (.bool false)], args := [d] }
  | _ => none }
def FnTourCostWrongFalsely : Prop := fnTourCostRow.holds Try.pinned (OpenSpec.ofChange fnTourCostWrong)

/-- 'laws.FnReachLoad': WHATEVER THE INPUT: true; the input reads as it did. -/
def fnReachLoadSpec : ChangeSpec := { name := "fnReachLoad", fn := fun _ => fun
  | [d] => { results := [.lit (.bool true)], args := [d] }
  | _ => none }
def fnReachLoadRow : OpenClaim := { program := "ytgickejeakmenaa", sum := "93756555d732419f732e8e629038f9796cd93f5b08ee0407adce22e722a58191", func := "loop.example/waymark/laws.FnReachLoad", spec := "fnReachLoad", unfollowed := true, recurses := true, apart := false }
def FnReachLoadSaid : Prop := fnReachLoadRow.holds Try.pinned (OpenSpec.ofChange fnReachLoadSpec)

/-- ITS FALSE NEIGHBOUR: 'it returns false'. Refute it at one input. -/
def fnReachLoadWrong : ChangeSpec := { name := "fnReachLoad", fn := fun _ => fun
  | [d] => { results := [.lit (.bool false)], args := [d] }
  | _ => none }
def FnReachLoadWrongFalsely : Prop := fnReachLoadRow.holds Try.pinned (OpenSpec.ofChange fnReachLoadWrong)

/-- 'laws.FnLoadAll': WHATEVER THE INPUT: true; the input reads as it did. -/
def fnLoadAllSpec : ChangeSpec := { name := "fnLoadAll", fn := fun _ => fun
  | [d] => { results := [.lit (.bool true)], args := [d] }
  | _ => none }
def fnLoadAllRow : OpenClaim := { program := "ytgickejeakmenaa", sum := "93756555d732419f732e8e629038f9796cd93f5b08ee0407adce22e722a58191", func := "loop.example/waymark/laws.FnLoadAll", spec := "fnLoadAll", unfollowed := true, recurses := true, apart := false }
def FnLoadAllSaid : Prop := fnLoadAllRow.holds Try.pinned (OpenSpec.ofChange fnLoadAllSpec)

/-- ITS FALSE NEIGHBOUR: 'it returns false'. Refute it at one input. -/
def fnLoadAllWrong : ChangeSpec := { name := "fnLoadAll", fn := fun _ => fun
  | [d] => { results := [.lit (.bool false)], args := [d] }
  | _ => none }
def FnLoadAllWrongFalsely : Prop := fnLoadAllRow.holds Try.pinned (OpenSpec.ofChange fnLoadAllWrong)

/-- 'laws.FnLiveNear': WHATEVER THE INPUT: true; the input reads as it did. -/
def fnLiveNearSpec : ChangeSpec := { name := "fnLiveNear", fn := fun _ => fun
  | [d] => { results := [.lit (.bool true)], args := [d] }
  | _ => none }
def fnLiveNearRow : OpenClaim := { program := "ytgickejeakmenaa", sum := "93756555d732419f732e8e629038f9796cd93f5b08ee0407adce22e722a58191", func := "loop.example/waymark/laws.FnLiveNear", spec := "fnLiveNear", unfollowed := true, recurses := true, apart := false }
def FnLiveNearSaid : Prop := fnLiveNearRow.holds Try.pinned (OpenSpec.ofChange fnLiveNearSpec)

/-- ITS FALSE NEIGHBOUR: 'it returns false'. Refute it at one input. -/
def fnLiveNearWrong : ChangeSpec := { name := "fnLiveNear", fn := fun _ => fun
  | [d] => { results := [.lit (.bool false)], args := [d] }
  | _ => none }
def FnLiveNearWrongFalsely : Prop := fnLiveNearRow.holds Try.pinned (OpenSpec.ofChange fnLiveNearWrong)

/-- 'laws.FnTourNear': WHATEVER THE INPUT: true; the input reads as it did. -/
def fnTourNearSpec : ChangeSpec := { name := "fnTourNear", fn := fun _ => fun
  | [d] => { results := [.lit (.bool true)], args := [d] }
  | _ => none }
def fnTourNearRow : OpenClaim := { program := "ytgickejeakmenaa", sum := "93756555d732419f732e8e629038f9796cd93f5b08ee0407adce22e722a58191", func := "loop.example/waymark/laws.FnTourNear", spec := "fnTourNear", unfollowed := true, recurses := true, apart := false }
def FnTourNearSaid : Prop := fnTourNearRow.holds Try.pinned (OpenSpec.ofChange fnTourNearSpec)

/-- ITS FALSE NEIGHBOUR: 'it returns false'. Refute it at one input. -/
def fnTourNearWrong : ChangeSpec := { name := "fnTourNear", fn := fun _ => fun
  | [d] => { results := [.lit (.bool false)], args := [d] }
  | _ => none }
def FnTourNearWrongFalsely : Prop := fnTourNearRow.holds Try.pinned (OpenSpec.ofChange fnTourNearWrong)

/-- 'laws.FnTourTable': WHATEVER THE INPUT: true; the input reads as it did. -/
def fnTourTableSpec : ChangeSpec := { name := "fnTourTable", fn := fun _ => fun
  | [d] => { results := [.lit (.bool true)], args := [d] }
  | _ => none }
def fnTourTableRow : OpenClaim := { program := "ytgickejeakmenaa", sum := "93756555d732419f732e8e629038f9796cd93f5b08ee0407adce22e722a58191", func := "loop.example/waymark/laws.FnTourTable", spec := "fnTourTable", unfollowed := true, recurses := true, apart := false }
def FnTourTableSaid : Prop := fnTourTableRow.holds Try.pinned (OpenSpec.ofChange fnTourTableSpec)

/-- ITS FALSE NEIGHBOUR: 'it returns false'. Refute it at one input. -/
def fnTourTableWrong : ChangeSpec := { name := "fnTourTable", fn := fun _ => fun
  | [d] => { results := [.lit (.bool false)], args := [d] }
  | _ => none }
def FnTourTableWrongFalsely : Prop := fnTourTableRow.holds Try.pinned (OpenSpec.ofChange fnTourTableWrong)

/-- 'laws.FnSeenMore': WHATEVER THE INPUT: true; the input reads as it did. -/
def fnSeenMoreSpec : ChangeSpec := { name := "fnSeenMore", fn := fun _ => fun
  | [d] => { results := [.lit (.bool true)], args := [d] }
  | _ => none }
def fnSeenMoreRow : OpenClaim := { program := "ytgickejeakmenaa", sum := "93756555d732419f732e8e629038f9796cd93f5b08ee0407adce22e722a58191", func := "loop.example/waymark/laws.FnSeenMore", spec := "fnSeenMore", unfollowed := true, recurses := true, apart := false }
def FnSeenMoreSaid : Prop := fnSeenMoreRow.holds Try.pinned (OpenSpec.ofChange fnSeenMoreSpec)

/-- ITS FALSE NEIGHBOUR: 'it returns false'. Refute it at one input. -/
def fnSeenMoreWrong : ChangeSpec := { name := "fnSeenMore", fn := fun _ => fun
  | [d] => { results := [.lit (.bool false)], args := [d] }
  | _ => none }
def FnSeenMoreWrongFalsely : Prop := fnSeenMoreRow.holds Try.pinned (OpenSpec.ofChange fnSeenMoreWrong)

/-- 'laws.FnSeenCost': WHATEVER THE INPUT: true; the input reads as it did. -/
def fnSeenCostSpec : ChangeSpec := { name := "fnSeenCost", fn := fun _ => fun
  | [d] => { results := [.lit (.bool true)], args := [d] }
  | _ => none }
def fnSeenCostRow : OpenClaim := { program := "ytgickejeakmenaa", sum := "93756555d732419f732e8e629038f9796cd93f5b08ee0407adce22e722a58191", func := "loop.example/waymark/laws.FnSeenCost", spec := "fnSeenCost", unfollowed := true, recurses := true, apart := false }
def FnSeenCostSaid : Prop := fnSeenCostRow.holds Try.pinned (OpenSpec.ofChange fnSeenCostSpec)

/-- ITS FALSE NEIGHBOUR: 'it returns false'. Refute it at one input. -/
def fnSeenCostWrong : ChangeSpec := { name := "fnSeenCost", fn := fun _ => fun
  | [d] => { results := [.lit (.bool false)], args := [d] }
  | _ => none }
def FnSeenCostWrongFalsely : Prop := fnSeenCostRow.holds Try.pinned (OpenSpec.ofChange fnSeenCostWrong)

/-- 'laws.FnTourSwap': WHATEVER THE INPUT: true; the input reads as it did. -/
def fnTourSwapSpec : ChangeSpec := { name := "fnTourSwap", fn := fun _ => fun
  | [d1, d2] => { results := [.lit (.bool true)], args := [d1, d2] }
  | _ => none }
def fnTourSwapRow : OpenClaim := { program := "ytgickejeakmenaa", sum := "93756555d732419f732e8e629038f9796cd93f5b08ee0407adce22e722a58191", func := "loop.example/waymark/laws.FnTourSwap", spec := "fnTourSwap", unfollowed := true, recurses := true, apart := false }
def FnTourSwapSaid : Prop := fnTourSwapRow.holds Try.pinned (OpenSpec.ofChange fnTourSwapSpec)

/-- ITS FALSE NEIGHBOUR: 'it returns false'. Refute it at one input. -/
def fnTourSwapWrong : ChangeSpec := { name := "fnTourSwap", fn := fun _ => fun
  | [d1, d2] => { results := [.lit (.bool false)], args := [d1, d2] }
  | _ => none }
def FnTourSwapWrongFalsely : Prop := fnTourSwapRow.holds Try.pinned (OpenSpec.ofChange fnTourSwapWrong)

/-- 'laws.FnTourBest': WHATEVER THE INPUT: true; the input reads as it did. -/
def fnTourBestSpec : ChangeSpec := { name := "fnTourBest", fn := fun _ => fun
  | [d] => { results := [.lit (.bool true)], args := [d] }
  | _ => none }
def fnTourBestRow : OpenClaim := { program := "ytgickejeakmenaa", sum := "93756555d732419f732e8e629038f9796cd93f5b08ee0407adce22e722a58191", func := "loop.example/waymark/laws.FnTourBest", spec := "fnTourBest", unfollowed := true, recurses := true, apart := false }
def FnTourBestSaid : Prop := fnTourBestRow.holds Try.pinned (OpenSpec.ofChange fnTourBestSpec)

/-- ITS FALSE NEIGHBOUR: 'it returns false'. Refute it at one input. -/
def fnTourBestWrong : ChangeSpec := { name := "fnTourBest", fn := fun _ => fun
  | [d] => { results := [.lit (.bool false)], args := [d] }
  | _ => none }
def FnTourBestWrongFalsely : Prop := fnTourBestRow.holds Try.pinned (OpenSpec.ofChange fnTourBestWrong)

/-- 'laws.FnLoadWalk': WHATEVER THE INPUT: true; the input reads as it did. -/
def fnLoadWalkSpec : ChangeSpec := { name := "fnLoadWalk", fn := fun _ => fun
  | [d] => { results := [.lit (.bool true)], args := [d] }
  | _ => none }
def fnLoadWalkRow : OpenClaim := { program := "ytgickejeakmenaa", sum := "93756555d732419f732e8e629038f9796cd93f5b08ee0407adce22e722a58191", func := "loop.example/waymark/laws.FnLoadWalk", spec := "fnLoadWalk", unfollowed := true, recurses := true, apart := false }
def FnLoadWalkSaid : Prop := fnLoadWalkRow.holds Try.pinned (OpenSpec.ofChange fnLoadWalkSpec)

/-- ITS FALSE NEIGHBOUR: 'it returns false'. Refute it at one input. -/
def fnLoadWalkWrong : ChangeSpec := { name := "fnLoadWalk", fn := fun _ => fun
  | [d] => { results := [.lit (.bool false)], args := [d] }
  | _ => none }
def FnLoadWalkWrongFalsely : Prop := fnLoadWalkRow.holds Try.pinned (OpenSpec.ofChange fnLoadWalkWrong)

/-- 'laws.FnSeenBest': WHATEVER THE INPUT: true; the input reads as it did. -/
def fnSeenBestSpec : ChangeSpec := { name := "fnSeenBest", fn := fun _ => fun
  | [d] => { results := [.lit (.bool true)], args := [d] }
  | _ => none }
def fnSeenBestRow : OpenClaim := { program := "ytgickejeakmenaa", sum := "93756555d732419f732e8e629038f9796cd93f5b08ee0407adce22e722a58191", func := "loop.example/waymark/laws.FnSeenBest", spec := "fnSeenBest", unfollowed := true, recurses := true, apart := false }
def FnSeenBestSaid : Prop := fnSeenBestRow.holds Try.pinned (OpenSpec.ofChange fnSeenBestSpec)

/-- ITS FALSE NEIGHBOUR: 'it returns false'. Refute it at one input. -/
def fnSeenBestWrong : ChangeSpec := { name := "fnSeenBest", fn := fun _ => fun
  | [d] => { results := [.lit (.bool false)], args := [d] }
  | _ => none }
def FnSeenBestWrongFalsely : Prop := fnSeenBestRow.holds Try.pinned (OpenSpec.ofChange fnSeenBestWrong)

/- THE SECOND FORM. 'bulk': how many values and letters a reading holds, each counted each time it is reached (what is shared counts as often as it is met; a slice's spare places count too). A statement '..UptoSaid' is the law's where the arguments, and the package variables that the reading takes, are together of bulk at most 1048576: NARROWER than '..Said'. Prove '..Said' where nothing that the law and all that it calls make is longer than what came in: it says more and counts as full. Else prove '..UptoSaid'. A law counts once. -/
mutual
def uptoBulk {H : Type} : DataW H → Nat
  | .lit (.string bytes) => bytes.length + 1
  | .lit _ => 1
  | .nil => 1
  | .ptr d => uptoBulk d + 1
  | .slice elems spare => uptoBulkAll elems + uptoBulkAll spare + 1
  | .agg parts => uptoBulkAll parts + 1
  | .iface _ d => uptoBulk d + 1
  | .map entries => uptoBulkEntries entries + 1
  | .held _ => 1
def uptoBulkAll {H : Type} : List (DataW H) → Nat
  | [] => 0
  | d :: r => uptoBulk d + uptoBulkAll r
def uptoBulkEntries {H : Type} : List (Lit × DataW H) → Nat
  | [] => 0
  | x :: r => uptoBulkEntry x + uptoBulkEntries r
def uptoBulkEntry {H : Type} : Lit × DataW H → Nat
  | (.string bytes, d) => bytes.length + uptoBulk d + 1
  | (_, d) => uptoBulk d + 1
 end
def uptoSmall : (H : Type) → List (DataW H) → Bool := fun _ ds => decide (uptoBulkAll ds ≤ 1048576)
def OpenSpec.upto (s : _root_.Go.ChangeSpec) : _root_.Go.OpenSpec := { _root_.Go.OpenSpec.ofChange s with cond := some uptoSmall }

/-- 'laws.FnTourCost', WHERE WHAT IT READS IS OF BULK AT MOST 1048576: true; the input reads as it did. -/
def fnTourCostUptoRow : OpenClaim := { program := "ytgickejeakmenaa", sum := "93756555d732419f732e8e629038f9796cd93f5b08ee0407adce22e722a58191", func := "loop.example/waymark/laws.FnTourCost", spec := "fnTourCost", unfollowed := true, recurses := true, apart := false, narrowed := true }
def FnTourCostUptoSaid : Prop := fnTourCostUptoRow.holds Try.pinned (OpenSpec.upto fnTourCostSpec)

/-- 'laws.FnReachLoad', WHERE WHAT IT READS IS OF BULK AT MOST 1048576: true; the input reads as it did. -/
def fnReachLoadUptoRow : OpenClaim := { program := "ytgickejeakmenaa", sum := "93756555d732419f732e8e629038f9796cd93f5b08ee0407adce22e722a58191", func := "loop.example/waymark/laws.FnReachLoad", spec := "fnReachLoad", unfollowed := true, recurses := true, apart := false, narrowed := true }
def FnReachLoadUptoSaid : Prop := fnReachLoadUptoRow.holds Try.pinned (OpenSpec.upto fnReachLoadSpec)

/-- 'laws.FnLoadAll', WHERE WHAT IT READS IS OF BULK AT MOST 1048576: true; the input reads as it did. -/
def fnLoadAllUptoRow : OpenClaim := { program := "ytgickejeakmenaa", sum := "93756555d732419f732e8e629038f9796cd93f5b08ee0407adce22e722a58191", func := "loop.example/waymark/laws.FnLoadAll", spec := "fnLoadAll", unfollowed := true, recurses := true, apart := false, narrowed := true }
def FnLoadAllUptoSaid : Prop := fnLoadAllUptoRow.holds Try.pinned (OpenSpec.upto fnLoadAllSpec)

/-- 'laws.FnLiveNear', WHERE WHAT IT READS IS OF BULK AT MOST 1048576: true; the input reads as it did. -/
def fnLiveNearUptoRow : OpenClaim := { program := "ytgickejeakmenaa", sum := "93756555d732419f732e8e629038f9796cd93f5b08ee0407adce22e722a58191", func := "loop.example/waymark/laws.FnLiveNear", spec := "fnLiveNear", unfollowed := true, recurses := true, apart := false, narrowed := true }
def FnLiveNearUptoSaid : Prop := fnLiveNearUptoRow.holds Try.pinned (OpenSpec.upto fnLiveNearSpec)

/-- 'laws.FnTourNear', WHERE WHAT IT READS IS OF BULK AT MOST 1048576: true; the input reads as it did. -/
def fnTourNearUptoRow : OpenClaim := { program := "ytgickejeakmenaa", sum := "93756555d732419f732e8e629038f9796cd93f5b08ee0407adce22e722a58191", func := "loop.example/waymark/laws.FnTourNear", spec := "fnTourNear", unfollowed := true, recurses := true, apart := false, narrowed := true }
def FnTourNearUptoSaid : Prop := fnTourNearUptoRow.holds Try.pinned (OpenSpec.upto fnTourNearSpec)

/-- 'laws.FnTourTable', WHERE WHAT IT READS IS OF BULK AT MOST 1048576: true; the input reads as it did. -/
def fnTourTableUptoRow : OpenClaim := { program := "ytgickejeakmenaa", sum := "93756555d732419f732e8e629038f9796cd93f5b08ee0407adce22e722a58191", func := "loop.example/waymark/laws.FnTourTable", spec := "fnTourTable", unfollowed := true, recurses := true, apart := false, narrowed := true }
def FnTourTableUptoSaid : Prop := fnTourTableUptoRow.holds Try.pinned (OpenSpec.upto fnTourTableSpec)

/-- 'laws.FnSeenMore', WHERE WHAT IT READS IS OF BULK AT MOST 1048576: true; the input reads as it did. -/
def fnSeenMoreUptoRow : OpenClaim := { program := "ytgickejeakmenaa", sum := "93756555d732419f732e8e629038f9796cd93f5b08ee0407adce22e722a58191", func := "loop.example/waymark/laws.FnSeenMore", spec := "fnSeenMore", unfollowed := true, recurses := true, apart := false, narrowed := true }
def FnSeenMoreUptoSaid : Prop := fnSeenMoreUptoRow.holds Try.pinned (OpenSpec.upto fnSeenMoreSpec)

/-- 'laws.FnSeenCost', WHERE WHAT IT READS IS OF BULK AT MOST 1048576: true; the input reads as it did. -/
def fnSeenCostUptoRow : OpenClaim := { program := "ytgickejeakmenaa", sum := "93756555d732419f732e8e629038f9796cd93f5b08ee0407adce22e722a58191", func := "loop.example/waymark/laws.FnSeenCost", spec := "fnSeenCost", unfollowed := true, recurses := true, apart := false, narrowed := true }
def FnSeenCostUptoSaid : Prop := fnSeenCostUptoRow.holds Try.pinned (OpenSpec.upto fnSeenCostSpec)

/-- 'laws.FnTourSwap', WHERE WHAT IT READS IS OF BULK AT MOST 1048576: true; the input reads as it did. -/
def fnTourSwapUptoRow : OpenClaim := { program := "ytgickejeakmenaa", sum := "93756555d732419f732e8e629038f9796cd93f5b08ee0407adce22e722a58191", func := "loop.example/waymark/laws.FnTourSwap", spec := "fnTourSwap", unfollowed := true, recurses := true, apart := false, narrowed := true }
def FnTourSwapUptoSaid : Prop := fnTourSwapUptoRow.holds Try.pinned (OpenSpec.upto fnTourSwapSpec)

/-- 'laws.FnTourBest', WHERE WHAT IT READS IS OF BULK AT MOST 1048576: true; the input reads as it did. -/
def fnTourBestUptoRow : OpenClaim := { program := "ytgickejeakmenaa", sum := "93756555d732419f732e8e629038f9796cd93f5b08ee0407adce22e722a58191", func := "loop.example/waymark/laws.FnTourBest", spec := "fnTourBest", unfollowed := true, recurses := true, apart := false, narrowed := true }
def FnTourBestUptoSaid : Prop := fnTourBestUptoRow.holds Try.pinned (OpenSpec.upto fnTourBestSpec)

/-- 'laws.FnLoadWalk', WHERE WHAT IT READS IS OF BULK AT MOST 1048576: true; the input reads as it did. -/
def fnLoadWalkUptoRow : OpenClaim := { program := "ytgickejeakmenaa", sum := "93756555d732419f732e8e629038f9796cd93f5b08ee0407adce22e722a58191", func := "loop.example/waymark/laws.FnLoadWalk", spec := "fnLoadWalk", unfollowed := true, recurses := true, apart := false, narrowed := true }
def FnLoadWalkUptoSaid : Prop := fnLoadWalkUptoRow.holds Try.pinned (OpenSpec.upto fnLoadWalkSpec)

/-- 'laws.FnSeenBest', WHERE WHAT IT READS IS OF BULK AT MOST 1048576: true; the input reads as it did. -/
def fnSeenBestUptoRow : OpenClaim := { program := "ytgickejeakmenaa", sum := "93756555d732419f732e8e629038f9796cd93f5b08ee0407adce22e722a58191", func := "loop.example/waymark/laws.FnSeenBest", spec := "fnSeenBest", unfollowed := true, recurses := true, apart := false, narrowed := true }
def FnSeenBestUptoSaid : Prop := fnSeenBestUptoRow.holds Try.pinned (OpenSpec.upto fnSeenBestSpec)

end Rows
end Go.Proofs.Ytgickejeakmenaa
