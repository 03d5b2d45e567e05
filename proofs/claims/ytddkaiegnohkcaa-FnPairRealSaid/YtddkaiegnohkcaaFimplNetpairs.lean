-- Printed by wip/px/px.py of this claim's repository (the kit's printer, extended there). Lean checks it.
import Derived.Test.YtddkaiegnohkcaaFKinds
import Derived.Test.YtddkaiegnohkcaaFtextpairsd
import Derived.Test.YtddkaiegnohkcaaFtextpairsw
namespace Go.Proofs.Ytddkaiegnohkcaa.F
open Go.RowKit Go.Proofs.YtddkaiegnohkcaaW.PrintWords Go.Proofs.YtddkaiegnohkcaaW.PrintLast Go.Proofs.YtddkaiegnohkcaaW.PrintMore
attribute [local go_sem] max2_int min2_int max_two min_two max_three min_three max_four min_four   -- for this text's walks alone
set_option linter.unusedVariables false
set_option linter.unusedSimpArgs false

/-! ### impl_Net_pairs: function 45 -/
def impl_Net_pairs.f (k : Nat) (a0_0 : Int) (l0_1 : List (S33)) (a1 : Int) (a2 : Int) : Option (List (S35)) := pairsF k a0_0 l0_1 a1 a2
theorem impl_Net_pairs.mono : ∀ a0 a1 a2 a3 k, LeO (impl_Net_pairs.f k a0 a1 a2 a3) (impl_Net_pairs.f (k + 1) a0 a1 a2 a3) := fun a0 a1 a2 a3 k => pairsF_mono k a0 a1 a2 a3
theorem impl_Net_pairs.calls (k : Nat) (a0_0 : Int) (A0_1 : Option Addr) (c0_1 : Nat) (l0_1 : List (S33)) (a1 : Int) (a2 : Int) (r : List (S35)) (w : World) (hr0_1 : Kd.C k33 w A0_1 l0_1.length l0_1) (hc0_1 : l0_1.length ≤ c0_1) (h : impl_Net_pairs.f k a0_0 l0_1 a1 a2 = some r) :
  Calls Try.prog 45 #[.agg #[.int .i64 a0_0, .slice A0_1 l0_1.length c0_1], .int .i64 a1, .int .i64 a2] w fun e w' => ∃ v0_ : Value, e = .returned (v0_) ∧ Kd.R k35 35 w' w.heap.size (fun _ => True) v0_ r ∧ Below w.heap.size w w' := by
 exact pairs_any k a0_0 A0_1 c0_1 l0_1 a1 a2 r w hr0_1 hc0_1 h

end Go.Proofs.Ytddkaiegnohkcaa.F
