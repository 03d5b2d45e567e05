import Derived.Test.YthgihpbpebbebaaPureMetric
import Derived.Test.YthgihpbpebbebaaPureNodes
import Derived.Test.YthgihpbpebbebaaFKinds
import Derived.Test.YthgihpbpebbebaaFimplNearAll
import Derived.Test.YthgihpbpebbebaaFtextcore
namespace Go.Proofs.Ythgihpbpebbebaa.Pure
open Go.RowKit Go.Proofs.Ythgihpbpebbebaa.F Go.Proofs.YthgihpbpebbebaaW.PrintWords
set_option linter.unusedVariables false
set_option linter.unusedSimpArgs false
/-! ### the least costs, as they are told -/
theorem nearAll_ev {n : Int} {l : List S31} (hok : netOkB n l = true) {a : Int} (ha : 0 ≤ a ∧ a < n) : Ev (fun k => impl_NearAll.f k n l a) (distV n l a) := by
  have hn := net1_of hok
  unfold impl_NearAll.f
  simp only [nodesIn_eq, Option.bind_some, hasB1, hok, inB_node hn ha, Bool.and_self, if_true]
  exact Ev.bind (distV_is hn ha).impl (ev_now fun _ => rfl)
end Go.Proofs.Ythgihpbpebbebaa.Pure
