import Derived.Test.YtbappbbljncdeaaPureDist
import Derived.Test.YtbappbbljncdeaaFKinds
import Derived.Test.YtbappbbljncdeaaFimplNethas
import Derived.Test.YtbappbbljncdeaaFimplnodesIn
import Derived.Test.YtbappbbljncdeaaFtextcore
namespace Go.Proofs.Ytbappbbljncdeaa.Pure
open Go.RowKit Go.Proofs.Ytbappbbljncdeaa.F Go.Proofs.YtbappbbljncdeaaW.PrintWords
set_option linter.unusedVariables false
set_option linter.unusedSimpArgs false
/-! ### nodes of a net, and what can be reached -/
theorem nodesIn_eq (n : Int) (l : List S100) (ns : List Int) : impl_nodesIn.f n l ns = some (netOkB n l && hasB n ns) := by
  unfold impl_nodesIn.f impl_Net_has.f
  rw [netOk_eq]
  cases netOkB n l <;> rfl
theorem hasB1 (n a : Int) : hasB n [a] = inB a 0 (wrap64 (n - 1)) := by unfold hasB; simp
theorem hasB2 (n a b : Int) : hasB n [a, b] = (inB a 0 (wrap64 (n - 1)) && inB b 0 (wrap64 (n - 1))) := by unfold hasB; simp
theorem hasB3 (n a b c : Int) : hasB n [a, b, c] = (inB a 0 (wrap64 (n - 1)) && (inB b 0 (wrap64 (n - 1)) && inB c 0 (wrap64 (n - 1)))) := by unfold hasB; simp
theorem node_of {n : Int} {l : List S100} (hn : Net1 n l) {a : Int} (h : inB a 0 (wrap64 (n - 1)) = true) : 0 ≤ a ∧ a < n := by
  have := hn.lo
  have := hn.hi
  rw [inB_iff, w_id (n := n - 1) (by omega) (by omega)] at h
  omega
end Go.Proofs.Ytbappbbljncdeaa.Pure
