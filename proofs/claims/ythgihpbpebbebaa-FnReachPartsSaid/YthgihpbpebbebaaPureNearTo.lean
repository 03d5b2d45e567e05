import Derived.Test.YthgihpbpebbebaaPureNearAll
import Derived.Test.YthgihpbpebbebaaFKinds
import Derived.Test.YthgihpbpebbebaaFimplNearTo
import Derived.Test.YthgihpbpebbebaaFtextcore
namespace Go.Proofs.Ythgihpbpebbebaa.Pure
open Go.RowKit Go.Proofs.Ythgihpbpebbebaa.F Go.Proofs.YthgihpbpebbebaaW.PrintWords
set_option linter.unusedVariables false
set_option linter.unusedSimpArgs false
theorem nearTo_ev {n : Int} {l : List S31} (hok : netOkB n l = true) {a : Int} (ha : 0 ≤ a ∧ a < n) : Ev (fun k => impl_NearTo.f k n l a) (distV n (backL l) a) := by
  have hn := net1_of hok
  have hhi := hn.hi
  obtain ⟨M, hM, he⟩ := toward_ex hn ha
  obtain ⟨D, ⟨h1, h2⟩, hd⟩ := l3All_ex hn.back ha
  have e : (M.map fun m => m.f0) = D := near_same hn ha hM h1 h2
  have e2 : D = distV n (backL l) a := ev_one hd (distV_is hn.back ha).spec
  have hl := hM.1.len
  unfold impl_NearTo.f
  simp only [nodesIn_eq, Option.bind_some, hasB1, hok, inB_node hn ha, Bool.and_self, if_true]
  refine Ev.bind he (Ev.bind (costs_ev M (by omega)) (ev_now fun _ => ?_))
  rw [e, e2]
end Go.Proofs.Ythgihpbpebbebaa.Pure
