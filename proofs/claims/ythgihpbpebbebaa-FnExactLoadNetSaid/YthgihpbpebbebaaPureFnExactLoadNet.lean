/- The pure statement of FnExactLoadNet: on all arguments the reference and the program tell the same net, in memory of its own. No condition. -/
import Derived.Test.YthgihpbpebbebaaPureLoad
import Derived.Test.YthgihpbpebbebaaPureMarks
import Derived.Test.YthgihpbpebbebaaFlawsFnExactLoadNet
namespace Go.Proofs.Ythgihpbpebbebaa.Pure
open Go.RowKit Go.Proofs.Ythgihpbpebbebaa.F Go.Proofs.YthgihpbpebbebaaW.PrintWords
set_option linter.unusedVariables false
set_option linter.unusedSimpArgs false
theorem FnExactLoadNet : laws_FnExactLoadNet.Pure := by
  intro n l a _ hl _
  refine Ev.rounds ?_
  unfold laws_FnExactLoadNet.f
  simp only [szNet_eq n l hl.1, Option.bind_some]
  by_cases h3 : l.length ≤ 1048576
  · have h4 : ¬ (1048576 - (l.length : Int) < 0) := by omega
    simp only [h3, h4, if_true, if_false]
    have hlm : (l.map arcOf).length ≤ 9223372036854775807 := by rw [List.length_map]; omega
    have hv := loadNetV_len n (l.map arcOf) a
    have hv2 : (loadNetV n (l.map arcOf) a).2.length ≤ 9223372036854775807 := by omega
    have hev := endA_pos (loadNetV n (l.map arcOf) a).2.length 1 (by omega) (by omega)
    have hex := endA_pos (l.map arcOf).length 1 (by omega) (by rw [List.length_map]; omega)
    refine Ev.bind (toNet_ev n l h3) ?_
    refine Ev.bind (specLoadNet_ev n _ a hlm) ?_
    refine Ev.bind (toNet_ev n l h3) ?_
    refine Ev.bind (implLoadNet_ev n _ a) ?_
    refine Ev.bind (eqNet_self _ _ hv2) ?_
    simp only [if_true]
    refine Ev.bind (toNet_ev n l h3) ?_
    refine Ev.bind (eqNet_self _ _ hlm) ?_
    simp only [if_true]
    refine Ev.bind (markNet_ev _ _ _ hlm) ?_
    have e1 : ¬ endA (l.map arcOf).length 1 < 0 := by omega
    simp only [e1, if_false]
    refine Ev.bind (eqNet_self _ _ hv2) ?_
    refine ev_shift ?_
    simp only [laws_FnExactLoadNet.j0, Bool.not_true, Bool.false_eq_true, if_false]
    refine Ev.bind (markNet_ev _ _ _ hv2) ?_
    refine Ev.bind (heldNet_ev _ _ _ hv2 hev.1) ?_
    have e2 : ¬ endA (loadNetV n (l.map arcOf) a).2.length 1 < 0 := by omega
    simp only [e2, if_false, if_true]
    refine Ev.bind (toNet_ev n l h3) ?_
    refine Ev.bind (implLoadNet_ev n _ a) ?_
    refine Ev.bind (eqNet_self _ _ hv2) ?_
    simp only [if_true]
    refine Ev.bind (heldNet_ev _ _ _ hv2 hev.1) ?_
    simp only [e2, if_false, if_true]
    exact ev_now fun _ => rfl
  · have h4 : ((-1 : Int) < 0) := by omega
    simp only [h3, h4, if_true, if_false]
    exact ev_now fun _ => rfl
end Go.Proofs.Ythgihpbpebbebaa.Pure
