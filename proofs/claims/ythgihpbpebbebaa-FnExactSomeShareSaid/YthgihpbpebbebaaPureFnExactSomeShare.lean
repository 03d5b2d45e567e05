/- The pure statement of FnExactSomeShare: on all arguments the reference and the program tell the same share. No condition. -/
import Derived.Test.YthgihpbpebbebaaPureWalk
import Derived.Test.YthgihpbpebbebaaFlawsFnExactSomeShare
namespace Go.Proofs.Ythgihpbpebbebaa.Pure
open Go.RowKit Go.Proofs.Ythgihpbpebbebaa.F Go.Proofs.YthgihpbpebbebaaW.PrintWords
set_option linter.unusedVariables false
set_option linter.unusedSimpArgs false
theorem FnExactSomeShare : laws_FnExactSomeShare.Pure := by
  intro n l a b _ hl ha hb
  refine Ev.rounds ?_
  unfold laws_FnExactSomeShare.f
  by_cases h1 : (a.length : Int) > 1048576
  · simp only [h1, if_true]; exact ev_now fun _ => rfl
  by_cases h2 : (b.length : Int) > 1048576
  · simp only [h1, h2, if_true, if_false]; exact ev_now fun _ => rfl
  simp only [h1, h2, if_false, szNet_eq n l hl.1, Option.bind_some]
  by_cases h3 : l.length ≤ 1048576
  · have h4 : ¬ (1048576 - (l.length : Int) < 0) := by omega
    simp only [h3, h4, if_true, if_false]
    have hlm : (l.map arcOf).length ≤ 9223372036854775807 := by rw [List.length_map]; omega
    refine Ev.bind (toNet_ev n l h3) ?_
    refine Ev.bind (toIntS_ev a (by omega)) ?_
    refine Ev.bind (toIntS_ev b (by omega)) ?_
    refine Ev.bind (specSomeShare_ev n _ a b hlm (by omega) (by omega)) ?_
    refine Ev.bind (toNet_ev n l h3) ?_
    refine Ev.bind (toIntS_ev a (by omega)) ?_
    refine Ev.bind (toIntS_ev b (by omega)) ?_
    refine Ev.bind (implSomeShare_ev n _ a b hlm (by omega) (by omega)) ?_
    simp only [if_true]
    refine Ev.bind (toNet_ev n l h3) ?_
    refine Ev.bind (eqNet_self n _ hlm) ?_
    simp only [if_true]
    refine Ev.bind (toIntS_ev a (by omega)) ?_
    refine Ev.bind (eqIntS_self a (by omega)) ?_
    simp only [if_true]
    refine Ev.bind (toIntS_ev b (by omega)) ?_
    refine Ev.bind (eqIntS_self b (by omega)) ?_
    exact ev_now fun _ => by simp
  · have h4 : ((-1 : Int) < 0) := by omega
    simp only [h3, h4, if_true, if_false]
    exact ev_now fun _ => rfl
end Go.Proofs.Ythgihpbpebbebaa.Pure
