/- The pure statement of FnExactLoadAll: on all arguments the reference and the program tell the same of each node, in memory of their own. No condition. -/
import Derived.Test.YtbappbbljncdeaaPureLoadAll
import Derived.Test.YtbappbbljncdeaaPureMarksInt
import Derived.Test.YtbappbbljncdeaaFlawsFnExactLoadAll
namespace Go.Proofs.Ytbappbbljncdeaa.Pure
open Go.RowKit Go.Proofs.Ytbappbbljncdeaa.F Go.Proofs.YtbappbbljncdeaaW.PrintWords
set_option linter.unusedVariables false
set_option linter.unusedSimpArgs false
theorem FnExactLoadAll : laws_FnExactLoadAll.Pure := by
  intro n l a _ hl _
  refine Ev.rounds ?_
  unfold laws_FnExactLoadAll.f
  simp only [szNet_eq n l hl.1, Option.bind_some]
  by_cases h3 : l.length ≤ 1048576
  · have h4 : ¬ (1048576 - (l.length : Int) < 0) := by omega
    simp only [h3, h4, if_true, if_false]
    have hlm : (l.map arcOf).length ≤ 9223372036854775807 := by rw [List.length_map]; omega
    obtain ⟨V, ⟨hV, hs⟩, hi⟩ := loadAll_ex n (l.map arcOf) a hlm
    have hV2 : V.length ≤ 9223372036854775807 := by omega
    have hev := endI_pos V.length 1 (by omega) (by omega)
    have hex := endA_pos (l.map arcOf).length 1 (by omega) (by rw [List.length_map]; omega)
    have e1 : ¬ endA (l.map arcOf).length 1 < 0 := by omega
    have e2 : ¬ endI V.length 1 < 0 := by omega
    refine Ev.bind (toNet_ev n l h3) ?_
    refine Ev.bind hs ?_
    refine Ev.bind (toNet_ev n l h3) ?_
    refine Ev.bind hi ?_
    refine Ev.bind (eqIntS_self V hV2) ?_
    simp only [if_true]
    refine Ev.bind (toNet_ev n l h3) ?_
    refine Ev.bind (eqNet_self _ _ hlm) ?_
    simp only [if_true]
    refine Ev.bind (markNet_ev _ _ _ hlm) ?_
    simp only [e1, if_false]
    refine Ev.bind (eqIntS_self V hV2) ?_
    refine ev_shift ?_
    simp only [laws_FnExactLoadAll.j0, Bool.not_true, Bool.false_eq_true, if_false]
    refine Ev.bind (markIntS_ev V 1 hV2) ?_
    refine Ev.bind (heldIntS_ev _ _ hV2) ?_
    simp only [e2, if_false, if_true]
    refine Ev.bind (toNet_ev n l h3) ?_
    refine Ev.bind hi ?_
    refine Ev.bind (eqIntS_self V hV2) ?_
    simp only [if_true]
    refine Ev.bind (heldIntS_ev _ _ hV2) ?_
    simp only [e2, if_false, if_true]
    exact ev_now fun _ => rfl
  · have h4 : ((-1 : Int) < 0) := by omega
    simp only [h3, h4, if_true, if_false]
    exact ev_now fun _ => rfl
end Go.Proofs.Ytbappbbljncdeaa.Pure
