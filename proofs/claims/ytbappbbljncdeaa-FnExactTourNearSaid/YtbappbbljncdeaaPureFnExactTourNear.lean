/- The pure statement of FnExactTourNear: on all arguments the reference and the program tell the same stops, in memory of their own. No condition. -/
import Derived.Test.YtbappbbljncdeaaPureTourNear
import Derived.Test.YtbappbbljncdeaaPureMarksInt
import Derived.Test.YtbappbbljncdeaaFlawsFnExactTourNear
namespace Go.Proofs.Ytbappbbljncdeaa.Pure
open Go.RowKit Go.Proofs.Ytbappbbljncdeaa.F Go.Proofs.YtbappbbljncdeaaW.PrintWords
set_option linter.unusedVariables false
set_option linter.unusedSimpArgs false
theorem FnExactTourNear : laws_FnExactTourNear.Pure := by
  intro n l s _ hl hs
  refine Ev.rounds ?_
  unfold laws_FnExactTourNear.f
  by_cases hb : (s.length : Int) > 1048576
  · simp only [hb, if_true]; exact ev_now fun _ => rfl
  simp only [hb, if_false, szNet_eq n l hl.1, Option.bind_some]
  by_cases h3 : l.length ≤ 1048576
  · have h4 : ¬ (1048576 - (l.length : Int) < 0) := by omega
    simp only [h3, h4, if_true, if_false]
    have hs1 : s.length ≤ 1048576 := by omega
    have hlm : (l.map arcOf).length ≤ 9223372036854775807 := by rw [List.length_map]; omega
    have hsm : s.length ≤ 9223372036854775807 := by omega
    obtain ⟨V, ⟨hV, hsp⟩, hi⟩ := tourNear_ex n (l.map arcOf) s hlm hsm
    have hV2 : V.length ≤ 9223372036854775807 := by omega
    have hev := endI_pos V.length 1 (by omega) (by omega)
    have hex := endA_pos (l.map arcOf).length 1 (by omega) (by rw [List.length_map]; omega)
    have e2 : ¬ endI V.length 1 < 0 := by omega
    refine Ev.bind (toNet_ev n l h3) ?_
    refine Ev.bind (toIntS_ev s hs1) ?_
    refine Ev.bind hsp ?_
    refine Ev.bind (toNet_ev n l h3) ?_
    refine Ev.bind (toIntS_ev s hs1) ?_
    refine Ev.bind hi ?_
    refine Ev.bind (eqIntS_self V hV2) ?_
    simp only [if_true]
    refine Ev.bind (toNet_ev n l h3) ?_
    refine Ev.bind (eqNet_self _ _ hlm) ?_
    simp only [if_true]
    refine Ev.bind (toIntS_ev s hs1) ?_
    refine Ev.bind (eqIntS_self s hsm) ?_
    simp only [if_true]
    refine Ev.bind (markNet_ev _ _ _ hlm) ?_
    have hes := endI_pos s.length (endA (l.map arcOf).length 1) (by omega) (by have h5 := hex.2; rw [List.length_map] at h5 ⊢; omega)
    have e1 : ¬ endI s.length (endA (l.map arcOf).length 1) < 0 := by omega
    refine Ev.bind (markIntS_ev s _ hsm) ?_
    simp only [e1, if_false]
    refine Ev.bind (eqIntS_self V hV2) ?_
    refine ev_shift ?_
    simp only [laws_FnExactTourNear.j0, Bool.not_true, Bool.false_eq_true, if_false]
    refine Ev.bind (markIntS_ev V 1 hV2) ?_
    refine Ev.bind (heldIntS_ev _ _ hV2) ?_
    simp only [e2, if_false, if_true]
    refine Ev.bind (toNet_ev n l h3) ?_
    refine Ev.bind (toIntS_ev s hs1) ?_
    refine Ev.bind hi ?_
    refine Ev.bind (eqIntS_self V hV2) ?_
    simp only [if_true]
    refine Ev.bind (heldIntS_ev _ _ hV2) ?_
    simp only [e2, if_false, if_true]
    exact ev_now fun _ => rfl
  · have h4 : ((-1 : Int) < 0) := by omega
    simp only [h3, h4, if_true, if_false]
    exact ev_now fun _ => rfl
end Go.Proofs.Ytbappbbljncdeaa.Pure
