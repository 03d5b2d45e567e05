import Derived.Test.YtbappbbljncdeaaPureParts
import Derived.Test.YtbappbbljncdeaaPureMarksInt
import Derived.Test.YtbappbbljncdeaaFKinds
import Derived.Test.YtbappbbljncdeaaFimplReachParts
import Derived.Test.YtbappbbljncdeaaFlawsFnExactReachParts
import Derived.Test.YtbappbbljncdeaaFspecReachParts
namespace Go.Proofs.Ytbappbbljncdeaa.Pure
open Go.RowKit Go.Proofs.Ytbappbbljncdeaa.F Go.Proofs.YtbappbbljncdeaaW.PrintWords
set_option linter.unusedVariables false
set_option linter.unusedSimpArgs false
theorem partsV_len {n : Int} {l : List S100} (hn : Net1 n l) : (partsV n l).length ≤ 8 := by
  have := hn.hi
  unfold partsV
  rw [List.length_map, List.length_range]
  omega
/- The pure statement of FnExactReachParts: on all arguments the reference and the program tell the same nodes, in memory of their own. No condition. -/
theorem FnExactReachParts : laws_FnExactReachParts.Pure := by
  intro n l _ hl
  refine Ev.rounds ?_
  unfold laws_FnExactReachParts.f
  simp only [szNet_eq n l hl.1, Option.bind_some]
  by_cases h3 : l.length ≤ 1048576
  · have h4 : ¬ (1048576 - (l.length : Int) < 0) := by omega
    simp only [h3, h4, if_true, if_false]
    have hlm : (l.map arcOf).length ≤ 9223372036854775807 := by rw [List.length_map]; omega
    obtain ⟨V, hV, hs, hi⟩ : ∃ V, V.length ≤ 8 ∧ Ev (fun k => spec_ReachParts.f k n (l.map arcOf)) V ∧ Ev (fun k => impl_ReachParts.f k n (l.map arcOf)) V := by
      refine ⟨_, ?_, specParts_ev n _ hlm, implParts_ev n _⟩
      split
      · rename_i h; exact partsV_len (net1_of h)
      · simp
    have hV2 : V.length ≤ 9223372036854775807 := by omega
    have hev := endI_pos V.length 1 (by omega) (by omega)
    have hex := endA_pos (l.map arcOf).length 1 (by omega) (by rw [List.length_map]; omega)
    have e1 : ¬ endA (l.map arcOf).length 1 < 0 := by omega
    have e2 : ¬ endI V.length 1 < 0 := by omega
    refine Ev.bind (toNet_ev n l h3) ?_
    refine Ev.bind hs ?_
    refine Ev.bind (toNet_ev n l h3) ?_
    refine Ev.bind hi ?_
    refine Ev.bind (eqIntS_self V hV2) ?_
    simp only [if_true]
    refine Ev.bind (toNet_ev n l h3) ?_
    refine Ev.bind (eqNet_self _ _ hlm) ?_
    simp only [if_true]
    refine Ev.bind (markNet_ev _ _ _ hlm) ?_
    simp only [e1, if_false]
    refine Ev.bind (eqIntS_self V hV2) ?_
    refine ev_shift ?_
    simp only [laws_FnExactReachParts.j0, Bool.not_true, Bool.false_eq_true, if_false]
    refine Ev.bind (markIntS_ev V 1 hV2) ?_
    refine Ev.bind (heldIntS_ev _ _ hV2) ?_
    simp only [e2, if_false, if_true]
    refine Ev.bind (toNet_ev n l h3) ?_
    refine Ev.bind hi ?_
    refine Ev.bind (eqIntS_self V hV2) ?_
    simp only [if_true]
    refine Ev.bind (heldIntS_ev _ _ hV2) ?_
    simp only [e2, if_false, if_true]
    exact ev_now fun _ => rfl
  · have h4 : ((-1 : Int) < 0) := by omega
    simp only [h3, h4, if_true, if_false]
    exact ev_now fun _ => rfl
end Go.Proofs.Ytbappbbljncdeaa.Pure
