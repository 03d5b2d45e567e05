import Derived.Test.YtbappbbljncdeaaPureTour
import Derived.Test.YtbappbbljncdeaaFKinds
import Derived.Test.YtbappbbljncdeaaFimplTourCost
import Derived.Test.YtbappbbljncdeaaFimplaround
import Derived.Test.YtbappbbljncdeaaFlawsFnExactTourCost
import Derived.Test.YtbappbbljncdeaaFspecTourCost
import Derived.Test.YtbappbbljncdeaaFspecl17Cost
import Derived.Test.YtbappbbljncdeaaFtextcore
namespace Go.Proofs.Ytbappbbljncdeaa.Pure
open Go.RowKit Go.Proofs.Ytbappbbljncdeaa.F Go.Proofs.YtbappbbljncdeaaW.PrintWords
set_option linter.unusedVariables false
set_option linter.unusedSimpArgs false
theorem tourCost_ex (n : Int) (l : List S100) (s : List Int) (hl : l.length ≤ 9223372036854775807) (hs : s.length ≤ 9223372036854775807) : ∃ v, Ev (fun k => spec_TourCost.f k n l s) v ∧ Ev (fun k => impl_TourCost.f k n l s) v := by
  unfold impl_TourCost.f spec_TourCost.f
  cases h : stopsB n l s with
  | true =>
    obtain ⟨hn, h5, h1, hin⟩ := stops_of h
    obtain ⟨v, v1, v2⟩ := around_same hn s h5 hin s.length 0 0 (by omega) (by omega)
    have h' := h
    unfold stopsB at h'
    rw [Bool.and_eq_true] at h'
    refine ⟨v, ?_, ?_⟩
    · refine Ev.bind (l1Ok_ev n l hl) ?_
      simp only [h'.1, if_true]
      refine Ev.bind (l17Stops_ev n l s hs) ?_
      simp only [h'.2, if_true]
      unfold spec_l17Cost.f
      exact Ev.bind v1 (ev_now fun _ => rfl)
    · refine Ev.bind (stopsOk_ev n l s hs) ?_
      simp only [h, if_true]
      refine Ev.bind (table_ev hn) ?_
      unfold impl_around.f
      exact Ev.bind v2 (ev_now fun _ => rfl)
  | false =>
    refine ⟨-1, ?_, ?_⟩
    · refine Ev.bind (l1Ok_ev n l hl) ?_
      unfold stopsB at h
      cases h0 : netOkB n l with
      | false => exact ev_now fun k => by simp
      | true =>
        rw [h0, Bool.true_and] at h
        simp only [if_true]
        refine Ev.bind (l17Stops_ev n l s hs) ?_
        rw [h]
        exact ev_now fun k => by simp
    · refine Ev.bind (stopsOk_ev n l s hs) ?_
      rw [h]
      exact ev_now fun k => by simp
/- The pure statement of FnExactTourCost: on all arguments the reference and the program tell the same cost. No condition. -/
theorem FnExactTourCost : laws_FnExactTourCost.Pure := by
  intro n l s _ hl hs
  refine Ev.rounds ?_
  unfold laws_FnExactTourCost.f
  by_cases h0 : (s.length : Int) > 1048576
  · simp only [h0, if_true]; exact ev_now fun _ => rfl
  · simp only [h0, if_false, szNet_eq n l hl.1, Option.bind_some]
    by_cases h3 : l.length ≤ 1048576
    · have h4 : ¬ (1048576 - (l.length : Int) < 0) := by omega
      have hss : s.length ≤ 1048576 := by omega
      simp only [h3, h4, if_true, if_false]
      have hlm : (l.map arcOf).length ≤ 9223372036854775807 := by rw [List.length_map]; omega
      obtain ⟨v, v1, v2⟩ := tourCost_ex n (l.map arcOf) s hlm hs.1
      refine Ev.bind (toNet_ev n l h3) ?_
      refine Ev.bind (toIntS_ev s hss) ?_
      refine Ev.bind v1 ?_
      refine Ev.bind (toNet_ev n l h3) ?_
      refine Ev.bind (toIntS_ev s hss) ?_
      refine Ev.bind v2 ?_
      simp only [if_true]
      refine Ev.bind (toNet_ev n l h3) ?_
      refine Ev.bind (eqNet_self _ _ hlm) ?_
      simp only [if_true]
      refine Ev.bind (toIntS_ev s hss) ?_
      refine Ev.bind (eqIntS_self s hs.1) ?_
      simp only [if_true]
      exact ev_now fun _ => rfl
    · have h4 : ((-1 : Int) < 0) := by omega
      simp only [h3, h4, if_true, if_false]
      exact ev_now fun _ => rfl
end Go.Proofs.Ytbappbbljncdeaa.Pure
