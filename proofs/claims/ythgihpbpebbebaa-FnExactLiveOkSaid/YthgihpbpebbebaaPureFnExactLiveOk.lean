/- The pure statement of FnExactLiveOk: on all arguments the reference and the program say the same of a net with news. No condition. -/
import Derived.Test.YthgihpbpebbebaaPureLive
import Derived.Test.YthgihpbpebbebaaFlawsFnExactLiveOk
import Derived.Test.YthgihpbpebbebaaFspecLiveOk
namespace Go.Proofs.Ythgihpbpebbebaa.Pure
open Go.RowKit Go.Proofs.Ythgihpbpebbebaa.F Go.Proofs.YthgihpbpebbebaaW.PrintWords
set_option linter.unusedVariables false
set_option linter.unusedSimpArgs false
theorem FnExactLiveOk : laws_FnExactLiveOk.Pure := by
  intro n l w _ hl hw
  refine Ev.rounds ?_
  unfold laws_FnExactLiveOk.f
  obtain ⟨r, hr, hr'⟩ := szLive_eq n l w hl.1 hw.1
  simp only [hr, Option.bind_some]
  rcases hr' with h | ⟨h1, h2⟩
  · simp only [h, if_true]; exact ev_now fun _ => rfl
  · by_cases h : r < 0
    · simp only [h, if_true]; exact ev_now fun _ => rfl
    · simp only [h, if_false]
      have hlm : (l.map arcOf).length ≤ 9223372036854775807 := by rw [List.length_map]; omega
      have hwm : (w.map newsOf).length ≤ 9223372036854775807 := by rw [List.length_map]; omega
      refine Ev.bind (toLive_ev n l w h1 h2) ?_
      refine Ev.bind (a := liveB n (l.map arcOf) (w.map newsOf)) (by unfold spec_LiveOk.f; exact Ev.bind (l16Ok_ev n _ _ hlm hwm) (ev_now fun _ => rfl)) ?_
      refine Ev.bind (toLive_ev n l w h1 h2) ?_
      refine Ev.bind (implLiveOk_ev n _ _ hwm) ?_
      simp only [bne_self_eq_false, Bool.false_eq_true, if_false]
      refine Ev.bind (toLive_ev n l w h1 h2) ?_
      refine Ev.bind (eqLive_self n _ _ hlm hwm) ?_
      simp only [if_true]
      exact ev_now fun _ => rfl
end Go.Proofs.Ythgihpbpebbebaa.Pure
