import Derived.Test.YthgihpbpebbebaaPureLive
import Derived.Test.YthgihpbpebbebaaPureMarksNews
import Derived.Test.YthgihpbpebbebaaFKinds
import Derived.Test.YthgihpbpebbebaaFimplLiveNow
import Derived.Test.YthgihpbpebbebaaFlawsFnExactLiveNow
import Derived.Test.YthgihpbpebbebaaFspecLiveNow
import Derived.Test.YthgihpbpebbebaaFtextcore
namespace Go.Proofs.Ythgihpbpebbebaa.Pure
open Go.RowKit Go.Proofs.Ythgihpbpebbebaa.F Go.Proofs.YthgihpbpebbebaaW.PrintWords
set_option linter.unusedVariables false
set_option linter.unusedSimpArgs false
/-- What LiveNow tells. -/
def liveNowV (n : Int) (l : List S31) (w : List S64) : Int × List S31 := if liveB n l w = true then (n, nowL w l 0) else (0, [])
theorem liveNowV_len (n : Int) (l : List S31) (w : List S64) : (liveNowV n l w).2.length ≤ 16 := by
  unfold liveNowV
  split
  · rename_i h
    exact Nat.le_trans (nowL_length w l 0) (netOk_len (liveB_len h).1)
  · simp
theorem newsB_more {m : Int} {x : S64} (h : newsB m x = true) : -1 ≤ x.f2 := by
  unfold newsB inB at h
  simp only [Bool.and_eq_true, decide_eq_true_eq] at h
  exact h.2.2.1
theorem implLiveNow_ev (n : Int) (l : List S31) (w : List S64) (hw : w.length ≤ 9223372036854775807) : Ev (fun k => impl_LiveNow.f k n l w) (liveNowV n l w) := by
  unfold impl_LiveNow.f liveNowV
  refine Ev.bind (implLiveOk_ev n l w hw) ?_
  cases h : liveB n l w with
  | false => exact ev_now fun k => by simp
  | true =>
    simp only [if_true]
    exact Ev.bind (now_ev n l w (by have := netOk_len (liveB_len h).1; omega) hw fun x hx => newsB_more (liveB_more h x hx)) (ev_now fun _ => rfl)
theorem specLiveNow_ev (n : Int) (l : List S31) (w : List S64) (hl : l.length ≤ 9223372036854775807) (hw : w.length ≤ 9223372036854775807) : Ev (fun k => spec_LiveNow.f k n l w) (liveNowV n l w) := by
  unfold spec_LiveNow.f liveNowV
  refine Ev.bind (l16Ok_ev n l w hl hw) ?_
  cases h : liveB n l w with
  | false => exact ev_now fun k => by simp
  | true =>
    simp only [if_true]
    exact Ev.bind (l16Now_ev n l w (by have := netOk_len (liveB_len h).1; omega) hw) (ev_now fun _ => rfl)
/- The pure statement of FnExactLiveNow: on all arguments the reference and the program tell the same net, in memory of its own. No condition. -/
theorem FnExactLiveNow : laws_FnExactLiveNow.Pure := by
  intro n l w _ hl hw
  refine Ev.rounds ?_
  unfold laws_FnExactLiveNow.f
  obtain ⟨r, hr, hr'⟩ := szLive_eq n l w hl.1 hw.1
  simp only [hr, Option.bind_some]
  rcases hr' with h | ⟨h1, h2⟩
  · simp only [h, if_true]; exact ev_now fun _ => rfl
  · by_cases h : r < 0
    · simp only [h, if_true]; exact ev_now fun _ => rfl
    · simp only [h, if_false]
      have hlm : (l.map arcOf).length ≤ 9223372036854775807 := by rw [List.length_map]; omega
      have hwm : (w.map newsOf).length ≤ 9223372036854775807 := by rw [List.length_map]; omega
      have hv := liveNowV_len n (l.map arcOf) (w.map newsOf)
      have hv2 : (liveNowV n (l.map arcOf) (w.map newsOf)).2.length ≤ 9223372036854775807 := by omega
      have hev := endA_pos (liveNowV n (l.map arcOf) (w.map newsOf)).2.length 1 (by omega) (by omega)
      have e2 : ¬ endA (liveNowV n (l.map arcOf) (w.map newsOf)).2.length 1 < 0 := by omega
      refine Ev.bind (toLive_ev n l w h1 h2) ?_
      refine Ev.bind (specLiveNow_ev n _ _ hlm hwm) ?_
      refine Ev.bind (toLive_ev n l w h1 h2) ?_
      refine Ev.bind (implLiveNow_ev n _ _ hwm) ?_
      refine Ev.bind (eqNet_self _ _ hv2) ?_
      simp only [if_true]
      refine Ev.bind (toLive_ev n l w h1 h2) ?_
      refine Ev.bind (eqLive_self n _ _ hlm hwm) ?_
      simp only [if_true]
      refine Ev.bind (markLive_ev n _ _ 1 hlm hwm) ?_
      have last : Ev (fun k => laws_FnExactLiveNow.j0 k false n l w (liveNowV n (l.map arcOf) (w.map newsOf)).1 (liveNowV n (l.map arcOf) (w.map newsOf)).2 (liveNowV n (l.map arcOf) (w.map newsOf)).1 (liveNowV n (l.map arcOf) (w.map newsOf)).2) true := by
        refine ev_shift ?_
        simp only [laws_FnExactLiveNow.j0, Bool.false_eq_true, if_false]
        refine Ev.bind (markNet_ev _ _ _ hv2) ?_
        refine Ev.bind (heldNet_ev _ _ _ hv2 hev.1) ?_
        simp only [e2, if_false, if_true]
        refine Ev.bind (toLive_ev n l w h1 h2) ?_
        refine Ev.bind (implLiveNow_ev n _ _ hwm) ?_
        refine Ev.bind (eqNet_self _ _ hv2) ?_
        simp only [if_true]
        refine Ev.bind (heldNet_ev _ _ _ hv2 hev.1) ?_
        simp only [e2, if_false, if_true]
        exact ev_now fun _ => rfl
      have e1 : ¬ endN (w.map newsOf).length (endA (l.map arcOf).length 1) < 0 := by
        have ha := endA_pos (l.map arcOf).length 1 (by omega) (by rw [List.length_map]; omega)
        have hb := endN_pos (w.map newsOf).length (endA (l.map arcOf).length 1) (by omega) (by rw [ha.2, List.length_map, List.length_map]; omega)
        omega
      simp only [e1, if_false]
      refine Ev.bind (eqNet_self _ _ hv2) ?_
      simpa using last
end Go.Proofs.Ythgihpbpebbebaa.Pure
