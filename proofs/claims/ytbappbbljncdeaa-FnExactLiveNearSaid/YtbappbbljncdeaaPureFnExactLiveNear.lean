import Derived.Test.YtbappbbljncdeaaPureLiveNear
import Derived.Test.YtbappbbljncdeaaPureNews
import Derived.Test.YtbappbbljncdeaaFKinds
import Derived.Test.YtbappbbljncdeaaFimplLiveNear
import Derived.Test.YtbappbbljncdeaaFimplNethas
import Derived.Test.YtbappbbljncdeaaFlawsFnExactLiveNear
import Derived.Test.YtbappbbljncdeaaFspecLiveNear
import Derived.Test.YtbappbbljncdeaaFtextcore
namespace Go.Proofs.Ytbappbbljncdeaa.Pure
open Go.RowKit Go.Proofs.Ytbappbbljncdeaa.F Go.Proofs.YtbappbbljncdeaaW.PrintWords
set_option linter.unusedVariables false
set_option linter.unusedSimpArgs false
theorem liveNear_ex (n : Int) (l : List S100) (w : List S70) (a b : Int) (hl : l.length ≤ 9223372036854775807) (hw : w.length ≤ 9223372036854775807) : ∃ v, Ev (fun k => spec_LiveNear.f k n l w a b) v ∧ Ev (fun k => impl_LiveNear.f k n l w a b) v := by
  unfold impl_LiveNear.f spec_LiveNear.f impl_Net_has.f
  simp only [Option.bind_some, l1In_eq, hasB2]
  by_cases hok : liveB n l w = true ∧ inB a 0 (wrap64 (n - 1)) = true ∧ inB b 0 (wrap64 (n - 1)) = true
  · obtain ⟨hok, ha, hb⟩ := hok
    have h0 := net1_of (liveB_len hok).1
    have hll := h0.len
    have hn := live_net1 hok
    have na := node_of h0 ha
    have nb := node_of h0 hb
    have hD := distV_is hn na
    have hlen := hD.inv.len
    have g : b < ((distV n (nowL w l 0) a).length : Int) := by omega
    refine ⟨rd (distV n (nowL w l 0) a) b, ?_, ?_⟩
    · refine Ev.bind (l16Ok_ev n l w hl hw) ?_
      simp only [hok, ha, hb, if_true, Bool.not_true]
      refine ev_shift ?_
      simp only [spec_LiveNear.j0, Bool.false_eq_true, if_false]
      refine Ev.bind (l16Now_ev n l w (by omega) hw) ?_
      refine Ev.bind hD.spec ?_
      simp only [nb.1, g, if_true]
      exact ev_now fun _ => rfl
    · refine Ev.bind (implLiveOk_ev n l w hw) ?_
      simp only [hok, ha, hb, if_true, Bool.and_self, Bool.not_true]
      refine ev_shift ?_
      simp only [impl_LiveNear.j0, Bool.false_eq_true, if_false]
      refine Ev.bind (now_ev n l w (by omega) hw fun x hx => newsB_more (liveB_more hok x hx)) ?_
      refine Ev.bind hD.impl ?_
      simp only [nb.1, g, if_true]
      exact ev_now fun _ => rfl
  · refine ⟨-1, ?_, ?_⟩
    · refine Ev.bind (l16Ok_ev n l w hl hw) ?_
      refine ev_shift (ev_now fun k => ?_)
      cases q0 : liveB n l w with
      | false => simp [spec_LiveNear.j0]
      | true =>
      cases q1 : inB a 0 (wrap64 (n - 1)) with
      | false => simp [spec_LiveNear.j0]
      | true =>
      cases q2 : inB b 0 (wrap64 (n - 1)) with
      | false => simp [spec_LiveNear.j0]
      | true => exact absurd ⟨q0, q1, q2⟩ hok
    · refine Ev.bind (implLiveOk_ev n l w hw) ?_
      refine ev_shift (ev_now fun k => ?_)
      cases q0 : liveB n l w with
      | false => simp [impl_LiveNear.j0]
      | true =>
      cases q1 : inB a 0 (wrap64 (n - 1)) with
      | false => simp [impl_LiveNear.j0]
      | true =>
      cases q2 : inB b 0 (wrap64 (n - 1)) with
      | false => simp [impl_LiveNear.j0]
      | true => exact absurd ⟨q0, q1, q2⟩ hok
/- The pure statement of FnExactLiveNear: on all arguments the reference and the program tell the same cost. No condition. -/
theorem FnExactLiveNear : laws_FnExactLiveNear.Pure := by
  intro n l w a b _ hl hw _ _
  refine Ev.rounds ?_
  unfold laws_FnExactLiveNear.f
  obtain ⟨r, hr, hr'⟩ := szLive_eq n l w hl.1 hw.1
  simp only [hr, Option.bind_some]
  rcases hr' with h | ⟨h1, h2⟩
  · simp only [h, if_true]; exact ev_now fun _ => rfl
  · by_cases h : r < 0
    · simp only [h, if_true]; exact ev_now fun _ => rfl
    · simp only [h, if_false]
      have hlm : (l.map arcOf).length ≤ 9223372036854775807 := by rw [List.length_map]; omega
      have hwm : (w.map newsOf).length ≤ 9223372036854775807 := by rw [List.length_map]; omega
      obtain ⟨v, hs, hi⟩ := liveNear_ex n (l.map arcOf) (w.map newsOf) a b hlm hwm
      refine Ev.bind (toLive_ev n l w h1 h2) ?_
      refine Ev.bind hs ?_
      refine Ev.bind (toLive_ev n l w h1 h2) ?_
      refine Ev.bind hi ?_
      simp only [if_true]
      refine Ev.bind (toLive_ev n l w h1 h2) ?_
      refine Ev.bind (eqLive_self n _ _ hlm hwm) ?_
      simp only [if_true]
      exact ev_now fun _ => rfl
end Go.Proofs.Ytbappbbljncdeaa.Pure
