/- The pure statement of FnExactLiveOver: on all arguments the reference and the program tell the same, in memory of its own. No condition. -/
import Derived.Test.YtbappbbljncdeaaPureOver
import Derived.Test.YtbappbbljncdeaaPureHeldNews
import Derived.Test.YtbappbbljncdeaaPureNews
import Derived.Test.YtbappbbljncdeaaFKinds
import Derived.Test.YtbappbbljncdeaaFlawsFnExactLiveOver
import Derived.Test.YtbappbbljncdeaaFlawsLive
namespace Go.Proofs.Ytbappbbljncdeaa.Pure
open Go.RowKit Go.Proofs.Ytbappbbljncdeaa.F Go.Proofs.YtbappbbljncdeaaW.PrintWords
set_option linter.unusedVariables false
set_option linter.unusedSimpArgs false
theorem overV_len (n : Int) (l : List S100) (w : List S70) (id : Int) : (overV n l w id).2.1.length ≤ 16 ∧ (overV n l w id).2.2.1.length ≤ 6 := by
  unfold overV
  split
  · rename_i h
    exact ⟨(net1_of (liveB_len h).1).len, Nat.le_trans (List.length_filter_le _ _) (liveB_len h).2⟩
  · simp
theorem FnExactLiveOver : laws_FnExactLiveOver.Pure := by
  intro n l w id _ hl hw _
  refine Ev.rounds ?_
  unfold laws_FnExactLiveOver.f
  obtain ⟨r, hr, hr'⟩ := szLive_eq n l w hl.1 hw.1
  simp only [hr, Option.bind_some]
  rcases hr' with h | ⟨h1, h2⟩
  · simp only [h, if_true]; exact ev_now fun _ => rfl
  by_cases h : r < 0
  · simp only [h, if_true]; exact ev_now fun _ => rfl
  simp only [h, if_false]
  have hlm : (l.map arcOf).length ≤ 9223372036854775807 := by rw [List.length_map]; omega
  have hwm : (w.map newsOf).length ≤ 9223372036854775807 := by rw [List.length_map]; omega
  have hs := specOver_ev n (l.map arcOf) (w.map newsOf) hlm hwm id
  have hi := implOver_ev n (l.map arcOf) (w.map newsOf) hwm id
  obtain ⟨v1, v2⟩ := overV_len n (l.map arcOf) (w.map newsOf) id
  generalize overV n (l.map arcOf) (w.map newsOf) id = V at hs hi v1 v2 ⊢
  obtain ⟨vn, vl, vw, vb⟩ := V
  simp only at v1 v2
  have ha := endA_pos (l.map arcOf).length 1 (by omega) (by rw [List.length_map]; omega)
  have hb := endN_pos (w.map newsOf).length (endA (l.map arcOf).length 1) (by omega) (by rw [ha.2, List.length_map, List.length_map]; omega)
  have e1 : ¬ endN (w.map newsOf).length (endA (l.map arcOf).length 1) < 0 := by omega
  have hc := endA_pos vl.length 1 (by omega) (by omega)
  have hd := endN_pos vw.length (endA vl.length 1) (by omega) (by omega)
  have e2 : ¬ endN vw.length (endA vl.length 1) < 0 := by omega
  have hel : Ev (fun k => laws_eqLive.f k vn vl vw vn vl vw) true := eqLive_self vn vl vw (by omega) (by omega)
  have hheld := heldLive_ev vn vl.length vw.length (by omega) (by omega)
  refine Ev.bind (toLive_ev n l w h1 h2) (Ev.bind hs (Ev.bind (toLive_ev n l w h1 h2) (Ev.bind hi (Ev.bind hel ?_))))
  simp only [if_true, bne_self_eq_false]
  refine ev_shift ?_
  simp only [laws_FnExactLiveOver.j0, Bool.false_eq_true, if_false]
  refine Ev.bind (toLive_ev n l w h1 h2) (Ev.bind (eqLive_self n _ _ hlm hwm) ?_)
  simp only [if_true]
  refine Ev.bind (markLive_ev n _ _ 1 hlm hwm) ?_
  simp only [e1, if_false]
  refine Ev.bind hel ?_
  simp only [if_true, bne_self_eq_false]
  refine ev_shift ?_
  simp only [laws_FnExactLiveOver.j1, Bool.false_eq_true, if_false]
  refine Ev.bind (markLive_ev vn vl vw 1 (by omega) (by omega)) (Ev.bind hheld ?_)
  simp only [e2, if_false, if_true]
  refine Ev.bind (toLive_ev n l w h1 h2) (Ev.bind hi (Ev.bind hel ?_))
  simp only [if_true, bne_self_eq_false]
  refine ev_shift ?_
  simp only [laws_FnExactLiveOver.j2, Bool.false_eq_true, if_false]
  refine Ev.bind hheld ?_
  simp only [e2, if_false, if_true]
  exact ev_now fun _ => rfl
end Go.Proofs.Ytbappbbljncdeaa.Pure
