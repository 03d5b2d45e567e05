/- The pure statement of FnSomeShare: of every drawn net and two walks the program tells what they share: no more than the first costs, with itself all of it, with its pieces what they share. No condition. -/
import Derived.Test.YthgihpbpebbebaaPureDrawWalk
import Derived.Test.YthgihpbpebbebaaPureWalkCost
import Derived.Test.YthgihpbpebbebaaFlawsFnSomeShare
import Derived.Test.YthgihpbpebbebaaFspecDrawSomeShare
import Derived.Test.YthgihpbpebbebaaFtextcore
namespace Go.Proofs.Ythgihpbpebbebaa.Pure
open Go.RowKit Go.Proofs.Ythgihpbpebbebaa.F Go.Proofs.YthgihpbpebbebaaW.PrintWords
set_option linter.unusedVariables false
set_option linter.unusedSimpArgs false
theorem drawSomeShare_ex (c : List Int) (h : ∀ x ∈ c, (Lit.int .u8 x).wf = true) : ∃ n l a b, Ev (fun k => spec_DrawSomeShare.f k c) (n, l, a, b) ∧ l.length ≤ 13 ∧ a.length ≤ 30 ∧ b.length ≤ 30 := by
  obtain ⟨y, hb, ho⟩ := open_ex c h
  obtain ⟨n, l, q, he, h1, h2, h3, h4⟩ := l30AnyNet_ex hb (p := 0) (by omega) (by omega)
  obtain ⟨a, q1, e1, a1, a2, a3⟩ := l30AnyWalk_ex hb n (l := l) (by omega) h2 (by omega)
  obtain ⟨b, q2, e2, b1, b2, b3⟩ := l30AnyWalk_ex hb n (l := l) (by omega) a2 (by omega)
  unfold spec_DrawSomeShare.f
  simp only [ho, Option.bind_some]
  exact ⟨n, l, a, b, Ev.bind he (Ev.bind e1 (Ev.bind e2 (ev_now fun _ => rfl))), h1, a1, b1⟩
theorem FnSomeShare : laws_FnSomeShare.Pure := by
  intro c m _ _ hc _ _ _
  refine Ev.rounds ?_
  unfold laws_FnSomeShare.f
  by_cases h0 : (c.length : Int) > 1048576
  · simp only [h0, if_true]
    exact ev_shift (ev_now fun k => by simp only [laws_FnSomeShare.j0, if_true])
  by_cases h1 : (m.length : Int) > 1048576
  · simp only [h0, h1, if_false, decide_true]
    exact ev_shift (ev_now fun k => by simp only [laws_FnSomeShare.j0, if_true])
  simp only [h0, h1, if_false, decide_false]
  refine ev_shift ?_
  simp only [laws_FnSomeShare.j0, Bool.false_eq_true, if_false]
  obtain ⟨n, l, a, b, he, hl, ha, hb⟩ := drawSomeShare_ex c hc
  have hl9 : l.length ≤ 9223372036854775807 := by omega
  refine Ev.bind he (Ev.bind (implSomeShare_ev n l a b hl9 (by omega) (by omega)) (Ev.bind (specSomeShare_ev n l a b hl9 (by omega) (by omega)) ?_))
  simp only [if_true]
  refine ev_shift ?_
  by_cases hneg : someShareV n l a b < 0
  · simp only [hneg, decide_true, laws_FnSomeShare.j1, if_true]
    exact Ev.bind (specSomeShare_ev n l a b hl9 (by omega) (by omega)) (ev_now fun _ => by simp)
  · simp only [hneg, decide_false, laws_FnSomeShare.j1, Bool.false_eq_true, if_false]
    have hoks : (netOkB n l && walkB l a) = true ∧ (netOkB n l && walkB l b) = true := by
      unfold someShareV at hneg
      by_cases c1 : (netOkB n l && walkB l a) = true
      · by_cases c2 : (netOkB n l && walkB l b) = true
        · exact ⟨c1, c2⟩
        · rw [if_pos c1, if_neg c2] at hneg; omega
      · rw [if_neg c1] at hneg; omega
    obtain ⟨ha1, hb1⟩ := hoks
    rw [Bool.and_eq_true] at ha1 hb1
    obtain ⟨hok, wa⟩ := ha1
    have wb := hb1.2
    have hn := net1_of hok
    have hv := someShareV_ok hok wa wb
    have r := shareS_rng hn b a (walk_in hl9 wa)
    have rc := costS_rng hn a (walk_in hl9 wa)
    have w1 : wrap64 ((a.length : Int) + 1) = (a.length : Int) + 1 := w_id (by omega) (by omega)
    have w0 : ¬ ((a.length : Int) + 1 = 0) := by omega
    have k0 : 0 ≤ (m.length : Int) % ((a.length : Int) + 1) := Int.emod_nonneg _ w0
    have k1 : (m.length : Int) % ((a.length : Int) + 1) < (a.length : Int) + 1 := Int.emod_lt_of_pos _ (by omega)
    simp only [w1, w0, if_false]
    generalize (m.length : Int) % ((a.length : Int) + 1) = q at k0 k1 ⊢
    have k2 : q ≤ (a.length : Int) := by omega
    refine Ev.bind (walkCost_ev hok a wa) ?_
    rw [hv]
    simp only [r.2, if_true]
    refine Ev.bind (implSomeShare_ev n l a a hl9 (by omega) (by omega)) ?_
    rw [someShareV_ok hok wa wa, shareS_self l a a (fun _ h => h)]
    refine Ev.bind (walkCost_ev hok a wa) ?_
    simp only [if_true, k0, k2]
    refine Ev.bind (implSomeShare_ev n l (a.take q.toNat) b hl9 (by rw [List.length_take]; omega) (by omega)) ?_
    refine Ev.bind (implSomeShare_ev n l (a.drop q.toNat) b hl9 (by rw [List.length_drop]; omega) (by omega)) ?_
    rw [someShareV_ok hok (walkB_take wa _) wb, someShareV_ok hok (walkB_drop wa _) wb, ← shareS_append, List.take_append_drop, w_id (by omega) (by omega)]
    simp only [if_true]
    refine Ev.bind (implSomeShare_ev n l a [] hl9 (by omega) (by simp)) ?_
    have wn : walkB l [] = true := by simp [walkB, chainB]
    rw [someShareV_ok hok wa wn, shareS_nil]
    exact ev_now fun _ => rfl
end Go.Proofs.Ythgihpbpebbebaa.Pure
