import Derived.Test.YthgihpbpebbebaaPureReach
import Derived.Test.YthgihpbpebbebaaFKinds
import Derived.Test.YthgihpbpebbebaaFimplBothOver
import Derived.Test.YthgihpbpebbebaaFlawsFnExactBothOver
import Derived.Test.YthgihpbpebbebaaFspecBothOver
import Derived.Test.YthgihpbpebbebaaFtextcore
namespace Go.Proofs.Ythgihpbpebbebaa.Pure
open Go.RowKit Go.Proofs.Ythgihpbpebbebaa.F Go.Proofs.YthgihpbpebbebaaW.PrintWords
set_option linter.unusedVariables false
set_option linter.unusedSimpArgs false
theorem bothOver_ex (n : Int) (l : List S31) (a b c : Int) (hl : l.length ≤ 9223372036854775807) : ∃ v, Ev (fun k => spec_BothOver.f k n l a b c) v ∧ Ev (fun k => impl_BothOver.f k n l a b c) v := by
  unfold impl_BothOver.f spec_BothOver.f
  simp only [nodesIn_eq, Option.bind_some, l1In_eq, hasB3]
  by_cases hok : netOkB n l = true ∧ inB a 0 (wrap64 (n - 1)) = true ∧ inB b 0 (wrap64 (n - 1)) = true ∧ inB c 0 (wrap64 (n - 1)) = true
  · obtain ⟨hok, ha, hb, hc⟩ := hok
    have hn := net1_of hok
    obtain ⟨D1, h1⟩ := dist_ex hn (node_of hn ha)
    obtain ⟨D2, h2⟩ := dist_ex hn (node_of hn hc)
    have hlen1 := h1.inv.len
    have hlen2 := h2.inv.len
    have nb := node_of hn hb
    have nc := node_of hn hc
    have r1 := h1.inv.rng c nc.1 nc.2
    have r2 := h2.inv.rng b nb.1 nb.2
    have g1 : c < (D1.length : Int) := by omega
    have g2 : b < (D2.length : Int) := by omega
    refine ⟨if rd D1 c ≥ 99999 then 99999 else if rd D2 b ≥ 99999 then 99999 else wrap64 (rd D1 c + rd D2 b), ?_, ?_⟩
    · refine Ev.bind (l1Ok_ev n l hl) ?_
      simp only [hok, ha, hb, hc, if_true, Bool.not_true]
      refine ev_shift ?_
      simp only [spec_BothOver.j0, Bool.false_eq_true, if_false]
      refine Ev.bind h1.spec ?_
      simp only [nc.1, g1, if_true]
      refine Ev.bind h2.spec ?_
      simp only [nb.1, g2, if_true]
      refine ev_now fun k => ?_
      split
      · rfl
      · split <;> rfl
    · simp only [hok, ha, hb, hc, if_true, Bool.and_self]
      refine Ev.bind h1.impl ?_
      simp only [nc.1, g1, if_true]
      refine Ev.bind h2.impl ?_
      simp only [nb.1, g2, if_true]
      refine ev_now fun k => ?_
      by_cases c1 : rd D1 c = 99999
      · have c1' : rd D1 c ≥ 99999 := by omega
        simp only [c1, c1', if_true, ge_iff_le, Int.le_refl]
      · have c1' : ¬ rd D1 c ≥ 99999 := by omega
        by_cases c2 : rd D2 b = 99999
        · have c2' : rd D2 b ≥ 99999 := by omega
          simp only [c1, c1', c2, if_true, if_false, ge_iff_le, Int.le_refl]
        · have c2' : ¬ rd D2 b ≥ 99999 := by omega
          simp only [c1, c1', c2, c2', if_false]
  · refine ⟨-1, ?_, ?_⟩
    · refine Ev.bind (l1Ok_ev n l hl) ?_
      refine ev_shift (ev_now fun k => ?_)
      cases q0 : netOkB n l with
      | false => simp [spec_BothOver.j0]
      | true =>
      cases q1 : inB a 0 (wrap64 (n - 1)) with
      | false => simp [spec_BothOver.j0]
      | true =>
      cases q2 : inB b 0 (wrap64 (n - 1)) with
      | false => simp [spec_BothOver.j0]
      | true =>
      cases q3 : inB c 0 (wrap64 (n - 1)) with
      | false => simp [spec_BothOver.j0]
      | true => exact absurd ⟨q0, q1, q2, q3⟩ hok
    · refine ev_now fun k => ?_
      cases q0 : netOkB n l with
      | false => simp
      | true =>
      cases q1 : inB a 0 (wrap64 (n - 1)) with
      | false => simp
      | true =>
      cases q2 : inB b 0 (wrap64 (n - 1)) with
      | false => simp
      | true =>
      cases q3 : inB c 0 (wrap64 (n - 1)) with
      | false => simp
      | true => exact absurd ⟨q0, q1, q2, q3⟩ hok
/- The pure statement of FnExactBothOver: on all arguments the reference and the program tell the same cost. No condition. -/
theorem FnExactBothOver : laws_FnExactBothOver.Pure := by
  intro n l a b c _ hl _ _ _
  refine Ev.rounds ?_
  unfold laws_FnExactBothOver.f
  simp only [szNet_eq n l hl.1, Option.bind_some]
  by_cases h3 : l.length ≤ 1048576
  · have h4 : ¬ (1048576 - (l.length : Int) < 0) := by omega
    simp only [h3, h4, if_true, if_false]
    have hlm : (l.map arcOf).length ≤ 9223372036854775807 := by rw [List.length_map]; omega
    obtain ⟨v, hs, hi⟩ := bothOver_ex n (l.map arcOf) a b c hlm
    refine Ev.bind (toNet_ev n l h3) ?_
    refine Ev.bind hs ?_
    refine Ev.bind (toNet_ev n l h3) ?_
    refine Ev.bind hi ?_
    simp only [if_true]
    refine Ev.bind (toNet_ev n l h3) ?_
    refine Ev.bind (eqNet_self _ _ hlm) ?_
    simp only [if_true]
    exact ev_now fun _ => rfl
  · have h4 : ((-1 : Int) < 0) := by omega
    simp only [h3, h4, if_true, if_false]
    exact ev_now fun _ => rfl
end Go.Proofs.Ythgihpbpebbebaa.Pure
