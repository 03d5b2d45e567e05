import Derived.Test.YthgihpbpebbebaaPureNodes
import Derived.Test.YthgihpbpebbebaaFKinds
import Derived.Test.YthgihpbpebbebaaFimplReachArcs
import Derived.Test.YthgihpbpebbebaaFimplreached
import Derived.Test.YthgihpbpebbebaaFspecReachArcs
import Derived.Test.YthgihpbpebbebaaFtextcore
namespace Go.Proofs.Ythgihpbpebbebaa.Pure
open Go.RowKit Go.Proofs.Ythgihpbpebbebaa.F Go.Proofs.YthgihpbpebbebaaW.PrintWords
set_option linter.unusedVariables false
set_option linter.unusedSimpArgs false
/-! ### how far arcs can be gone -/
theorem reached_eqA {d most : Int} (h : d ≤ 99999) : impl_reached.f d most = some (decide (d < 99999 ∧ d ≤ most)) := by
  unfold impl_reached.f
  by_cases e : d = 99999
  · rw [if_pos e]; simp; omega
  · rw [if_neg e]
    have : d < 99999 := by omega
    simp [this]
/-- How far each arc can be gone. -/
def farA (m : Int) (D : List Int) (x : S31) : Int := if rd D x.f0 < 99999 ∧ rd D x.f0 ≤ m then mn x.f2 (wrap64 (m - rd D x.f0)) else -1
def ArcsV (n : Int) (l : List S31) (a m : Int) (V : List Int) : Prop := V.length ≤ 16 ∧ ((netOkB n l && inB a 0 (wrap64 (n - 1))) = true → ∃ D, Dist n l a D ∧ V = l.map (farA m D)) ∧ ((netOkB n l && inB a 0 (wrap64 (n - 1))) = false → V = [])
theorem reachArcs_val (n : Int) (l : List S31) (a m : Int) (hl : l.length ≤ 9223372036854775807) : ∃ V, (ArcsV n l a m V ∧ Ev (fun k => spec_ReachArcs.f k n l a m) V) ∧ Ev (fun k => impl_ReachArcs.f k n l a m) V := by
  unfold impl_ReachArcs.f spec_ReachArcs.f
  simp only [nodesIn_eq, Option.bind_some, l1In_eq, hasB1]
  cases hok : netOkB n l with
  | false =>
    refine ⟨[], ⟨⟨by simp, fun h => by simp [hok] at h, fun _ => rfl⟩, ?_⟩, ev_now fun k => by simp⟩
    refine Ev.bind (l1Ok_ev n l hl) ?_
    simp only [hok, Bool.false_eq_true, if_false]
    exact ev_shift (ev_now fun k => by simp [spec_ReachArcs.j0])
  | true =>
    have hn := net1_of hok
    have hll := hn.len
    cases ha : inB a 0 (wrap64 (n - 1)) with
    | false =>
      refine ⟨[], ⟨⟨by simp, fun h => by simp [ha] at h, fun _ => rfl⟩, ?_⟩, ev_now fun k => by simp⟩
      refine Ev.bind (l1Ok_ev n l hl) ?_
      simp only [hok, if_true]
      exact ev_shift (ev_now fun k => by simp [spec_ReachArcs.j0])
    | true =>
      obtain ⟨D, hD⟩ := dist_ex hn (node_of hn ha)
      have hlen := hD.inv.len
      refine ⟨l.map (farA m D), ⟨⟨by rw [List.length_map]; exact hll, fun _ => ⟨D, hD, rfl⟩, fun h => by simp [hok, ha] at h⟩, ?_⟩, ?_⟩
      · refine Ev.bind (l1Ok_ev n l hl) ?_
        simp only [hok, if_true]
        refine ev_shift ?_
        simp only [spec_ReachArcs.j0, Bool.not_true, Bool.false_eq_true, if_false]
        refine Ev.bind hD.spec ?_
        have := ev_ind (fun k (s : Nat × List Int) => spec_ReachArcs.l0 k m s.2 D (s.1 : Int) n l) (fun s => l.length - s.1) (fun s => s.1 ≤ l.length ∧ s.2.length ≤ s.1) (fun s => s.2 ++ (l.drop s.1).map (farA m D)) ?_ (0, []) ⟨Nat.zero_le _, by simp⟩
        · simpa using this
        rintro ⟨i, x⟩ ⟨hi, hx⟩ ih
        simp only at hi hx ih ⊢
        by_cases h : i < l.length
        · have hlt : (i : Int) < (l.length : Int) := by omega
          have h0 : (0 : Int) ≤ (i : Int) := by omega
          have b1 : x.length < 17592186044416 := by omega
          obtain ⟨e1, e2, _⟩ := hn.ends l[i] (List.getElem_mem h)
          have g0 : l[i].f0 < (D.length : Int) := by omega
          have r := hD.inv.rng l[i].f0 e1 e2
          have next := ih (i + 1, x ++ [farA m D l[i]]) ⟨by simp; omega, by simp; omega⟩ (by simp; omega)
          rw [List.drop_eq_getElem_cons h, List.map_cons]
          simp only [List.append_assoc, List.singleton_append] at next
          simp only [spec_ReachArcs.l0, hlt, h0, if_true, arc_at l i h, e1, g0]
          by_cases c1 : rd D l[i].f0 ≥ 99999
          · have c2 : ¬ rd D l[i].f0 < 99999 := by omega
            simp only [c1, if_true]
            refine ev_shift ?_
            simp only [spec_ReachArcs.j2, if_true, b1, wsucc h (show l.length ≤ 9223372036854775807 by omega)]
            have e : farA m D l[i] = -1 := by unfold farA; simp [c2]
            rw [e] at next ⊢
            exact next
          · have c2 : rd D l[i].f0 < 99999 := by omega
            simp only [c1, if_false]
            refine ev_shift ?_
            by_cases c3 : rd D l[i].f0 > m
            · have c4 : ¬ rd D l[i].f0 ≤ m := by omega
              simp only [spec_ReachArcs.j2, c3, decide_true, if_true, b1, wsucc h (show l.length ≤ 9223372036854775807 by omega)]
              have e : farA m D l[i] = -1 := by unfold farA; simp [c4]
              rw [e] at next ⊢
              exact next
            · have c4 : rd D l[i].f0 ≤ m := by omega
              simp only [spec_ReachArcs.j2, c3, decide_false, Bool.false_eq_true, if_false, if_true, b1, e1, g0, wsucc h (show l.length ≤ 9223372036854775807 by omega)]
              have e : farA m D l[i] = if wrap64 (m - rd D l[i].f0) < l[i].f2 then wrap64 (m - rd D l[i].f0) else l[i].f2 := by unfold farA mn; simp [c2, c4]
              by_cases c5 : wrap64 (m - rd D l[i].f0) < l[i].f2
              · rw [if_pos c5] at e
                simp only [c5, if_true]
                rw [e] at next ⊢
                exact next
              · rw [if_neg c5] at e
                simp only [c5, if_false]
                rw [e] at next ⊢
                exact next
        · have hlt : ¬ (i : Int) < (l.length : Int) := by omega
          simp only [spec_ReachArcs.l0, hlt, if_false]
          refine ev_now fun k => ?_
          rw [List.drop_of_length_le (by omega)]
          simp
      · simp only [Bool.and_self, if_true]
        refine Ev.bind hD.impl ?_
        have b2 : ((l.length : Int) : Int).toNat ≤ 35184372088832 := by omega
        simp only [b2, if_true]
        have := ev_ind (fun k (s : Nat × List Int) => impl_ReachArcs.l0 k m D s.2 l (l.length : Int) (s.1 : Int)) (fun s => l.length - s.1) (fun s => s.1 ≤ l.length ∧ s.2.length ≤ s.1) (fun s => s.2 ++ (l.drop s.1).map (farA m D)) ?_ (0, []) ⟨Nat.zero_le _, by simp⟩
        · simpa using this
        rintro ⟨i, x⟩ ⟨hi, hx⟩ ih
        simp only at hi hx ih ⊢
        by_cases h : i < l.length
        · have hlt : (i : Int) < (l.length : Int) := by omega
          have h0 : (0 : Int) ≤ (i : Int) := by omega
          have b1 : x.length < 17592186044416 := by omega
          obtain ⟨e1, e2, _⟩ := hn.ends l[i] (List.getElem_mem h)
          have g0 : l[i].f0 < (D.length : Int) := by omega
          have r := hD.inv.rng l[i].f0 e1 e2
          have next := ih (i + 1, x ++ [farA m D l[i]]) ⟨by simp; omega, by simp; omega⟩ (by simp; omega)
          rw [List.drop_eq_getElem_cons h, List.map_cons]
          simp only [List.append_assoc, List.singleton_append] at next
          simp only [impl_ReachArcs.l0, hlt, h0, b1, if_true, arc_at l i h, e1, g0, reached_eqA r.2, Option.bind_some, wsucc h (show l.length ≤ 9223372036854775807 by omega)]
          by_cases c : rd D l[i].f0 < 99999 ∧ rd D l[i].f0 ≤ m
          · have e : farA m D l[i] = mn l[i].f2 (wrap64 (m - rd D l[i].f0)) := by unfold farA; rw [if_pos c]
            rw [e] at next ⊢
            simp only [c, and_self, decide_true, if_true]
            exact next
          · have e : farA m D l[i] = -1 := by unfold farA; rw [if_neg c]
            rw [e] at next ⊢
            simp only [c, decide_false, Bool.false_eq_true, if_false]
            exact next
        · have hlt : ¬ (i : Int) < (l.length : Int) := by omega
          simp only [impl_ReachArcs.l0, hlt, if_false]
          refine ev_now fun k => ?_
          rw [List.drop_of_length_le (by omega)]
          simp
theorem reachArcs_ex (n : Int) (l : List S31) (a m : Int) (hl : l.length ≤ 9223372036854775807) : ∃ V, (V.length ≤ 16 ∧ Ev (fun k => spec_ReachArcs.f k n l a m) V) ∧ Ev (fun k => impl_ReachArcs.f k n l a m) V := by
  obtain ⟨V, ⟨h1, h2⟩, h3⟩ := reachArcs_val n l a m hl
  exact ⟨V, ⟨h1.1, h2⟩, h3⟩
end Go.Proofs.Ythgihpbpebbebaa.Pure
