import Derived.Test.YthgihpbpebbebaaPureDist
import Derived.Test.YthgihpbpebbebaaFKinds
import Derived.Test.YthgihpbpebbebaaFimplNethas
import Derived.Test.YthgihpbpebbebaaFimplReachArcs
import Derived.Test.YthgihpbpebbebaaFimplReachIn
import Derived.Test.YthgihpbpebbebaaFimplnodesIn
import Derived.Test.YthgihpbpebbebaaFimplreached
import Derived.Test.YthgihpbpebbebaaFspecReachArcs
import Derived.Test.YthgihpbpebbebaaFspecReachIn
import Derived.Test.YthgihpbpebbebaaFtextcore
namespace Go.Proofs.Ythgihpbpebbebaa.Pure
open Go.RowKit Go.Proofs.Ythgihpbpebbebaa.F Go.Proofs.YthgihpbpebbebaaW.PrintWords
set_option linter.unusedVariables false
set_option linter.unusedSimpArgs false
/-! ### nodes of a net, and what can be reached -/
theorem nodesIn_eq (n : Int) (l : List S31) (ns : List Int) : impl_nodesIn.f n l ns = some (netOkB n l && hasB n ns) := by
  unfold impl_nodesIn.f impl_Net_has.f
  rw [netOk_eq]
  cases netOkB n l <;> rfl
theorem hasB1 (n a : Int) : hasB n [a] = inB a 0 (wrap64 (n - 1)) := by unfold hasB; simp
theorem hasB2 (n a b : Int) : hasB n [a, b] = (inB a 0 (wrap64 (n - 1)) && inB b 0 (wrap64 (n - 1))) := by unfold hasB; simp
theorem hasB3 (n a b c : Int) : hasB n [a, b, c] = (inB a 0 (wrap64 (n - 1)) && (inB b 0 (wrap64 (n - 1)) && inB c 0 (wrap64 (n - 1)))) := by unfold hasB; simp
theorem node_of {n : Int} {l : List S31} (hn : Net1 n l) {a : Int} (h : inB a 0 (wrap64 (n - 1)) = true) : 0 ≤ a ∧ a < n := by
  have := hn.lo
  have := hn.hi
  rw [inB_iff, w_id (n := n - 1) (by omega) (by omega)] at h
  omega
theorem reached_eq {d most : Int} (h : d ≤ 99999) : impl_reached.f d most = some (decide (d < 99999 ∧ d ≤ most)) := by
  unfold impl_reached.f
  by_cases e : d = 99999
  · rw [if_pos e]; simp; omega
  · rw [if_neg e]
    have : d < 99999 := by omega
    simp [this]
/-- The nodes within a cost, from number i on. -/
def inL (most : Int) : List Int → Nat → List Int
  | [], _ => []
  | d :: ds, i => if d < 99999 ∧ d ≤ most then (i : Int) :: inL most ds (i + 1) else inL most ds (i + 1)
theorem inL_length (most : Int) (l : List Int) : ∀ i, (inL most l i).length ≤ l.length := by
  induction l with
  | nil => intro i; simp [inL]
  | cons d ds ih => intro i; have := ih (i + 1); unfold inL; split <;> simp <;> omega
theorem reachIn_ex (n : Int) (l : List S31) (a m : Int) (hl : l.length ≤ 9223372036854775807) : ∃ V, (V.length ≤ 8 ∧ Ev (fun k => spec_ReachIn.f k n l a m) V) ∧ Ev (fun k => impl_ReachIn.f k n l a m) V := by
  unfold impl_ReachIn.f spec_ReachIn.f
  simp only [nodesIn_eq, Option.bind_some, l1In_eq, hasB1]
  cases hok : netOkB n l with
  | false =>
    refine ⟨[], ⟨by simp, ?_⟩, ev_now fun k => by simp⟩
    refine Ev.bind (l1Ok_ev n l hl) ?_
    simp only [hok, Bool.false_eq_true, if_false]
    exact ev_shift (ev_now fun k => by simp [spec_ReachIn.j0])
  | true =>
    have hn := net1_of hok
    have hlo := hn.lo
    have hhi := hn.hi
    cases ha : inB a 0 (wrap64 (n - 1)) with
    | false =>
      refine ⟨[], ⟨by simp, ?_⟩, ev_now fun k => by simp⟩
      refine Ev.bind (l1Ok_ev n l hl) ?_
      simp only [hok, if_true]
      exact ev_shift (ev_now fun k => by simp [spec_ReachIn.j0])
    | true =>
      obtain ⟨D, hD⟩ := dist_ex hn (node_of hn ha)
      have hlen := hD.inv.len
      refine ⟨inL m D 0, ⟨by have := inL_length m D 0; omega, ?_⟩, ?_⟩
      · refine Ev.bind (l1Ok_ev n l hl) ?_
        simp only [hok, if_true]
        refine ev_shift ?_
        simp only [spec_ReachIn.j0, Bool.not_true, Bool.false_eq_true, if_false]
        refine Ev.bind hD.spec ?_
        have := ev_ind (fun k (s : Nat × List Int) => spec_ReachIn.l0 k m s.2 D (s.1 : Int) n l) (fun s => D.length - s.1) (fun s => s.1 ≤ D.length ∧ s.2.length ≤ s.1) (fun s => s.2 ++ inL m (D.drop s.1) s.1) ?_ (0, []) ⟨Nat.zero_le _, by simp⟩
        · simpa using this
        rintro ⟨i, x⟩ ⟨hi, hx⟩ ih
        simp only at hi hx ih ⊢
        by_cases h : i < D.length
        · have hlt : (i : Int) < n := by omega
          have hlt2 : (i : Int) < (D.length : Int) := by omega
          have h0 : (0 : Int) ≤ (i : Int) := by omega
          have b1 : x.length < 17592186044416 := by omega
          simp only [spec_ReachIn.l0, hlt, hlt2, h0, b1, if_true, rd_at D i h, wsucc h (show D.length ≤ 9223372036854775807 by omega)]
          rw [List.drop_eq_getElem_cons h, inL]
          by_cases c1 : D[i] < 99999
          · by_cases c2 : D[i] ≤ m
            · simp only [c1, c2, and_self, if_true]
              refine ev_at (ih (i + 1, x ++ [(i : Int)]) ⟨by simp; omega, by simp; omega⟩ (by simp; omega)) ?_
              simp only [List.append_assoc, List.singleton_append]
            · simp only [c1, c2, and_false, if_true, if_false]
              exact ih (i + 1, x) ⟨by simp; omega, by simp; omega⟩ (by simp; omega)
          · simp only [c1, false_and, if_false]
            exact ih (i + 1, x) ⟨by simp; omega, by simp; omega⟩ (by simp; omega)
        · have hlt : ¬ (i : Int) < n := by omega
          simp only [spec_ReachIn.l0, hlt, if_false]
          refine ev_now fun k => ?_
          rw [List.drop_of_length_le (by omega)]
          simp [inL]
      · have b0 : (0 : Int) ≤ n := by omega
        have b2 : n.toNat ≤ 35184372088832 := by omega
        simp only [Bool.and_self, if_true, b0, b2]
        refine Ev.bind hD.impl ?_
        have := ev_ind (fun k (s : Nat × List Int) => impl_ReachIn.l0 k m s.2 D (D.length : Int) (s.1 : Int)) (fun s => D.length - s.1) (fun s => s.1 ≤ D.length ∧ s.2.length ≤ s.1) (fun s => s.2 ++ inL m (D.drop s.1) s.1) ?_ (0, []) ⟨Nat.zero_le _, by simp⟩
        · simpa using this
        rintro ⟨i, x⟩ ⟨hi, hx⟩ ih
        simp only at hi hx ih ⊢
        by_cases h : i < D.length
        · have hlt : (i : Int) < (D.length : Int) := by omega
          have h0 : (0 : Int) ≤ (i : Int) := by omega
          have b1 : x.length < 17592186044416 := by omega
          have r := hD.inv.rng i (by omega) (by omega)
          rw [rd_at D i h] at r
          simp only [impl_ReachIn.l0, hlt, h0, b1, if_true, rd_at D i h, reached_eq r.2, Option.bind_some, wsucc h (show D.length ≤ 9223372036854775807 by omega)]
          rw [List.drop_eq_getElem_cons h, inL]
          by_cases c : D[i] < 99999 ∧ D[i] ≤ m
          · simp only [c, and_self, decide_true, if_true]
            refine ev_at (ih (i + 1, x ++ [(i : Int)]) ⟨by simp; omega, by simp; omega⟩ (by simp; omega)) ?_
            simp only [List.append_assoc, List.singleton_append]
          · simp only [c, decide_false, Bool.false_eq_true, if_false]
            exact ih (i + 1, x) ⟨by simp; omega, by simp; omega⟩ (by simp; omega)
        · have hlt : ¬ (i : Int) < (D.length : Int) := by omega
          simp only [impl_ReachIn.l0, hlt, if_false]
          refine ev_now fun k => ?_
          rw [List.drop_of_length_le (by omega)]
          simp [inL]
/-- How far each arc can be gone. -/
def farA (m : Int) (D : List Int) (x : S31) : Int := if rd D x.f0 < 99999 ∧ rd D x.f0 ≤ m then mn x.f2 (wrap64 (m - rd D x.f0)) else -1
theorem reachArcs_ex (n : Int) (l : List S31) (a m : Int) (hl : l.length ≤ 9223372036854775807) : ∃ V, (V.length ≤ 16 ∧ Ev (fun k => spec_ReachArcs.f k n l a m) V) ∧ Ev (fun k => impl_ReachArcs.f k n l a m) V := by
  unfold impl_ReachArcs.f spec_ReachArcs.f
  simp only [nodesIn_eq, Option.bind_some, l1In_eq, hasB1]
  cases hok : netOkB n l with
  | false =>
    refine ⟨[], ⟨by simp, ?_⟩, ev_now fun k => by simp⟩
    refine Ev.bind (l1Ok_ev n l hl) ?_
    simp only [hok, Bool.false_eq_true, if_false]
    exact ev_shift (ev_now fun k => by simp [spec_ReachArcs.j0])
  | true =>
    have hn := net1_of hok
    have hll := hn.len
    cases ha : inB a 0 (wrap64 (n - 1)) with
    | false =>
      refine ⟨[], ⟨by simp, ?_⟩, ev_now fun k => by simp⟩
      refine Ev.bind (l1Ok_ev n l hl) ?_
      simp only [hok, if_true]
      exact ev_shift (ev_now fun k => by simp [spec_ReachArcs.j0])
    | true =>
      obtain ⟨D, hD⟩ := dist_ex hn (node_of hn ha)
      have hlen := hD.inv.len
      refine ⟨l.map (farA m D), ⟨by rw [List.length_map]; exact hll, ?_⟩, ?_⟩
      · refine Ev.bind (l1Ok_ev n l hl) ?_
        simp only [hok, if_true]
        refine ev_shift ?_
        simp only [spec_ReachArcs.j0, Bool.not_true, Bool.false_eq_true, if_false]
        refine Ev.bind hD.spec ?_
        have := ev_ind (fun k (s : Nat × List Int) => spec_ReachArcs.l0 k m s.2 D (s.1 : Int) n l) (fun s => l.length - s.1) (fun s => s.1 ≤ l.length ∧ s.2.length ≤ s.1) (fun s => s.2 ++ (l.drop s.1).map (farA m D)) ?_ (0, []) ⟨Nat.zero_le _, by simp⟩
        · simpa using this
        rintro ⟨i, x⟩ ⟨hi, hx⟩ ih
        simp only at hi hx ih ⊢
        by_cases h : i < l.length
        · have hlt : (i : Int) < (l.length : Int) := by omega
          have h0 : (0 : Int) ≤ (i : Int) := by omega
          have b1 : x.length < 17592186044416 := by omega
          obtain ⟨e1, e2, _⟩ := hn.ends l[i] (List.getElem_mem h)
          have g0 : l[i].f0 < (D.length : Int) := by omega
          have r := hD.inv.rng l[i].f0 e1 e2
          have next := ih (i + 1, x ++ [farA m D l[i]]) ⟨by simp; omega, by simp; omega⟩ (by simp; omega)
          rw [List.drop_eq_getElem_cons h, List.map_cons]
          simp only [List.append_assoc, List.singleton_append] at next
          simp only [spec_ReachArcs.l0, hlt, h0, if_true, arc_at l i h, e1, g0]
          by_cases c1 : rd D l[i].f0 ≥ 99999
          · have c2 : ¬ rd D l[i].f0 < 99999 := by omega
            simp only [c1, if_true]
            refine ev_shift ?_
            simp only [spec_ReachArcs.j2, if_true, b1, wsucc h (show l.length ≤ 9223372036854775807 by omega)]
            have e : farA m D l[i] = -1 := by unfold farA; simp [c2]
            rw [e] at next ⊢
            exact next
          · have c2 : rd D l[i].f0 < 99999 := by omega
            simp only [c1, if_false]
            refine ev_shift ?_
            by_cases c3 : rd D l[i].f0 > m
            · have c4 : ¬ rd D l[i].f0 ≤ m := by omega
              simp only [spec_ReachArcs.j2, c3, decide_true, if_true, b1, wsucc h (show l.length ≤ 9223372036854775807 by omega)]
              have e : farA m D l[i] = -1 := by unfold farA; simp [c4]
              rw [e] at next ⊢
              exact next
            · have c4 : rd D l[i].f0 ≤ m := by omega
              simp only [spec_ReachArcs.j2, c3, decide_false, Bool.false_eq_true, if_false, if_true, b1, e1, g0, wsucc h (show l.length ≤ 9223372036854775807 by omega)]
              have e : farA m D l[i] = if wrap64 (m - rd D l[i].f0) < l[i].f2 then wrap64 (m - rd D l[i].f0) else l[i].f2 := by unfold farA mn; simp [c2, c4]
              by_cases c5 : wrap64 (m - rd D l[i].f0) < l[i].f2
              · rw [if_pos c5] at e
                simp only [c5, if_true]
                rw [e] at next ⊢
                exact next
              · rw [if_neg c5] at e
                simp only [c5, if_false]
                rw [e] at next ⊢
                exact next
        · have hlt : ¬ (i : Int) < (l.length : Int) := by omega
          simp only [spec_ReachArcs.l0, hlt, if_false]
          refine ev_now fun k => ?_
          rw [List.drop_of_length_le (by omega)]
          simp
      · simp only [Bool.and_self, if_true]
        refine Ev.bind hD.impl ?_
        have b2 : ((l.length : Int) : Int).toNat ≤ 35184372088832 := by omega
        simp only [b2, if_true]
        have := ev_ind (fun k (s : Nat × List Int) => impl_ReachArcs.l0 k m D s.2 l (l.length : Int) (s.1 : Int)) (fun s => l.length - s.1) (fun s => s.1 ≤ l.length ∧ s.2.length ≤ s.1) (fun s => s.2 ++ (l.drop s.1).map (farA m D)) ?_ (0, []) ⟨Nat.zero_le _, by simp⟩
        · simpa using this
        rintro ⟨i, x⟩ ⟨hi, hx⟩ ih
        simp only at hi hx ih ⊢
        by_cases h : i < l.length
        · have hlt : (i : Int) < (l.length : Int) := by omega
          have h0 : (0 : Int) ≤ (i : Int) := by omega
          have b1 : x.length < 17592186044416 := by omega
          obtain ⟨e1, e2, _⟩ := hn.ends l[i] (List.getElem_mem h)
          have g0 : l[i].f0 < (D.length : Int) := by omega
          have r := hD.inv.rng l[i].f0 e1 e2
          have next := ih (i + 1, x ++ [farA m D l[i]]) ⟨by simp; omega, by simp; omega⟩ (by simp; omega)
          rw [List.drop_eq_getElem_cons h, List.map_cons]
          simp only [List.append_assoc, List.singleton_append] at next
          simp only [impl_ReachArcs.l0, hlt, h0, b1, if_true, arc_at l i h, e1, g0, reached_eq r.2, Option.bind_some, wsucc h (show l.length ≤ 9223372036854775807 by omega)]
          by_cases c : rd D l[i].f0 < 99999 ∧ rd D l[i].f0 ≤ m
          · have e : farA m D l[i] = mn l[i].f2 (wrap64 (m - rd D l[i].f0)) := by unfold farA; rw [if_pos c]
            rw [e] at next ⊢
            simp only [c, and_self, decide_true, if_true]
            exact next
          · have e : farA m D l[i] = -1 := by unfold farA; rw [if_neg c]
            rw [e] at next ⊢
            simp only [c, decide_false, Bool.false_eq_true, if_false]
            exact next
        · have hlt : ¬ (i : Int) < (l.length : Int) := by omega
          simp only [impl_ReachArcs.l0, hlt, if_false]
          refine ev_now fun k => ?_
          rw [List.drop_of_length_le (by omega)]
          simp
end Go.Proofs.Ythgihpbpebbebaa.Pure
