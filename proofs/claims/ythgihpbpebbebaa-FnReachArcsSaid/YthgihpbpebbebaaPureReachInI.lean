import Derived.Test.YthgihpbpebbebaaPureNodes
import Derived.Test.YthgihpbpebbebaaFKinds
import Derived.Test.YthgihpbpebbebaaFimplReachIn
import Derived.Test.YthgihpbpebbebaaFimplreached
import Derived.Test.YthgihpbpebbebaaFtextcore
namespace Go.Proofs.Ythgihpbpebbebaa.Pure
open Go.RowKit Go.Proofs.Ythgihpbpebbebaa.F Go.Proofs.YthgihpbpebbebaaW.PrintWords
set_option linter.unusedVariables false
set_option linter.unusedSimpArgs false
/-! ### what can be reached -/
theorem reached_eq {d most : Int} (h : d ≤ 99999) : impl_reached.f d most = some (decide (d < 99999 ∧ d ≤ most)) := by
  unfold impl_reached.f
  by_cases e : d = 99999
  · rw [if_pos e]; simp; omega
  · rw [if_neg e]
    have : d < 99999 := by omega
    simp [this]
/-- The nodes within a cost, from number i on. -/
def inL (most : Int) : List Int → Nat → List Int
  | [], _ => []
  | d :: ds, i => if d < 99999 ∧ d ≤ most then (i : Int) :: inL most ds (i + 1) else inL most ds (i + 1)
theorem inL_length (most : Int) (l : List Int) : ∀ i, (inL most l i).length ≤ l.length := by
  induction l with
  | nil => intro i; simp [inL]
  | cons d ds ih => intro i; have := ih (i + 1); unfold inL; split <;> simp <;> omega
def InV (n : Int) (l : List S31) (a m : Int) (V : List Int) : Prop := V.length ≤ 8 ∧ ((netOkB n l && inB a 0 (wrap64 (n - 1))) = true → ∃ D, Dist n l a D ∧ V = inL m D 0) ∧ ((netOkB n l && inB a 0 (wrap64 (n - 1))) = false → V = [])
theorem reachInI_val (n : Int) (l : List S31) (a m : Int) : ∃ V, InV n l a m V ∧ Ev (fun k => impl_ReachIn.f k n l a m) V := by
  unfold impl_ReachIn.f
  simp only [nodesIn_eq, Option.bind_some, hasB1]
  cases hok : netOkB n l with
  | false => exact ⟨[], ⟨by simp, fun h => by simp [hok] at h, fun _ => rfl⟩, ev_now fun k => by simp⟩
  | true =>
    have hn := net1_of hok
    have hlo := hn.lo
    have hhi := hn.hi
    cases ha : inB a 0 (wrap64 (n - 1)) with
    | false => exact ⟨[], ⟨by simp, fun h => by simp [ha] at h, fun _ => rfl⟩, ev_now fun k => by simp⟩
    | true =>
      obtain ⟨D, hD⟩ := dist_ex hn (node_of hn ha)
      have hlen := hD.inv.len
      refine ⟨inL m D 0, ⟨by have := inL_length m D 0; omega, fun _ => ⟨D, hD, rfl⟩, fun h => by simp [hok, ha] at h⟩, ?_⟩
      · have b0 : (0 : Int) ≤ n := by omega
        have b2 : n.toNat ≤ 35184372088832 := by omega
        simp only [Bool.and_self, if_true, b0, b2]
        refine Ev.bind hD.impl ?_
        have := ev_ind (fun k (s : Nat × List Int) => impl_ReachIn.l0 k m s.2 D (D.length : Int) (s.1 : Int)) (fun s => D.length - s.1) (fun s => s.1 ≤ D.length ∧ s.2.length ≤ s.1) (fun s => s.2 ++ inL m (D.drop s.1) s.1) ?_ (0, []) ⟨Nat.zero_le _, by simp⟩
        · simpa using this
        rintro ⟨i, x⟩ ⟨hi, hx⟩ ih
        simp only at hi hx ih ⊢
        by_cases h : i < D.length
        · have hlt : (i : Int) < (D.length : Int) := by omega
          have h0 : (0 : Int) ≤ (i : Int) := by omega
          have b1 : x.length < 17592186044416 := by omega
          have r := hD.inv.rng i (by omega) (by omega)
          rw [rd_at D i h] at r
          simp only [impl_ReachIn.l0, hlt, h0, b1, if_true, rd_at D i h, reached_eq r.2, Option.bind_some, wsucc h (show D.length ≤ 9223372036854775807 by omega)]
          rw [List.drop_eq_getElem_cons h, inL]
          by_cases c : D[i] < 99999 ∧ D[i] ≤ m
          · simp only [c, and_self, decide_true, if_true]
            refine ev_at (ih (i + 1, x ++ [(i : Int)]) ⟨by simp; omega, by simp; omega⟩ (by simp; omega)) ?_
            simp only [List.append_assoc, List.singleton_append]
          · simp only [c, decide_false, Bool.false_eq_true, if_false]
            exact ih (i + 1, x) ⟨by simp; omega, by simp; omega⟩ (by simp; omega)
        · have hlt : ¬ (i : Int) < (D.length : Int) := by omega
          simp only [impl_ReachIn.l0, hlt, if_false]
          refine ev_now fun k => ?_
          rw [List.drop_of_length_le (by omega)]
          simp [inL]
end Go.Proofs.Ythgihpbpebbebaa.Pure
