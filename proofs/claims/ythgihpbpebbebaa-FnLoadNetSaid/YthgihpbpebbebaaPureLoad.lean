import Derived.Test.YthgihpbpebbebaaPureBase
import Derived.Test.YthgihpbpebbebaaFKinds
import Derived.Test.YthgihpbpebbebaaFimplArc102
import Derived.Test.YthgihpbpebbebaaFimplNetloaded
import Derived.Test.YthgihpbpebbebaaFspecl18For
namespace Go.Proofs.Ythgihpbpebbebaa.Pure
open Go.RowKit Go.Proofs.Ythgihpbpebbebaa.F Go.Proofs.YthgihpbpebbebaaW.PrintWords
set_option linter.unusedVariables false
set_option linter.unusedSimpArgs false
/-! ### nets for a load -/
/-- The numbers of the arcs over which so much may go, from number i on. -/
def kept (a : Int) : List S31 → Nat → List Int
  | [], _ => []
  | x :: xs, i => if x.f4 ≥ a then (i : Int) :: kept a xs (i + 1) else kept a xs (i + 1)
def loadL (l : List S31) (a : Int) : List S31 := l.filter fun x => decide (x.f4 ≥ a)
theorem arc_eta' (x : S31) : (⟨x.f0, x.f1, x.f2, x.f3, x.f4⟩ : S31) = x := rfl
theorem loadL_length (l : List S31) (a : Int) : (loadL l a).length ≤ l.length := List.length_filter_le _ _
theorem loaded_ev (n : Int) (l : List S31) (a : Int) (hl : l.length ≤ 1000) : Ev (fun k => impl_Net_loaded.f k n l a) (n, loadL l a, kept a l 0) := by
  unfold impl_Net_loaded.f
  have := ev_ind (fun k (s : Nat × List Int × List S31) => impl_Net_loaded.l0 k a s.2.1 l (l.length : Int) (s.1 : Int) n s.2.2) (fun s => l.length - s.1) (fun s => s.1 ≤ l.length ∧ s.2.1.length ≤ s.1 ∧ s.2.2.length ≤ s.1) (fun s => (n, s.2.2 ++ loadL (l.drop s.1) a, s.2.1 ++ kept a (l.drop s.1) s.1)) ?_ (0, [], []) ⟨Nat.zero_le _, by simp, by simp⟩
  · simpa using this
  rintro ⟨i, q, x⟩ ⟨hi, hq, hx⟩ ih
  simp only at hi hq hx ih ⊢
  by_cases h : i < l.length
  · have hlt : (i : Int) < (l.length : Int) := by omega
    have h0 : (0 : Int) ≤ (i : Int) := by omega
    have b1 : x.length < 3518437208883 := by omega
    have b2 : q.length < 17592186044416 := by omega
    simp only [impl_Net_loaded.l0, hlt, h0, if_true, arc_at l i h, wsucc h (show l.length ≤ 9223372036854775807 by omega), b1, b2, arc_eta']
    rw [List.drop_eq_getElem_cons h]
    by_cases hc : l[i].f4 ≥ a
    · simp only [hc, if_true]
      refine ev_at (ih (i + 1, q ++ [(i : Int)], x ++ [l[i]]) ⟨by simp; omega, by simp; omega, by simp; omega⟩ (by simp; omega)) ?_
      simp [loadL, kept, hc, List.append_assoc, -List.getElem_cons_drop, List.filter_cons]
    · simp only [hc, if_false]
      refine ev_at (ih (i + 1, q, x) ⟨by simp; omega, by simp; omega, by simp; omega⟩ (by simp; omega)) ?_
      simp [loadL, kept, hc, -List.getElem_cons_drop, List.filter_cons]
  · have hlt : ¬ (i : Int) < (l.length : Int) := by omega
    simp only [impl_Net_loaded.l0, hlt, if_false, impl_Arc_102.f, Option.bind_some]
    refine ev_now fun k => ?_
    rw [List.drop_of_length_le (by omega)]
    simp [loadL, kept]
theorem l18For_ev (n : Int) (l : List S31) (a : Int) (hl : l.length ≤ 1000) : Ev (fun k => spec_l18For.f k n l a) (n, loadL l a) := by
  unfold spec_l18For.f
  have := ev_ind (fun k (s : Nat × List S31) => spec_l18For.l0 k a (s.1 : Int) n l n s.2) (fun s => l.length - s.1) (fun s => s.1 ≤ l.length ∧ s.2.length ≤ s.1) (fun s => (n, s.2 ++ loadL (l.drop s.1) a)) ?_ (0, []) ⟨Nat.zero_le _, by simp⟩
  · simpa using this
  rintro ⟨i, x⟩ ⟨hi, hx⟩ ih
  simp only at hi hx ih ⊢
  by_cases h : i < l.length
  · have hlt : (i : Int) < (l.length : Int) := by omega
    have h0 : (0 : Int) ≤ (i : Int) := by omega
    have b1 : x.length < 3518437208883 := by omega
    simp only [spec_l18For.l0, hlt, h0, if_true, arc_at l i h, wsucc h (show l.length ≤ 9223372036854775807 by omega), b1, arc_eta']
    rw [List.drop_eq_getElem_cons h]
    by_cases hc : l[i].f4 ≥ a
    · simp only [hc, if_true]
      refine ev_at (ih (i + 1, x ++ [l[i]]) ⟨by simp; omega, by simp; omega⟩ (by simp; omega)) ?_
      simp [loadL, hc, List.append_assoc, -List.getElem_cons_drop, List.filter_cons]
    · simp only [hc, if_false]
      refine ev_at (ih (i + 1, x) ⟨by simp; omega, by simp; omega⟩ (by simp; omega)) ?_
      simp [loadL, hc, -List.getElem_cons_drop, List.filter_cons]
  · have hlt : ¬ (i : Int) < (l.length : Int) := by omega
    simp only [spec_l18For.l0, hlt, if_false]
    refine ev_now fun k => ?_
    rw [List.drop_of_length_le (by omega)]
    simp [loadL]
end Go.Proofs.Ythgihpbpebbebaa.Pure
