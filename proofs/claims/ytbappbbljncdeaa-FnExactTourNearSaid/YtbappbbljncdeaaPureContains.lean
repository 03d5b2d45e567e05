import Derived.Test.YtbappbbljncdeaaPureBase
import Derived.Test.YtbappbbljncdeaaFslicesIn
import Derived.Test.YtbappbbljncdeaaFspecl12In
namespace Go.Proofs.Ytbappbbljncdeaa.Pure
open Go.RowKit Go.Proofs.Ytbappbbljncdeaa.F Go.Proofs.YtbappbbljncdeaaW.PrintWords
set_option linter.unusedVariables false
set_option linter.unusedSimpArgs false
/-! ### is a number there -/
theorem l12In_ev (l : List Int) (x : Int) (hl : l.length ≤ 9223372036854775807) : Ev (fun k => spec_l12In.f k l x) (l.contains x) := by
  unfold spec_l12In.f
  have := ev_ind (fun k (i : Nat) => spec_l12In.l0 k l x (i : Int)) (fun i => l.length - i) (fun i => i ≤ l.length) (fun i => (l.drop i).contains x) ?_ 0 (Nat.zero_le _)
  · simpa using this
  intro i hi ih
  by_cases h : i < l.length
  · have hlt : (i : Int) < (l.length : Int) := by omega
    have h0 : (0 : Int) ≤ (i : Int) := by omega
    simp only [spec_l12In.l0, hlt, h0, if_true, rd_at l i h, wsucc h hl]
    rw [List.drop_eq_getElem_cons h, List.contains_cons]
    by_cases he : l[i] = x
    · exact ev_now fun k => by simp [he]
    · have he' : (x == l[i]) = false := beq_eq_false_iff_ne.2 (fun e => he e.symm)
      simp only [he, if_false, he', Bool.false_or]
      exact ih (i + 1) (by omega) (by omega)
  · have hlt : ¬ (i : Int) < (l.length : Int) := by omega
    simp only [spec_l12In.l0, hlt, if_false]
    rw [List.drop_of_length_le (by omega)]
    exact ev_now fun k => rfl
theorem index_loop (l : List Int) (x : Int) (hl : l.length ≤ 9223372036854775807) : ∃ r : Int, Ev (fun k => slices_Index_int_int.f k l x) r ∧ decide (r ≥ 0) = l.contains x := by
  unfold slices_Index_int_int.f
  have key : ∀ d i : Nat, l.length - i ≤ d → i ≤ l.length → ∃ r : Int, Ev (fun k => slices_Index_int_int.l0 k l x (l.length : Int) (i : Int)) r ∧ decide (r ≥ 0) = (l.drop i).contains x := by
    intro d
    induction d with
    | zero =>
      intro i hd hi
      refine ⟨-1, ev_shift ?_, ?_⟩
      · have hlt : ¬ (i : Int) < (l.length : Int) := by omega
        simp only [slices_Index_int_int.l0, hlt, if_false]
        exact ev_now fun k => rfl
      · rw [List.drop_of_length_le (by omega)]; rfl
    | succ d ihd =>
      intro i hd hi
      by_cases h : i < l.length
      · have hlt : (i : Int) < (l.length : Int) := by omega
        have h0 : (0 : Int) ≤ (i : Int) := by omega
        by_cases he : x = l[i]
        · refine ⟨i, ev_shift ?_, ?_⟩
          · simp only [slices_Index_int_int.l0, hlt, h0, if_true, rd_at l i h]
            exact ev_now fun k => by simp only [he, if_true]
          · rw [List.drop_eq_getElem_cons h, List.contains_cons, he]; simp
        · obtain ⟨r, hr, hc⟩ := ihd (i + 1) (by omega) (by omega)
          refine ⟨r, ev_shift ?_, ?_⟩
          · simp only [slices_Index_int_int.l0, hlt, h0, if_true, rd_at l i h, he, if_false, wsucc h hl]
            exact hr
          · rw [hc, List.drop_eq_getElem_cons h, List.contains_cons, beq_eq_false_iff_ne.2 he, Bool.false_or]
      · refine ⟨-1, ev_shift ?_, ?_⟩
        · have hlt : ¬ (i : Int) < (l.length : Int) := by omega
          simp only [slices_Index_int_int.l0, hlt, if_false]
          exact ev_now fun k => rfl
        · rw [List.drop_of_length_le (by omega)]; rfl
  have := key l.length 0 (by omega) (by omega)
  simpa using this
theorem contains_ev (l : List Int) (x : Int) (hl : l.length ≤ 9223372036854775807) : Ev (fun k => slices_Contains_int_int.f k l x) (l.contains x) := by
  unfold slices_Contains_int_int.f
  obtain ⟨r, hr, hc⟩ := index_loop l x hl
  exact Ev.bind hr (ev_now fun k => by rw [hc])
end Go.Proofs.Ytbappbbljncdeaa.Pure
