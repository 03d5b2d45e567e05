import Derived.Test.YthgihpbpebbebaaPureBase
import Derived.Test.YthgihpbpebbebaaFwkNet
namespace Go.Proofs.Ythgihpbpebbebaa.Pure
open Go.RowKit Go.Proofs.Ythgihpbpebbebaa.F Go.Proofs.YthgihpbpebbebaaW.PrintWords
set_option linter.unusedVariables false
set_option linter.unusedSimpArgs false
/-! ### the laws' own tests of lists -/
theorem ev_uniq {α : Type} {g : Nat → Option α} {a b : α} (h : Ev g a) (h' : Ev g b) : a = b := by
  obtain ⟨K, h⟩ := h
  obtain ⟨K', h'⟩ := h'
  have h1 := h (max K K') (by omega)
  rw [h' (max K K') (by omega)] at h1
  exact (Option.some.inj h1).symm
theorem wkInts_self (l : List Int) (hl : l.length ≤ 9223372036854775807) : Ev (fun k => laws_wkInts.f k l l) true := by
  unfold laws_wkInts.f
  simp only [if_true]
  refine ev_ind (fun k (i : Nat) => laws_wkInts.l0 k l l (i : Int)) (fun i => l.length - i) (fun i => i ≤ l.length) (fun _ => true) ?_ 0 (Nat.zero_le _)
  intro i hi ih
  by_cases h : i < l.length
  · have hlt : (i : Int) < (l.length : Int) := by omega
    have h0 : (0 : Int) ≤ (i : Int) := by omega
    simp only [laws_wkInts.l0, hlt, h0, if_true, wsucc h hl]
    exact ih (i + 1) (by omega) (by omega)
  · have hlt : ¬ (i : Int) < (l.length : Int) := by omega
    simp only [laws_wkInts.l0, hlt, if_false]
    exact ev_now fun _ => rfl
theorem wkIn_ev (l : List Int) (x : Int) (hl : l.length ≤ 9223372036854775807) : Ev (fun k => laws_wkIn.f k l x) (l.contains x) := by
  unfold laws_wkIn.f
  refine ev_at (ev_ind (fun k (i : Nat) => laws_wkIn.l0 k l x (i : Int)) (fun i => l.length - i) (fun i => i ≤ l.length) (fun i => (l.drop i).contains x) ?_ 0 (Nat.zero_le _)) (by rw [List.drop_zero])
  intro i hi ih
  by_cases h : i < l.length
  · have hlt : (i : Int) < (l.length : Int) := by omega
    have h0 : (0 : Int) ≤ (i : Int) := by omega
    have next := ih (i + 1) (by omega) (by omega)
    simp only [laws_wkIn.l0, hlt, h0, if_true, rd_at l i h, wsucc h hl]
    rw [List.drop_eq_getElem_cons h, List.contains_cons]
    by_cases e : l[i] = x
    · simp only [e, if_true, beq_self_eq_true, Bool.true_or]
      exact ev_now fun _ => rfl
    · have e' : (x == l[i]) = false := beq_eq_false_iff_ne.2 (fun z => e z.symm)
      simp only [e, if_false, e', Bool.false_or]
      exact next
  · have hlt : ¬ (i : Int) < (l.length : Int) := by omega
    simp only [laws_wkIn.l0, hlt, if_false]
    refine ev_now fun k => ?_
    rw [List.drop_of_length_le (by omega)]
    rfl
end Go.Proofs.Ythgihpbpebbebaa.Pure
