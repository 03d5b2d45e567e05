import Derived.Test.YthgihpbpebbebaaPureWalk
import Derived.Test.YthgihpbpebbebaaPureNear
import Derived.Test.YthgihpbpebbebaaFKinds
import Derived.Test.YthgihpbpebbebaaFimplNetcost
import Derived.Test.YthgihpbpebbebaaFimplWalkCost
import Derived.Test.YthgihpbpebbebaaFtextcore
namespace Go.Proofs.Ythgihpbpebbebaa.Pure
open Go.RowKit Go.Proofs.Ythgihpbpebbebaa.F Go.Proofs.YthgihpbpebbebaaW.PrintWords
set_option linter.unusedVariables false
set_option linter.unusedSimpArgs false
/-! ### what walks cost, and what they share -/
def costS (l : List S31) : List Int → Int
  | [] => 0
  | x :: xs => (rd_T31 l x).f2 + costS l xs
def shareS (l : List S31) (b : List Int) : List Int → Int
  | [] => 0
  | x :: xs => (if b.contains x then (rd_T31 l x).f2 else 0) + shareS l b xs
theorem arc_cost {n : Int} {l : List S31} (hn : Net1 n l) {x : Int} (h0 : 0 ≤ x) (h1 : x < (l.length : Int)) : 0 ≤ (rd_T31 l x).f2 ∧ (rd_T31 l x).f2 ≤ 99 := by
  obtain ⟨j, rfl⟩ := Int.eq_ofNat_of_zero_le h0
  rw [arc_at l j (by omega)]
  obtain ⟨_, _, _, _, _, h2, h3, _⟩ := hn.ends _ (List.getElem_mem (show j < l.length by omega))
  exact ⟨h2, h3⟩
theorem costS_rng {n : Int} {l : List S31} (hn : Net1 n l) : ∀ a : List Int, (∀ x ∈ a, 0 ≤ x ∧ x < (l.length : Int)) → 0 ≤ costS l a ∧ costS l a ≤ 99 * (a.length : Int) := by
  intro a
  induction a with
  | nil => intro _; simp [costS]
  | cons x xs ih =>
    intro h
    have h1 := h x (by simp)
    have h2 := arc_cost hn h1.1 h1.2
    have h3 := ih fun y hy => h y (by simp [hy])
    simp only [costS, List.length_cons]
    omega
theorem shareS_rng {n : Int} {l : List S31} (hn : Net1 n l) (b : List Int) : ∀ a : List Int, (∀ x ∈ a, 0 ≤ x ∧ x < (l.length : Int)) → 0 ≤ shareS l b a ∧ shareS l b a ≤ costS l a := by
  intro a
  induction a with
  | nil => intro _; simp [costS, shareS]
  | cons x xs ih =>
    intro h
    have h1 := h x (by simp)
    have h2 := arc_cost hn h1.1 h1.2
    have h3 := ih fun y hy => h y (by simp [hy])
    simp only [costS, shareS]
    split <;> omega
theorem shareS_self (l : List S31) (b : List Int) : ∀ a : List Int, (∀ x ∈ a, x ∈ b) → shareS l b a = costS l a := by
  intro a
  induction a with
  | nil => intro _; rfl
  | cons x xs ih =>
    intro h
    have h1 := h x (by simp)
    have h2 := ih fun y hy => h y (by simp [hy])
    have h3 : b.contains x = true := by rw [List.contains_iff_mem]; exact h1
    simp only [costS, shareS, h3, if_true, h2]
theorem shareS_append (l : List S31) (b : List Int) : ∀ a c : List Int, shareS l b (a ++ c) = shareS l b a + shareS l b c := by
  intro a c
  induction a with
  | nil => simp [shareS]
  | cons x xs ih => simp only [List.cons_append, shareS, ih]; omega
theorem costS_append (l : List S31) : ∀ a c : List Int, costS l (a ++ c) = costS l a + costS l c := by
  intro a c
  induction a with
  | nil => simp [costS]
  | cons x xs ih => simp only [List.cons_append, costS, ih]; omega
theorem shareS_nil (l : List S31) : ∀ a : List Int, shareS l [] a = 0 := by
  intro a
  induction a with
  | nil => rfl
  | cons x xs ih => simp [shareS, ih]
theorem shareFrom_eq {n : Int} {l : List S31} (hn : Net1 n l) (b : List Int) : ∀ (a : List Int) (acc : Int), (∀ x ∈ a, 0 ≤ x ∧ x < (l.length : Int)) → 0 ≤ acc → acc + 99 * (a.length : Int) ≤ 1000000 → shareFrom l b a acc = acc + shareS l b a := by
  intro a
  induction a with
  | nil => intro acc _ _ _; simp [shareFrom, shareS]
  | cons x xs ih =>
    intro acc h h0 h1
    have h2 := h x (by simp)
    have h3 := arc_cost hn h2.1 h2.2
    simp only [List.length_cons] at h1
    unfold shareFrom shareS
    by_cases hc : b.contains x = true
    · rw [if_pos hc, if_pos hc, w_id (by omega) (by omega), ih _ (fun y hy => h y (by simp [hy])) (by omega) (by omega)]
      omega
    · rw [if_neg hc, if_neg hc, ih _ (fun y hy => h y (by simp [hy])) (by omega) (by omega)]
      omega
theorem walk_in {l : List S31} {w : List Int} (hl : l.length ≤ 9223372036854775807) (h : walkB l w = true) : ∀ x ∈ w, 0 ≤ x ∧ x < (l.length : Int) := by
  intro x hx
  obtain ⟨i, hi, rfl⟩ := List.getElem_of_mem hx
  exact walkAt_in hl h i hi
theorem walk_len {l : List S31} {w : List Int} (h : walkB l w = true) : w.length ≤ 20 := by
  unfold walkB at h
  simp only [Bool.and_eq_true, decide_eq_true_eq] at h
  exact h.2
theorem cost_ev {n : Int} {l : List S31} (hn : Net1 n l) (a : List Int) (ha : ∀ x ∈ a, 0 ≤ x ∧ x < (l.length : Int)) (hl : a.length ≤ 10000) : Ev (fun k => impl_Net_cost.f k n l a) (costS l a) := by
  unfold impl_Net_cost.f
  have hll := hn.len
  have := ev_ind (fun k (s : Nat × Int) => impl_Net_cost.l0 k s.2 a (a.length : Int) (s.1 : Int) n l) (fun s => a.length - s.1) (fun s => s.1 ≤ a.length ∧ 0 ≤ s.2 ∧ s.2 ≤ 99 * (s.1 : Int)) (fun s => s.2 + costS l (a.drop s.1)) ?_ (0, 0) ⟨Nat.zero_le _, by simp, by simp⟩
  · simpa using this
  rintro ⟨i, acc⟩ ⟨hi, h1, h2⟩ ih
  simp only at hi h1 h2 ih ⊢
  by_cases h : i < a.length
  · have hlt : (i : Int) < (a.length : Int) := by omega
    have h0 : (0 : Int) ≤ (i : Int) := by omega
    obtain ⟨b0, b1⟩ := ha _ (List.getElem_mem h)
    have hc := arc_cost hn b0 b1
    have hw : wrap64 (acc + (rd_T31 l a[i]).f2) = acc + (rd_T31 l a[i]).f2 := w_id (by omega) (by omega)
    simp only [impl_Net_cost.l0, hlt, h0, if_true, rd_at a i h, wsucc h (show a.length ≤ 9223372036854775807 by omega), b0, b1, hw]
    refine ev_at (ih (i + 1, acc + (rd_T31 l a[i]).f2) ⟨by simp; omega, by simp; omega, by simp; omega⟩ (by simp; omega)) ?_
    rw [List.drop_eq_getElem_cons h]
    simp only [costS]
    omega
  · have hlt : ¬ (i : Int) < (a.length : Int) := by omega
    simp only [impl_Net_cost.l0, hlt, if_false]
    refine ev_now fun k => ?_
    rw [List.drop_of_length_le (by omega)]
    simp [costS]
theorem walkCost_ev {n : Int} {l : List S31} (hok : netOkB n l = true) (a : List Int) (ha : walkB l a = true) : Ev (fun k => impl_WalkCost.f k n l a) (costS l a) := by
  have hn := net1_of hok
  have hll := hn.len
  have h20 := walk_len ha
  unfold impl_WalkCost.f
  refine Ev.bind (walkOk_ev n l a (by omega) (by omega)) ?_
  simp only [hok, ha, Bool.and_self, if_true]
  exact Ev.bind (cost_ev hn a (walk_in (by omega) ha) (by omega)) (ev_now fun _ => rfl)
theorem chainB_iff (l : List S31) (w : List Int) : chainB l w = true ↔ ∀ i, i < w.length → chk l w i = true := by
  unfold chainB
  rw [List.all_eq_true]
  constructor
  · intro h i hi; exact h i (by rw [List.mem_range'_1]; omega)
  · intro h i hi; rw [List.mem_range'_1] at hi; exact h i (by omega)
theorem walkB_take {l : List S31} {w : List Int} (h : walkB l w = true) (k : Nat) : walkB l (w.take k) = true := by
  unfold walkB at h ⊢
  simp only [Bool.and_eq_true, decide_eq_true_eq, chainB_iff, List.length_take] at h ⊢
  refine ⟨fun i hi => ?_, by omega⟩
  have h1 := h.1 i (by omega)
  have e1 : (w.take k).getD i 0 = w.getD i 0 := by rw [List.getD_eq_getElem?_getD, List.getD_eq_getElem?_getD, List.getElem?_take, if_pos (by omega)]
  have e2 : (w.take k).getD (i - 1) 0 = w.getD (i - 1) 0 := by rw [List.getD_eq_getElem?_getD, List.getD_eq_getElem?_getD, List.getElem?_take, if_pos (by omega)]
  unfold chk at h1 ⊢
  rw [e1, e2]
  exact h1
theorem walkB_drop {l : List S31} {w : List Int} (h : walkB l w = true) (k : Nat) : walkB l (w.drop k) = true := by
  unfold walkB at h ⊢
  simp only [Bool.and_eq_true, decide_eq_true_eq, chainB_iff, List.length_drop] at h ⊢
  refine ⟨fun i hi => ?_, by omega⟩
  have h1 := h.1 (k + i) (by omega)
  have e1 : (w.drop k).getD i 0 = w.getD (k + i) 0 := by rw [List.getD_eq_getElem?_getD, List.getD_eq_getElem?_getD, List.getElem?_drop]
  unfold chk at h1 ⊢
  rw [e1]
  by_cases hi0 : i = 0
  · subst hi0
    simp only [Bool.and_eq_true] at h1
    simp only [decide_true, Bool.true_or, Bool.and_true]
    exact h1.1
  · have e2 : (w.drop k).getD (i - 1) 0 = w.getD (k + i - 1) 0 := by rw [List.getD_eq_getElem?_getD, List.getD_eq_getElem?_getD, List.getElem?_drop, show k + (i - 1) = k + i - 1 by omega]
    rw [e2]
    simpa [hi0, show ¬ (k + i = 0) by omega] using h1
theorem someShareV_ok {n : Int} {l : List S31} (hok : netOkB n l = true) {a b : List Int} (ha : walkB l a = true) (hb : walkB l b = true) : someShareV n l a b = shareS l b a := by
  have hn := net1_of hok
  have hll := hn.len
  have h20 := walk_len ha
  unfold someShareV
  simp only [hok, ha, hb, Bool.and_self, if_true]
  rw [shareFrom_eq hn b a 0 (walk_in (by omega) ha) (by omega) (by omega)]
  omega
end Go.Proofs.Ythgihpbpebbebaa.Pure
