import Derived.Test.YthgihpbpebbebaaPureDraw
import Derived.Test.YthgihpbpebbebaaFKinds
import Derived.Test.YthgihpbpebbebaaFspecl30AnyNet
import Derived.Test.YthgihpbpebbebaaFspecl30Net
import Derived.Test.YthgihpbpebbebaaFspecl30Node
namespace Go.Proofs.Ythgihpbpebbebaa.Pure
open Go.RowKit Go.Proofs.Ythgihpbpebbebaa.F Go.Proofs.YthgihpbpebbebaaW.PrintWords
set_option linter.unusedVariables false
set_option linter.unusedSimpArgs false
/-! ### nets, nodes and walks that are drawn -/
theorem l30Net_loop {b : List Int} (hb : Bytes b) {n : Int} (hn : 2 ≤ n ∧ n ≤ 6) : ∀ (m : Nat) (l : List S31) (p : Int), l.length + m ≤ 13 → 0 ≤ p → p + 6 * m ≤ 100000 →
    ∃ l' q, Ev (fun k => spec_l30Net.l0 k (m : Int) b p n l) (n, l', q) ∧ l'.length ≤ 13 ∧ 0 ≤ q ∧ q ≤ p + 6 * m := by
  intro m
  induction m with
  | zero =>
    intro l p hl hp hq
    exact ⟨l, p, ev_shift (ev_now fun k => by simp [spec_l30Net.l0]), by omega, hp, by omega⟩
  | succ m ih =>
    intro l p hl hp hq
    obtain ⟨v1, e1, _⟩ := pick_ex hb hp (by omega) (n := n) (by omega)
    obtain ⟨v2, e2, _⟩ := pick_ex hb (p := p + 1) (by omega) (by omega) (n := n) (by omega)
    obtain ⟨v3, e3, _⟩ := pick_ex hb (p := p + 1 + 1) (by omega) (by omega) (n := 100) (by omega)
    obtain ⟨v4, _, e4⟩ := one_ex hb (p := p + 1 + 1 + 1) (by omega) (by omega) [0, 1, 2, 5, 9, v3] (by simp) (by simp)
    obtain ⟨v5, _, e5⟩ := one_ex hb (p := p + 1 + 1 + 1 + 1) (by omega) (by omega) [0, 0, 3, 8] (by simp) (by simp)
    obtain ⟨v6, e6, _⟩ := pick_ex hb (p := p + 1 + 1 + 1 + 1 + 1) (by omega) (by omega) (n := 10) (by omega)
    have hpos : ((m + 1 : Nat) : Int) > 0 := by omega
    have hw : wrap64 (((m + 1 : Nat) : Int) - 1) = (m : Int) := by rw [w_id (by omega) (by omega)]; omega
    have hlen : l.length < 3518437208883 := by omega
    have hn0 : ¬ n = 0 := by omega
    by_cases hv : v1 = v2
    · obtain ⟨l', q, he, h1, h2, h3⟩ := ih (l ++ [⟨v1, Int.tmod (wrap64 (v2 + 1)) n, v4, v5, v6⟩]) (p + 1 + 1 + 1 + 1 + 1 + 1) (by rw [List.length_append]; simp; omega) (by omega) (by omega)
      refine ⟨l', q, ev_shift ?_, h1, h2, by omega⟩
      simp only [spec_l30Net.l0, hpos, if_true]
      refine Ev.bind e1 (Ev.bind e2 (Ev.bind e3 (Ev.bind e4 (Ev.bind e5 (Ev.bind e6 ?_)))))
      simp only [hv, hn0, hlen, if_true, if_false, hw]
      rw [hv] at he
      exact he
    · obtain ⟨l', q, he, h1, h2, h3⟩ := ih (l ++ [⟨v1, v2, v4, v5, v6⟩]) (p + 1 + 1 + 1 + 1 + 1 + 1) (by rw [List.length_append]; simp; omega) (by omega) (by omega)
      refine ⟨l', q, ev_shift ?_, h1, h2, by omega⟩
      simp only [spec_l30Net.l0, hpos, if_true]
      refine Ev.bind e1 (Ev.bind e2 (Ev.bind e3 (Ev.bind e4 (Ev.bind e5 (Ev.bind e6 ?_)))))
      simp only [hv, hlen, if_true, if_false, hw]
      exact he
theorem l30Net_ex {b : List Int} (hb : Bytes b) {p : Int} (hp : 0 ≤ p) (hp2 : p ≤ 90000) :
    ∃ n l q, Ev (fun k => spec_l30Net.f k b p) (n, l, q) ∧ l.length ≤ 13 ∧ 0 ≤ q ∧ q ≤ p + 100 ∧ 2 ≤ n ∧ n ≤ 6 := by
  obtain ⟨v1, e1, h1, h1', _⟩ := pick_ex hb hp (by omega) (n := 5) (by omega)
  obtain ⟨v2, e2, h2, h2', _⟩ := pick_ex hb (p := p + 1) (by omega) (by omega) (n := 14) (by omega)
  have h1' := h1' (by omega)
  have h2' := h2' (by omega)
  obtain ⟨m, rfl⟩ := Int.eq_ofNat_of_zero_le h2
  have hw : wrap64 (2 + v1) = 2 + v1 := w_id (by omega) (by omega)
  obtain ⟨l, q, he, h3, h4, h5⟩ := l30Net_loop hb (n := 2 + v1) (by omega) m [] (p + 1 + 1) (by simp; omega) (by omega) (by omega)
  refine ⟨2 + v1, l, q, ?_, h3, h4, by omega, by omega, by omega⟩
  unfold spec_l30Net.f
  refine Ev.bind e1 (Ev.bind e2 ?_)
  rw [hw]
  exact he
theorem l30AnyNet_ex {b : List Int} (hb : Bytes b) {p : Int} (hp : 0 ≤ p) (hp2 : p ≤ 90000) :
    ∃ n l q, Ev (fun k => spec_l30AnyNet.f k b p) (n, l, q) ∧ l.length ≤ 13 ∧ 0 ≤ q ∧ q ≤ p + 200 ∧ n ≤ 1000000 := by
  obtain ⟨n, l, q, he, h1, h2, h3, h4, h5⟩ := l30Net_ex hb hp hp2
  unfold spec_l30AnyNet.f
  by_cases hl : (l.length : Int) > 0
  · obtain ⟨v1, e1, g1, g2, _⟩ := pick_ex hb h2 (by omega) (n := (l.length : Int)) (by omega)
    have g2 := g2 (by omega)
    obtain ⟨v2, e2, _⟩ := pick_ex hb (p := q + 1) (by omega) (by omega) (n := 16) (by omega)
    by_cases c0 : v2 = 0
    · obtain ⟨v3, _, e3⟩ := one_ex hb (p := q + 1 + 1) (by omega) (by omega) [(-1), 8, (rd_T31 l v1).f0] (by simp) (by simp)
      refine ⟨n, l.set v1.toNat (⟨(rd_T31 l v1).f0, v3, (rd_T31 l v1).f2, (rd_T31 l v1).f3, (rd_T31 l v1).f4⟩ : S31), q + 1 + 1 + 1, Ev.bind he ?_, ?_, ?_, ?_, ?_⟩
      · simp only [hl, if_true]
        refine Ev.bind e1 (Ev.bind e2 ?_)
        simp only [c0, if_true, g1, g2]
        exact Ev.bind e3 (ev_now fun _ => rfl)
      · rw [List.length_set]; exact h1
      · omega
      · omega
      · omega
    · by_cases c1 : v2 = 1
      · obtain ⟨v3, _, e3⟩ := one_ex hb (p := q + 1 + 1) (by omega) (by omega) [(-1), 100] (by simp) (by simp)
        refine ⟨n, l.set v1.toNat (⟨(rd_T31 l v1).f0, (rd_T31 l v1).f1, v3, (rd_T31 l v1).f3, (rd_T31 l v1).f4⟩ : S31), q + 1 + 1 + 1, Ev.bind he ?_, ?_, ?_, ?_, ?_⟩
        · simp only [hl, if_true]
          refine Ev.bind e1 (Ev.bind e2 ?_)
          simp only [c1, if_true, show ¬ (1 : Int) = 0 by omega, if_false]
          refine Ev.bind e3 ?_
          simp only [g1, g2, if_true]
          exact ev_now fun _ => rfl
        · rw [List.length_set]; exact h1
        · omega
        · omega
        · omega
      · by_cases c2 : v2 = 2
        · obtain ⟨v3, hv3, e3⟩ := one_ex hb (p := q + 1 + 1) (by omega) (by omega) [0, 1, 9, 8] (by simp) (by simp)
          refine ⟨v3, l, q + 1 + 1 + 1, Ev.bind he ?_, h1, by omega, by omega, by simp only [List.mem_cons, List.not_mem_nil, or_false] at hv3; omega⟩
          simp only [hl, if_true]
          refine Ev.bind e1 (Ev.bind e2 ?_)
          simp only [c2, if_true, show ¬ (2 : Int) = 0 by omega, show ¬ (2 : Int) = 1 by omega, if_false]
          exact Ev.bind e3 (ev_now fun _ => rfl)
        · refine ⟨n, l, q + 1 + 1, Ev.bind he ?_, h1, by omega, by omega, by omega⟩
          simp only [hl, if_true]
          refine Ev.bind e1 (Ev.bind e2 ?_)
          simp only [c0, c1, c2, if_false]
          exact ev_now fun _ => rfl
  · refine ⟨n, l, q, Ev.bind he ?_, h1, h2, by omega, by omega⟩
    simp only [hl, if_false]
    exact ev_now fun _ => rfl
theorem l30Node_ex {b : List Int} (hb : Bytes b) {p : Int} (hp : 0 ≤ p) (hp2 : p ≤ 90000) (n : Int) (hn : n ≤ 1000000) (l : List S31) :
    ∃ v q, Ev (fun k => spec_l30Node.f k b p n l) (v, q) ∧ 0 ≤ q ∧ q ≤ p + 10 := by
  obtain ⟨v1, e1, _⟩ := pick_ex hb hp (by omega) (n := 16) (by omega)
  unfold spec_l30Node.f
  by_cases c : v1 = 0
  · obtain ⟨v2, _, e2⟩ := one_ex hb (p := p + 1) (by omega) (by omega) [(-1), n] (by simp) (by simp)
    refine ⟨v2, p + 1 + 1, Ev.bind e1 ?_, by omega, by omega⟩
    simp only [c, if_true]
    exact Ev.bind e2 (ev_now fun _ => rfl)
  · obtain ⟨v2, e2, _⟩ := pick_ex hb (p := p + 1) (by omega) (by omega) (n := n) hn
    refine ⟨v2, p + 1 + 1, Ev.bind e1 ?_, by omega, by omega⟩
    simp only [c, if_false]
    exact Ev.bind e2 (ev_now fun _ => rfl)
end Go.Proofs.Ythgihpbpebbebaa.Pure
