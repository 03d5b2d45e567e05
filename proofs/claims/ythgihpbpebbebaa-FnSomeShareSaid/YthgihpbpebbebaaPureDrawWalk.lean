import Derived.Test.YthgihpbpebbebaaPureDrawNet
import Derived.Test.YthgihpbpebbebaaPureNear
import Derived.Test.YthgihpbpebbebaaFKinds
import Derived.Test.YthgihpbpebbebaaFspecl30AnyWalk
import Derived.Test.YthgihpbpebbebaaFspecl30Walk
import Derived.Test.YthgihpbpebbebaaFtextcore
namespace Go.Proofs.Ythgihpbpebbebaa.Pure
open Go.RowKit Go.Proofs.Ythgihpbpebbebaa.F Go.Proofs.YthgihpbpebbebaaW.PrintWords
set_option linter.unusedVariables false
set_option linter.unusedSimpArgs false
/-! ### walks that are drawn -/
theorem l30Walk_l1 {b : List Int} (hb : Bytes b) {n : Int} {l : List S31} (hl : l.length ≤ 1000) (w : List Int) (hw : w.length ≤ 1000) (v m p : Int) (hp : 0 ≤ p) (hp2 : p ≤ 1000000) (P : List Int × Int → Prop) (hend : P (w, p))
    (next : ∀ x, 0 ≤ x → x < (l.length : Int) → ∃ R, P R ∧ Ev (fun k => spec_l30Walk.l0 k (w ++ [x]) (rd_T31 l x).f1 (wrap64 (m - 1)) b (p + 1) n l) R) :
    ∃ R, P R ∧ Ev (fun k => spec_l30Walk.l1 k w v m [] 0 b p n l) R := by
  refine ev_ex (fun k (s : Nat × List Int) => spec_l30Walk.l1 k w v m s.2 (s.1 : Int) b p n l) (fun s => l.length - s.1) (fun s => s.1 ≤ l.length ∧ s.2.length ≤ s.1 ∧ ∀ x ∈ s.2, 0 ≤ x ∧ x < (l.length : Int)) P ?_ (0, []) ⟨Nat.zero_le _, by simp, fun x hx => by cases hx⟩
  rintro ⟨i, out⟩ ⟨hi, ho, hx⟩ ih
  simp only at hi ho hx ih ⊢
  by_cases h : i < l.length
  · have hlt : (i : Int) < (l.length : Int) := by omega
    have h0 : (0 : Int) ≤ (i : Int) := by omega
    have b1 : out.length < 17592186044416 := by omega
    simp only [spec_l30Walk.l1, hlt, h0, if_true, b1, wsucc h (show l.length ≤ 9223372036854775807 by omega)]
    by_cases e : (rd_T31 l (i : Int)).f0 = v
    · simp only [e, if_true]
      refine ih (i + 1, out ++ [(i : Int)]) ⟨by simp; omega, by simp; omega, ?_⟩ (by simp; omega)
      intro x hx'
      simp only [List.mem_append, List.mem_singleton] at hx'
      rcases hx' with hx' | rfl
      · exact hx x hx'
      · omega
    · simp only [e, if_false]
      exact ih (i + 1, out) ⟨by simp; omega, by simp; omega, hx⟩ (by simp; omega)
  · have hlt : ¬ (i : Int) < (l.length : Int) := by omega
    simp only [spec_l30Walk.l1, hlt, if_false]
    by_cases hz : (out.length : Int) = 0
    · simp only [hz, if_true]
      exact ⟨(w, p), hend, ev_now fun _ => rfl⟩
    · simp only [hz, if_false]
      obtain ⟨y, e, v0, v1, _⟩ := pick_ex hb hp hp2 (n := (out.length : Int)) (by omega)
      have v1 := v1 (by omega)
      obtain ⟨j, rfl⟩ := Int.eq_ofNat_of_zero_le v0
      have hj : j < out.length := by omega
      have hm := hx _ (List.getElem_mem hj)
      obtain ⟨R, hR, he⟩ := next out[j] hm.1 hm.2
      refine ⟨R, hR, Ev.bind e ?_⟩
      have b2 : w.length < 17592186044416 := by omega
      simp only [v0, v1, b2, if_true, rd_at out j hj, hm.1, hm.2]
      exact he
theorem l30Walk_loop {b : List Int} (hb : Bytes b) {n : Int} {l : List S31} (hl : l.length ≤ 1000) : ∀ (m : Nat) (w : List Int) (v p : Int), w.length + m ≤ 30 → 0 ≤ p → p + m ≤ 100000 →
    ∃ R : List Int × Int, (R.1.length ≤ w.length + m ∧ 0 ≤ R.2 ∧ R.2 ≤ p + m) ∧ Ev (fun k => spec_l30Walk.l0 k w v (m : Int) b p n l) R := by
  intro m
  induction m with
  | zero =>
    intro w v p h1 h2 h3
    exact ⟨(w, p), ⟨by simp, h2, by simp⟩, ev_shift (ev_now fun k => by simp [spec_l30Walk.l0])⟩
  | succ m ih =>
    intro w v p h1 h2 h3
    have hpos : ((m + 1 : Nat) : Int) > 0 := by omega
    have hw : wrap64 (((m + 1 : Nat) : Int) - 1) = (m : Int) := by rw [w_id (by omega) (by omega)]; omega
    obtain ⟨R, hR, he⟩ := l30Walk_l1 hb hl w (by omega) v ((m + 1 : Nat) : Int) p h2 (by omega) (fun R : List Int × Int => R.1.length ≤ w.length + (m + 1) ∧ 0 ≤ R.2 ∧ R.2 ≤ p + ((m + 1 : Nat) : Int)) ⟨by simp, h2, by simp; omega⟩ (n := n) (by
      intro x _ _
      rw [hw]
      obtain ⟨R, hR, he⟩ := ih (w ++ [x]) (rd_T31 l x).f1 (p + 1) (by simp; omega) (by omega) (by omega)
      refine ⟨R, ⟨?_, hR.2.1, by omega⟩, he⟩
      have := hR.1
      simp only [List.length_append, List.length_singleton] at this
      omega)
    refine ⟨R, hR, ev_shift ?_⟩
    simp only [spec_l30Walk.l0, hpos, if_true]
    exact he
theorem l30Walk_ex {b : List Int} (hb : Bytes b) (n : Int) {l : List S31} (hl : l.length ≤ 1000) (v : Int) {p m : Int} (hp : 0 ≤ p) (hp2 : p ≤ 90000) (hm : 0 ≤ m) (hm2 : m ≤ 25) :
    ∃ R : List Int × Int, (R.1.length ≤ 25 ∧ 0 ≤ R.2 ∧ R.2 ≤ p + 30) ∧ Ev (fun k => spec_l30Walk.f k b p n l v m) R := by
  have hw : wrap64 (m + 1) = m + 1 := w_id (by omega) (by omega)
  obtain ⟨v1, e1, g0, g1, _⟩ := pick_ex hb hp (by omega) (n := m + 1) (by omega)
  have g1 := g1 (by omega)
  obtain ⟨j, rfl⟩ := Int.eq_ofNat_of_zero_le g0
  obtain ⟨R, hR, he⟩ := l30Walk_loop hb (n := n) hl j [] v (p + 1) (by simp; omega) (by omega) (by omega)
  simp only [List.length_nil, Nat.zero_add] at hR
  refine ⟨R, ⟨by omega, hR.2.1, by omega⟩, ?_⟩
  unfold spec_l30Walk.f
  rw [hw]
  exact Ev.bind e1 he
theorem l30AnyWalk_ex {b : List Int} (hb : Bytes b) (n : Int) {l : List S31} (hl : l.length ≤ 1000) {p : Int} (hp : 0 ≤ p) (hp2 : p ≤ 80000) :
    ∃ w q, Ev (fun k => spec_l30AnyWalk.f k b p n l) (w, q) ∧ w.length ≤ 30 ∧ 0 ≤ q ∧ q ≤ p + 100 := by
  unfold spec_l30AnyWalk.f
  cases hok : netOkB n l with
  | false =>
    refine ⟨[0], p, Ev.bind (l1Ok_ev n l (by omega)) ?_, by simp, hp, by omega⟩
    simp only [hok, Bool.false_eq_true, if_false]
    exact ev_now fun _ => rfl
  | true =>
    have hn := net1_of hok
    have hhi := hn.hi
    obtain ⟨v1, e1, _⟩ := pick_ex hb hp (by omega) (n := n) (by omega)
    obtain ⟨v2, hv2, e2⟩ := one_ex hb (p := p + 1) (by omega) (by omega) [3, 8, 21] (by simp) (by simp)
    have hv : 0 ≤ v2 ∧ v2 ≤ 25 := by simp only [List.mem_cons, List.not_mem_nil, or_false] at hv2; omega
    obtain ⟨⟨w, q⟩, ⟨r1, r2, r3⟩, e3⟩ := l30Walk_ex hb n hl v1 (p := p + 1 + 1) (m := v2) (by omega) (by omega) hv.1 hv.2
    simp only at r1 r2 r3
    obtain ⟨v4, e4, _⟩ := pick_ex hb r2 (by omega) (n := 10) (by omega)
    by_cases c : v4 = 0
    · obtain ⟨v5, e5, _⟩ := pick_ex hb (p := q + 1) (by omega) (by omega) (n := 17) (by omega)
      refine ⟨w ++ [wrap64 (v5 - 1)], q + 1 + 1, Ev.bind (l1Ok_ev n l (by omega)) ?_, by simp; omega, by omega, by omega⟩
      have b1 : w.length < 17592186044416 := by omega
      simp only [hok, if_true]
      refine Ev.bind e1 (Ev.bind e2 (Ev.bind e3 (Ev.bind e4 ?_)))
      simp only [c, if_true]
      refine Ev.bind e5 ?_
      simp only [b1, if_true]
      exact ev_now fun _ => rfl
    · refine ⟨w, q + 1, Ev.bind (l1Ok_ev n l (by omega)) ?_, by omega, by omega, by omega⟩
      simp only [hok, if_true]
      refine Ev.bind e1 (Ev.bind e2 (Ev.bind e3 (Ev.bind e4 ?_)))
      simp only [c, if_false]
      exact ev_now fun _ => rfl
end Go.Proofs.Ythgihpbpebbebaa.Pure
