import Derived.Test.YthgihpbpebbebaaPureBase
import Derived.Test.YthgihpbpebbebaaPureContains
import Derived.Test.YthgihpbpebbebaaFKinds
import Derived.Test.YthgihpbpebbebaaFimplNetshare
import Derived.Test.YthgihpbpebbebaaFimplSomeShare
import Derived.Test.YthgihpbpebbebaaFimplWalkOk
import Derived.Test.YthgihpbpebbebaaFspecSomeShare
import Derived.Test.YthgihpbpebbebaaFspecl14Share
import Derived.Test.YthgihpbpebbebaaFspecl2Ok
import Derived.Test.YthgihpbpebbebaaFtextcore
namespace Go.Proofs.Ythgihpbpebbebaa.Pure
open Go.RowKit Go.Proofs.Ythgihpbpebbebaa.F Go.Proofs.YthgihpbpebbebaaW.PrintWords
set_option linter.unusedVariables false
set_option linter.unusedSimpArgs false
/-! ### walks -/
theorem range_all (p : Nat → Bool) (i n : Nat) (h : i < n) : (List.range' i (n - i)).all p = (p i && (List.range' (i + 1) (n - (i + 1))).all p) := by
  obtain ⟨d, hd⟩ : ∃ d, n - i = d + 1 := ⟨n - i - 1, by omega⟩
  rw [hd, List.range'_succ, List.all_cons, show n - (i + 1) = d by omega]
theorem range_none (p : Nat → Bool) (n : Nat) : (List.range' n (n - n)).all p = true := by simp
/-- Is arc number i of a walk there, and does it begin where the one ahead ends. -/
def chk (l : List S31) (w : List Int) (i : Nat) : Bool := inB (w.getD i 0) 0 (wrap64 ((l.length : Int) - 1)) && (decide (i = 0) || (rd_T31 l (w.getD (i - 1) 0)).f1 == (rd_T31 l (w.getD i 0)).f0)
def chainB (l : List S31) (w : List Int) : Bool := (List.range' 0 w.length).all (chk l w)
def walkB (l : List S31) (w : List Int) : Bool := chainB l w && decide (w.length ≤ 20)
theorem arc_in {l : List S31} {x : Int} (hl : l.length ≤ 9223372036854775807) (h : inB x 0 (wrap64 ((l.length : Int) - 1)) = true) : 0 ≤ x ∧ x < (l.length : Int) := by
  rw [inB_iff, w_id (by omega) (by omega)] at h
  omega
theorem l2Ok_loop (n : Int) (l : List S31) (w : List Int) (hl : l.length ≤ 9223372036854775807) (hw : w.length ≤ 9223372036854775807) :
    Ev (fun k => spec_l2Ok.l0 k w (0 : Nat) n l) ((List.range' 0 (w.length - 0)).all (chk l w) && decide (w.length ≤ 20)) := by
  refine ev_ind (fun k (i : Nat) => spec_l2Ok.l0 k w (i : Int) n l) (fun i => w.length - i) (fun i => i ≤ w.length ∧ ∀ j, j < i → inB (w.getD j 0) 0 (wrap64 ((l.length : Int) - 1)) = true) (fun i => (List.range' i (w.length - i)).all (chk l w) && decide (w.length ≤ 20)) ?_ 0 ⟨Nat.zero_le _, fun j hj => absurd hj (Nat.not_lt_zero _)⟩
  rintro i ⟨hi, hp⟩ ih
  by_cases h : i < w.length
  · have hlt : (i : Int) < (w.length : Int) := by omega
    have h0 : (0 : Int) ≤ (i : Int) := by omega
    rw [range_all _ _ _ h]
    simp only [spec_l2Ok.l0, hlt, h0, if_true, l1In_eq, Option.bind_some, wsucc h hw]
    have ih' := fun hin => ih (i + 1) ⟨by omega, hin⟩ (by omega)
    generalize (List.range' (i + 1) (w.length - (i + 1))).all (chk l w) = q at ih' ⊢
    unfold chk
    rw [rd_nat]
    cases hb : inB (w.getD i 0) 0 (wrap64 ((l.length : Int) - 1)) with
    | false => exact ev_now fun k => by simp
    | true =>
      have hin : ∀ j, j < i + 1 → inB (w.getD j 0) 0 (wrap64 ((l.length : Int) - 1)) = true := by
        intro j hj
        by_cases e : j = i
        · subst e; exact hb
        · exact hp j (by omega)
      obtain ⟨b0, b1⟩ := arc_in hl hb
      by_cases hi0 : i = 0
      · subst hi0
        have hn : ¬ ((0 : Nat) : Int) > 0 := by omega
        simp only [hn, if_true, if_false]
        simpa using ih' hin
      · have hn : ((i : Nat) : Int) > 0 := by omega
        have hp1 := hp (i - 1) (by omega)
        obtain ⟨c0, c1⟩ := arc_in hl hp1
        have hw1 : wrap64 ((i : Int) - 1) = ((i - 1 : Nat) : Int) := wpred (by omega) (by omega)
        have g0 : (0 : Int) ≤ ((i - 1 : Nat) : Int) := by omega
        have g1 : ((i - 1 : Nat) : Int) < (w.length : Int) := by omega
        simp only [hn, if_true, b0, b1, hw1, g0, g1, rd_nat, c0, c1, hi0, decide_false, Bool.false_or, Bool.true_and]
        by_cases he : (rd_T31 l (w.getD i 0)).f0 = (rd_T31 l (w.getD (i - 1) 0)).f1
        · simp only [he, if_true]
          simpa using ih' hin
        · have he' : ((rd_T31 l (w.getD (i - 1) 0)).f1 == (rd_T31 l (w.getD i 0)).f0) = false := beq_eq_false_iff_ne.2 (fun x => he x.symm)
          exact ev_now fun k => by simp only [he, he', if_false, Bool.false_and]
  · have hlt : ¬ (i : Int) < (w.length : Int) := by omega
    have he : i = w.length := by omega
    subst he
    simp only [spec_l2Ok.l0, hlt, if_false, range_none, Bool.true_and]
    exact ev_now fun k => by simp; omega
theorem l2Ok_ev (n : Int) (l : List S31) (w : List Int) (hl : l.length ≤ 9223372036854775807) (hw : w.length ≤ 9223372036854775807) : Ev (fun k => spec_l2Ok.f k n l w) (walkB l w) := l2Ok_loop n l w hl hw
theorem walkOk_loop (n : Int) (l : List S31) (w : List Int) (hl : l.length ≤ 9223372036854775807) (hw : w.length ≤ 9223372036854775807) :
    Ev (fun k => impl_WalkOk.l0 k w w (w.length : Int) (0 : Nat) n l) ((List.range' 0 (w.length - 0)).all (chk l w)) := by
  refine ev_ind (fun k (i : Nat) => impl_WalkOk.l0 k w w (w.length : Int) (i : Int) n l) (fun i => w.length - i) (fun i => i ≤ w.length ∧ ∀ j, j < i → inB (w.getD j 0) 0 (wrap64 ((l.length : Int) - 1)) = true) (fun i => (List.range' i (w.length - i)).all (chk l w)) ?_ 0 ⟨Nat.zero_le _, fun j hj => absurd hj (Nat.not_lt_zero _)⟩
  rintro i ⟨hi, hp⟩ ih
  by_cases h : i < w.length
  · have hlt : (i : Int) < (w.length : Int) := by omega
    have h0 : (0 : Int) ≤ (i : Int) := by omega
    rw [range_all _ _ _ h]
    simp only [impl_WalkOk.l0, hlt, h0, if_true, within_eq, Option.bind_some, wsucc h hw]
    have ih' := fun hin => ih (i + 1) ⟨by omega, hin⟩ (by omega)
    generalize (List.range' (i + 1) (w.length - (i + 1))).all (chk l w) = q at ih' ⊢
    unfold chk
    rw [rd_nat]
    cases hb : inB (w.getD i 0) 0 (wrap64 ((l.length : Int) - 1)) with
    | false => exact ev_now fun k => by simp
    | true =>
      have hin : ∀ j, j < i + 1 → inB (w.getD j 0) 0 (wrap64 ((l.length : Int) - 1)) = true := by
        intro j hj
        by_cases e : j = i
        · subst e; exact hb
        · exact hp j (by omega)
      obtain ⟨b0, b1⟩ := arc_in hl hb
      by_cases hi0 : i = 0
      · subst hi0
        have hn : ¬ ((0 : Nat) : Int) > 0 := by omega
        simp only [hn, if_true, if_false]
        simpa using ih' hin
      · have hn : ((i : Nat) : Int) > 0 := by omega
        have hp1 := hp (i - 1) (by omega)
        obtain ⟨c0, c1⟩ := arc_in hl hp1
        have hw1 : wrap64 ((i : Int) - 1) = ((i - 1 : Nat) : Int) := wpred (by omega) (by omega)
        have g0 : (0 : Int) ≤ ((i - 1 : Nat) : Int) := by omega
        have g1 : ((i - 1 : Nat) : Int) < (w.length : Int) := by omega
        simp only [hn, if_true, b0, b1, hw1, g0, g1, rd_nat, c0, c1, hi0, decide_false, Bool.false_or, Bool.true_and]
        by_cases he : (rd_T31 l (w.getD (i - 1) 0)).f1 = (rd_T31 l (w.getD i 0)).f0
        · simp only [he, if_true]
          simpa using ih' hin
        · have he' : ((rd_T31 l (w.getD (i - 1) 0)).f1 == (rd_T31 l (w.getD i 0)).f0) = false := beq_eq_false_iff_ne.2 he
          exact ev_now fun k => by simp only [he, he', if_false, Bool.false_and]
  · have hlt : ¬ (i : Int) < (w.length : Int) := by omega
    have he : i = w.length := by omega
    subst he
    simp only [impl_WalkOk.l0, hlt, if_false, range_none]
    exact ev_now fun k => rfl
theorem walkOk_ev (n : Int) (l : List S31) (w : List Int) (hl : l.length ≤ 9223372036854775807) (hw : w.length ≤ 9223372036854775807) : Ev (fun k => impl_WalkOk.f k n l w) (netOkB n l && walkB l w) := by
  unfold impl_WalkOk.f
  simp only [netOk_eq, Option.bind_some]
  cases netOkB n l with
  | false => exact ev_shift (ev_now fun k => by simp [impl_WalkOk.j0])
  | true =>
    simp only [if_true]
    refine ev_shift ?_
    unfold walkB chainB
    by_cases h : w.length ≤ 20
    · have h1 : ¬ decide ((w.length : Int) > 20) = true := by simp; omega
      simp only [impl_WalkOk.j0, h1, if_false]
      simpa [h] using walkOk_loop n l w hl hw
    · have h1 : decide ((w.length : Int) > 20) = true := by simp; omega
      simp only [impl_WalkOk.j0, h1, if_true]
      exact ev_now fun k => by simp [h]
theorem walkAt_in {l : List S31} {w : List Int} (hl : l.length ≤ 9223372036854775807) (h : walkB l w = true) (i : Nat) (hi : i < w.length) : 0 ≤ w[i] ∧ w[i] < (l.length : Int) := by
  unfold walkB chainB at h
  rw [Bool.and_eq_true, List.all_eq_true] at h
  have h1 := h.1 i (by rw [List.mem_range'_1]; omega)
  unfold chk at h1
  rw [Bool.and_eq_true] at h1
  have := arc_in hl h1.1
  rwa [List.getD_eq_getElem?_getD, List.getElem?_eq_getElem hi] at this
/-! ### what walks share -/
/-- The cost of the arcs of the first that are among the second, added up as the machine adds. -/
def shareFrom (l : List S31) (b : List Int) : List Int → Int → Int
  | [], acc => acc
  | x :: xs, acc => shareFrom l b xs (if b.contains x then wrap64 (acc + (rd_T31 l x).f2) else acc)
theorem l14Share_ev (n : Int) (l : List S31) (a b : List Int) (hl : l.length ≤ 9223372036854775807) (ha : a.length ≤ 9223372036854775807) (hb : b.length ≤ 9223372036854775807) (hin : ∀ (i : Nat) (hi : i < a.length), 0 ≤ a[i] ∧ a[i] < (l.length : Int)) :
    Ev (fun k => spec_l14Share.f k n l a b) (shareFrom l b a 0) := by
  unfold spec_l14Share.f
  have := ev_ind (fun k (s : Nat × Int) => spec_l14Share.l0 k a b s.2 (s.1 : Int) n l) (fun s => a.length - s.1) (fun s => s.1 ≤ a.length) (fun s => shareFrom l b (a.drop s.1) s.2) ?_ (0, 0) (Nat.zero_le _)
  · simpa using this
  rintro ⟨i, acc⟩ hi ih
  simp only at hi ih ⊢
  by_cases h : i < a.length
  · have hlt : (i : Int) < (a.length : Int) := by omega
    have h0 : (0 : Int) ≤ (i : Int) := by omega
    obtain ⟨b0, b1⟩ := hin i h
    simp only [spec_l14Share.l0, hlt, h0, if_true, rd_at a i h, wsucc h ha, b0, b1]
    refine Ev.bind (l12In_ev b a[i] hb) ?_
    rw [List.drop_eq_getElem_cons h]
    unfold shareFrom
    by_cases hc : b.contains a[i] = true
    · simp only [hc, if_true]
      exact ih (i + 1, wrap64 (acc + (rd_T31 l a[i]).f2)) (by simp; omega) (by simp; omega)
    · simp only [hc, if_false]
      exact ih (i + 1, acc) (by simp; omega) (by simp; omega)
  · have hlt : ¬ (i : Int) < (a.length : Int) := by omega
    simp only [spec_l14Share.l0, hlt, if_false]
    rw [List.drop_of_length_le (by omega)]
    exact ev_now fun k => rfl
theorem share_ev (n : Int) (l : List S31) (a b : List Int) (hl : l.length ≤ 9223372036854775807) (ha : a.length ≤ 9223372036854775807) (hb : b.length ≤ 9223372036854775807) (hin : ∀ (i : Nat) (hi : i < a.length), 0 ≤ a[i] ∧ a[i] < (l.length : Int)) :
    Ev (fun k => impl_Net_share.f k n l a b) (shareFrom l b a 0) := by
  unfold impl_Net_share.f
  have := ev_ind (fun k (s : Nat × Int) => impl_Net_share.l0 k b s.2 a (a.length : Int) (s.1 : Int) n l) (fun s => a.length - s.1) (fun s => s.1 ≤ a.length) (fun s => shareFrom l b (a.drop s.1) s.2) ?_ (0, 0) (Nat.zero_le _)
  · simpa using this
  rintro ⟨i, acc⟩ hi ih
  simp only at hi ih ⊢
  by_cases h : i < a.length
  · have hlt : (i : Int) < (a.length : Int) := by omega
    have h0 : (0 : Int) ≤ (i : Int) := by omega
    obtain ⟨b0, b1⟩ := hin i h
    simp only [impl_Net_share.l0, hlt, h0, if_true, rd_at a i h, wsucc h ha, b0, b1]
    refine Ev.bind (contains_ev b a[i] hb) ?_
    rw [List.drop_eq_getElem_cons h]
    unfold shareFrom
    by_cases hc : b.contains a[i] = true
    · simp only [hc, if_true]
      exact ih (i + 1, wrap64 (acc + (rd_T31 l a[i]).f2)) (by simp; omega) (by simp; omega)
    · simp only [hc, if_false]
      exact ih (i + 1, acc) (by simp; omega) (by simp; omega)
  · have hlt : ¬ (i : Int) < (a.length : Int) := by omega
    simp only [impl_Net_share.l0, hlt, if_false]
    rw [List.drop_of_length_le (by omega)]
    exact ev_now fun k => rfl
/-- What SomeShare tells. -/
def someShareV (n : Int) (l : List S31) (a b : List Int) : Int := if (netOkB n l && walkB l a) = true then (if (netOkB n l && walkB l b) = true then shareFrom l b a 0 else -1) else -1
theorem specSomeShare_ev (n : Int) (l : List S31) (a b : List Int) (hl : l.length ≤ 9223372036854775807) (ha : a.length ≤ 9223372036854775807) (hb : b.length ≤ 9223372036854775807) :
    Ev (fun k => spec_SomeShare.f k n l a b) (someShareV n l a b) := by
  unfold spec_SomeShare.f someShareV
  refine Ev.bind (l1Ok_ev n l hl) ?_
  cases netOkB n l with
  | false => exact ev_now fun k => by simp
  | true =>
    simp only [if_true, Bool.true_and]
    refine Ev.bind (l2Ok_ev n l a hl ha) ?_
    cases h1 : walkB l a with
    | false => exact ev_now fun k => by simp
    | true =>
      simp only [if_true]
      refine Ev.bind (l2Ok_ev n l b hl hb) ?_
      cases h2 : walkB l b with
      | false => exact ev_now fun k => by simp
      | true =>
        simp only [if_true]
        exact Ev.bind (l14Share_ev n l a b hl ha hb (walkAt_in hl h1)) (ev_now fun k => rfl)
theorem implSomeShare_ev (n : Int) (l : List S31) (a b : List Int) (hl : l.length ≤ 9223372036854775807) (ha : a.length ≤ 9223372036854775807) (hb : b.length ≤ 9223372036854775807) :
    Ev (fun k => impl_SomeShare.f k n l a b) (someShareV n l a b) := by
  unfold impl_SomeShare.f someShareV
  refine Ev.bind (walkOk_ev n l a hl ha) ?_
  cases h1 : (netOkB n l && walkB l a) with
  | false => exact ev_now fun k => by simp
  | true =>
    simp only [if_true]
    refine Ev.bind (walkOk_ev n l b hl hb) ?_
    cases h2 : (netOkB n l && walkB l b) with
    | false => exact ev_now fun k => by simp
    | true =>
      simp only [if_true]
      refine Ev.bind (share_ev n l a b hl ha hb (walkAt_in hl ?_)) (ev_now fun k => rfl)
      rw [Bool.and_eq_true] at h1
      exact h1.2
end Go.Proofs.Ythgihpbpebbebaa.Pure
