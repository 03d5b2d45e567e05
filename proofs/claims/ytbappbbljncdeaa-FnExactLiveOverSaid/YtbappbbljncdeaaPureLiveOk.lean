import Derived.Test.YtbappbbljncdeaaPureNewsAt
import Derived.Test.YtbappbbljncdeaaFKinds
import Derived.Test.YtbappbbljncdeaaFimplLiveOk
import Derived.Test.YtbappbbljncdeaaFimplnewsOk
import Derived.Test.YtbappbbljncdeaaFspecl16Ok
import Derived.Test.YtbappbbljncdeaaFtextcore
namespace Go.Proofs.Ytbappbbljncdeaa.Pure
open Go.RowKit Go.Proofs.Ytbappbbljncdeaa.F Go.Proofs.YtbappbbljncdeaaW.PrintWords
set_option linter.unusedVariables false
set_option linter.unusedSimpArgs false
/-! ### nets with news -/
def newsB (m : Int) (w : S70) : Bool := inB w.f0 1 999 && (inB w.f1 0 (wrap64 (m - 1)) && inB w.f2 (-1) 99)
def newsAt (m : Int) (w : List S70) (i : Nat) : Bool := newsB m (rd_T70 w (i : Int)) && (decide (i = 0) || decide ((rd_T70 w ((i - 1 : Nat) : Int)).f0 < (rd_T70 w (i : Int)).f0))
def liveB (n : Int) (l : List S100) (w : List S70) : Bool := (List.range' 0 w.length).all (newsAt l.length w) && (netOkB n l && decide (w.length ≤ 6))
theorem implNewsOk_eq (w : S70) (m : Int) : impl_newsOk.f w.f0 w.f1 w.f2 m = some (newsB m w) := by
  unfold impl_newsOk.f newsB
  simp only [within_eq, Option.bind_some]
  cases inB w.f0 1 999 <;> cases inB w.f1 0 (wrap64 (m - 1)) <;> simp
theorem range'_step (i n : Nat) (h : i < n) : List.range' i (n - i) = i :: List.range' (i + 1) (n - (i + 1)) := by
  rw [show n - i = (n - (i + 1)) + 1 by omega, List.range'_succ]
theorem implLiveOk_ev (n : Int) (l : List S100) (w : List S70) (hw : w.length ≤ 9223372036854775807) : Ev (fun k => impl_LiveOk.f k n l w) (liveB n l w) := by
  unfold impl_LiveOk.f
  refine ev_at (ev_ind (fun k (i : Nat) => impl_LiveOk.l0 k w (w.length : Int) (i : Int) n l w) (fun i => w.length - i) (fun i => i ≤ w.length) (fun i => (List.range' i (w.length - i)).all (newsAt l.length w) && (netOkB n l && decide (w.length ≤ 6))) ?_ 0 (Nat.zero_le _)) (by unfold liveB; rfl)
  intro i hi ih
  by_cases h : i < w.length
  · have hlt : (i : Int) < (w.length : Int) := by omega
    have h0 : (0 : Int) ≤ (i : Int) := by omega
    have ih' := ih (i + 1) (by omega) (by omega)
    simp only [impl_LiveOk.l0, hlt, h0, if_true, implNewsOk_eq, Option.bind_some, wsucc h hw]
    rw [range'_step i _ h, List.all_cons]
    generalize (List.range' (i + 1) (w.length - (i + 1))).all (newsAt l.length w) = q at ih' ⊢
    unfold newsAt
    cases newsB l.length (rd_T70 w (i : Int)) with
    | false => exact ev_now fun k => by simp
    | true =>
      by_cases hz : i = 0
      · have : ¬ (i : Int) > 0 := by omega
        simp only [this, if_false, if_true, hz, decide_true, Bool.true_or, Bool.true_and]
        subst hz
        simpa using ih'
      · have hp : (i : Int) > 0 := by omega
        have hw1 := wpred (show 0 < i by omega) (show i ≤ 9223372036854775807 by omega)
        have hp0 : (0 : Int) ≤ ((i - 1 : Nat) : Int) := by omega
        have hp1 : ((i - 1 : Nat) : Int) < (w.length : Int) := by omega
        simp only [hp, hw1, hp0, hp1, if_true, hz, decide_false, Bool.false_or, Bool.true_and]
        by_cases hc : (rd_T70 w ((i - 1 : Nat) : Int)).f0 < (rd_T70 w (i : Int)).f0
        · have hc' : ¬ (rd_T70 w ((i - 1 : Nat) : Int)).f0 ≥ (rd_T70 w (i : Int)).f0 := by omega
          simp only [hc, hc', if_false, decide_true, Bool.true_and]
          exact ih'
        · have hc' : (rd_T70 w ((i - 1 : Nat) : Int)).f0 ≥ (rd_T70 w (i : Int)).f0 := by omega
          simp only [hc, hc', if_true, decide_false, Bool.false_and]
          exact ev_now fun _ => rfl
  · have hlt : ¬ (i : Int) < (w.length : Int) := by omega
    have he : w.length - i = 0 := by omega
    simp only [impl_LiveOk.l0, hlt, if_false, netOk_eq, Option.bind_some, he, List.range'_zero, List.all_nil, Bool.true_and]
    refine ev_now fun k => ?_
    cases netOkB n l <;> simp
    omega
theorem l16Ok_ev (n : Int) (l : List S100) (w : List S70) (hl : l.length ≤ 9223372036854775807) (hw : w.length ≤ 9223372036854775807) : Ev (fun k => spec_l16Ok.f k n l w) (liveB n l w) := by
  unfold spec_l16Ok.f
  refine ev_at (ev_ind (fun k (i : Nat) => spec_l16Ok.l0 k (i : Int) n l w) (fun i => w.length - i) (fun i => i ≤ w.length) (fun i => (List.range' i (w.length - i)).all (newsAt l.length w) && (netOkB n l && decide (w.length ≤ 6))) ?_ 0 (Nat.zero_le _)) (by unfold liveB; rfl)
  intro i hi ih
  by_cases h : i < w.length
  · have hlt : (i : Int) < (w.length : Int) := by omega
    have h0 : (0 : Int) ≤ (i : Int) := by omega
    have ih' := ih (i + 1) (by omega) (by omega)
    simp only [spec_l16Ok.l0, hlt, h0, if_true, l1In_eq, Option.bind_some, wsucc h hw]
    rw [range'_step i _ h, List.all_cons]
    generalize (List.range' (i + 1) (w.length - (i + 1))).all (newsAt l.length w) = q at ih' ⊢
    unfold newsAt newsB
    cases inB (rd_T70 w (i : Int)).f0 1 999 with
    | false => exact ev_now fun k => by simp
    | true =>
    cases inB (rd_T70 w (i : Int)).f1 0 (wrap64 ((l.length : Int) - 1)) with
    | false => exact ev_now fun k => by simp
    | true =>
    cases inB (rd_T70 w (i : Int)).f2 (-1) 99 with
    | false => exact ev_now fun k => by simp
    | true =>
      by_cases hz : i = 0
      · have : ¬ (i : Int) > 0 := by omega
        simp only [this, if_false, if_true, hz, decide_true, Bool.true_or, Bool.true_and]
        subst hz
        simpa using ih'
      · have hp : (i : Int) > 0 := by omega
        have hw1 := wpred (show 0 < i by omega) (show i ≤ 9223372036854775807 by omega)
        have hp0 : (0 : Int) ≤ ((i - 1 : Nat) : Int) := by omega
        have hp1 : ((i - 1 : Nat) : Int) < (w.length : Int) := by omega
        simp only [hp, hw1, hp0, hp1, if_true, hz, decide_false, Bool.false_or, Bool.true_and]
        by_cases hc : (rd_T70 w ((i - 1 : Nat) : Int)).f0 < (rd_T70 w (i : Int)).f0
        · have hc' : ¬ (rd_T70 w (i : Int)).f0 ≤ (rd_T70 w ((i - 1 : Nat) : Int)).f0 := by omega
          simp only [hc, hc', if_false, decide_true, Bool.true_and]
          exact ih'
        · have hc' : (rd_T70 w (i : Int)).f0 ≤ (rd_T70 w ((i - 1 : Nat) : Int)).f0 := by omega
          simp only [hc, hc', if_true, decide_false, Bool.false_and]
          exact ev_now fun _ => rfl
  · have hlt : ¬ (i : Int) < (w.length : Int) := by omega
    have he : w.length - i = 0 := by omega
    simp only [spec_l16Ok.l0, hlt, if_false, he, List.range'_zero, List.all_nil, Bool.true_and]
    refine Ev.bind (l1Ok_ev n l hl) (ev_now fun k => ?_)
    cases netOkB n l <;> simp
    omega
/-- What liveB says. -/
theorem liveB_len {n : Int} {l : List S100} {w : List S70} (h : liveB n l w = true) : netOkB n l = true ∧ w.length ≤ 6 := by
  unfold liveB at h
  simp only [Bool.and_eq_true, decide_eq_true_eq] at h
  exact h.2
theorem liveB_at {n : Int} {l : List S100} {w : List S70} (h : liveB n l w = true) (i : Nat) (hi : i < w.length) : newsAt l.length w i = true := by
  unfold liveB at h
  simp only [Bool.and_eq_true, List.all_eq_true] at h
  exact h.1 i (by simp [List.mem_range']; omega)
theorem liveB_more {n : Int} {l : List S100} {w : List S70} (h : liveB n l w = true) : ∀ x ∈ w, newsB l.length x = true := by
  intro x hx
  obtain ⟨i, hi, rfl⟩ := List.getElem_of_mem hx
  have := liveB_at h i hi
  unfold newsAt at this
  rw [Bool.and_eq_true, news_at w i hi] at this
  exact this.1
end Go.Proofs.Ytbappbbljncdeaa.Pure
