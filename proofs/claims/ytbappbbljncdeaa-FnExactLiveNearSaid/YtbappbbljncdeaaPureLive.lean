import Derived.Test.YtbappbbljncdeaaPureNewsAt
import Derived.Test.YtbappbbljncdeaaFKinds
import Derived.Test.YtbappbbljncdeaaFimplArc127
import Derived.Test.YtbappbbljncdeaaFimplLiveOk
import Derived.Test.YtbappbbljncdeaaFimplLivenow
import Derived.Test.YtbappbbljncdeaaFimplnewsOk
import Derived.Test.YtbappbbljncdeaaFspecl16Now
import Derived.Test.YtbappbbljncdeaaFspecl16Ok
import Derived.Test.YtbappbbljncdeaaFtextcore
namespace Go.Proofs.Ytbappbbljncdeaa.Pure
open Go.RowKit Go.Proofs.Ytbappbbljncdeaa.F Go.Proofs.YtbappbbljncdeaaW.PrintWords
set_option linter.unusedVariables false
set_option linter.unusedSimpArgs false
/-! ### nets with news -/
def newsB (m : Int) (w : S70) : Bool := inB w.f0 1 999 && (inB w.f1 0 (wrap64 (m - 1)) && inB w.f2 (-1) 99)
def newsAt (m : Int) (w : List S70) (i : Nat) : Bool := newsB m (rd_T70 w (i : Int)) && (decide (i = 0) || decide ((rd_T70 w ((i - 1 : Nat) : Int)).f0 < (rd_T70 w (i : Int)).f0))
def liveB (n : Int) (l : List S100) (w : List S70) : Bool := (List.range' 0 w.length).all (newsAt l.length w) && (netOkB n l && decide (w.length ≤ 6))
theorem implNewsOk_eq (w : S70) (m : Int) : impl_newsOk.f w.f0 w.f1 w.f2 m = some (newsB m w) := by
  unfold impl_newsOk.f newsB
  simp only [within_eq, Option.bind_some]
  cases inB w.f0 1 999 <;> cases inB w.f1 0 (wrap64 (m - 1)) <;> simp
theorem range'_step (i n : Nat) (h : i < n) : List.range' i (n - i) = i :: List.range' (i + 1) (n - (i + 1)) := by
  rw [show n - i = (n - (i + 1)) + 1 by omega, List.range'_succ]
theorem implLiveOk_ev (n : Int) (l : List S100) (w : List S70) (hw : w.length ≤ 9223372036854775807) : Ev (fun k => impl_LiveOk.f k n l w) (liveB n l w) := by
  unfold impl_LiveOk.f
  refine ev_at (ev_ind (fun k (i : Nat) => impl_LiveOk.l0 k w (w.length : Int) (i : Int) n l w) (fun i => w.length - i) (fun i => i ≤ w.length) (fun i => (List.range' i (w.length - i)).all (newsAt l.length w) && (netOkB n l && decide (w.length ≤ 6))) ?_ 0 (Nat.zero_le _)) (by unfold liveB; rfl)
  intro i hi ih
  by_cases h : i < w.length
  · have hlt : (i : Int) < (w.length : Int) := by omega
    have h0 : (0 : Int) ≤ (i : Int) := by omega
    have ih' := ih (i + 1) (by omega) (by omega)
    simp only [impl_LiveOk.l0, hlt, h0, if_true, implNewsOk_eq, Option.bind_some, wsucc h hw]
    rw [range'_step i _ h, List.all_cons]
    generalize (List.range' (i + 1) (w.length - (i + 1))).all (newsAt l.length w) = q at ih' ⊢
    unfold newsAt
    cases newsB l.length (rd_T70 w (i : Int)) with
    | false => exact ev_now fun k => by simp
    | true =>
      by_cases hz : i = 0
      · have : ¬ (i : Int) > 0 := by omega
        simp only [this, if_false, if_true, hz, decide_true, Bool.true_or, Bool.true_and]
        subst hz
        simpa using ih'
      · have hp : (i : Int) > 0 := by omega
        have hw1 := wpred (show 0 < i by omega) (show i ≤ 9223372036854775807 by omega)
        have hp0 : (0 : Int) ≤ ((i - 1 : Nat) : Int) := by omega
        have hp1 : ((i - 1 : Nat) : Int) < (w.length : Int) := by omega
        simp only [hp, hw1, hp0, hp1, if_true, hz, decide_false, Bool.false_or, Bool.true_and]
        by_cases hc : (rd_T70 w ((i - 1 : Nat) : Int)).f0 < (rd_T70 w (i : Int)).f0
        · have hc' : ¬ (rd_T70 w ((i - 1 : Nat) : Int)).f0 ≥ (rd_T70 w (i : Int)).f0 := by omega
          simp only [hc, hc', if_false, decide_true, Bool.true_and]
          exact ih'
        · have hc' : (rd_T70 w ((i - 1 : Nat) : Int)).f0 ≥ (rd_T70 w (i : Int)).f0 := by omega
          simp only [hc, hc', if_true, decide_false, Bool.false_and]
          exact ev_now fun _ => rfl
  · have hlt : ¬ (i : Int) < (w.length : Int) := by omega
    have he : w.length - i = 0 := by omega
    simp only [impl_LiveOk.l0, hlt, if_false, netOk_eq, Option.bind_some, he, List.range'_zero, List.all_nil, Bool.true_and]
    refine ev_now fun k => ?_
    cases netOkB n l <;> simp
    omega
theorem l16Ok_ev (n : Int) (l : List S100) (w : List S70) (hl : l.length ≤ 9223372036854775807) (hw : w.length ≤ 9223372036854775807) : Ev (fun k => spec_l16Ok.f k n l w) (liveB n l w) := by
  unfold spec_l16Ok.f
  refine ev_at (ev_ind (fun k (i : Nat) => spec_l16Ok.l0 k (i : Int) n l w) (fun i => w.length - i) (fun i => i ≤ w.length) (fun i => (List.range' i (w.length - i)).all (newsAt l.length w) && (netOkB n l && decide (w.length ≤ 6))) ?_ 0 (Nat.zero_le _)) (by unfold liveB; rfl)
  intro i hi ih
  by_cases h : i < w.length
  · have hlt : (i : Int) < (w.length : Int) := by omega
    have h0 : (0 : Int) ≤ (i : Int) := by omega
    have ih' := ih (i + 1) (by omega) (by omega)
    simp only [spec_l16Ok.l0, hlt, h0, if_true, l1In_eq, Option.bind_some, wsucc h hw]
    rw [range'_step i _ h, List.all_cons]
    generalize (List.range' (i + 1) (w.length - (i + 1))).all (newsAt l.length w) = q at ih' ⊢
    unfold newsAt newsB
    cases inB (rd_T70 w (i : Int)).f0 1 999 with
    | false => exact ev_now fun k => by simp
    | true =>
    cases inB (rd_T70 w (i : Int)).f1 0 (wrap64 ((l.length : Int) - 1)) with
    | false => exact ev_now fun k => by simp
    | true =>
    cases inB (rd_T70 w (i : Int)).f2 (-1) 99 with
    | false => exact ev_now fun k => by simp
    | true =>
      by_cases hz : i = 0
      · have : ¬ (i : Int) > 0 := by omega
        simp only [this, if_false, if_true, hz, decide_true, Bool.true_or, Bool.true_and]
        subst hz
        simpa using ih'
      · have hp : (i : Int) > 0 := by omega
        have hw1 := wpred (show 0 < i by omega) (show i ≤ 9223372036854775807 by omega)
        have hp0 : (0 : Int) ≤ ((i - 1 : Nat) : Int) := by omega
        have hp1 : ((i - 1 : Nat) : Int) < (w.length : Int) := by omega
        simp only [hp, hw1, hp0, hp1, if_true, hz, decide_false, Bool.false_or, Bool.true_and]
        by_cases hc : (rd_T70 w ((i - 1 : Nat) : Int)).f0 < (rd_T70 w (i : Int)).f0
        · have hc' : ¬ (rd_T70 w (i : Int)).f0 ≤ (rd_T70 w ((i - 1 : Nat) : Int)).f0 := by omega
          simp only [hc, hc', if_false, decide_true, Bool.true_and]
          exact ih'
        · have hc' : (rd_T70 w (i : Int)).f0 ≤ (rd_T70 w ((i - 1 : Nat) : Int)).f0 := by omega
          simp only [hc, hc', if_true, decide_false, Bool.false_and]
          exact ev_now fun _ => rfl
  · have hlt : ¬ (i : Int) < (w.length : Int) := by omega
    have he : w.length - i = 0 := by omega
    simp only [spec_l16Ok.l0, hlt, if_false, he, List.range'_zero, List.all_nil, Bool.true_and]
    refine Ev.bind (l1Ok_ev n l hl) (ev_now fun k => ?_)
    cases netOkB n l <;> simp
    omega
/-- What liveB says. -/
theorem liveB_len {n : Int} {l : List S100} {w : List S70} (h : liveB n l w = true) : netOkB n l = true ∧ w.length ≤ 6 := by
  unfold liveB at h
  simp only [Bool.and_eq_true, decide_eq_true_eq] at h
  exact h.2
theorem liveB_at {n : Int} {l : List S100} {w : List S70} (h : liveB n l w = true) (i : Nat) (hi : i < w.length) : newsAt l.length w i = true := by
  unfold liveB at h
  simp only [Bool.and_eq_true, List.all_eq_true] at h
  exact h.1 i (by simp [List.mem_range']; omega)
theorem liveB_more {n : Int} {l : List S100} {w : List S70} (h : liveB n l w = true) : ∀ x ∈ w, newsB l.length x = true := by
  intro x hx
  obtain ⟨i, hi, rfl⟩ := List.getElem_of_mem hx
  have := liveB_at h i hi
  unfold newsAt at this
  rw [Bool.and_eq_true, news_at w i hi] at this
  exact this.1
/-- What news make of an arc of number k: shut, and what it costs. -/
def nowS (k : Int) : List S70 → Bool → Int → Bool × Int
  | [], s, c => (s, c)
  | w :: ws, s, c => if w.f1 = k then (if w.f2 < 0 then nowS k ws true c else nowS k ws s (wrap64 (c + w.f2))) else nowS k ws s c
def nowI (k : Int) : List S70 → Bool → Int → Bool × Int
  | [], s, c => (s, c)
  | w :: ws, s, c => if w.f1 = k then (if w.f2 = -1 then nowI k ws false c else if s = true then nowI k ws s (wrap64 (c + w.f2)) else nowI k ws s c) else nowI k ws s c
theorem nowI_false (k : Int) (ws : List S70) : ∀ c, (nowI k ws false c).1 = false := by
  induction ws with
  | nil => intro c; rfl
  | cons w ws ih => intro c; unfold nowI; split <;> (try split) <;> simp [ih]
theorem nowS_true (k : Int) (ws : List S70) : ∀ c, (nowS k ws true c).1 = true := by
  induction ws with
  | nil => intro c; rfl
  | cons w ws ih => intro c; unfold nowS; split <;> (try split) <;> simp [ih]
theorem now_same (k : Int) (ws : List S70) (h : ∀ x ∈ ws, -1 ≤ x.f2) : ∀ c, (nowI k ws true c).1 = !(nowS k ws false c).1 ∧ ((nowI k ws true c).1 = true → (nowI k ws true c).2 = (nowS k ws false c).2) := by
  induction ws with
  | nil => intro c; exact ⟨rfl, fun _ => rfl⟩
  | cons w ws ih =>
    intro c
    have hw := h w (by simp)
    have ih := ih fun x hx => h x (by simp [hx])
    unfold nowI nowS
    by_cases hk : w.f1 = k
    · by_cases hm : w.f2 < 0
      · have : w.f2 = -1 := by omega
        rw [if_pos hk, if_pos this, if_pos hk, if_pos hm]
        refine ⟨?_, fun z => ?_⟩
        · rw [nowI_false, nowS_true]; rfl
        · rw [nowI_false] at z; exact absurd z (by simp)
      · have : ¬ w.f2 = -1 := by omega
        simp only [hk, hm, this, if_true, if_false]
        exact ih _
    · simp only [hk, if_false]
      exact ih c
def nowA (w : List S70) (k : Int) (x : S100) : List S100 := if (nowS k w false x.f2).1 = true then [] else [⟨x.f0, x.f1, if (nowS k w false x.f2).2 > 99 then 99 else (nowS k w false x.f2).2, x.f3, x.f4⟩]
def nowL (w : List S70) : List S100 → Nat → List S100
  | [], _ => []
  | x :: xs, k => nowA w (k : Int) x ++ nowL w xs (k + 1)
theorem nowA_length (w : List S70) (k : Int) (x : S100) : (nowA w k x).length ≤ 1 := by unfold nowA; split <;> simp
theorem nowL_length (w : List S70) (l : List S100) : ∀ k, (nowL w l k).length ≤ l.length := by
  induction l with
  | nil => intro k; simp [nowL]
  | cons x xs ih => intro k; have := ih (k + 1); have := nowA_length w k x; simp [nowL]; omega
theorem l16Now_l1 (n : Int) (l : List S100) (w : List S70) (hw : w.length ≤ 9223372036854775807) (k : Int) (n' : Int) (out : List S100) (x : S100) (hout : out.length < 3518437208883)
    (R : Int × List S100) (hR : Ev (fun f => spec_l16Now.l0 f (wrap64 (k + 1)) n l w n' (out ++ nowA w k x)) R) :
    Ev (fun f => spec_l16Now.l1 f k false 0 n l w n' out x.f0 x.f1 x.f2 x.f3 x.f4) R := by
  refine ev_ind (fun f (s : Nat × Bool × Int) => spec_l16Now.l1 f k s.2.1 (s.1 : Int) n l w n' out x.f0 x.f1 s.2.2 x.f3 x.f4) (fun s => w.length - s.1) (fun s => s.1 ≤ w.length ∧ nowS k w false x.f2 = nowS k (w.drop s.1) s.2.1 s.2.2) (fun _ => R) ?_ (0, false, x.f2) ⟨Nat.zero_le _, by simp⟩
  rintro ⟨i, s, c⟩ ⟨hi, hs⟩ ih
  simp only at hi hs ih ⊢
  by_cases h : i < w.length
  · have hlt : (i : Int) < (w.length : Int) := by omega
    have h0 : (0 : Int) ≤ (i : Int) := by omega
    rw [List.drop_eq_getElem_cons h, nowS] at hs
    simp only [spec_l16Now.l1, hlt, h0, if_true, news_at w i h]
    by_cases hk : w[i].f1 = k
    · by_cases hm : w[i].f2 < 0
      · simp only [hk, hm, if_true, decide_true] at hs ⊢
        refine ev_shift ?_
        simp only [spec_l16Now.j2, if_true, wsucc h hw]
        exact ih (i + 1, true, c) ⟨by simp; omega, hs⟩ (by simp; omega)
      · simp only [hk, hm, if_true, if_false, decide_false] at hs ⊢
        refine ev_shift ?_
        simp only [spec_l16Now.j2, Bool.false_eq_true, if_false, if_true, hlt, h0, news_at w i h, hk, wsucc h hw]
        exact ih (i + 1, s, wrap64 (c + w[i].f2)) ⟨by simp; omega, hs⟩ (by simp; omega)
    · simp only [hk, if_false] at hs ⊢
      refine ev_shift ?_
      simp only [spec_l16Now.j2, Bool.false_eq_true, if_false, if_true, hlt, h0, news_at w i h, hk, wsucc h hw]
      exact ih (i + 1, s, c) ⟨by simp; omega, hs⟩ (by simp; omega)
  · have hlt : ¬ (i : Int) < (w.length : Int) := by omega
    rw [List.drop_of_length_le (by omega), nowS] at hs
    simp only [spec_l16Now.l1, hlt, if_false]
    unfold nowA at hR
    rw [hs] at hR
    simp only at hR
    by_cases hc : c > 99
    · cases s with
      | true => simpa [hc] using hR
      | false => simpa [hc, hout] using hR
    · cases s with
      | true => simpa [hc] using hR
      | false => simpa [hc, hout] using hR
theorem l16Now_ev (n : Int) (l : List S100) (w : List S70) (hl : l.length ≤ 1000) (hw : w.length ≤ 9223372036854775807) : Ev (fun k => spec_l16Now.f k n l w) (n, nowL w l 0) := by
  unfold spec_l16Now.f
  have := ev_ind (fun k (s : Nat × List S100) => spec_l16Now.l0 k (s.1 : Int) n l w n s.2) (fun s => l.length - s.1) (fun s => s.1 ≤ l.length ∧ s.2.length ≤ s.1) (fun s => (n, s.2 ++ nowL w (l.drop s.1) s.1)) ?_ (0, []) ⟨Nat.zero_le _, by simp⟩
  · simpa using this
  rintro ⟨i, x⟩ ⟨hi, hx⟩ ih
  simp only at hi hx ih ⊢
  by_cases h : i < l.length
  · have hlt : (i : Int) < (l.length : Int) := by omega
    have h0 : (0 : Int) ≤ (i : Int) := by omega
    simp only [spec_l16Now.l0, hlt, h0, if_true, arc_at l i h]
    refine l16Now_l1 n l w hw i n x l[i] (by omega) _ ?_
    rw [wsucc h (show l.length ≤ 9223372036854775807 by omega)]
    have ha := nowA_length w i l[i]
    refine ev_at (ih (i + 1, x ++ nowA w i l[i]) ⟨by simp; omega, by simp; omega⟩ (by simp; omega)) ?_
    rw [List.drop_eq_getElem_cons h, nowL, List.append_assoc]
  · have hlt : ¬ (i : Int) < (l.length : Int) := by omega
    simp only [spec_l16Now.l0, hlt, if_false]
    refine ev_now fun k => ?_
    rw [List.drop_of_length_le (by omega)]
    simp [nowL]
theorem now_l1 (n : Int) (l : List S100) (w : List S70) (hw : w.length ≤ 9223372036854775807) (hm : ∀ x ∈ w, -1 ≤ x.f2) (k : Int) (n' : Int) (out : List S100) (x : S100) (hout : out.length < 3518437208883)
    (R : Int × List S100) (hR : Ev (fun f => impl_Live_now.l0 f l (l.length : Int) (wrap64 (k + 1)) n l w n' (out ++ nowA w k x)) R) :
    Ev (fun f => impl_Live_now.l1 f k true l (l.length : Int) k w (w.length : Int) 0 n l w n' out x.f0 x.f1 x.f2 x.f3 x.f4) R := by
  refine ev_ind (fun f (s : Nat × Bool × Int) => impl_Live_now.l1 f k s.2.1 l (l.length : Int) k w (w.length : Int) (s.1 : Int) n l w n' out x.f0 x.f1 s.2.2 x.f3 x.f4) (fun s => w.length - s.1) (fun s => s.1 ≤ w.length ∧ nowI k w true x.f2 = nowI k (w.drop s.1) s.2.1 s.2.2) (fun _ => R) ?_ (0, true, x.f2) ⟨Nat.zero_le _, by simp⟩
  rintro ⟨i, s, c⟩ ⟨hi, hs⟩ ih
  simp only at hi hs ih ⊢
  by_cases h : i < w.length
  · have hlt : (i : Int) < (w.length : Int) := by omega
    have h0 : (0 : Int) ≤ (i : Int) := by omega
    rw [List.drop_eq_getElem_cons h, nowI] at hs
    simp only [impl_Live_now.l1, hlt, h0, if_true, news_at w i h]
    by_cases hk : w[i].f1 = k
    · simp only [hk, if_true] at hs ⊢
      refine ev_shift ?_
      by_cases hm : w[i].f2 = -1
      · simp only [hm, if_true] at hs
        simp only [impl_Live_now.j2, hm, beq_self_eq_true, if_true, wsucc h hw]
        exact ih (i + 1, false, c) ⟨by simp; omega, hs⟩ (by simp; omega)
      · have hm' : (w[i].f2 == -1) = false := beq_eq_false_iff_ne.2 hm
        simp only [hm, if_false] at hs
        simp only [impl_Live_now.j2, hm', Bool.false_eq_true, if_false, if_true, wsucc h hw]
        cases s with
        | true =>
          simp only [if_true] at hs ⊢
          exact ih (i + 1, true, wrap64 (c + w[i].f2)) ⟨by simp; omega, hs⟩ (by simp; omega)
        | false =>
          simp only [Bool.false_eq_true, if_false] at hs ⊢
          exact ih (i + 1, false, c) ⟨by simp; omega, hs⟩ (by simp; omega)
    · simp only [hk, if_false] at hs ⊢
      refine ev_shift ?_
      simp only [impl_Live_now.j2, Bool.false_eq_true, hk, if_false, wsucc h hw]
      exact ih (i + 1, s, c) ⟨by simp; omega, hs⟩ (by simp; omega)
  · have hlt : ¬ (i : Int) < (w.length : Int) := by omega
    rw [List.drop_of_length_le (by omega), nowI] at hs
    simp only [impl_Live_now.l1, hlt, if_false]
    obtain ⟨e1, e2⟩ := now_same k w hm x.f2
    rw [hs] at e1 e2
    simp only at e1 e2
    unfold nowA at hR
    cases s with
    | true =>
      have e1' : (nowS k w false x.f2).1 = false := by simpa using e1.symm
      rw [← e2 rfl] at hR
      simp only [e1', Bool.false_eq_true, if_false] at hR
      have hmn : mn c 99 = if c > 99 then 99 else c := by unfold mn; by_cases hq : c > 99 <;> simp [hq] <;> omega
      simpa [hout, hmn] using hR
    | false =>
      have e1' : (nowS k w false x.f2).1 = true := by simpa using e1.symm
      simpa [e1'] using hR
theorem now_ev (n : Int) (l : List S100) (w : List S70) (hl : l.length ≤ 1000) (hw : w.length ≤ 9223372036854775807) (hm : ∀ x ∈ w, -1 ≤ x.f2) : Ev (fun k => impl_Live_now.f k n l w) (n, nowL w l 0) := by
  unfold impl_Live_now.f
  simp only [show ((l.length : Int) : Int).toNat ≤ 7036874417766 by omega, if_true]
  have := ev_ind (fun k (s : Nat × List S100) => impl_Live_now.l0 k l (l.length : Int) (s.1 : Int) n l w n s.2) (fun s => l.length - s.1) (fun s => s.1 ≤ l.length ∧ s.2.length ≤ s.1) (fun s => (n, s.2 ++ nowL w (l.drop s.1) s.1)) ?_ (0, []) ⟨Nat.zero_le _, by simp⟩
  · simpa using this
  rintro ⟨i, x⟩ ⟨hi, hx⟩ ih
  simp only at hi hx ih ⊢
  by_cases h : i < l.length
  · have hlt : (i : Int) < (l.length : Int) := by omega
    have h0 : (0 : Int) ≤ (i : Int) := by omega
    simp only [impl_Live_now.l0, hlt, h0, if_true, arc_at l i h]
    refine now_l1 n l w hw hm i n x l[i] (by omega) _ ?_
    rw [wsucc h (show l.length ≤ 9223372036854775807 by omega)]
    have ha := nowA_length w i l[i]
    refine ev_at (ih (i + 1, x ++ nowA w i l[i]) ⟨by simp; omega, by simp; omega⟩ (by simp; omega)) ?_
    rw [List.drop_eq_getElem_cons h, nowL, List.append_assoc]
  · have hlt : ¬ (i : Int) < (l.length : Int) := by omega
    simp only [impl_Live_now.l0, hlt, if_false, impl_Arc_127.f, Option.bind_some]
    refine ev_now fun k => ?_
    rw [List.drop_of_length_le (by omega)]
    simp [nowL]
end Go.Proofs.Ytbappbbljncdeaa.Pure
