/- The pure statement of FnExactLiveTell: on all arguments the reference and the program tell the same, in memory of its own. No condition. -/
import Derived.Test.YtbappbbljncdeaaFKinds
import Derived.Test.YtbappbbljncdeaaFimplArc127
import Derived.Test.YtbappbbljncdeaaFimplArc137
import Derived.Test.YtbappbbljncdeaaFimplLiveOk
import Derived.Test.YtbappbbljncdeaaFimplLiveTell
import Derived.Test.YtbappbbljncdeaaFimplLivecopied
import Derived.Test.YtbappbbljncdeaaFimplLivefind
import Derived.Test.YtbappbbljncdeaaFimplNetOk
import Derived.Test.YtbappbbljncdeaaFimplNews101
import Derived.Test.YtbappbbljncdeaaFimplNews107
import Derived.Test.YtbappbbljncdeaaFimplNews138
import Derived.Test.YtbappbbljncdeaaFimplnewsOk
import Derived.Test.YtbappbbljncdeaaFimplwithin
import Derived.Test.YtbappbbljncdeaaFlawsFnExactLiveTell
import Derived.Test.YtbappbbljncdeaaFlawsInt
import Derived.Test.YtbappbbljncdeaaFlawsLive
import Derived.Test.YtbappbbljncdeaaFlawsMarkInt
import Derived.Test.YtbappbbljncdeaaFlawsNet
import Derived.Test.YtbappbbljncdeaaFlawsheldArcS
import Derived.Test.YtbappbbljncdeaaFlawsheldLive
import Derived.Test.YtbappbbljncdeaaFlawsheldNet
import Derived.Test.YtbappbbljncdeaaFlawsheldNewsS
import Derived.Test.YtbappbbljncdeaaFlawsmarkLive
import Derived.Test.YtbappbbljncdeaaFlawsmarkNewsS
import Derived.Test.YtbappbbljncdeaaFspecLiveTell
import Derived.Test.YtbappbbljncdeaaFspecl16Copy
import Derived.Test.YtbappbbljncdeaaFspecl16Ok
import Derived.Test.YtbappbbljncdeaaFspecl1Copy
import Derived.Test.YtbappbbljncdeaaFspecl1In
import Derived.Test.YtbappbbljncdeaaFspecl1Ok
import Derived.Test.YtbappbbljncdeaaFtextcore
import Derived.Test.YtbappbbljncdeaaFtextfind
namespace Go.Proofs.Ytbappbbljncdeaa.Pure
open Go.RowKit Go.Proofs.Ytbappbbljncdeaa.F Go.Proofs.YtbappbbljncdeaaW.PrintWords
set_option linter.unusedVariables false
set_option linter.unusedSimpArgs false
/-! ### rounds -/
theorem ev_shift {α : Type} {g : Nat → Option α} {r : α} (h : Ev (fun k => g (k + 1)) r) : Ev g r := by
  obtain ⟨K, h⟩ := h
  refine ⟨K + 1, fun k hk => ?_⟩
  obtain ⟨m, rfl⟩ : ∃ m, k = m + 1 := ⟨k - 1, by omega⟩
  exact h m (by omega)
theorem ev_ind {σ β : Type} (g : Nat → σ → Option β) (μ : σ → Nat) (Inv : σ → Prop) (r : σ → β)
    (h : ∀ s, Inv s → (∀ s', Inv s' → μ s' < μ s → Ev (fun k => g k s') (r s')) → Ev (fun k => g (k + 1) s) (r s)) : ∀ s, Inv s → Ev (fun k => g k s) (r s) := by
  have key : ∀ n s, μ s ≤ n → Inv s → Ev (fun k => g k s) (r s) := by
    intro n
    induction n with
    | zero => intro s hs hi; exact ev_shift (h s hi (fun s' _ hlt => absurd hlt (by omega)))
    | succ n ih => intro s hs hi; exact ev_shift (h s hi (fun s' hi' hlt => ih s' (by omega) hi'))
  exact fun s hi => key _ s (Nat.le_refl _) hi
theorem ev_now {α : Type} {g : Nat → Option α} {r : α} (h : ∀ k, g k = some r) : Ev g r := ⟨0, fun k _ => h k⟩
theorem ev_at {α : Type} {g : Nat → Option α} {r r' : α} (h : Ev g r) (e : r = r') : Ev g r' := e ▸ h
/-! ### numbers and lists -/
theorem wsucc {i n : Nat} (h : i < n) (hn : n ≤ 9223372036854775807) : wrap64 ((i : Int) + 1) = ((i + 1 : Nat) : Int) := by
  unfold wrap64; omega
theorem wpred {i : Nat} (h : 0 < i) (hi : i ≤ 9223372036854775807) : wrap64 ((i : Int) - 1) = ((i - 1 : Nat) : Int) := by
  unfold wrap64; omega
theorem w_id {n : Int} (h : -9223372036854775808 ≤ n) (h' : n ≤ 9223372036854775807) : wrap64 n = n := by unfold wrap64; omega
theorem rd_nat (l : List Int) (i : Nat) : rd l (i : Int) = l.getD i 0 := by simp [rd]
theorem rd_at (l : List Int) (i : Nat) (h : i < l.length) : rd l (i : Int) = l[i] := by simp [rd, h]
theorem arc_at (l : List S100) (i : Nat) (h : i < l.length) : rd_T100 l (i : Int) = l[i] := by simp [rd_T100, h]
theorem any_at {α : Type} (p : α → Bool) (l : List α) (i : Nat) (h : i < l.length) : (l.drop i).any p = (p l[i] || (l.drop (i + 1)).any p) := by
  rw [List.drop_eq_getElem_cons h, List.any_cons]
/-! ### is a net valid -/
theorem within_eq (a b c : Int) : impl_within.f a b c = some (inB a b c) := by
  unfold impl_within.f inB
  by_cases h : b ≤ a
  · rw [if_pos h]; simp [h]
  · rw [if_neg h]; simp [h]
theorem l1In_eq (a b c : Int) : spec_l1In.f a b c = some (inB a b c) := within_eq a b c
theorem arcBad_eq (n : Int) (x : S100) : arcBad n x = !(inB x.f0 0 (wrap64 (n - 1)) && (inB x.f1 0 (wrap64 (n - 1)) && (!(x.f0 == x.f1) && (inB x.f2 0 99 && (inB x.f3 0 99 && inB x.f4 0 9))))) := by
  unfold arcBad hasB
  cases h1 : inB x.f0 0 (wrap64 (n - 1)) <;> cases h2 : inB x.f1 0 (wrap64 (n - 1)) <;> simp [h1, h2, Bool.not_and]
theorem netOk_eq (n : Int) (l : List S100) : impl_NetOk.f n l = some (netOkB n l) := rfl
theorem l1Ok_loop (n : Int) (l : List S100) (hl : l.length ≤ 9223372036854775807) (i : Nat) (hi : i ≤ l.length) :
    Ev (fun k => spec_l1Ok.l0 k (i : Int) n l) (!((l.drop i).any (arcBad n)) && (inB n 1 8 && decide (l.length ≤ 16))) := by
  refine ev_ind (fun k (i : Nat) => spec_l1Ok.l0 k (i : Int) n l) (fun i => l.length - i) (fun i => i ≤ l.length) (fun i => !((l.drop i).any (arcBad n)) && (inB n 1 8 && decide (l.length ≤ 16))) ?_ i hi
  intro i hi ih
  by_cases h : i < l.length
  · have hlt : (i : Int) < (l.length : Int) := by omega
    have h0 : (0 : Int) ≤ (i : Int) := by omega
    simp only [spec_l1Ok.l0, hlt, h0, if_true, l1In_eq, Option.bind_some, arc_at l i h, wsucc h hl]
    rw [any_at _ _ _ h, arcBad_eq]
    have ih' := ih (i + 1) (by omega) (by omega)
    generalize (l.drop (i + 1)).any (arcBad n) = q at ih' ⊢
    generalize l[i] = x at ih' ⊢
    cases inB x.f0 0 (wrap64 (n - 1)) with
    | false => exact ev_now fun k => by simp
    | true =>
    cases inB x.f1 0 (wrap64 (n - 1)) with
    | false => exact ev_now fun k => by simp
    | true =>
    by_cases he : x.f0 = x.f1
    · exact ev_now fun k => by simp [he]
    · cases inB x.f2 0 99 with
      | false => exact ev_now fun k => by simp [he]
      | true =>
      cases inB x.f3 0 99 with
      | false => exact ev_now fun k => by simp [he]
      | true =>
      cases inB x.f4 0 9 with
      | false => exact ev_now fun k => by simp [he]
      | true =>
        have he' : (x.f0 == x.f1) = false := beq_eq_false_iff_ne.2 he
        simpa [he, he'] using ih'
  · have hlt : ¬ (i : Int) < (l.length : Int) := by omega
    have he : i = l.length := by omega
    simp only [spec_l1Ok.l0, hlt, if_false, l1In_eq, Option.bind_some]
    subst he
    refine ev_now fun k => ?_
    cases inB n 1 8 <;> simp
    omega
theorem l1Ok_ev (n : Int) (l : List S100) (hl : l.length ≤ 9223372036854775807) : Ev (fun k => spec_l1Ok.f k n l) (netOkB n l) := by
  refine ev_at (l1Ok_loop n l hl 0 (Nat.zero_le _)) ?_
  unfold netOkB
  rw [List.drop_zero]
  cases inB n 1 8 <;> cases decide (l.length ≤ 16) <;> cases l.any (arcBad n) <;> rfl
theorem netOk_len {n : Int} {l : List S100} (h : netOkB n l = true) : l.length ≤ 16 := by
  unfold netOkB at h
  simp only [Bool.and_eq_true, decide_eq_true_eq] at h
  exact h.2.1
theorem inB_iff {a b c : Int} : inB a b c = true ↔ b ≤ a ∧ a ≤ c := by unfold inB; rw [Bool.and_eq_true, decide_eq_true_eq, decide_eq_true_eq]
/-! ### news in their places -/
theorem news_at (l : List S70) (i : Nat) (h : i < l.length) : rd_T70 l (i : Int) = l[i] := by simp [rd_T70, h]
/-! ### nets with news -/
def newsB (m : Int) (w : S70) : Bool := inB w.f0 1 999 && (inB w.f1 0 (wrap64 (m - 1)) && inB w.f2 (-1) 99)
def newsAt (m : Int) (w : List S70) (i : Nat) : Bool := newsB m (rd_T70 w (i : Int)) && (decide (i = 0) || decide ((rd_T70 w ((i - 1 : Nat) : Int)).f0 < (rd_T70 w (i : Int)).f0))
def liveB (n : Int) (l : List S100) (w : List S70) : Bool := (List.range' 0 w.length).all (newsAt l.length w) && (netOkB n l && decide (w.length ≤ 6))
theorem implNewsOk_eq (w : S70) (m : Int) : impl_newsOk.f w.f0 w.f1 w.f2 m = some (newsB m w) := by
  unfold impl_newsOk.f newsB
  simp only [within_eq, Option.bind_some]
  cases inB w.f0 1 999 <;> cases inB w.f1 0 (wrap64 (m - 1)) <;> simp
theorem range'_step (i n : Nat) (h : i < n) : List.range' i (n - i) = i :: List.range' (i + 1) (n - (i + 1)) := by
  rw [show n - i = (n - (i + 1)) + 1 by omega, List.range'_succ]
theorem implLiveOk_ev (n : Int) (l : List S100) (w : List S70) (hw : w.length ≤ 9223372036854775807) : Ev (fun k => impl_LiveOk.f k n l w) (liveB n l w) := by
  unfold impl_LiveOk.f
  refine ev_at (ev_ind (fun k (i : Nat) => impl_LiveOk.l0 k w (w.length : Int) (i : Int) n l w) (fun i => w.length - i) (fun i => i ≤ w.length) (fun i => (List.range' i (w.length - i)).all (newsAt l.length w) && (netOkB n l && decide (w.length ≤ 6))) ?_ 0 (Nat.zero_le _)) (by unfold liveB; rfl)
  intro i hi ih
  by_cases h : i < w.length
  · have hlt : (i : Int) < (w.length : Int) := by omega
    have h0 : (0 : Int) ≤ (i : Int) := by omega
    have ih' := ih (i + 1) (by omega) (by omega)
    simp only [impl_LiveOk.l0, hlt, h0, if_true, implNewsOk_eq, Option.bind_some, wsucc h hw]
    rw [range'_step i _ h, List.all_cons]
    generalize (List.range' (i + 1) (w.length - (i + 1))).all (newsAt l.length w) = q at ih' ⊢
    unfold newsAt
    cases newsB l.length (rd_T70 w (i : Int)) with
    | false => exact ev_now fun k => by simp
    | true =>
      by_cases hz : i = 0
      · have : ¬ (i : Int) > 0 := by omega
        simp only [this, if_false, if_true, hz, decide_true, Bool.true_or, Bool.true_and]
        subst hz
        simpa using ih'
      · have hp : (i : Int) > 0 := by omega
        have hw1 := wpred (show 0 < i by omega) (show i ≤ 9223372036854775807 by omega)
        have hp0 : (0 : Int) ≤ ((i - 1 : Nat) : Int) := by omega
        have hp1 : ((i - 1 : Nat) : Int) < (w.length : Int) := by omega
        simp only [hp, hw1, hp0, hp1, if_true, hz, decide_false, Bool.false_or, Bool.true_and]
        by_cases hc : (rd_T70 w ((i - 1 : Nat) : Int)).f0 < (rd_T70 w (i : Int)).f0
        · have hc' : ¬ (rd_T70 w ((i - 1 : Nat) : Int)).f0 ≥ (rd_T70 w (i : Int)).f0 := by omega
          simp only [hc, hc', if_false, decide_true, Bool.true_and]
          exact ih'
        · have hc' : (rd_T70 w ((i - 1 : Nat) : Int)).f0 ≥ (rd_T70 w (i : Int)).f0 := by omega
          simp only [hc, hc', if_true, decide_false, Bool.false_and]
          exact ev_now fun _ => rfl
  · have hlt : ¬ (i : Int) < (w.length : Int) := by omega
    have he : w.length - i = 0 := by omega
    simp only [impl_LiveOk.l0, hlt, if_false, netOk_eq, Option.bind_some, he, List.range'_zero, List.all_nil, Bool.true_and]
    refine ev_now fun k => ?_
    cases netOkB n l <;> simp
    omega
theorem l16Ok_ev (n : Int) (l : List S100) (w : List S70) (hl : l.length ≤ 9223372036854775807) (hw : w.length ≤ 9223372036854775807) : Ev (fun k => spec_l16Ok.f k n l w) (liveB n l w) := by
  unfold spec_l16Ok.f
  refine ev_at (ev_ind (fun k (i : Nat) => spec_l16Ok.l0 k (i : Int) n l w) (fun i => w.length - i) (fun i => i ≤ w.length) (fun i => (List.range' i (w.length - i)).all (newsAt l.length w) && (netOkB n l && decide (w.length ≤ 6))) ?_ 0 (Nat.zero_le _)) (by unfold liveB; rfl)
  intro i hi ih
  by_cases h : i < w.length
  · have hlt : (i : Int) < (w.length : Int) := by omega
    have h0 : (0 : Int) ≤ (i : Int) := by omega
    have ih' := ih (i + 1) (by omega) (by omega)
    simp only [spec_l16Ok.l0, hlt, h0, if_true, l1In_eq, Option.bind_some, wsucc h hw]
    rw [range'_step i _ h, List.all_cons]
    generalize (List.range' (i + 1) (w.length - (i + 1))).all (newsAt l.length w) = q at ih' ⊢
    unfold newsAt newsB
    cases inB (rd_T70 w (i : Int)).f0 1 999 with
    | false => exact ev_now fun k => by simp
    | true =>
    cases inB (rd_T70 w (i : Int)).f1 0 (wrap64 ((l.length : Int) - 1)) with
    | false => exact ev_now fun k => by simp
    | true =>
    cases inB (rd_T70 w (i : Int)).f2 (-1) 99 with
    | false => exact ev_now fun k => by simp
    | true =>
      by_cases hz : i = 0
      · have : ¬ (i : Int) > 0 := by omega
        simp only [this, if_false, if_true, hz, decide_true, Bool.true_or, Bool.true_and]
        subst hz
        simpa using ih'
      · have hp : (i : Int) > 0 := by omega
        have hw1 := wpred (show 0 < i by omega) (show i ≤ 9223372036854775807 by omega)
        have hp0 : (0 : Int) ≤ ((i - 1 : Nat) : Int) := by omega
        have hp1 : ((i - 1 : Nat) : Int) < (w.length : Int) := by omega
        simp only [hp, hw1, hp0, hp1, if_true, hz, decide_false, Bool.false_or, Bool.true_and]
        by_cases hc : (rd_T70 w ((i - 1 : Nat) : Int)).f0 < (rd_T70 w (i : Int)).f0
        · have hc' : ¬ (rd_T70 w (i : Int)).f0 ≤ (rd_T70 w ((i - 1 : Nat) : Int)).f0 := by omega
          simp only [hc, hc', if_false, decide_true, Bool.true_and]
          exact ih'
        · have hc' : (rd_T70 w (i : Int)).f0 ≤ (rd_T70 w ((i - 1 : Nat) : Int)).f0 := by omega
          simp only [hc, hc', if_true, decide_false, Bool.false_and]
          exact ev_now fun _ => rfl
  · have hlt : ¬ (i : Int) < (w.length : Int) := by omega
    have he : w.length - i = 0 := by omega
    simp only [spec_l16Ok.l0, hlt, if_false, he, List.range'_zero, List.all_nil, Bool.true_and]
    refine Ev.bind (l1Ok_ev n l hl) (ev_now fun k => ?_)
    cases netOkB n l <;> simp
    omega
/-- What liveB says. -/
theorem liveB_len {n : Int} {l : List S100} {w : List S70} (h : liveB n l w = true) : netOkB n l = true ∧ w.length ≤ 6 := by
  unfold liveB at h
  simp only [Bool.and_eq_true, decide_eq_true_eq] at h
  exact h.2
theorem liveB_at {n : Int} {l : List S100} {w : List S70} (h : liveB n l w = true) (i : Nat) (hi : i < w.length) : newsAt l.length w i = true := by
  unfold liveB at h
  simp only [Bool.and_eq_true, List.all_eq_true] at h
  exact h.1 i (by simp [List.mem_range']; omega)
theorem liveB_more {n : Int} {l : List S100} {w : List S70} (h : liveB n l w = true) : ∀ x ∈ w, newsB l.length x = true := by
  intro x hx
  obtain ⟨i, hi, rfl⟩ := List.getElem_of_mem hx
  have := liveB_at h i hi
  unfold newsAt at this
  rw [Bool.and_eq_true, news_at w i hi] at this
  exact this.1
/-! ### news that are told -/
/-- News in their places, one more told: what has its number goes. -/
def tellS (x : S70) : List S70 → Bool → List S70
  | [], put => if put = true then [] else [x]
  | y :: ys, put => (if (!put && decide (y.f0 ≥ x.f0)) = true then [x] else []) ++ ((if y.f0 = x.f0 then [] else [y]) ++ tellS x ys (put || decide (y.f0 ≥ x.f0)))
theorem tellS_length (x : S70) : ∀ (w : List S70) (put : Bool), (tellS x w put).length ≤ w.length + (if put = true then 0 else 1) := by
  intro w
  induction w with
  | nil => intro put; cases put <;> simp [tellS]
  | cons y ys ih =>
    intro put
    have h := ih (put || decide (y.f0 ≥ x.f0))
    unfold tellS
    by_cases c : y.f0 ≥ x.f0
    · by_cases e : y.f0 = x.f0
      · cases put <;> simp [c, e] at h ⊢ <;> omega
      · cases put <;> simp [c, e] at h ⊢ <;> omega
    · have e : ¬ y.f0 = x.f0 := by omega
      cases put <;> simp [c, e] at h ⊢ <;> omega
theorem l16Copy_eq (n : Int) (l : List S100) (w : List S70) (hl : l.length ≤ 1000) (hw : w.length ≤ 1000) : spec_l16Copy.f n l w = some (n, l, w) := by
  have h1 : l.length < 3518437208883 := by omega
  have h2 : w.length < 5864062014805 := by omega
  unfold spec_l16Copy.f spec_l1Copy.f
  simp [h1, h2]
def tellV (n : Int) (l : List S100) (w W : List S70) : Int × List S100 × List S70 × Bool := if liveB n l W = true then (n, l, W, true) else (n, l, w, false)
theorem newsT_eta (x : S70) : (⟨x.f0, x.f1, x.f2⟩ : S70) = x := rfl
theorem specTell_loop (n : Int) (l : List S100) (w : List S70) (hl : l.length ≤ 1000) (hw : w.length ≤ 1000) (x : S70) :
    Ev (fun k => spec_LiveTell.l0 k false (0 : Nat) n l w x.f0 x.f1 x.f2 n l []) (tellV n l w (tellS x w false)) := by
  refine ev_at (ev_ind (fun k (s : Bool × Nat × List S70) => spec_LiveTell.l0 k s.1 (s.2.1 : Int) n l w x.f0 x.f1 x.f2 n l s.2.2) (fun s => w.length - s.2.1) (fun s => s.2.1 ≤ w.length ∧ s.2.2.length ≤ 2 * s.2.1) (fun s => tellV n l w (s.2.2 ++ tellS x (w.drop s.2.1) s.1)) ?_ (false, 0, []) ⟨Nat.zero_le _, by simp⟩) (by simp)
  rintro ⟨put, i, acc⟩ ⟨hi, ha⟩ ih
  simp only at hi ha ih ⊢
  by_cases h : i < w.length
  · have hlt : (i : Int) < (w.length : Int) := by omega
    have h0 : (0 : Int) ≤ (i : Int) := by omega
    have b1 : acc.length < 5864062014805 := by omega
    have b2 : (acc ++ [x]).length < 5864062014805 := by rw [List.length_append]; simp; omega
    have e1 := ih (true, i + 1, acc ++ [x]) ⟨by simp; omega, by simp; omega⟩ (by simp; omega)
    have e2 := ih (true, i + 1, acc ++ [x] ++ [w[i]]) ⟨by simp; omega, by simp; omega⟩ (by simp; omega)
    have e3 := ih (put, i + 1, acc) ⟨by simp; omega, by simp; omega⟩ (by simp; omega)
    have e4 := ih (put, i + 1, acc ++ [w[i]]) ⟨by simp; omega, by simp; omega⟩ (by simp; omega)
    simp only at e1 e2 e3 e4
    have hd : w.drop i = w[i] :: w.drop (i + 1) := List.drop_eq_getElem_cons h
    simp only [spec_LiveTell.l0, hlt, h0, if_true, news_at w i h]
    cases put with
    | true =>
      simp only [if_true]
      refine ev_shift ?_
      simp only [spec_LiveTell.j1, Bool.false_eq_true, if_false, h0, hlt, if_true, news_at w i h, b1, newsT_eta, wsucc h (show w.length ≤ 9223372036854775807 by omega)]
      rw [hd]
      by_cases e : w[i].f0 = x.f0
      · simp only [e, if_true]
        refine ev_at e3 ?_
        simp [tellS, e]
      · simp only [e, if_false]
        refine ev_at e4 ?_
        simp [tellS, e]
    | false =>
      simp only [Bool.false_eq_true, if_false]
      refine ev_shift ?_
      rw [hd]
      by_cases c : w[i].f0 ≥ x.f0
      · simp only [spec_LiveTell.j1, c, decide_true, if_true, h0, hlt, news_at w i h, b1, b2, newsT_eta, Option.bind_some, wsucc h (show w.length ≤ 9223372036854775807 by omega)]
        by_cases e : w[i].f0 = x.f0
        · simp only [e, if_true]
          refine ev_at e1 ?_
          simp [tellS, e]
        · simp only [e, if_false]
          refine ev_at e2 ?_
          simp [tellS, e, c]
      · have e : ¬ w[i].f0 = x.f0 := by omega
        simp only [spec_LiveTell.j1, c, decide_false, Bool.false_eq_true, if_false, h0, hlt, if_true, news_at w i h, b1, newsT_eta, e, wsucc h (show w.length ≤ 9223372036854775807 by omega)]
        refine ev_at e4 ?_
        simp [tellS, e, c]
  · have hlt : ¬ (i : Int) < (w.length : Int) := by omega
    have hd : w.drop i = [] := List.drop_of_length_le (by omega)
    have b1 : acc.length < 5864062014805 := by omega
    simp only [spec_LiveTell.l0, hlt, if_false]
    have key : ∀ W : List S70, W.length ≤ 9223372036854775807 → Ev (fun k => spec_LiveTell.j2 k n l w n l W) (tellV n l w W) := by
      intro W hW
      refine ev_shift ?_
      simp only [spec_LiveTell.j2]
      refine Ev.bind (l16Ok_ev n l W (by omega) hW) ?_
      unfold tellV
      cases liveB n l W with
      | true => simp only [if_true]; exact ev_now fun _ => rfl
      | false =>
        simp only [Bool.false_eq_true, if_false, l16Copy_eq n l w hl hw, Option.bind_some]
        exact ev_now fun _ => rfl
    rw [hd]
    cases put with
    | true =>
      simp only [if_true]
      refine ev_at (key acc (by omega)) ?_
      simp [tellS]
    | false =>
      simp only [Bool.false_eq_true, if_false, b1, if_true, newsT_eta]
      refine ev_at (key (acc ++ [x]) (by simp; omega)) ?_
      simp [tellS]
theorem specTell_ev (n : Int) (l : List S100) (w : List S70) (hl : l.length ≤ 9223372036854775807) (hw : w.length ≤ 9223372036854775807) (a b c : Int) :
    Ev (fun k => spec_LiveTell.f k n l w a b c) (if liveB n l w = true then tellV n l w (tellS ⟨a, b, c⟩ w false) else (0, [], [], false)) := by
  unfold spec_LiveTell.f
  refine Ev.bind (l16Ok_ev n l w hl hw) ?_
  cases hok : liveB n l w with
  | false => simp only [Bool.false_eq_true, if_false]; exact ev_now fun _ => rfl
  | true =>
    have h1 := liveB_len hok
    have h2 := netOk_len h1.1
    have h3 : l.length < 3518437208883 := by omega
    unfold spec_l1Copy.f
    simp only [if_true, Option.bind_some, List.length_nil, Nat.zero_add, h3, List.nil_append]
    exact specTell_loop n l w (by omega) (by omega) ⟨a, b, c⟩
/-! ### news in order, and their places -/
theorem upB_cons {x : S70} {xs : List S70} : upB (x :: xs) = true ↔ (∀ y ∈ xs, x.f0 < y.f0) ∧ upB xs = true := by
  show ((xs.all fun y => decide (x.f0 < y.f0)) && upB xs) = true ↔ _
  rw [Bool.and_eq_true, List.all_eq_true]
  simp only [decide_eq_true_eq]
theorem upB_next : ∀ (w : List S70), (∀ i (h : i + 1 < w.length), (w[i]'(by omega)).f0 < w[i + 1].f0) → upB w = true
  | [], _ => rfl
  | [x], _ => rfl
  | x :: y :: ys, h => by
    have ih := upB_next (y :: ys) (fun i hi => h (i + 1) (by simpa using hi))
    have h0 : x.f0 < y.f0 := by simpa using h 0 (by simp)
    rw [upB_cons]
    refine ⟨fun z hz => ?_, ih⟩
    rw [List.mem_cons] at hz
    rcases hz with rfl | hz
    · exact h0
    · exact Int.lt_trans h0 ((upB_cons.1 ih).1 z hz)
theorem live_up {n : Int} {l : List S100} {w : List S70} (h : liveB n l w = true) : upB w = true := by
  refine upB_next w fun i hi => ?_
  have h1 := liveB_at h (i + 1) hi
  unfold newsAt at h1
  rw [Bool.and_eq_true, Bool.or_eq_true, decide_eq_true_eq, decide_eq_true_eq, Nat.add_sub_cancel] at h1
  rcases h1.2 with h2 | h2
  · omega
  · rwa [news_at w (i + 1) hi, news_at w i (by omega)] at h2
theorem find_eq {n : Int} {l : List S100} {w : List S70} (h : liveB n l w = true) (id : Int) : impl_Live_find.f n l w id = some (((findP id w : Nat) : Int), thereB id w) := by
  unfold impl_Live_find.f
  rw [if_pos ⟨live_up h, by have := (liveB_len h).2; omega⟩]
theorem findP_cons (id : Int) (x : S70) (xs : List S70) : findP id (x :: xs) = if x.f0 < id then findP id xs + 1 else 0 := rfl
theorem there_cons (id : Int) (x : S70) (xs : List S70) : thereB id (x :: xs) = if x.f0 < id then thereB id xs else decide (x.f0 = id) := by
  unfold thereB
  rw [findP_cons]
  by_cases c : x.f0 < id
  · rw [if_pos c, if_pos c]
    have e : decide (findP id xs + 1 < (x :: xs).length) = decide (findP id xs < xs.length) := by simp
    rw [e]
    rfl
  · rw [if_neg c, if_neg c]
    have e : decide (0 < (x :: xs).length) = true := by simp
    rw [e, Bool.true_and]
    rfl
theorem there_over (id : Int) : ∀ (w : List S70), upB w = true → (thereB id w = true → findP id w < w.length ∧ (w.filter fun y => decide (¬ y.f0 = id)) = w.take (findP id w) ++ w.drop (findP id w + 1)) ∧ (thereB id w = false → (w.filter fun y => decide (¬ y.f0 = id)) = w)
  | [], _ => ⟨fun h => absurd h (by simp [thereB]), fun _ => rfl⟩
  | x :: xs, hu => by
    obtain ⟨h1, h2⟩ := upB_cons.1 hu
    obtain ⟨i1, i2⟩ := there_over id xs h2
    rw [there_cons, findP_cons]
    by_cases c : x.f0 < id
    · have hne : ¬ x.f0 = id := by omega
      rw [if_pos c, if_pos c, List.filter_cons, if_pos (by simpa using hne)]
      refine ⟨fun h => ?_, fun h => by rw [i2 h]⟩
      obtain ⟨j1, j2⟩ := i1 h
      refine ⟨by simp; omega, ?_⟩
      rw [j2]
      rfl
    · have hk : ¬ x.f0 < id → (xs.filter fun y => decide (¬ y.f0 = id)) = xs := fun _ => List.filter_eq_self.2 fun y hy => by
        have := h1 y hy
        simp only [decide_eq_true_eq]
        omega
      rw [if_neg c, if_neg c, List.filter_cons, hk c]
      by_cases e : x.f0 = id
      · refine ⟨fun _ => ⟨by simp, ?_⟩, fun h => absurd h (by simp [e])⟩
        rw [if_neg (by simp [e])]
        rfl
      · refine ⟨fun h => absurd h (by simp [e]), fun _ => ?_⟩
        rw [if_pos (by simpa using e)]
theorem findP_le' (id : Int) : ∀ w, findP id w ≤ w.length
  | [] => Nat.le_refl _
  | x :: xs => by
    rw [findP_cons]
    have := findP_le' id xs
    split <;> simp <;> omega
/-! ### a valid net -/
/-- What a valid net is. -/
structure Net1 (n : Int) (l : List S100) : Prop where
  lo : 1 ≤ n
  hi : n ≤ 8
  len : l.length ≤ 16
  ends : ∀ x ∈ l, 0 ≤ x.f0 ∧ x.f0 < n ∧ 0 ≤ x.f1 ∧ x.f1 < n ∧ x.f0 ≠ x.f1 ∧ 0 ≤ x.f2 ∧ x.f2 ≤ 99 ∧ 0 ≤ x.f3 ∧ x.f3 ≤ 99 ∧ 0 ≤ x.f4 ∧ x.f4 ≤ 9
theorem net1_of {n : Int} {l : List S100} (h : netOkB n l = true) : Net1 n l := by
  unfold netOkB at h
  simp only [Bool.and_eq_true, decide_eq_true_eq, inB_iff, Bool.not_eq_true'] at h
  obtain ⟨⟨h1, h2⟩, h3, h4⟩ := h
  refine ⟨h1, h2, h3, fun x hx => ?_⟩
  have h5 : arcBad n x = false := by
    cases h6 : arcBad n x with
    | false => rfl
    | true => rw [List.any_eq_true.2 ⟨x, hx, h6⟩] at h4; cases h4
  rw [arcBad_eq] at h5
  simp only [Bool.not_eq_false', Bool.and_eq_true, inB_iff, Bool.not_eq_true', beq_eq_false_iff_ne] at h5
  rw [w_id (n := n - 1) (by omega) (by omega)] at h5
  obtain ⟨a, b, c, d, e, f⟩ := h5
  exact ⟨a.1, by omega, b.1, by omega, c, d.1, d.2, e.1, e.2, f.1, f.2⟩
theorem netOk_of {n : Int} {l : List S100} (hn : Net1 n l) : netOkB n l = true := by
  unfold netOkB
  have hlo := hn.lo
  have hhi := hn.hi
  have hl := hn.len
  simp only [Bool.and_eq_true, decide_eq_true_eq, inB_iff, Bool.not_eq_true']
  refine ⟨⟨hlo, hhi⟩, hl, ?_⟩
  rw [List.any_eq_false]
  intro x hx
  obtain ⟨h1, h2, h3, h4, h5, h6, h7, h8, h9, h10, h11⟩ := hn.ends x hx
  have : arcBad n x = false := by
    rw [arcBad_eq]
    simp only [Bool.not_eq_false', Bool.and_eq_true, inB_iff, Bool.not_eq_true', beq_eq_false_iff_ne]
    rw [w_id (n := n - 1) (by omega) (by omega)]
    exact ⟨⟨h1, by omega⟩, ⟨h3, by omega⟩, h5, ⟨h6, h7⟩, ⟨h8, h9⟩, h10, h11⟩
  rw [this]; exact Bool.false_ne_true
/-! ### a net with news, copied -/
theorem copied_eq {n : Int} {l : List S100} {w : List S70} (h : liveB n l w = true) : impl_Live_copied.f n l w = some (n, l, w) := by
  have h1 := (net1_of (liveB_len h).1).len
  have h2 := (liveB_len h).2
  unfold impl_Live_copied.f impl_Arc_137.f impl_Arc_127.f impl_News_138.f impl_News_101.f
  rw [if_pos (by omega), if_pos (by omega)]
  rfl
/-! ### news that are told: the program's -/
theorem tellS_true (x : S70) : ∀ (w : List S70), (∀ y ∈ w, ¬ y.f0 = x.f0) → tellS x w true = w
  | [], _ => rfl
  | y :: ys, h => by
    have h0 := h y (by simp)
    have ih := tellS_true x ys fun z hz => h z (by simp [hz])
    unfold tellS
    rw [if_neg h0, Bool.true_or, ih]
    rfl
theorem tellS_eq (x : S70) : ∀ (w : List S70), upB w = true → tellS x w false = (if thereB x.f0 w = true then w.set (findP x.f0 w) x else w.take (findP x.f0 w) ++ x :: w.drop (findP x.f0 w))
  | [], _ => by
    have : thereB x.f0 [] = false := by simp [thereB]
    rw [this]
    rfl
  | y :: ys, hu => by
    obtain ⟨h1, h2⟩ := upB_cons.1 hu
    have ih := tellS_eq x ys h2
    rw [there_cons, findP_cons]
    unfold tellS
    by_cases c : y.f0 < x.f0
    · have c2 : decide (y.f0 ≥ x.f0) = false := decide_eq_false (by omega)
      have c3 : ¬ y.f0 = x.f0 := by omega
      rw [if_pos c, if_pos c, c2, if_neg c3, Bool.false_or, ih]
      by_cases t : thereB x.f0 ys = true
      · rw [if_pos t, if_pos t]; rfl
      · rw [if_neg t, if_neg t]; rfl
    · have c2 : decide (y.f0 ≥ x.f0) = true := decide_eq_true (by omega)
      have c4 : tellS x ys true = ys := tellS_true x ys fun z hz => by have := h1 z hz; omega
      rw [if_neg c, if_neg c, c2, Bool.false_or, c4]
      by_cases e : y.f0 = x.f0
      · rw [if_pos e, if_pos (show decide (y.f0 = x.f0) = true from decide_eq_true e)]; rfl
      · rw [if_neg e, if_neg (show ¬ decide (y.f0 = x.f0) = true by simpa using e)]; rfl
theorem there_lt {id : Int} {w : List S70} (h : thereB id w = true) : findP id w < w.length := by
  unfold thereB at h
  rw [Bool.and_eq_true, decide_eq_true_eq] at h
  exact h.1
theorem implTell_j0 (n : Int) (l : List S100) (w W : List S70) (hok : liveB n l w = true) (hW : W.length ≤ 9223372036854775807) : Ev (fun k => impl_LiveTell.j0 k n l w n l W) (tellV n l w W) := by
  refine ev_shift ?_
  simp only [impl_LiveTell.j0]
  refine Ev.bind (implLiveOk_ev n l W hW) ?_
  unfold tellV
  cases liveB n l W with
  | true => simp only [if_true]; exact ev_now fun _ => rfl
  | false =>
    simp only [Bool.false_eq_true, if_false, copied_eq hok, Option.bind_some]
    exact ev_now fun _ => rfl
theorem implTell_ev (n : Int) (l : List S100) (w : List S70) (hw : w.length ≤ 9223372036854775807) (a b c : Int) :
    Ev (fun k => impl_LiveTell.f k n l w a b c) (if liveB n l w = true then tellV n l w (tellS ⟨a, b, c⟩ w false) else (0, [], [], false)) := by
  unfold impl_LiveTell.f
  refine Ev.bind (implLiveOk_ev n l w hw) ?_
  cases hok : liveB n l w with
  | false => simp only [Bool.false_eq_true, if_false]; exact ev_now fun _ => rfl
  | true =>
    have h6 := (liveB_len hok).2
    have hp := findP_le' a w
    simp only [if_true, copied_eq hok, find_eq hok, Option.bind_some]
    rw [tellS_eq ⟨a, b, c⟩ w (live_up hok)]
    simp only
    cases ht : thereB a w with
    | true =>
      have hlt := there_lt ht
      have g0 : (0 : Int) ≤ ((findP a w : Nat) : Int) := by omega
      have g1 : ((findP a w : Nat) : Int) < (w.length : Int) := by omega
      simp only [if_true, g0, g1, Int.toNat_natCast]
      exact implTell_j0 n l w _ hok (by rw [List.length_set]; exact hw)
    | false =>
      have g0 : (0 : Int) ≤ ((findP a w : Nat) : Int) := by omega
      have g1 : ((findP a w : Nat) : Int) ≤ (w.length : Int) := by omega
      unfold impl_News_107.f impl_News_101.f
      simp only [Bool.false_eq_true, if_false]
      rw [if_pos ⟨g0, g1, by omega⟩, Int.toNat_natCast]
      exact implTell_j0 n l w _ hok (by rw [List.length_append, List.length_cons, List.length_take, List.length_drop]; omega)
/-! ### the laws' own helpers: what they copy is the same, what is the same is equal -/
theorem arc118_at (l : List S132) (i : Nat) (h : i < l.length) : rd_T132 l (i : Int) = l[i] := by simp [rd_T132, h]
def arcOf (x : S132) : S100 := ⟨x.f0, x.f1, x.f2, x.f3, x.f4⟩
theorem set_next {α : Type} (f : Nat → α) (m i : Nat) (l : List α) (hl : l.length = m) (hi : i < m) (h : ∀ j, j < i → l[j]? = some (f j)) : ∀ j, j < i + 1 → (l.set i (f i))[j]? = some (f j) := by
  intro j hj
  rw [List.getElem?_set]
  by_cases e : i = j
  · subst e; rw [if_pos rfl, if_pos (by omega)]
  · rw [if_neg e]; exact h j (by omega)
theorem toArcS_loop (l : List S132) (hl : l.length ≤ 9223372036854775807) (i : Nat) (acc : List S100) (hi : i ≤ l.length) (ha : acc.length = l.length) (hp : ∀ j, j < i → acc[j]? = (l.map arcOf)[j]?) :
    Ev (fun k => laws_toArcS.l0 k l acc (i : Int)) (l.map arcOf) := by
  refine ev_ind (fun k (s : Nat × List S100) => laws_toArcS.l0 k l s.2 (s.1 : Int)) (fun s => l.length - s.1) (fun s => s.1 ≤ l.length ∧ s.2.length = l.length ∧ ∀ j, j < s.1 → s.2[j]? = (l.map arcOf)[j]?) (fun _ => l.map arcOf) ?_ (i, acc) ⟨hi, ha, hp⟩
  rintro ⟨i, acc⟩ ⟨hi, ha, hp⟩ ih
  simp only at hi ha hp ih ⊢
  by_cases h : i < l.length
  · have hlt : (i : Int) < (l.length : Int) := by omega
    have hlt' : (i : Int) < (acc.length : Int) := by omega
    have h0 : (0 : Int) ≤ (i : Int) := by omega
    simp only [laws_toArcS.l0, hlt, hlt', h0, if_true, laws_toArc.f, Option.bind_some, arc118_at l i h, wsucc h hl, Int.toNat_natCast]
    refine ih (i + 1, acc.set i (arcOf l[i])) ⟨by simp; omega, by simp [ha], ?_⟩ (by simp; omega)
    intro j hj
    simp only at hj ⊢
    rw [List.getElem?_set]
    by_cases e : i = j
    · subst e
      rw [if_pos rfl, if_pos (by omega)]
      simp [h]
    · rw [if_neg e]; exact hp j (by omega)
  · have hlt : ¬ (i : Int) < (l.length : Int) := by omega
    simp only [laws_toArcS.l0, hlt, if_false]
    refine ev_now fun k => ?_
    congr 1
    apply List.ext_getElem?
    intro j
    by_cases hj : j < l.length
    · exact hp j (by omega)
    · rw [List.getElem?_eq_none (by omega), List.getElem?_eq_none (by simp; omega)]
theorem toNet_ev (n : Int) (l : List S132) (hl : l.length ≤ 1048576) : Ev (fun k => laws_toNet.f k n l) (n, l.map arcOf) := by
  unfold laws_toNet.f
  refine Ev.bind (a := l.map arcOf) ?_ (ev_now fun _ => rfl)
  unfold laws_toArcS.f
  have h0 : (0 : Int) ≤ (l.length : Int) := by omega
  have h1 : ((l.length : Int) : Int).toNat ≤ 7036874417766 := by omega
  simp only [h0, h1, if_true]
  exact toArcS_loop l (by omega) 0 _ (Nat.zero_le _) (by simp) (fun j hj => absurd hj (Nat.not_lt_zero _))
theorem szNet_eq (n : Int) (l : List S132) (hl : l.length ≤ 9223372036854775807) : laws_szNet.f n l 1048576 = some (if l.length ≤ 1048576 then 1048576 - (l.length : Int) else -1) := by
  unfold laws_szNet.f laws_szArcS.f
  rw [w_id (n := 1048576 - (l.length : Int)) (by omega) (by omega)]
  by_cases h : l.length ≤ 1048576
  · rw [if_neg (by omega)]
    simp only [Option.bind_some]
    rw [if_neg (by omega), if_pos h]
  · rw [if_pos (by omega)]
    simp only [Option.bind_some]
    rw [if_pos (by omega), if_neg h]
theorem eqArc_self (x : S100) : laws_eqArc.f x.f0 x.f1 x.f2 x.f3 x.f4 x.f0 x.f1 x.f2 x.f3 x.f4 = some true := by simp [laws_eqArc.f]
theorem eqArcS_self (l : List S100) (hl : l.length ≤ 9223372036854775807) : Ev (fun k => laws_eqArcS.f k l l) true := by
  unfold laws_eqArcS.f
  simp only [if_true]
  refine ev_ind (fun k (i : Nat) => laws_eqArcS.l0 k l l (i : Int)) (fun i => l.length - i) (fun i => i ≤ l.length) (fun _ => true) ?_ 0 (Nat.zero_le _)
  intro i hi ih
  by_cases h : i < l.length
  · have hlt : (i : Int) < (l.length : Int) := by omega
    have h0 : (0 : Int) ≤ (i : Int) := by omega
    simp only [laws_eqArcS.l0, hlt, h0, if_true, eqArc_self, Option.bind_some, wsucc h hl]
    exact ih (i + 1) (by omega) (by omega)
  · have hlt : ¬ (i : Int) < (l.length : Int) := by omega
    simp only [laws_eqArcS.l0, hlt, if_false]
    exact ev_now fun _ => rfl
theorem eqNet_self (n : Int) (l : List S100) (hl : l.length ≤ 9223372036854775807) : Ev (fun k => laws_eqNet.f k n l n l) true := by
  unfold laws_eqNet.f
  simp only [if_true]
  exact Ev.bind (eqArcS_self l hl) (ev_now fun _ => by simp)
theorem toIntS_ev (l : List Int) (hl : l.length ≤ 1048576) : Ev (fun k => laws_toIntS.f k l) l := by
  unfold laws_toIntS.f
  have h0 : (0 : Int) ≤ (l.length : Int) := by omega
  have h1 : ((l.length : Int) : Int).toNat ≤ 35184372088832 := by omega
  simp only [h0, h1, if_true]
  refine ev_ind (fun k (s : Nat × List Int) => laws_toIntS.l0 k l s.2 (s.1 : Int)) (fun s => l.length - s.1) (fun s => s.1 ≤ l.length ∧ s.2.length = l.length ∧ ∀ j, j < s.1 → s.2[j]? = l[j]?) (fun _ => l) ?_ (0, List.replicate l.length 0) ⟨Nat.zero_le _, by simp, fun j hj => absurd hj (Nat.not_lt_zero _)⟩
  rintro ⟨i, acc⟩ ⟨hi, ha, hp⟩ ih
  simp only at hi ha hp ih ⊢
  by_cases h : i < l.length
  · have hlt : (i : Int) < (l.length : Int) := by omega
    have hlt' : (i : Int) < (acc.length : Int) := by omega
    have h0 : (0 : Int) ≤ (i : Int) := by omega
    simp only [laws_toIntS.l0, hlt, hlt', h0, if_true, rd_at l i h, wsucc h (show l.length ≤ 9223372036854775807 by omega), Int.toNat_natCast]
    refine ih (i + 1, acc.set i l[i]) ⟨by simp; omega, by simp [ha], ?_⟩ (by simp; omega)
    intro j hj
    simp only at hj ⊢
    rw [List.getElem?_set]
    by_cases e : i = j
    · subst e
      rw [if_pos rfl, if_pos (by omega)]
      simp [h]
    · rw [if_neg e]; exact hp j (by omega)
  · have hlt : ¬ (i : Int) < (l.length : Int) := by omega
    simp only [laws_toIntS.l0, hlt, if_false]
    refine ev_now fun k => ?_
    congr 1
    apply List.ext_getElem?
    intro j
    by_cases hj : j < l.length
    · exact hp j (by omega)
    · rw [List.getElem?_eq_none (by omega), List.getElem?_eq_none (by omega)]
theorem eqIntS_self (l : List Int) (hl : l.length ≤ 9223372036854775807) : Ev (fun k => laws_eqIntS.f k l l) true := by
  unfold laws_eqIntS.f
  simp only [if_true]
  refine ev_ind (fun k (i : Nat) => laws_eqIntS.l0 k l l (i : Int)) (fun i => l.length - i) (fun i => i ≤ l.length) (fun _ => true) ?_ 0 (Nat.zero_le _)
  intro i hi ih
  by_cases h : i < l.length
  · have hlt : (i : Int) < (l.length : Int) := by omega
    have h0 : (0 : Int) ≤ (i : Int) := by omega
    simp only [laws_eqIntS.l0, hlt, h0, if_true, wsucc h hl]
    exact ih (i + 1) (by omega) (by omega)
  · have hlt : ¬ (i : Int) < (l.length : Int) := by omega
    simp only [laws_eqIntS.l0, hlt, if_false]
    exact ev_now fun _ => rfl
/-! ### the laws' own helpers for news -/
theorem newsL_at (l : List S68) (i : Nat) (h : i < l.length) : rd_T68 l (i : Int) = l[i] := by simp [rd_T68, h]
def newsOf (x : S68) : S70 := ⟨x.f0, x.f1, x.f2⟩
theorem toNewsS_loop (l : List S68) (hl : l.length ≤ 9223372036854775807) (i : Nat) (acc : List S70) (hi : i ≤ l.length) (ha : acc.length = l.length) (hp : ∀ j, j < i → acc[j]? = (l.map newsOf)[j]?) :
    Ev (fun k => laws_toNewsS.l0 k l acc (i : Int)) (l.map newsOf) := by
  refine ev_ind (fun k (s : Nat × List S70) => laws_toNewsS.l0 k l s.2 (s.1 : Int)) (fun s => l.length - s.1) (fun s => s.1 ≤ l.length ∧ s.2.length = l.length ∧ ∀ j, j < s.1 → s.2[j]? = (l.map newsOf)[j]?) (fun _ => l.map newsOf) ?_ (i, acc) ⟨hi, ha, hp⟩
  rintro ⟨i, acc⟩ ⟨hi, ha, hp⟩ ih
  simp only at hi ha hp ih ⊢
  by_cases h : i < l.length
  · have hlt : (i : Int) < (l.length : Int) := by omega
    have hlt' : (i : Int) < (acc.length : Int) := by omega
    have h0 : (0 : Int) ≤ (i : Int) := by omega
    simp only [laws_toNewsS.l0, hlt, hlt', h0, if_true, laws_toNews.f, Option.bind_some, newsL_at l i h, wsucc h hl, Int.toNat_natCast]
    refine ih (i + 1, acc.set i (newsOf l[i])) ⟨by simp; omega, by simp [ha], ?_⟩ (by simp; omega)
    intro j hj
    simp only at hj ⊢
    rw [List.getElem?_set]
    by_cases e : i = j
    · subst e
      rw [if_pos rfl, if_pos (by omega)]
      simp [h]
    · rw [if_neg e]; exact hp j (by omega)
  · have hlt : ¬ (i : Int) < (l.length : Int) := by omega
    simp only [laws_toNewsS.l0, hlt, if_false]
    refine ev_now fun k => ?_
    congr 1
    apply List.ext_getElem?
    intro j
    by_cases hj : j < l.length
    · exact hp j (by omega)
    · rw [List.getElem?_eq_none (by omega), List.getElem?_eq_none (by simp; omega)]
theorem toNewsS_ev (l : List S68) (hl : l.length ≤ 1048576) : Ev (fun k => laws_toNewsS.f k l) (l.map newsOf) := by
  unfold laws_toNewsS.f
  have h0 : (0 : Int) ≤ (l.length : Int) := by omega
  have h1 : ((l.length : Int) : Int).toNat ≤ 11728124029610 := by omega
  simp only [h0, h1, if_true]
  exact toNewsS_loop l (by omega) 0 _ (Nat.zero_le _) (by simp) (fun j hj => absurd hj (Nat.not_lt_zero _))
theorem eqNews_self (x : S70) : laws_eqNews.f x.f0 x.f1 x.f2 x.f0 x.f1 x.f2 = some true := by simp [laws_eqNews.f]
theorem eqNewsS_self (l : List S70) (hl : l.length ≤ 9223372036854775807) : Ev (fun k => laws_eqNewsS.f k l l) true := by
  unfold laws_eqNewsS.f
  simp only [if_true]
  refine ev_ind (fun k (i : Nat) => laws_eqNewsS.l0 k l l (i : Int)) (fun i => l.length - i) (fun i => i ≤ l.length) (fun _ => true) ?_ 0 (Nat.zero_le _)
  intro i hi ih
  by_cases h : i < l.length
  · have hlt : (i : Int) < (l.length : Int) := by omega
    have h0 : (0 : Int) ≤ (i : Int) := by omega
    simp only [laws_eqNewsS.l0, hlt, h0, if_true, eqNews_self, Option.bind_some, wsucc h hl]
    exact ih (i + 1) (by omega) (by omega)
  · have hlt : ¬ (i : Int) < (l.length : Int) := by omega
    simp only [laws_eqNewsS.l0, hlt, if_false]
    exact ev_now fun _ => rfl
theorem toLive_ev (n : Int) (l : List S132) (w : List S68) (hl : l.length ≤ 1048576) (hw : w.length ≤ 1048576) : Ev (fun k => laws_toLive.f k n l w) (n, l.map arcOf, w.map newsOf) := by
  unfold laws_toLive.f
  exact Ev.bind (toNet_ev n l hl) (Ev.bind (toNewsS_ev w hw) (ev_now fun _ => rfl))
theorem eqLive_self (n : Int) (l : List S100) (w : List S70) (hl : l.length ≤ 9223372036854775807) (hw : w.length ≤ 9223372036854775807) : Ev (fun k => laws_eqLive.f k n l w n l w) true := by
  unfold laws_eqLive.f
  refine Ev.bind (eqNet_self n l hl) ?_
  simp only [if_true]
  refine Ev.bind (eqNewsS_self w hw) ?_
  exact ev_now fun _ => by simp
theorem szLive_eq (n : Int) (l : List S132) (w : List S68) (hl : l.length ≤ 9223372036854775807) (hw : w.length ≤ 9223372036854775807) : ∃ r, laws_szLive.f n l w 1048576 = some r ∧ (r < 0 ∨ (l.length ≤ 1048576 ∧ w.length ≤ 1048576)) := by
  unfold laws_szLive.f
  simp only [szNet_eq n l hl, Option.bind_some]
  by_cases h : l.length ≤ 1048576
  · have h2 : ¬ (1048576 - (l.length : Int) < 0) := by omega
    simp only [h, if_true, h2, if_false]
    unfold laws_szNewsS.f
    by_cases h3 : wrap64 (1048576 - (l.length : Int) - (w.length : Int)) < 0
    · simp only [h3, if_true, Option.bind_some]
      exact ⟨-1, by simp, Or.inl (by omega)⟩
    · simp only [h3, if_false, Option.bind_some]
      refine ⟨_, rfl, Or.inr ⟨trivial, ?_⟩⟩
      unfold wrap64 at h3
      omega
  · simp only [h, if_false]
    exact ⟨-1, by simp, Or.inl (by omega)⟩
/-! ### marks: what a law writes into memory, and looks for again -/
theorem arc_eta (x : S100) : (⟨x.f0, x.f1, x.f2, x.f3, x.f4⟩ : S100) = x := rfl
theorem rd_set (l : List S100) (i : Nat) (v : S100) (h : i < l.length) : rd_T100 (l.set i v) (i : Int) = v := by simp [rd_T100, h]
theorem take_set_next {α : Type} (l : List α) (i : Nat) (v : α) (h : i < l.length) : (l.set i v).take (i + 1) = l.take i ++ [v] := by
  rw [List.take_succ_eq_append_getElem (by simpa using h), List.getElem_set_self, List.take_set_of_le (Nat.le_refl _)]
def nx (a : Int) : Int := wrap64 (a + 1)
def markA (a : Int) : S100 := ⟨a, nx a, nx (nx a), nx (nx (nx a)), nx (nx (nx (nx a)))⟩
def endA : Nat → Int → Int
  | 0, a => a
  | n + 1, a => endA n (nx (nx (nx (nx (nx a)))))
def marksA : Nat → Int → List S100
  | 0, _ => []
  | n + 1, a => markA a :: marksA n (nx (nx (nx (nx (nx a)))))
theorem nx_small {a : Int} (h : 0 ≤ a) (h' : a ≤ 1000000000000) : nx a = a + 1 := by unfold nx wrap64; omega
theorem endA_pos (n : Nat) : ∀ a : Int, 0 ≤ a → a + 5 * (n : Int) ≤ 1000000000 → 0 ≤ endA n a ∧ endA n a = a + 5 * (n : Int) := by
  induction n with
  | zero => intro a h _; exact ⟨h, by simp [endA]⟩
  | succ n ih =>
    intro a h h'
    unfold endA
    rw [nx_small (a := a) (by omega) (by omega), nx_small (a := a + 1) (by omega) (by omega), nx_small (a := a + 1 + 1) (by omega) (by omega), nx_small (a := a + 1 + 1 + 1) (by omega) (by omega), nx_small (a := a + 1 + 1 + 1 + 1) (by omega) (by omega)]
    have := ih (a + 1 + 1 + 1 + 1 + 1) (by omega) (by omega)
    omega
theorem marksA_length (n : Nat) : ∀ a, (marksA n a).length = n := by
  induction n with
  | zero => intro a; rfl
  | succ n ih => intro a; simp [marksA, ih]
theorem markArcS_ev (l : List S100) (a : Int) (hl : l.length ≤ 9223372036854775807) : Ev (fun k => laws_markArcS.f k l a) (endA l.length a, marksA l.length a) := by
  unfold laws_markArcS.f
  have := ev_ind (fun k (s : Nat × List S100 × Int) => laws_markArcS.l0 k s.2.1 s.2.2 (s.1 : Int)) (fun s => l.length - s.1) (fun s => s.1 ≤ l.length ∧ s.2.1.length = l.length) (fun s => (endA (l.length - s.1) s.2.2, s.2.1.take s.1 ++ marksA (l.length - s.1) s.2.2)) ?_ (0, l, a) ⟨Nat.zero_le _, rfl⟩
  · simpa using this
  rintro ⟨i, x, a⟩ ⟨hi, hx⟩ ih
  simp only at hi hx ih ⊢
  by_cases h : i < l.length
  · have hlt : (i : Int) < (x.length : Int) := by omega
    have h0 : (0 : Int) ≤ (i : Int) := by omega
    have hix : i < x.length := by omega
    simp only [laws_markArcS.l0, hlt, h0, if_true, Option.bind_some, Int.toNat_natCast, rd_set, hix, List.length_set, List.set_set, wsucc h hl]
    refine ev_at (ih (i + 1, x.set i (markA a), nx (nx (nx (nx (nx a))))) ⟨by simp; omega, by simp [hx]⟩ (by simp; omega)) ?_
    obtain ⟨d, hd⟩ : ∃ d, l.length - i = d + 1 := ⟨l.length - i - 1, by omega⟩
    simp only [show l.length - (i + 1) = d by omega, hd, endA, marksA, take_set_next _ _ _ hix, List.append_assoc, List.singleton_append]
  · have hlt : ¬ (i : Int) < (x.length : Int) := by omega
    simp only [laws_markArcS.l0, hlt, if_false]
    refine ev_now fun k => ?_
    rw [show l.length - i = 0 by omega, List.take_of_length_le (by omega)]
    simp [endA, marksA]
theorem heldArcS_ev (n : Nat) (a : Int) (hl : n ≤ 9223372036854775807) : Ev (fun k => laws_heldArcS.f k (marksA n a) a) (endA n a) := by
  unfold laws_heldArcS.f
  have := ev_ind (fun k (s : Nat × Int) => laws_heldArcS.l0 k (marksA n a) s.2 (s.1 : Int)) (fun s => n - s.1) (fun s => s.1 ≤ n ∧ (marksA n a).drop s.1 = marksA (n - s.1) s.2) (fun s => endA (n - s.1) s.2) ?_ (0, a) ⟨Nat.zero_le _, by simp⟩
  · simpa using this
  rintro ⟨i, b⟩ ⟨hi, hx⟩ ih
  simp only at hi hx ih ⊢
  have hlen := marksA_length n a
  by_cases h : i < n
  · have hlt : (i : Int) < ((marksA n a).length : Int) := by omega
    have h0 : (0 : Int) ≤ (i : Int) := by omega
    obtain ⟨d, hd⟩ : ∃ d, n - i = d + 1 := ⟨n - i - 1, by omega⟩
    rw [hd, marksA, List.drop_eq_getElem_cons (by omega), List.cons.injEq] at hx
    have hr : rd_T100 (marksA n a) (i : Int) = markA b := by rw [arc_at _ _ (by omega)]; exact hx.1
    simp only [laws_heldArcS.l0, hlt, h0, if_true, hr, wsucc h hl]
    refine ev_at (g := fun k => laws_heldArcS.l0 k (marksA n a) (nx (nx (nx (nx (nx b))))) ((i + 1 : Nat) : Int)) (ih (i + 1, nx (nx (nx (nx (nx b))))) ⟨by simp; omega, ?_⟩ (by simp; omega)) ?_ |> fun z => by simpa [markA, nx] using z
    · simp only
      rw [show n - (i + 1) = d by omega]
      exact hx.2
    · rw [show n - (i + 1) = d by omega, hd, endA]
  · have hlt : ¬ (i : Int) < ((marksA n a).length : Int) := by omega
    simp only [laws_heldArcS.l0, hlt, if_false]
    refine ev_now fun k => ?_
    rw [show n - i = 0 by omega, endA]
theorem markNet_ev (n : Int) (l : List S100) (a : Int) (hl : l.length ≤ 9223372036854775807) : Ev (fun k => laws_markNet.f k n l a) (endA l.length a, marksA l.length a) := by
  unfold laws_markNet.f
  exact Ev.bind (markArcS_ev l a hl) (ev_now fun _ => rfl)
theorem heldNet_ev (m : Int) (n : Nat) (a : Int) (hl : n ≤ 9223372036854775807) (hp : 0 ≤ endA n a) : Ev (fun k => laws_heldNet.f k m (marksA n a) a) (endA n a) := by
  unfold laws_heldNet.f
  refine Ev.bind (heldArcS_ev n a hl) (ev_now fun _ => ?_)
  rw [if_neg (by omega)]
/-! ### marks of news -/
theorem news_eta (x : S70) : (⟨x.f0, x.f1, x.f2⟩ : S70) = x := rfl
theorem rdN_set (l : List S70) (i : Nat) (v : S70) (h : i < l.length) : rd_T70 (l.set i v) (i : Int) = v := by simp [rd_T70, h]
def markN (a : Int) : S70 := ⟨a, nx a, nx (nx a)⟩
def endN : Nat → Int → Int
  | 0, a => a
  | n + 1, a => endN n (nx (nx (nx a)))
def marksN : Nat → Int → List S70
  | 0, _ => []
  | n + 1, a => markN a :: marksN n (nx (nx (nx a)))
theorem marksN_length (n : Nat) : ∀ a, (marksN n a).length = n := by
  induction n with
  | zero => intro a; rfl
  | succ n ih => intro a; simp [marksN, ih]
theorem markNewsS_ev (l : List S70) (a : Int) (hl : l.length ≤ 9223372036854775807) : Ev (fun k => laws_markNewsS.f k l a) (endN l.length a, marksN l.length a) := by
  unfold laws_markNewsS.f
  have := ev_ind (fun k (s : Nat × List S70 × Int) => laws_markNewsS.l0 k s.2.1 s.2.2 (s.1 : Int)) (fun s => l.length - s.1) (fun s => s.1 ≤ l.length ∧ s.2.1.length = l.length) (fun s => (endN (l.length - s.1) s.2.2, s.2.1.take s.1 ++ marksN (l.length - s.1) s.2.2)) ?_ (0, l, a) ⟨Nat.zero_le _, rfl⟩
  · simpa using this
  rintro ⟨i, x, a⟩ ⟨hi, hx⟩ ih
  simp only at hi hx ih ⊢
  by_cases h : i < l.length
  · have hlt : (i : Int) < (x.length : Int) := by omega
    have h0 : (0 : Int) ≤ (i : Int) := by omega
    have hix : i < x.length := by omega
    simp only [laws_markNewsS.l0, hlt, h0, if_true, Option.bind_some, Int.toNat_natCast, rdN_set, hix, List.length_set, List.set_set, wsucc h hl]
    refine ev_at (ih (i + 1, x.set i (markN a), nx (nx (nx a))) ⟨by simp; omega, by simp [hx]⟩ (by simp; omega)) ?_
    obtain ⟨d, hd⟩ : ∃ d, l.length - i = d + 1 := ⟨l.length - i - 1, by omega⟩
    simp only [show l.length - (i + 1) = d by omega, hd, endN, marksN, take_set_next _ _ _ hix, List.append_assoc, List.singleton_append]
  · have hlt : ¬ (i : Int) < (x.length : Int) := by omega
    simp only [laws_markNewsS.l0, hlt, if_false]
    refine ev_now fun k => ?_
    rw [show l.length - i = 0 by omega, List.take_of_length_le (by omega)]
    simp [endN, marksN]
theorem markLive_ev (n : Int) (l : List S100) (w : List S70) (a : Int) (hl : l.length ≤ 9223372036854775807) (hw : w.length ≤ 9223372036854775807) : Ev (fun k => laws_markLive.f k n l w a) (endN w.length (endA l.length a), marksA l.length a, marksN w.length (endA l.length a)) := by
  unfold laws_markLive.f
  exact Ev.bind (markNet_ev n l a hl) (Ev.bind (markNewsS_ev w _ hw) (ev_now fun _ => rfl))
theorem endN_pos (n : Nat) : ∀ a : Int, 0 ≤ a → a + 3 * (n : Int) ≤ 1000000000 → 0 ≤ endN n a ∧ endN n a = a + 3 * (n : Int) := by
  induction n with
  | zero => intro a h _; exact ⟨h, by simp [endN]⟩
  | succ n ih =>
    intro a h h'
    unfold endN
    rw [nx_small (a := a) (by omega) (by omega), nx_small (a := a + 1) (by omega) (by omega), nx_small (a := a + 1 + 1) (by omega) (by omega)]
    have := ih (a + 1 + 1 + 1) (by omega) (by omega)
    omega
/-! ### marks of news, held -/
theorem heldNewsS_ev (n : Nat) (a : Int) (hl : n ≤ 9223372036854775807) : Ev (fun k => laws_heldNewsS.f k (marksN n a) a) (endN n a) := by
  unfold laws_heldNewsS.f
  have := ev_ind (fun k (s : Nat × Int) => laws_heldNewsS.l0 k (marksN n a) s.2 (s.1 : Int)) (fun s => n - s.1) (fun s => s.1 ≤ n ∧ (marksN n a).drop s.1 = marksN (n - s.1) s.2) (fun s => endN (n - s.1) s.2) ?_ (0, a) ⟨Nat.zero_le _, by simp⟩
  · simpa using this
  rintro ⟨i, b⟩ ⟨hi, hx⟩ ih
  simp only at hi hx ih ⊢
  have hlen := marksN_length n a
  by_cases h : i < n
  · have hlt : (i : Int) < ((marksN n a).length : Int) := by omega
    have h0 : (0 : Int) ≤ (i : Int) := by omega
    obtain ⟨d, hd⟩ : ∃ d, n - i = d + 1 := ⟨n - i - 1, by omega⟩
    rw [hd, marksN, List.drop_eq_getElem_cons (by omega), List.cons.injEq] at hx
    have hr : rd_T70 (marksN n a) (i : Int) = markN b := by rw [news_at _ _ (by omega)]; exact hx.1
    simp only [laws_heldNewsS.l0, hlt, h0, if_true, hr, wsucc h hl]
    refine ev_at (g := fun k => laws_heldNewsS.l0 k (marksN n a) (nx (nx (nx b))) ((i + 1 : Nat) : Int)) (ih (i + 1, nx (nx (nx b))) ⟨by simp; omega, ?_⟩ (by simp; omega)) ?_ |> fun z => by simpa [markN, nx] using z
    · simp only
      rw [show n - (i + 1) = d by omega]
      exact hx.2
    · rw [show n - (i + 1) = d by omega, hd, endN]
  · have hlt : ¬ (i : Int) < ((marksN n a).length : Int) := by omega
    simp only [laws_heldNewsS.l0, hlt, if_false]
    refine ev_now fun k => ?_
    rw [show n - i = 0 by omega, endN]
theorem heldLive_ev (m : Int) (n q : Nat) (hl : n ≤ 100) (hq : q ≤ 100) : Ev (fun k => laws_heldLive.f k m (marksA n 1) (marksN q (endA n 1)) 1) (endN q (endA n 1)) := by
  have h1 := endA_pos n 1 (by omega) (by omega)
  have h2 := endN_pos q (endA n 1) h1.1 (by omega)
  have e1 : ¬ endA n 1 < 0 := by omega
  have e2 : ¬ endN q (endA n 1) < 0 := by omega
  unfold laws_heldLive.f
  refine Ev.bind (heldNet_ev m n 1 (by omega) h1.1) ?_
  simp only [e1, if_false]
  refine Ev.bind (heldNewsS_ev q _ (by omega)) ?_
  simp only [e2, if_false]
  exact ev_now fun _ => rfl
theorem tellW_len (n : Int) (l : List S100) (w : List S70) (x : S70) : ∀ V, V = (if liveB n l w = true then tellV n l w (tellS x w false) else (0, [], [], false)) → V.2.1.length ≤ 16 ∧ V.2.2.1.length ≤ 6 := by
  rintro V rfl
  split
  · rename_i h
    unfold tellV
    split
    · rename_i h2
      exact ⟨(net1_of (liveB_len h2).1).len, (liveB_len h2).2⟩
    · exact ⟨(net1_of (liveB_len h).1).len, (liveB_len h).2⟩
  · simp
theorem FnExactLiveTell : laws_FnExactLiveTell.Pure := by
  intro n l w a b c _ hl hw _ _ _
  refine Ev.rounds ?_
  unfold laws_FnExactLiveTell.f
  obtain ⟨r, hr, hr'⟩ := szLive_eq n l w hl.1 hw.1
  simp only [hr, Option.bind_some]
  rcases hr' with h | ⟨h1, h2⟩
  · simp only [h, if_true]; exact ev_now fun _ => rfl
  by_cases h : r < 0
  · simp only [h, if_true]; exact ev_now fun _ => rfl
  simp only [h, if_false, laws_toNews.f, Option.bind_some]
  have hlm : (l.map arcOf).length ≤ 9223372036854775807 := by rw [List.length_map]; omega
  have hwm : (w.map newsOf).length ≤ 9223372036854775807 := by rw [List.length_map]; omega
  have hs := specTell_ev n (l.map arcOf) (w.map newsOf) hlm hwm a b c
  have hi := implTell_ev n (l.map arcOf) (w.map newsOf) hwm a b c
  have hv := tellW_len n (l.map arcOf) (w.map newsOf) ⟨a, b, c⟩ _ rfl
  generalize (if liveB n (l.map arcOf) (w.map newsOf) = true then tellV n (l.map arcOf) (w.map newsOf) (tellS ⟨a, b, c⟩ (w.map newsOf) false) else (0, [], [], false)) = V at hs hi hv
  obtain ⟨vn, vl, vw, vb⟩ := V
  obtain ⟨v1, v2⟩ := hv
  simp only at v1 v2
  have ha := endA_pos (l.map arcOf).length 1 (by omega) (by rw [List.length_map]; omega)
  have hb := endN_pos (w.map newsOf).length (endA (l.map arcOf).length 1) (by omega) (by rw [ha.2, List.length_map, List.length_map]; omega)
  have e1 : ¬ endN (w.map newsOf).length (endA (l.map arcOf).length 1) < 0 := by omega
  have hc := endA_pos vl.length 1 (by omega) (by omega)
  have hd := endN_pos vw.length (endA vl.length 1) (by omega) (by omega)
  have e2 : ¬ endN vw.length (endA vl.length 1) < 0 := by omega
  have hel : Ev (fun k => laws_eqLive.f k vn vl vw vn vl vw) true := eqLive_self vn vl vw (by omega) (by omega)
  have hheld := heldLive_ev vn vl.length vw.length (by omega) (by omega)
  refine Ev.bind (toLive_ev n l w h1 h2) (Ev.bind hs (Ev.bind (toLive_ev n l w h1 h2) (Ev.bind hi (Ev.bind hel ?_))))
  simp only [if_true, bne_self_eq_false]
  refine ev_shift ?_
  simp only [laws_FnExactLiveTell.j0, Bool.false_eq_true, if_false]
  refine Ev.bind (toLive_ev n l w h1 h2) (Ev.bind (eqLive_self n _ _ hlm hwm) ?_)
  simp only [if_true]
  refine Ev.bind (markLive_ev n _ _ 1 hlm hwm) ?_
  simp only [e1, if_false]
  refine Ev.bind hel ?_
  simp only [if_true, bne_self_eq_false]
  refine ev_shift ?_
  simp only [laws_FnExactLiveTell.j1, Bool.false_eq_true, if_false, laws_toNews.f, Option.bind_some]
  refine Ev.bind (markLive_ev vn vl vw 1 (by omega) (by omega)) (Ev.bind hheld ?_)
  simp only [e2, if_false, if_true]
  refine Ev.bind (toLive_ev n l w h1 h2) (Ev.bind hi (Ev.bind hel ?_))
  simp only [if_true, bne_self_eq_false]
  refine ev_shift ?_
  simp only [laws_FnExactLiveTell.j2, Bool.false_eq_true, if_false]
  refine Ev.bind hheld ?_
  simp only [e2, if_false, if_true]
  exact ev_now fun _ => rfl
end Go.Proofs.Ytbappbbljncdeaa.Pure
