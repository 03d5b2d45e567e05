import Derived.Test.YtbappbbljncdeaaPureUpB
import Derived.Test.YtbappbbljncdeaaPureCopied
import Derived.Test.YtbappbbljncdeaaFKinds
import Derived.Test.YtbappbbljncdeaaFimplLiveOver
import Derived.Test.YtbappbbljncdeaaFimplNews101
import Derived.Test.YtbappbbljncdeaaFimplNews102
import Derived.Test.YtbappbbljncdeaaFspecLiveOver
import Derived.Test.YtbappbbljncdeaaFspecl1Copy
import Derived.Test.YtbappbbljncdeaaFtextfind
namespace Go.Proofs.Ytbappbbljncdeaa.Pure
open Go.RowKit Go.Proofs.Ytbappbbljncdeaa.F Go.Proofs.YtbappbbljncdeaaW.PrintWords
set_option linter.unusedVariables false
set_option linter.unusedSimpArgs false
/-! ### what is over -/
def overL (w : List S70) (id : Int) : List S70 := w.filter fun y => decide (¬ y.f0 = id)
def overV (n : Int) (l : List S100) (w : List S70) (id : Int) : Int × List S100 × List S70 × Bool := if liveB n l w = true then (n, l, overL w id, decide ((overL w id).length < w.length)) else (0, [], [], false)
theorem specOver_ev (n : Int) (l : List S100) (w : List S70) (hl : l.length ≤ 9223372036854775807) (hw : w.length ≤ 9223372036854775807) (id : Int) : Ev (fun k => spec_LiveOver.f k n l w id) (overV n l w id) := by
  unfold spec_LiveOver.f overV
  refine Ev.bind (l16Ok_ev n l w hl hw) ?_
  cases hok : liveB n l w with
  | false => simp only [Bool.false_eq_true, if_false]; exact ev_now fun _ => rfl
  | true =>
    have h1 := (net1_of (liveB_len hok).1).len
    have h2 := (liveB_len hok).2
    have h3 : l.length < 3518437208883 := by omega
    unfold spec_l1Copy.f
    simp only [if_true, Option.bind_some, List.length_nil, Nat.zero_add, h3, List.nil_append]
    refine ev_at (ev_ind (fun k (s : Nat × List S70) => spec_LiveOver.l0 k id (s.1 : Int) n l w n l s.2) (fun s => w.length - s.1) (fun s => s.1 ≤ w.length ∧ s.2.length ≤ s.1) (fun s => (n, l, s.2 ++ overL (w.drop s.1) id, decide ((s.2 ++ overL (w.drop s.1) id).length < w.length))) ?_ (0, []) ⟨Nat.zero_le _, by simp⟩) (by simp)
    rintro ⟨i, acc⟩ ⟨hi, ha⟩ ih
    simp only at hi ha ih ⊢
    by_cases h : i < w.length
    · have hlt : (i : Int) < (w.length : Int) := by omega
      have h0 : (0 : Int) ≤ (i : Int) := by omega
      have b1 : acc.length < 5864062014805 := by omega
      have hd : w.drop i = w[i] :: w.drop (i + 1) := List.drop_eq_getElem_cons h
      simp only [spec_LiveOver.l0, hlt, h0, if_true, news_at w i h, b1, wsucc h hw]
      rw [hd]
      unfold overL
      rw [List.filter_cons]
      by_cases e : w[i].f0 = id
      · simp only [e, if_true, not_true, decide_false, Bool.false_eq_true, if_false]
        exact ih (i + 1, acc) ⟨by simp; omega, by simp; omega⟩ (by simp; omega)
      · simp only [e, if_false, not_false_eq_true, decide_true, if_true]
        refine ev_at (ih (i + 1, acc ++ [w[i]]) ⟨by simp; omega, by simp; omega⟩ (by simp; omega)) ?_
        unfold overL
        simp
    · have hlt : ¬ (i : Int) < (w.length : Int) := by omega
      have hd : w.drop i = [] := List.drop_of_length_le (by omega)
      simp only [spec_LiveOver.l0, hlt, if_false]
      refine ev_now fun _ => ?_
      rw [hd]
      unfold overL
      simp
theorem implOver_ev (n : Int) (l : List S100) (w : List S70) (hw : w.length ≤ 9223372036854775807) (id : Int) : Ev (fun k => impl_LiveOver.f k n l w id) (overV n l w id) := by
  unfold impl_LiveOver.f overV
  refine Ev.bind (implLiveOk_ev n l w hw) ?_
  cases hok : liveB n l w with
  | false => simp only [Bool.false_eq_true, if_false]; exact ev_now fun _ => rfl
  | true =>
    have h2 := (liveB_len hok).2
    obtain ⟨a1, a2⟩ := there_over id w (live_up hok)
    simp only [if_true, copied_eq hok, find_eq hok, Option.bind_some]
    cases ht : thereB id w with
    | true =>
      obtain ⟨b1, b2⟩ := a1 ht
      have hw1 : wrap64 (((findP id w : Nat) : Int) + 1) = ((findP id w : Nat) : Int) + 1 := w_id (by omega) (by omega)
      have e : overL w id = w.take (findP id w) ++ w.drop (findP id w + 1) := b2
      have el : (overL w id).length < w.length := by rw [e, List.length_append, List.length_take, List.length_drop]; omega
      unfold impl_News_102.f impl_News_101.f
      simp only [if_true]
      rw [if_pos ⟨by omega, by omega, hw1⟩, Int.toNat_natCast, ← e]
      exact ev_now fun _ => by simp [el]
    | false =>
      have e : overL w id = w := a2 ht
      simp only [Bool.false_eq_true, if_false]
      rw [e]
      exact ev_now fun _ => by simp
end Go.Proofs.Ytbappbbljncdeaa.Pure
