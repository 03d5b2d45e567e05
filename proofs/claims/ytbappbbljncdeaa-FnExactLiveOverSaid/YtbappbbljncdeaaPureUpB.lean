import Derived.Test.YtbappbbljncdeaaPureLiveOk
import Derived.Test.YtbappbbljncdeaaFKinds
import Derived.Test.YtbappbbljncdeaaFimplLivefind
import Derived.Test.YtbappbbljncdeaaFtextfind
namespace Go.Proofs.Ytbappbbljncdeaa.Pure
open Go.RowKit Go.Proofs.Ytbappbbljncdeaa.F Go.Proofs.YtbappbbljncdeaaW.PrintWords
set_option linter.unusedVariables false
set_option linter.unusedSimpArgs false
/-! ### news in order, and their places -/
theorem upB_cons {x : S70} {xs : List S70} : upB (x :: xs) = true ↔ (∀ y ∈ xs, x.f0 < y.f0) ∧ upB xs = true := by
  show ((xs.all fun y => decide (x.f0 < y.f0)) && upB xs) = true ↔ _
  rw [Bool.and_eq_true, List.all_eq_true]
  simp only [decide_eq_true_eq]
theorem upB_next : ∀ (w : List S70), (∀ i (h : i + 1 < w.length), (w[i]'(by omega)).f0 < w[i + 1].f0) → upB w = true
  | [], _ => rfl
  | [x], _ => rfl
  | x :: y :: ys, h => by
    have ih := upB_next (y :: ys) (fun i hi => h (i + 1) (by simpa using hi))
    have h0 : x.f0 < y.f0 := by simpa using h 0 (by simp)
    rw [upB_cons]
    refine ⟨fun z hz => ?_, ih⟩
    rw [List.mem_cons] at hz
    rcases hz with rfl | hz
    · exact h0
    · exact Int.lt_trans h0 ((upB_cons.1 ih).1 z hz)
theorem live_up {n : Int} {l : List S100} {w : List S70} (h : liveB n l w = true) : upB w = true := by
  refine upB_next w fun i hi => ?_
  have h1 := liveB_at h (i + 1) hi
  unfold newsAt at h1
  rw [Bool.and_eq_true, Bool.or_eq_true, decide_eq_true_eq, decide_eq_true_eq, Nat.add_sub_cancel] at h1
  rcases h1.2 with h2 | h2
  · omega
  · rwa [news_at w (i + 1) hi, news_at w i (by omega)] at h2
theorem find_eq {n : Int} {l : List S100} {w : List S70} (h : liveB n l w = true) (id : Int) : impl_Live_find.f n l w id = some (((findP id w : Nat) : Int), thereB id w) := by
  unfold impl_Live_find.f
  rw [if_pos ⟨live_up h, by have := (liveB_len h).2; omega⟩]
theorem findP_cons (id : Int) (x : S70) (xs : List S70) : findP id (x :: xs) = if x.f0 < id then findP id xs + 1 else 0 := rfl
theorem there_cons (id : Int) (x : S70) (xs : List S70) : thereB id (x :: xs) = if x.f0 < id then thereB id xs else decide (x.f0 = id) := by
  unfold thereB
  rw [findP_cons]
  by_cases c : x.f0 < id
  · rw [if_pos c, if_pos c]
    have e : decide (findP id xs + 1 < (x :: xs).length) = decide (findP id xs < xs.length) := by simp
    rw [e]
    rfl
  · rw [if_neg c, if_neg c]
    have e : decide (0 < (x :: xs).length) = true := by simp
    rw [e, Bool.true_and]
    rfl
theorem there_over (id : Int) : ∀ (w : List S70), upB w = true → (thereB id w = true → findP id w < w.length ∧ (w.filter fun y => decide (¬ y.f0 = id)) = w.take (findP id w) ++ w.drop (findP id w + 1)) ∧ (thereB id w = false → (w.filter fun y => decide (¬ y.f0 = id)) = w)
  | [], _ => ⟨fun h => absurd h (by simp [thereB]), fun _ => rfl⟩
  | x :: xs, hu => by
    obtain ⟨h1, h2⟩ := upB_cons.1 hu
    obtain ⟨i1, i2⟩ := there_over id xs h2
    rw [there_cons, findP_cons]
    by_cases c : x.f0 < id
    · have hne : ¬ x.f0 = id := by omega
      rw [if_pos c, if_pos c, List.filter_cons, if_pos (by simpa using hne)]
      refine ⟨fun h => ?_, fun h => by rw [i2 h]⟩
      obtain ⟨j1, j2⟩ := i1 h
      refine ⟨by simp; omega, ?_⟩
      rw [j2]
      rfl
    · have hk : ¬ x.f0 < id → (xs.filter fun y => decide (¬ y.f0 = id)) = xs := fun _ => List.filter_eq_self.2 fun y hy => by
        have := h1 y hy
        simp only [decide_eq_true_eq]
        omega
      rw [if_neg c, if_neg c, List.filter_cons, hk c]
      by_cases e : x.f0 = id
      · refine ⟨fun _ => ⟨by simp, ?_⟩, fun h => absurd h (by simp [e])⟩
        rw [if_neg (by simp [e])]
        rfl
      · refine ⟨fun h => absurd h (by simp [e]), fun _ => ?_⟩
        rw [if_pos (by simpa using e)]
end Go.Proofs.Ytbappbbljncdeaa.Pure
