import Derived.Test.YtbappbbljncdeaaPureNews
import Derived.Test.YtbappbbljncdeaaPureMarks
import Derived.Test.YtbappbbljncdeaaFKinds
import Derived.Test.YtbappbbljncdeaaFlawsmarkLive
import Derived.Test.YtbappbbljncdeaaFlawsmarkNewsS
namespace Go.Proofs.Ytbappbbljncdeaa.Pure
open Go.RowKit Go.Proofs.Ytbappbbljncdeaa.F Go.Proofs.YtbappbbljncdeaaW.PrintWords
set_option linter.unusedVariables false
set_option linter.unusedSimpArgs false
/-! ### marks of news -/
theorem news_eta (x : S70) : (⟨x.f0, x.f1, x.f2⟩ : S70) = x := rfl
theorem rdN_set (l : List S70) (i : Nat) (v : S70) (h : i < l.length) : rd_T70 (l.set i v) (i : Int) = v := by simp [rd_T70, h]
def markN (a : Int) : S70 := ⟨a, nx a, nx (nx a)⟩
def endN : Nat → Int → Int
  | 0, a => a
  | n + 1, a => endN n (nx (nx (nx a)))
def marksN : Nat → Int → List S70
  | 0, _ => []
  | n + 1, a => markN a :: marksN n (nx (nx (nx a)))
theorem marksN_length (n : Nat) : ∀ a, (marksN n a).length = n := by
  induction n with
  | zero => intro a; rfl
  | succ n ih => intro a; simp [marksN, ih]
theorem markNewsS_ev (l : List S70) (a : Int) (hl : l.length ≤ 9223372036854775807) : Ev (fun k => laws_markNewsS.f k l a) (endN l.length a, marksN l.length a) := by
  unfold laws_markNewsS.f
  have := ev_ind (fun k (s : Nat × List S70 × Int) => laws_markNewsS.l0 k s.2.1 s.2.2 (s.1 : Int)) (fun s => l.length - s.1) (fun s => s.1 ≤ l.length ∧ s.2.1.length = l.length) (fun s => (endN (l.length - s.1) s.2.2, s.2.1.take s.1 ++ marksN (l.length - s.1) s.2.2)) ?_ (0, l, a) ⟨Nat.zero_le _, rfl⟩
  · simpa using this
  rintro ⟨i, x, a⟩ ⟨hi, hx⟩ ih
  simp only at hi hx ih ⊢
  by_cases h : i < l.length
  · have hlt : (i : Int) < (x.length : Int) := by omega
    have h0 : (0 : Int) ≤ (i : Int) := by omega
    have hix : i < x.length := by omega
    simp only [laws_markNewsS.l0, hlt, h0, if_true, Option.bind_some, Int.toNat_natCast, rdN_set, hix, List.length_set, List.set_set, wsucc h hl]
    refine ev_at (ih (i + 1, x.set i (markN a), nx (nx (nx a))) ⟨by simp; omega, by simp [hx]⟩ (by simp; omega)) ?_
    obtain ⟨d, hd⟩ : ∃ d, l.length - i = d + 1 := ⟨l.length - i - 1, by omega⟩
    simp only [show l.length - (i + 1) = d by omega, hd, endN, marksN, take_set_next _ _ _ hix, List.append_assoc, List.singleton_append]
  · have hlt : ¬ (i : Int) < (x.length : Int) := by omega
    simp only [laws_markNewsS.l0, hlt, if_false]
    refine ev_now fun k => ?_
    rw [show l.length - i = 0 by omega, List.take_of_length_le (by omega)]
    simp [endN, marksN]
theorem markLive_ev (n : Int) (l : List S100) (w : List S70) (a : Int) (hl : l.length ≤ 9223372036854775807) (hw : w.length ≤ 9223372036854775807) : Ev (fun k => laws_markLive.f k n l w a) (endN w.length (endA l.length a), marksA l.length a, marksN w.length (endA l.length a)) := by
  unfold laws_markLive.f
  exact Ev.bind (markNet_ev n l a hl) (Ev.bind (markNewsS_ev w _ hw) (ev_now fun _ => rfl))
theorem endN_pos (n : Nat) : ∀ a : Int, 0 ≤ a → a + 3 * (n : Int) ≤ 1000000000 → 0 ≤ endN n a ∧ endN n a = a + 3 * (n : Int) := by
  induction n with
  | zero => intro a h _; exact ⟨h, by simp [endN]⟩
  | succ n ih =>
    intro a h h'
    unfold endN
    rw [nx_small (a := a) (by omega) (by omega), nx_small (a := a + 1) (by omega) (by omega), nx_small (a := a + 1 + 1) (by omega) (by omega)]
    have := ih (a + 1 + 1 + 1) (by omega) (by omega)
    omega
end Go.Proofs.Ytbappbbljncdeaa.Pure
