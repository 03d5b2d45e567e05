import Derived.Test.YtbappbbljncdeaaPureMarksNews
import Derived.Test.YtbappbbljncdeaaPureNewsAt
import Derived.Test.YtbappbbljncdeaaFKinds
import Derived.Test.YtbappbbljncdeaaFlawsheldLive
import Derived.Test.YtbappbbljncdeaaFlawsheldNewsS
namespace Go.Proofs.Ytbappbbljncdeaa.Pure
open Go.RowKit Go.Proofs.Ytbappbbljncdeaa.F Go.Proofs.YtbappbbljncdeaaW.PrintWords
set_option linter.unusedVariables false
set_option linter.unusedSimpArgs false
/-! ### marks of news, held -/
theorem heldNewsS_ev (n : Nat) (a : Int) (hl : n ≤ 9223372036854775807) : Ev (fun k => laws_heldNewsS.f k (marksN n a) a) (endN n a) := by
  unfold laws_heldNewsS.f
  have := ev_ind (fun k (s : Nat × Int) => laws_heldNewsS.l0 k (marksN n a) s.2 (s.1 : Int)) (fun s => n - s.1) (fun s => s.1 ≤ n ∧ (marksN n a).drop s.1 = marksN (n - s.1) s.2) (fun s => endN (n - s.1) s.2) ?_ (0, a) ⟨Nat.zero_le _, by simp⟩
  · simpa using this
  rintro ⟨i, b⟩ ⟨hi, hx⟩ ih
  simp only at hi hx ih ⊢
  have hlen := marksN_length n a
  by_cases h : i < n
  · have hlt : (i : Int) < ((marksN n a).length : Int) := by omega
    have h0 : (0 : Int) ≤ (i : Int) := by omega
    obtain ⟨d, hd⟩ : ∃ d, n - i = d + 1 := ⟨n - i - 1, by omega⟩
    rw [hd, marksN, List.drop_eq_getElem_cons (by omega), List.cons.injEq] at hx
    have hr : rd_T70 (marksN n a) (i : Int) = markN b := by rw [news_at _ _ (by omega)]; exact hx.1
    simp only [laws_heldNewsS.l0, hlt, h0, if_true, hr, wsucc h hl]
    refine ev_at (g := fun k => laws_heldNewsS.l0 k (marksN n a) (nx (nx (nx b))) ((i + 1 : Nat) : Int)) (ih (i + 1, nx (nx (nx b))) ⟨by simp; omega, ?_⟩ (by simp; omega)) ?_ |> fun z => by simpa [markN, nx] using z
    · simp only
      rw [show n - (i + 1) = d by omega]
      exact hx.2
    · rw [show n - (i + 1) = d by omega, hd, endN]
  · have hlt : ¬ (i : Int) < ((marksN n a).length : Int) := by omega
    simp only [laws_heldNewsS.l0, hlt, if_false]
    refine ev_now fun k => ?_
    rw [show n - i = 0 by omega, endN]
theorem heldLive_ev (m : Int) (n q : Nat) (hl : n ≤ 100) (hq : q ≤ 100) : Ev (fun k => laws_heldLive.f k m (marksA n 1) (marksN q (endA n 1)) 1) (endN q (endA n 1)) := by
  have h1 := endA_pos n 1 (by omega) (by omega)
  have h2 := endN_pos q (endA n 1) h1.1 (by omega)
  have e1 : ¬ endA n 1 < 0 := by omega
  have e2 : ¬ endN q (endA n 1) < 0 := by omega
  unfold laws_heldLive.f
  refine Ev.bind (heldNet_ev m n 1 (by omega) h1.1) ?_
  simp only [e1, if_false]
  refine Ev.bind (heldNewsS_ev q _ (by omega)) ?_
  simp only [e2, if_false]
  exact ev_now fun _ => rfl
end Go.Proofs.Ytbappbbljncdeaa.Pure
