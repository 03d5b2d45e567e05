import Derived.Test.YtbappbbljncdeaaPureMarks
import Derived.Test.YtbappbbljncdeaaFlawsMarkInt
namespace Go.Proofs.Ytbappbbljncdeaa.Pure
open Go.RowKit Go.Proofs.Ytbappbbljncdeaa.F Go.Proofs.YtbappbbljncdeaaW.PrintWords
set_option linter.unusedVariables false
set_option linter.unusedSimpArgs false
/-! ### marks of numbers -/
def endI : Nat → Int → Int
  | 0, a => a
  | n + 1, a => endI n (nx a)
def marksI : Nat → Int → List Int
  | 0, _ => []
  | n + 1, a => a :: marksI n (nx a)
theorem marksI_length (n : Nat) : ∀ a, (marksI n a).length = n := by
  induction n with
  | zero => intro a; rfl
  | succ n ih => intro a; simp [marksI, ih]
theorem endI_pos (n : Nat) : ∀ a : Int, 0 ≤ a → a + (n : Int) ≤ 1000000000 → 0 ≤ endI n a ∧ endI n a = a + (n : Int) := by
  induction n with
  | zero => intro a h _; exact ⟨h, by simp [endI]⟩
  | succ n ih =>
    intro a h h'
    unfold endI
    rw [nx_small (a := a) (by omega) (by omega)]
    have := ih (a + 1) (by omega) (by omega)
    omega
theorem markIntS_ev (l : List Int) (a : Int) (hl : l.length ≤ 9223372036854775807) : Ev (fun k => laws_markIntS.f k l a) (endI l.length a, marksI l.length a) := by
  unfold laws_markIntS.f
  have := ev_ind (fun k (s : Nat × List Int × Int) => laws_markIntS.l0 k s.2.1 s.2.2 (s.1 : Int)) (fun s => l.length - s.1) (fun s => s.1 ≤ l.length ∧ s.2.1.length = l.length) (fun s => (endI (l.length - s.1) s.2.2, s.2.1.take s.1 ++ marksI (l.length - s.1) s.2.2)) ?_ (0, l, a) ⟨Nat.zero_le _, rfl⟩
  · simpa using this
  rintro ⟨i, x, a⟩ ⟨hi, hx⟩ ih
  simp only at hi hx ih ⊢
  by_cases h : i < l.length
  · have hlt : (i : Int) < (x.length : Int) := by omega
    have h0 : (0 : Int) ≤ (i : Int) := by omega
    have hix : i < x.length := by omega
    simp only [laws_markIntS.l0, hlt, h0, if_true, Int.toNat_natCast, wsucc h hl]
    refine ev_at (ih (i + 1, x.set i a, nx a) ⟨by simp; omega, by simp [hx]⟩ (by simp; omega)) ?_
    obtain ⟨d, hd⟩ : ∃ d, l.length - i = d + 1 := ⟨l.length - i - 1, by omega⟩
    simp only [show l.length - (i + 1) = d by omega, hd, endI, marksI, take_set_next _ _ _ hix, List.append_assoc, List.singleton_append]
  · have hlt : ¬ (i : Int) < (x.length : Int) := by omega
    simp only [laws_markIntS.l0, hlt, if_false]
    refine ev_now fun k => ?_
    rw [show l.length - i = 0 by omega, List.take_of_length_le (by omega)]
    simp [endI, marksI]
theorem heldIntS_ev (n : Nat) (a : Int) (hl : n ≤ 9223372036854775807) : Ev (fun k => laws_heldIntS.f k (marksI n a) a) (endI n a) := by
  unfold laws_heldIntS.f
  have := ev_ind (fun k (s : Nat × Int) => laws_heldIntS.l0 k (marksI n a) s.2 (s.1 : Int)) (fun s => n - s.1) (fun s => s.1 ≤ n ∧ (marksI n a).drop s.1 = marksI (n - s.1) s.2) (fun s => endI (n - s.1) s.2) ?_ (0, a) ⟨Nat.zero_le _, by simp⟩
  · simpa using this
  rintro ⟨i, b⟩ ⟨hi, hx⟩ ih
  simp only at hi hx ih ⊢
  have hlen := marksI_length n a
  by_cases h : i < n
  · have hlt : (i : Int) < ((marksI n a).length : Int) := by omega
    have h0 : (0 : Int) ≤ (i : Int) := by omega
    obtain ⟨d, hd⟩ : ∃ d, n - i = d + 1 := ⟨n - i - 1, by omega⟩
    rw [hd, marksI, List.drop_eq_getElem_cons (by omega), List.cons.injEq] at hx
    have hr : rd (marksI n a) (i : Int) = b := by rw [rd_at _ _ (by omega)]; exact hx.1
    simp only [laws_heldIntS.l0, hlt, h0, if_true, hr, wsucc h hl]
    refine ev_at (g := fun k => laws_heldIntS.l0 k (marksI n a) (nx b) ((i + 1 : Nat) : Int)) (ih (i + 1, nx b) ⟨by simp; omega, ?_⟩ (by simp; omega)) ?_ |> fun z => by simpa [nx] using z
    · simp only
      rw [show n - (i + 1) = d by omega]
      exact hx.2
    · rw [show n - (i + 1) = d by omega, hd, endI]
  · have hlt : ¬ (i : Int) < ((marksI n a).length : Int) := by omega
    simp only [laws_heldIntS.l0, hlt, if_false]
    refine ev_now fun k => ?_
    rw [show n - i = 0 by omega, endI]
end Go.Proofs.Ytbappbbljncdeaa.Pure
