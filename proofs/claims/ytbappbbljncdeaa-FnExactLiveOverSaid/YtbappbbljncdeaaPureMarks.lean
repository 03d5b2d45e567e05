import Derived.Test.YtbappbbljncdeaaPureSame
import Derived.Test.YtbappbbljncdeaaFKinds
import Derived.Test.YtbappbbljncdeaaFlawsMarkInt
import Derived.Test.YtbappbbljncdeaaFlawsheldArcS
import Derived.Test.YtbappbbljncdeaaFlawsheldNet
namespace Go.Proofs.Ytbappbbljncdeaa.Pure
open Go.RowKit Go.Proofs.Ytbappbbljncdeaa.F Go.Proofs.YtbappbbljncdeaaW.PrintWords
set_option linter.unusedVariables false
set_option linter.unusedSimpArgs false
/-! ### marks: what a law writes into memory, and looks for again -/
theorem arc_eta (x : S100) : (⟨x.f0, x.f1, x.f2, x.f3, x.f4⟩ : S100) = x := rfl
theorem rd_set (l : List S100) (i : Nat) (v : S100) (h : i < l.length) : rd_T100 (l.set i v) (i : Int) = v := by simp [rd_T100, h]
theorem take_set_next {α : Type} (l : List α) (i : Nat) (v : α) (h : i < l.length) : (l.set i v).take (i + 1) = l.take i ++ [v] := by
  rw [List.take_succ_eq_append_getElem (by simpa using h), List.getElem_set_self, List.take_set_of_le (Nat.le_refl _)]
def nx (a : Int) : Int := wrap64 (a + 1)
def markA (a : Int) : S100 := ⟨a, nx a, nx (nx a), nx (nx (nx a)), nx (nx (nx (nx a)))⟩
def endA : Nat → Int → Int
  | 0, a => a
  | n + 1, a => endA n (nx (nx (nx (nx (nx a)))))
def marksA : Nat → Int → List S100
  | 0, _ => []
  | n + 1, a => markA a :: marksA n (nx (nx (nx (nx (nx a)))))
theorem nx_small {a : Int} (h : 0 ≤ a) (h' : a ≤ 1000000000000) : nx a = a + 1 := by unfold nx wrap64; omega
theorem endA_pos (n : Nat) : ∀ a : Int, 0 ≤ a → a + 5 * (n : Int) ≤ 1000000000 → 0 ≤ endA n a ∧ endA n a = a + 5 * (n : Int) := by
  induction n with
  | zero => intro a h _; exact ⟨h, by simp [endA]⟩
  | succ n ih =>
    intro a h h'
    unfold endA
    rw [nx_small (a := a) (by omega) (by omega), nx_small (a := a + 1) (by omega) (by omega), nx_small (a := a + 1 + 1) (by omega) (by omega), nx_small (a := a + 1 + 1 + 1) (by omega) (by omega), nx_small (a := a + 1 + 1 + 1 + 1) (by omega) (by omega)]
    have := ih (a + 1 + 1 + 1 + 1 + 1) (by omega) (by omega)
    omega
theorem marksA_length (n : Nat) : ∀ a, (marksA n a).length = n := by
  induction n with
  | zero => intro a; rfl
  | succ n ih => intro a; simp [marksA, ih]
theorem markArcS_ev (l : List S100) (a : Int) (hl : l.length ≤ 9223372036854775807) : Ev (fun k => laws_markArcS.f k l a) (endA l.length a, marksA l.length a) := by
  unfold laws_markArcS.f
  have := ev_ind (fun k (s : Nat × List S100 × Int) => laws_markArcS.l0 k s.2.1 s.2.2 (s.1 : Int)) (fun s => l.length - s.1) (fun s => s.1 ≤ l.length ∧ s.2.1.length = l.length) (fun s => (endA (l.length - s.1) s.2.2, s.2.1.take s.1 ++ marksA (l.length - s.1) s.2.2)) ?_ (0, l, a) ⟨Nat.zero_le _, rfl⟩
  · simpa using this
  rintro ⟨i, x, a⟩ ⟨hi, hx⟩ ih
  simp only at hi hx ih ⊢
  by_cases h : i < l.length
  · have hlt : (i : Int) < (x.length : Int) := by omega
    have h0 : (0 : Int) ≤ (i : Int) := by omega
    have hix : i < x.length := by omega
    simp only [laws_markArcS.l0, hlt, h0, if_true, Option.bind_some, Int.toNat_natCast, rd_set, hix, List.length_set, List.set_set, wsucc h hl]
    refine ev_at (ih (i + 1, x.set i (markA a), nx (nx (nx (nx (nx a))))) ⟨by simp; omega, by simp [hx]⟩ (by simp; omega)) ?_
    obtain ⟨d, hd⟩ : ∃ d, l.length - i = d + 1 := ⟨l.length - i - 1, by omega⟩
    simp only [show l.length - (i + 1) = d by omega, hd, endA, marksA, take_set_next _ _ _ hix, List.append_assoc, List.singleton_append]
  · have hlt : ¬ (i : Int) < (x.length : Int) := by omega
    simp only [laws_markArcS.l0, hlt, if_false]
    refine ev_now fun k => ?_
    rw [show l.length - i = 0 by omega, List.take_of_length_le (by omega)]
    simp [endA, marksA]
theorem heldArcS_ev (n : Nat) (a : Int) (hl : n ≤ 9223372036854775807) : Ev (fun k => laws_heldArcS.f k (marksA n a) a) (endA n a) := by
  unfold laws_heldArcS.f
  have := ev_ind (fun k (s : Nat × Int) => laws_heldArcS.l0 k (marksA n a) s.2 (s.1 : Int)) (fun s => n - s.1) (fun s => s.1 ≤ n ∧ (marksA n a).drop s.1 = marksA (n - s.1) s.2) (fun s => endA (n - s.1) s.2) ?_ (0, a) ⟨Nat.zero_le _, by simp⟩
  · simpa using this
  rintro ⟨i, b⟩ ⟨hi, hx⟩ ih
  simp only at hi hx ih ⊢
  have hlen := marksA_length n a
  by_cases h : i < n
  · have hlt : (i : Int) < ((marksA n a).length : Int) := by omega
    have h0 : (0 : Int) ≤ (i : Int) := by omega
    obtain ⟨d, hd⟩ : ∃ d, n - i = d + 1 := ⟨n - i - 1, by omega⟩
    rw [hd, marksA, List.drop_eq_getElem_cons (by omega), List.cons.injEq] at hx
    have hr : rd_T100 (marksA n a) (i : Int) = markA b := by rw [arc_at _ _ (by omega)]; exact hx.1
    simp only [laws_heldArcS.l0, hlt, h0, if_true, hr, wsucc h hl]
    refine ev_at (g := fun k => laws_heldArcS.l0 k (marksA n a) (nx (nx (nx (nx (nx b))))) ((i + 1 : Nat) : Int)) (ih (i + 1, nx (nx (nx (nx (nx b))))) ⟨by simp; omega, ?_⟩ (by simp; omega)) ?_ |> fun z => by simpa [markA, nx] using z
    · simp only
      rw [show n - (i + 1) = d by omega]
      exact hx.2
    · rw [show n - (i + 1) = d by omega, hd, endA]
  · have hlt : ¬ (i : Int) < ((marksA n a).length : Int) := by omega
    simp only [laws_heldArcS.l0, hlt, if_false]
    refine ev_now fun k => ?_
    rw [show n - i = 0 by omega, endA]
theorem markNet_ev (n : Int) (l : List S100) (a : Int) (hl : l.length ≤ 9223372036854775807) : Ev (fun k => laws_markNet.f k n l a) (endA l.length a, marksA l.length a) := by
  unfold laws_markNet.f
  exact Ev.bind (markArcS_ev l a hl) (ev_now fun _ => rfl)
theorem heldNet_ev (m : Int) (n : Nat) (a : Int) (hl : n ≤ 9223372036854775807) (hp : 0 ≤ endA n a) : Ev (fun k => laws_heldNet.f k m (marksA n a) a) (endA n a) := by
  unfold laws_heldNet.f
  refine Ev.bind (heldArcS_ev n a hl) (ev_now fun _ => ?_)
  rw [if_neg (by omega)]
end Go.Proofs.Ytbappbbljncdeaa.Pure
