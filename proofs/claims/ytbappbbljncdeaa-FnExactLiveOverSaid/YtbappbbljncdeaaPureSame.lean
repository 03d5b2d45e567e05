import Derived.Test.YtbappbbljncdeaaPureBase
import Derived.Test.YtbappbbljncdeaaFKinds
import Derived.Test.YtbappbbljncdeaaFlawsInt
import Derived.Test.YtbappbbljncdeaaFlawsNet
namespace Go.Proofs.Ytbappbbljncdeaa.Pure
open Go.RowKit Go.Proofs.Ytbappbbljncdeaa.F Go.Proofs.YtbappbbljncdeaaW.PrintWords
set_option linter.unusedVariables false
set_option linter.unusedSimpArgs false
/-! ### the laws' own helpers: what they copy is the same, what is the same is equal -/
theorem arc118_at (l : List S132) (i : Nat) (h : i < l.length) : rd_T132 l (i : Int) = l[i] := by simp [rd_T132, h]
def arcOf (x : S132) : S100 := ⟨x.f0, x.f1, x.f2, x.f3, x.f4⟩
theorem set_next {α : Type} (f : Nat → α) (m i : Nat) (l : List α) (hl : l.length = m) (hi : i < m) (h : ∀ j, j < i → l[j]? = some (f j)) : ∀ j, j < i + 1 → (l.set i (f i))[j]? = some (f j) := by
  intro j hj
  rw [List.getElem?_set]
  by_cases e : i = j
  · subst e; rw [if_pos rfl, if_pos (by omega)]
  · rw [if_neg e]; exact h j (by omega)
theorem toArcS_loop (l : List S132) (hl : l.length ≤ 9223372036854775807) (i : Nat) (acc : List S100) (hi : i ≤ l.length) (ha : acc.length = l.length) (hp : ∀ j, j < i → acc[j]? = (l.map arcOf)[j]?) :
    Ev (fun k => laws_toArcS.l0 k l acc (i : Int)) (l.map arcOf) := by
  refine ev_ind (fun k (s : Nat × List S100) => laws_toArcS.l0 k l s.2 (s.1 : Int)) (fun s => l.length - s.1) (fun s => s.1 ≤ l.length ∧ s.2.length = l.length ∧ ∀ j, j < s.1 → s.2[j]? = (l.map arcOf)[j]?) (fun _ => l.map arcOf) ?_ (i, acc) ⟨hi, ha, hp⟩
  rintro ⟨i, acc⟩ ⟨hi, ha, hp⟩ ih
  simp only at hi ha hp ih ⊢
  by_cases h : i < l.length
  · have hlt : (i : Int) < (l.length : Int) := by omega
    have hlt' : (i : Int) < (acc.length : Int) := by omega
    have h0 : (0 : Int) ≤ (i : Int) := by omega
    simp only [laws_toArcS.l0, hlt, hlt', h0, if_true, laws_toArc.f, Option.bind_some, arc118_at l i h, wsucc h hl, Int.toNat_natCast]
    refine ih (i + 1, acc.set i (arcOf l[i])) ⟨by simp; omega, by simp [ha], ?_⟩ (by simp; omega)
    intro j hj
    simp only at hj ⊢
    rw [List.getElem?_set]
    by_cases e : i = j
    · subst e
      rw [if_pos rfl, if_pos (by omega)]
      simp [h]
    · rw [if_neg e]; exact hp j (by omega)
  · have hlt : ¬ (i : Int) < (l.length : Int) := by omega
    simp only [laws_toArcS.l0, hlt, if_false]
    refine ev_now fun k => ?_
    congr 1
    apply List.ext_getElem?
    intro j
    by_cases hj : j < l.length
    · exact hp j (by omega)
    · rw [List.getElem?_eq_none (by omega), List.getElem?_eq_none (by simp; omega)]
theorem toNet_ev (n : Int) (l : List S132) (hl : l.length ≤ 1048576) : Ev (fun k => laws_toNet.f k n l) (n, l.map arcOf) := by
  unfold laws_toNet.f
  refine Ev.bind (a := l.map arcOf) ?_ (ev_now fun _ => rfl)
  unfold laws_toArcS.f
  have h0 : (0 : Int) ≤ (l.length : Int) := by omega
  have h1 : ((l.length : Int) : Int).toNat ≤ 7036874417766 := by omega
  simp only [h0, h1, if_true]
  exact toArcS_loop l (by omega) 0 _ (Nat.zero_le _) (by simp) (fun j hj => absurd hj (Nat.not_lt_zero _))
theorem szNet_eq (n : Int) (l : List S132) (hl : l.length ≤ 9223372036854775807) : laws_szNet.f n l 1048576 = some (if l.length ≤ 1048576 then 1048576 - (l.length : Int) else -1) := by
  unfold laws_szNet.f laws_szArcS.f
  rw [w_id (n := 1048576 - (l.length : Int)) (by omega) (by omega)]
  by_cases h : l.length ≤ 1048576
  · rw [if_neg (by omega)]
    simp only [Option.bind_some]
    rw [if_neg (by omega), if_pos h]
  · rw [if_pos (by omega)]
    simp only [Option.bind_some]
    rw [if_pos (by omega), if_neg h]
theorem eqArc_self (x : S100) : laws_eqArc.f x.f0 x.f1 x.f2 x.f3 x.f4 x.f0 x.f1 x.f2 x.f3 x.f4 = some true := by simp [laws_eqArc.f]
theorem eqArcS_self (l : List S100) (hl : l.length ≤ 9223372036854775807) : Ev (fun k => laws_eqArcS.f k l l) true := by
  unfold laws_eqArcS.f
  simp only [if_true]
  refine ev_ind (fun k (i : Nat) => laws_eqArcS.l0 k l l (i : Int)) (fun i => l.length - i) (fun i => i ≤ l.length) (fun _ => true) ?_ 0 (Nat.zero_le _)
  intro i hi ih
  by_cases h : i < l.length
  · have hlt : (i : Int) < (l.length : Int) := by omega
    have h0 : (0 : Int) ≤ (i : Int) := by omega
    simp only [laws_eqArcS.l0, hlt, h0, if_true, eqArc_self, Option.bind_some, wsucc h hl]
    exact ih (i + 1) (by omega) (by omega)
  · have hlt : ¬ (i : Int) < (l.length : Int) := by omega
    simp only [laws_eqArcS.l0, hlt, if_false]
    exact ev_now fun _ => rfl
theorem eqNet_self (n : Int) (l : List S100) (hl : l.length ≤ 9223372036854775807) : Ev (fun k => laws_eqNet.f k n l n l) true := by
  unfold laws_eqNet.f
  simp only [if_true]
  exact Ev.bind (eqArcS_self l hl) (ev_now fun _ => by simp)
theorem toIntS_ev (l : List Int) (hl : l.length ≤ 1048576) : Ev (fun k => laws_toIntS.f k l) l := by
  unfold laws_toIntS.f
  have h0 : (0 : Int) ≤ (l.length : Int) := by omega
  have h1 : ((l.length : Int) : Int).toNat ≤ 35184372088832 := by omega
  simp only [h0, h1, if_true]
  refine ev_ind (fun k (s : Nat × List Int) => laws_toIntS.l0 k l s.2 (s.1 : Int)) (fun s => l.length - s.1) (fun s => s.1 ≤ l.length ∧ s.2.length = l.length ∧ ∀ j, j < s.1 → s.2[j]? = l[j]?) (fun _ => l) ?_ (0, List.replicate l.length 0) ⟨Nat.zero_le _, by simp, fun j hj => absurd hj (Nat.not_lt_zero _)⟩
  rintro ⟨i, acc⟩ ⟨hi, ha, hp⟩ ih
  simp only at hi ha hp ih ⊢
  by_cases h : i < l.length
  · have hlt : (i : Int) < (l.length : Int) := by omega
    have hlt' : (i : Int) < (acc.length : Int) := by omega
    have h0 : (0 : Int) ≤ (i : Int) := by omega
    simp only [laws_toIntS.l0, hlt, hlt', h0, if_true, rd_at l i h, wsucc h (show l.length ≤ 9223372036854775807 by omega), Int.toNat_natCast]
    refine ih (i + 1, acc.set i l[i]) ⟨by simp; omega, by simp [ha], ?_⟩ (by simp; omega)
    intro j hj
    simp only at hj ⊢
    rw [List.getElem?_set]
    by_cases e : i = j
    · subst e
      rw [if_pos rfl, if_pos (by omega)]
      simp [h]
    · rw [if_neg e]; exact hp j (by omega)
  · have hlt : ¬ (i : Int) < (l.length : Int) := by omega
    simp only [laws_toIntS.l0, hlt, if_false]
    refine ev_now fun k => ?_
    congr 1
    apply List.ext_getElem?
    intro j
    by_cases hj : j < l.length
    · exact hp j (by omega)
    · rw [List.getElem?_eq_none (by omega), List.getElem?_eq_none (by omega)]
theorem eqIntS_self (l : List Int) (hl : l.length ≤ 9223372036854775807) : Ev (fun k => laws_eqIntS.f k l l) true := by
  unfold laws_eqIntS.f
  simp only [if_true]
  refine ev_ind (fun k (i : Nat) => laws_eqIntS.l0 k l l (i : Int)) (fun i => l.length - i) (fun i => i ≤ l.length) (fun _ => true) ?_ 0 (Nat.zero_le _)
  intro i hi ih
  by_cases h : i < l.length
  · have hlt : (i : Int) < (l.length : Int) := by omega
    have h0 : (0 : Int) ≤ (i : Int) := by omega
    simp only [laws_eqIntS.l0, hlt, h0, if_true, wsucc h hl]
    exact ih (i + 1) (by omega) (by omega)
  · have hlt : ¬ (i : Int) < (l.length : Int) := by omega
    simp only [laws_eqIntS.l0, hlt, if_false]
    exact ev_now fun _ => rfl
end Go.Proofs.Ytbappbbljncdeaa.Pure
