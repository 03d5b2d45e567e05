import Derived.Test.YtbappbbljncdeaaPureSame
import Derived.Test.YtbappbbljncdeaaPureNewsAt
import Derived.Test.YtbappbbljncdeaaFKinds
import Derived.Test.YtbappbbljncdeaaFlawsLive
namespace Go.Proofs.Ytbappbbljncdeaa.Pure
open Go.RowKit Go.Proofs.Ytbappbbljncdeaa.F Go.Proofs.YtbappbbljncdeaaW.PrintWords
set_option linter.unusedVariables false
set_option linter.unusedSimpArgs false
/-! ### the laws' own helpers for news -/
theorem newsL_at (l : List S68) (i : Nat) (h : i < l.length) : rd_T68 l (i : Int) = l[i] := by simp [rd_T68, h]
def newsOf (x : S68) : S70 := ⟨x.f0, x.f1, x.f2⟩
theorem toNewsS_loop (l : List S68) (hl : l.length ≤ 9223372036854775807) (i : Nat) (acc : List S70) (hi : i ≤ l.length) (ha : acc.length = l.length) (hp : ∀ j, j < i → acc[j]? = (l.map newsOf)[j]?) :
    Ev (fun k => laws_toNewsS.l0 k l acc (i : Int)) (l.map newsOf) := by
  refine ev_ind (fun k (s : Nat × List S70) => laws_toNewsS.l0 k l s.2 (s.1 : Int)) (fun s => l.length - s.1) (fun s => s.1 ≤ l.length ∧ s.2.length = l.length ∧ ∀ j, j < s.1 → s.2[j]? = (l.map newsOf)[j]?) (fun _ => l.map newsOf) ?_ (i, acc) ⟨hi, ha, hp⟩
  rintro ⟨i, acc⟩ ⟨hi, ha, hp⟩ ih
  simp only at hi ha hp ih ⊢
  by_cases h : i < l.length
  · have hlt : (i : Int) < (l.length : Int) := by omega
    have hlt' : (i : Int) < (acc.length : Int) := by omega
    have h0 : (0 : Int) ≤ (i : Int) := by omega
    simp only [laws_toNewsS.l0, hlt, hlt', h0, if_true, laws_toNews.f, Option.bind_some, newsL_at l i h, wsucc h hl, Int.toNat_natCast]
    refine ih (i + 1, acc.set i (newsOf l[i])) ⟨by simp; omega, by simp [ha], ?_⟩ (by simp; omega)
    intro j hj
    simp only at hj ⊢
    rw [List.getElem?_set]
    by_cases e : i = j
    · subst e
      rw [if_pos rfl, if_pos (by omega)]
      simp [h]
    · rw [if_neg e]; exact hp j (by omega)
  · have hlt : ¬ (i : Int) < (l.length : Int) := by omega
    simp only [laws_toNewsS.l0, hlt, if_false]
    refine ev_now fun k => ?_
    congr 1
    apply List.ext_getElem?
    intro j
    by_cases hj : j < l.length
    · exact hp j (by omega)
    · rw [List.getElem?_eq_none (by omega), List.getElem?_eq_none (by simp; omega)]
theorem toNewsS_ev (l : List S68) (hl : l.length ≤ 1048576) : Ev (fun k => laws_toNewsS.f k l) (l.map newsOf) := by
  unfold laws_toNewsS.f
  have h0 : (0 : Int) ≤ (l.length : Int) := by omega
  have h1 : ((l.length : Int) : Int).toNat ≤ 11728124029610 := by omega
  simp only [h0, h1, if_true]
  exact toNewsS_loop l (by omega) 0 _ (Nat.zero_le _) (by simp) (fun j hj => absurd hj (Nat.not_lt_zero _))
theorem eqNews_self (x : S70) : laws_eqNews.f x.f0 x.f1 x.f2 x.f0 x.f1 x.f2 = some true := by simp [laws_eqNews.f]
theorem eqNewsS_self (l : List S70) (hl : l.length ≤ 9223372036854775807) : Ev (fun k => laws_eqNewsS.f k l l) true := by
  unfold laws_eqNewsS.f
  simp only [if_true]
  refine ev_ind (fun k (i : Nat) => laws_eqNewsS.l0 k l l (i : Int)) (fun i => l.length - i) (fun i => i ≤ l.length) (fun _ => true) ?_ 0 (Nat.zero_le _)
  intro i hi ih
  by_cases h : i < l.length
  · have hlt : (i : Int) < (l.length : Int) := by omega
    have h0 : (0 : Int) ≤ (i : Int) := by omega
    simp only [laws_eqNewsS.l0, hlt, h0, if_true, eqNews_self, Option.bind_some, wsucc h hl]
    exact ih (i + 1) (by omega) (by omega)
  · have hlt : ¬ (i : Int) < (l.length : Int) := by omega
    simp only [laws_eqNewsS.l0, hlt, if_false]
    exact ev_now fun _ => rfl
theorem toLive_ev (n : Int) (l : List S132) (w : List S68) (hl : l.length ≤ 1048576) (hw : w.length ≤ 1048576) : Ev (fun k => laws_toLive.f k n l w) (n, l.map arcOf, w.map newsOf) := by
  unfold laws_toLive.f
  exact Ev.bind (toNet_ev n l hl) (Ev.bind (toNewsS_ev w hw) (ev_now fun _ => rfl))
theorem eqLive_self (n : Int) (l : List S100) (w : List S70) (hl : l.length ≤ 9223372036854775807) (hw : w.length ≤ 9223372036854775807) : Ev (fun k => laws_eqLive.f k n l w n l w) true := by
  unfold laws_eqLive.f
  refine Ev.bind (eqNet_self n l hl) ?_
  simp only [if_true]
  refine Ev.bind (eqNewsS_self w hw) ?_
  exact ev_now fun _ => by simp
theorem szLive_eq (n : Int) (l : List S132) (w : List S68) (hl : l.length ≤ 9223372036854775807) (hw : w.length ≤ 9223372036854775807) : ∃ r, laws_szLive.f n l w 1048576 = some r ∧ (r < 0 ∨ (l.length ≤ 1048576 ∧ w.length ≤ 1048576)) := by
  unfold laws_szLive.f
  simp only [szNet_eq n l hl, Option.bind_some]
  by_cases h : l.length ≤ 1048576
  · have h2 : ¬ (1048576 - (l.length : Int) < 0) := by omega
    simp only [h, if_true, h2, if_false]
    unfold laws_szNewsS.f
    by_cases h3 : wrap64 (1048576 - (l.length : Int) - (w.length : Int)) < 0
    · simp only [h3, if_true, Option.bind_some]
      exact ⟨-1, by simp, Or.inl (by omega)⟩
    · simp only [h3, if_false, Option.bind_some]
      refine ⟨_, rfl, Or.inr ⟨trivial, ?_⟩⟩
      unfold wrap64 at h3
      omega
  · simp only [h, if_false]
    exact ⟨-1, by simp, Or.inl (by omega)⟩
end Go.Proofs.Ytbappbbljncdeaa.Pure
