import Derived.Test.YtbappbbljncdeaaFKinds
import Derived.Test.YtbappbbljncdeaaFimplNetOk
import Derived.Test.YtbappbbljncdeaaFimplwithin
import Derived.Test.YtbappbbljncdeaaFspecl1In
import Derived.Test.YtbappbbljncdeaaFspecl1Ok
import Derived.Test.YtbappbbljncdeaaFtextcore
namespace Go.Proofs.Ytbappbbljncdeaa.Pure
open Go.RowKit Go.Proofs.Ytbappbbljncdeaa.F Go.Proofs.YtbappbbljncdeaaW.PrintWords
set_option linter.unusedVariables false
set_option linter.unusedSimpArgs false
/-! ### rounds -/
theorem ev_shift {α : Type} {g : Nat → Option α} {r : α} (h : Ev (fun k => g (k + 1)) r) : Ev g r := by
  obtain ⟨K, h⟩ := h
  refine ⟨K + 1, fun k hk => ?_⟩
  obtain ⟨m, rfl⟩ : ∃ m, k = m + 1 := ⟨k - 1, by omega⟩
  exact h m (by omega)
theorem ev_ind {σ β : Type} (g : Nat → σ → Option β) (μ : σ → Nat) (Inv : σ → Prop) (r : σ → β)
    (h : ∀ s, Inv s → (∀ s', Inv s' → μ s' < μ s → Ev (fun k => g k s') (r s')) → Ev (fun k => g (k + 1) s) (r s)) : ∀ s, Inv s → Ev (fun k => g k s) (r s) := by
  have key : ∀ n s, μ s ≤ n → Inv s → Ev (fun k => g k s) (r s) := by
    intro n
    induction n with
    | zero => intro s hs hi; exact ev_shift (h s hi (fun s' _ hlt => absurd hlt (by omega)))
    | succ n ih => intro s hs hi; exact ev_shift (h s hi (fun s' hi' hlt => ih s' (by omega) hi'))
  exact fun s hi => key _ s (Nat.le_refl _) hi
theorem ev_now {α : Type} {g : Nat → Option α} {r : α} (h : ∀ k, g k = some r) : Ev g r := ⟨0, fun k _ => h k⟩
theorem ev_at {α : Type} {g : Nat → Option α} {r r' : α} (h : Ev g r) (e : r = r') : Ev g r' := e ▸ h
/-! ### numbers and lists -/
theorem wsucc {i n : Nat} (h : i < n) (hn : n ≤ 9223372036854775807) : wrap64 ((i : Int) + 1) = ((i + 1 : Nat) : Int) := by
  unfold wrap64; omega
theorem wpred {i : Nat} (h : 0 < i) (hi : i ≤ 9223372036854775807) : wrap64 ((i : Int) - 1) = ((i - 1 : Nat) : Int) := by
  unfold wrap64; omega
theorem w_id {n : Int} (h : -9223372036854775808 ≤ n) (h' : n ≤ 9223372036854775807) : wrap64 n = n := by unfold wrap64; omega
theorem rd_nat (l : List Int) (i : Nat) : rd l (i : Int) = l.getD i 0 := by simp [rd]
theorem rd_at (l : List Int) (i : Nat) (h : i < l.length) : rd l (i : Int) = l[i] := by simp [rd, h]
theorem arc_at (l : List S100) (i : Nat) (h : i < l.length) : rd_T100 l (i : Int) = l[i] := by simp [rd_T100, h]
theorem any_at {α : Type} (p : α → Bool) (l : List α) (i : Nat) (h : i < l.length) : (l.drop i).any p = (p l[i] || (l.drop (i + 1)).any p) := by
  rw [List.drop_eq_getElem_cons h, List.any_cons]
/-! ### is a net valid -/
theorem within_eq (a b c : Int) : impl_within.f a b c = some (inB a b c) := by
  unfold impl_within.f inB
  by_cases h : b ≤ a
  · rw [if_pos h]; simp [h]
  · rw [if_neg h]; simp [h]
theorem l1In_eq (a b c : Int) : spec_l1In.f a b c = some (inB a b c) := within_eq a b c
theorem arcBad_eq (n : Int) (x : S100) : arcBad n x = !(inB x.f0 0 (wrap64 (n - 1)) && (inB x.f1 0 (wrap64 (n - 1)) && (!(x.f0 == x.f1) && (inB x.f2 0 99 && (inB x.f3 0 99 && inB x.f4 0 9))))) := by
  unfold arcBad hasB
  cases h1 : inB x.f0 0 (wrap64 (n - 1)) <;> cases h2 : inB x.f1 0 (wrap64 (n - 1)) <;> simp [h1, h2, Bool.not_and]
theorem netOk_eq (n : Int) (l : List S100) : impl_NetOk.f n l = some (netOkB n l) := rfl
theorem l1Ok_loop (n : Int) (l : List S100) (hl : l.length ≤ 9223372036854775807) (i : Nat) (hi : i ≤ l.length) :
    Ev (fun k => spec_l1Ok.l0 k (i : Int) n l) (!((l.drop i).any (arcBad n)) && (inB n 1 8 && decide (l.length ≤ 16))) := by
  refine ev_ind (fun k (i : Nat) => spec_l1Ok.l0 k (i : Int) n l) (fun i => l.length - i) (fun i => i ≤ l.length) (fun i => !((l.drop i).any (arcBad n)) && (inB n 1 8 && decide (l.length ≤ 16))) ?_ i hi
  intro i hi ih
  by_cases h : i < l.length
  · have hlt : (i : Int) < (l.length : Int) := by omega
    have h0 : (0 : Int) ≤ (i : Int) := by omega
    simp only [spec_l1Ok.l0, hlt, h0, if_true, l1In_eq, Option.bind_some, arc_at l i h, wsucc h hl]
    rw [any_at _ _ _ h, arcBad_eq]
    have ih' := ih (i + 1) (by omega) (by omega)
    generalize (l.drop (i + 1)).any (arcBad n) = q at ih' ⊢
    generalize l[i] = x at ih' ⊢
    cases inB x.f0 0 (wrap64 (n - 1)) with
    | false => exact ev_now fun k => by simp
    | true =>
    cases inB x.f1 0 (wrap64 (n - 1)) with
    | false => exact ev_now fun k => by simp
    | true =>
    by_cases he : x.f0 = x.f1
    · exact ev_now fun k => by simp [he]
    · cases inB x.f2 0 99 with
      | false => exact ev_now fun k => by simp [he]
      | true =>
      cases inB x.f3 0 99 with
      | false => exact ev_now fun k => by simp [he]
      | true =>
      cases inB x.f4 0 9 with
      | false => exact ev_now fun k => by simp [he]
      | true =>
        have he' : (x.f0 == x.f1) = false := beq_eq_false_iff_ne.2 he
        simpa [he, he'] using ih'
  · have hlt : ¬ (i : Int) < (l.length : Int) := by omega
    have he : i = l.length := by omega
    simp only [spec_l1Ok.l0, hlt, if_false, l1In_eq, Option.bind_some]
    subst he
    refine ev_now fun k => ?_
    cases inB n 1 8 <;> simp
    omega
theorem l1Ok_ev (n : Int) (l : List S100) (hl : l.length ≤ 9223372036854775807) : Ev (fun k => spec_l1Ok.f k n l) (netOkB n l) := by
  refine ev_at (l1Ok_loop n l hl 0 (Nat.zero_le _)) ?_
  unfold netOkB
  rw [List.drop_zero]
  cases inB n 1 8 <;> cases decide (l.length ≤ 16) <;> cases l.any (arcBad n) <;> rfl
theorem netOk_len {n : Int} {l : List S100} (h : netOkB n l = true) : l.length ≤ 16 := by
  unfold netOkB at h
  simp only [Bool.and_eq_true, decide_eq_true_eq] at h
  exact h.2.1
theorem inB_iff {a b c : Int} : inB a b c = true ↔ b ≤ a ∧ a ≤ c := by unfold inB; rw [Bool.and_eq_true, decide_eq_true_eq, decide_eq_true_eq]
end Go.Proofs.Ytbappbbljncdeaa.Pure
