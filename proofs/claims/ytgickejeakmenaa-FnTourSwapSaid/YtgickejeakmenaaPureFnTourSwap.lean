/- The pure statement of FnTourSwap: of every drawn net and stops, two stops of the best tour that change places make a tour that costs no less, and its best one costs the same. No condition. -/
import Derived.Test.YtgickejeakmenaaFKinds
import Derived.Test.YtgickejeakmenaaFimplMeas
import Derived.Test.YtgickejeakmenaaFimplNear
import Derived.Test.YtgickejeakmenaaFimplNetOk
import Derived.Test.YtgickejeakmenaaFimplNetback
import Derived.Test.YtgickejeakmenaaFimplNethas
import Derived.Test.YtgickejeakmenaaFimplNettoward
import Derived.Test.YtgickejeakmenaaFimplTourBest
import Derived.Test.YtgickejeakmenaaFimplTourCost
import Derived.Test.YtgickejeakmenaaFimplaround
import Derived.Test.YtgickejeakmenaaFimplchosen
import Derived.Test.YtgickejeakmenaaFimplnodesIn
import Derived.Test.YtgickejeakmenaaFimplstopsOk
import Derived.Test.YtgickejeakmenaaFimplwithin
import Derived.Test.YtgickejeakmenaaFlawsFnTourSwap
import Derived.Test.YtgickejeakmenaaFslicesIn
import Derived.Test.YtgickejeakmenaaFspecDrawTourBest
import Derived.Test.YtgickejeakmenaaFspecDrawTourCost
import Derived.Test.YtgickejeakmenaaFspecTourBest
import Derived.Test.YtgickejeakmenaaFspecl12In
import Derived.Test.YtgickejeakmenaaFspecl17Cost
import Derived.Test.YtgickejeakmenaaFspecl17Stops
import Derived.Test.YtgickejeakmenaaFspecl17Try
import Derived.Test.YtgickejeakmenaaFspecl1In
import Derived.Test.YtgickejeakmenaaFspecl1Ok
import Derived.Test.YtgickejeakmenaaFspecl30AnyNet
import Derived.Test.YtgickejeakmenaaFspecl30Net
import Derived.Test.YtgickejeakmenaaFspecl30Node
import Derived.Test.YtgickejeakmenaaFspecl30Open
import Derived.Test.YtgickejeakmenaaFspecl30Rdone
import Derived.Test.YtgickejeakmenaaFspecl30Rdpick
import Derived.Test.YtgickejeakmenaaFspecl30Stops
import Derived.Test.YtgickejeakmenaaFspecl3All
import Derived.Test.YtgickejeakmenaaFtextcore
import Derived.Test.YtgickejeakmenaaFtextorders
import Derived.Test.YtgickejeakmenaaFtexttourbest
import Derived.Test.YtgickejeakmenaaFwkNet
namespace Go.Proofs.Ytgickejeakmenaa.Pure
open Go.RowKit Go.Proofs.Ytgickejeakmenaa.F Go.Proofs.YtgickejeakmenaaW.PrintWords
set_option linter.unusedVariables false
set_option linter.unusedSimpArgs false
/-! ### rounds -/
theorem ev_shift {α : Type} {g : Nat → Option α} {r : α} (h : Ev (fun k => g (k + 1)) r) : Ev g r := by
  obtain ⟨K, h⟩ := h
  refine ⟨K + 1, fun k hk => ?_⟩
  obtain ⟨m, rfl⟩ : ∃ m, k = m + 1 := ⟨k - 1, by omega⟩
  exact h m (by omega)
theorem ev_ind {σ β : Type} (g : Nat → σ → Option β) (μ : σ → Nat) (Inv : σ → Prop) (r : σ → β)
    (h : ∀ s, Inv s → (∀ s', Inv s' → μ s' < μ s → Ev (fun k => g k s') (r s')) → Ev (fun k => g (k + 1) s) (r s)) : ∀ s, Inv s → Ev (fun k => g k s) (r s) := by
  have key : ∀ n s, μ s ≤ n → Inv s → Ev (fun k => g k s) (r s) := by
    intro n
    induction n with
    | zero => intro s hs hi; exact ev_shift (h s hi (fun s' _ hlt => absurd hlt (by omega)))
    | succ n ih => intro s hs hi; exact ev_shift (h s hi (fun s' hi' hlt => ih s' (by omega) hi'))
  exact fun s hi => key _ s (Nat.le_refl _) hi
theorem ev_now {α : Type} {g : Nat → Option α} {r : α} (h : ∀ k, g k = some r) : Ev g r := ⟨0, fun k _ => h k⟩
theorem ev_at {α : Type} {g : Nat → Option α} {r r' : α} (h : Ev g r) (e : r = r') : Ev g r' := e ▸ h
/-! ### numbers and lists -/
theorem wsucc {i n : Nat} (h : i < n) (hn : n ≤ 9223372036854775807) : wrap64 ((i : Int) + 1) = ((i + 1 : Nat) : Int) := by
  unfold wrap64; omega
theorem wpred {i : Nat} (h : 0 < i) (hi : i ≤ 9223372036854775807) : wrap64 ((i : Int) - 1) = ((i - 1 : Nat) : Int) := by
  unfold wrap64; omega
theorem w_id {n : Int} (h : -9223372036854775808 ≤ n) (h' : n ≤ 9223372036854775807) : wrap64 n = n := by unfold wrap64; omega
theorem rd_nat (l : List Int) (i : Nat) : rd l (i : Int) = l.getD i 0 := by simp [rd]
theorem rd_at (l : List Int) (i : Nat) (h : i < l.length) : rd l (i : Int) = l[i] := by simp [rd, h]
theorem arc_at (l : List S41) (i : Nat) (h : i < l.length) : rd_T41 l (i : Int) = l[i] := by simp [rd_T41, h]
theorem any_at {α : Type} (p : α → Bool) (l : List α) (i : Nat) (h : i < l.length) : (l.drop i).any p = (p l[i] || (l.drop (i + 1)).any p) := by
  rw [List.drop_eq_getElem_cons h, List.any_cons]
/-! ### is a net valid -/
theorem within_eq (a b c : Int) : impl_within.f a b c = some (inB a b c) := by
  unfold impl_within.f inB
  by_cases h : b ≤ a
  · rw [if_pos h]; simp [h]
  · rw [if_neg h]; simp [h]
theorem l1In_eq (a b c : Int) : spec_l1In.f a b c = some (inB a b c) := within_eq a b c
theorem arcBad_eq (n : Int) (x : S41) : arcBad n x = !(inB x.f0 0 (wrap64 (n - 1)) && (inB x.f1 0 (wrap64 (n - 1)) && (!(x.f0 == x.f1) && (inB x.f2 0 99 && (inB x.f3 0 99 && inB x.f4 0 9))))) := by
  unfold arcBad hasB
  cases h1 : inB x.f0 0 (wrap64 (n - 1)) <;> cases h2 : inB x.f1 0 (wrap64 (n - 1)) <;> simp [h1, h2, Bool.not_and]
theorem netOk_eq (n : Int) (l : List S41) : impl_NetOk.f n l = some (netOkB n l) := rfl
theorem l1Ok_loop (n : Int) (l : List S41) (hl : l.length ≤ 9223372036854775807) (i : Nat) (hi : i ≤ l.length) :
    Ev (fun k => spec_l1Ok.l0 k (i : Int) n l) (!((l.drop i).any (arcBad n)) && (inB n 1 8 && decide (l.length ≤ 16))) := by
  refine ev_ind (fun k (i : Nat) => spec_l1Ok.l0 k (i : Int) n l) (fun i => l.length - i) (fun i => i ≤ l.length) (fun i => !((l.drop i).any (arcBad n)) && (inB n 1 8 && decide (l.length ≤ 16))) ?_ i hi
  intro i hi ih
  by_cases h : i < l.length
  · have hlt : (i : Int) < (l.length : Int) := by omega
    have h0 : (0 : Int) ≤ (i : Int) := by omega
    simp only [spec_l1Ok.l0, hlt, h0, if_true, l1In_eq, Option.bind_some, arc_at l i h, wsucc h hl]
    rw [any_at _ _ _ h, arcBad_eq]
    have ih' := ih (i + 1) (by omega) (by omega)
    generalize (l.drop (i + 1)).any (arcBad n) = q at ih' ⊢
    generalize l[i] = x at ih' ⊢
    cases inB x.f0 0 (wrap64 (n - 1)) with
    | false => exact ev_now fun k => by simp
    | true =>
    cases inB x.f1 0 (wrap64 (n - 1)) with
    | false => exact ev_now fun k => by simp
    | true =>
    by_cases he : x.f0 = x.f1
    · exact ev_now fun k => by simp [he]
    · cases inB x.f2 0 99 with
      | false => exact ev_now fun k => by simp [he]
      | true =>
      cases inB x.f3 0 99 with
      | false => exact ev_now fun k => by simp [he]
      | true =>
      cases inB x.f4 0 9 with
      | false => exact ev_now fun k => by simp [he]
      | true =>
        have he' : (x.f0 == x.f1) = false := beq_eq_false_iff_ne.2 he
        simpa [he, he'] using ih'
  · have hlt : ¬ (i : Int) < (l.length : Int) := by omega
    have he : i = l.length := by omega
    simp only [spec_l1Ok.l0, hlt, if_false, l1In_eq, Option.bind_some]
    subst he
    refine ev_now fun k => ?_
    cases inB n 1 8 <;> simp
    omega
theorem l1Ok_ev (n : Int) (l : List S41) (hl : l.length ≤ 9223372036854775807) : Ev (fun k => spec_l1Ok.f k n l) (netOkB n l) := by
  refine ev_at (l1Ok_loop n l hl 0 (Nat.zero_le _)) ?_
  unfold netOkB
  rw [List.drop_zero]
  cases inB n 1 8 <;> cases decide (l.length ≤ 16) <;> cases l.any (arcBad n) <;> rfl
theorem netOk_len {n : Int} {l : List S41} (h : netOkB n l = true) : l.length ≤ 16 := by
  unfold netOkB at h
  simp only [Bool.and_eq_true, decide_eq_true_eq] at h
  exact h.2.1
theorem inB_iff {a b c : Int} : inB a b c = true ↔ b ≤ a ∧ a ≤ c := by unfold inB; rw [Bool.and_eq_true, decide_eq_true_eq, decide_eq_true_eq]
/-! ### a valid net -/
/-- What a valid net is. -/
structure Net1 (n : Int) (l : List S41) : Prop where
  lo : 1 ≤ n
  hi : n ≤ 8
  len : l.length ≤ 16
  ends : ∀ x ∈ l, 0 ≤ x.f0 ∧ x.f0 < n ∧ 0 ≤ x.f1 ∧ x.f1 < n ∧ x.f0 ≠ x.f1 ∧ 0 ≤ x.f2 ∧ x.f2 ≤ 99 ∧ 0 ≤ x.f3 ∧ x.f3 ≤ 99 ∧ 0 ≤ x.f4 ∧ x.f4 ≤ 9
theorem net1_of {n : Int} {l : List S41} (h : netOkB n l = true) : Net1 n l := by
  unfold netOkB at h
  simp only [Bool.and_eq_true, decide_eq_true_eq, inB_iff, Bool.not_eq_true'] at h
  obtain ⟨⟨h1, h2⟩, h3, h4⟩ := h
  refine ⟨h1, h2, h3, fun x hx => ?_⟩
  have h5 : arcBad n x = false := by
    cases h6 : arcBad n x with
    | false => rfl
    | true => rw [List.any_eq_true.2 ⟨x, hx, h6⟩] at h4; cases h4
  rw [arcBad_eq] at h5
  simp only [Bool.not_eq_false', Bool.and_eq_true, inB_iff, Bool.not_eq_true', beq_eq_false_iff_ne] at h5
  rw [w_id (n := n - 1) (by omega) (by omega)] at h5
  obtain ⟨a, b, c, d, e, f⟩ := h5
  exact ⟨a.1, by omega, b.1, by omega, c, d.1, d.2, e.1, e.2, f.1, f.2⟩
theorem netOk_of {n : Int} {l : List S41} (hn : Net1 n l) : netOkB n l = true := by
  unfold netOkB
  have hlo := hn.lo
  have hhi := hn.hi
  have hl := hn.len
  simp only [Bool.and_eq_true, decide_eq_true_eq, inB_iff, Bool.not_eq_true']
  refine ⟨⟨hlo, hhi⟩, hl, ?_⟩
  rw [List.any_eq_false]
  intro x hx
  obtain ⟨h1, h2, h3, h4, h5, h6, h7, h8, h9, h10, h11⟩ := hn.ends x hx
  have : arcBad n x = false := by
    rw [arcBad_eq]
    simp only [Bool.not_eq_false', Bool.and_eq_true, inB_iff, Bool.not_eq_true', beq_eq_false_iff_ne]
    rw [w_id (n := n - 1) (by omega) (by omega)]
    exact ⟨⟨h1, by omega⟩, ⟨h3, by omega⟩, h5, ⟨h6, h7⟩, ⟨h8, h9⟩, h10, h11⟩
  rw [this]; exact Bool.false_ne_true
/-! ### the least costs from all nodes to one -/
theorem ev_ex {σ β : Type} (g : Nat → σ → Option β) (μ : σ → Nat) (Inv : σ → Prop) (P : β → Prop)
    (h : ∀ s, Inv s → (∀ s', Inv s' → μ s' < μ s → ∃ r, P r ∧ Ev (fun k => g k s') r) → ∃ r, P r ∧ Ev (fun k => g (k + 1) s) r) : ∀ s, Inv s → ∃ r, P r ∧ Ev (fun k => g k s) r := by
  have key : ∀ n s, μ s ≤ n → Inv s → ∃ r, P r ∧ Ev (fun k => g k s) r := by
    intro n
    induction n with
    | zero => intro s hs hi; obtain ⟨r, hp, he⟩ := h s hi (fun s' _ hlt => absurd hlt (by omega)); exact ⟨r, hp, ev_shift he⟩
    | succ n ih => intro s hs hi; obtain ⟨r, hp, he⟩ := h s hi (fun s' hi' hlt => ih s' (by omega) hi'); exact ⟨r, hp, ev_shift he⟩
  exact fun s hi => key _ s (Nat.le_refl _) hi
theorem rdi_set (D : List Int) (i j : Int) (v : Int) (hi : 0 ≤ i) (hl : i < (D.length : Int)) (hj : 0 ≤ j) : rd (D.set i.toNat v) j = if i = j then v else rd D j := by
  unfold rd
  rw [List.getD_eq_getElem?_getD, List.getD_eq_getElem?_getD, List.getElem?_set]
  by_cases h : i = j
  · subst h; rw [if_pos rfl, if_pos rfl, if_pos (by omega)]; rfl
  · rw [if_neg h, if_neg (by omega)]
theorem rdm_set (D : List S108) (i j : Int) (v : S108) (hi : 0 ≤ i) (hl : i < (D.length : Int)) (hj : 0 ≤ j) : rd_T108 (D.set i.toNat v) j = if i = j then v else rd_T108 D j := by
  unfold rd_T108
  rw [List.getD_eq_getElem?_getD, List.getD_eq_getElem?_getD, List.getElem?_set]
  by_cases h : i = j
  · subst h; rw [if_pos rfl, if_pos rfl, if_pos (by omega)]; rfl
  · rw [if_neg h, if_neg (by omega)]
def sumI : List Int → Int
  | [] => 0
  | x :: xs => x + sumI xs
theorem sumI_set (L : List Int) : ∀ (i : Nat) (v : Int), i < L.length → sumI (L.set i v) = sumI L - L.getD i 0 + v := by
  induction L with
  | nil => intro i v h; exact absurd h (by simp)
  | cons x xs ih =>
    intro i v h
    cases i with
    | zero => simp [sumI]; omega
    | succ i => simp only [List.set_cons_succ, sumI, ih i v (by simpa using h), List.getD_cons_succ]; omega
theorem sumI_nonneg (L : List Int) (h : ∀ x ∈ L, 0 ≤ x) : 0 ≤ sumI L := by
  induction L with
  | nil => simp [sumI]
  | cons x xs ih => have := h x (by simp); have := ih fun y hy => h y (by simp [hy]); simp only [sumI]; omega
theorem sumI_le8 (L : List Int) (b : Int) (hb : 0 ≤ b) (hl : L.length ≤ 8) (h : ∀ x ∈ L, x ≤ b) : sumI L ≤ 8 * b := by
  have key : ∀ L : List Int, (∀ x ∈ L, x ≤ b) → sumI L ≤ (L.length : Int) * b := by
    intro L
    induction L with
    | nil => intro _; simp [sumI]
    | cons x xs ih =>
      intro h
      have h1 := h x (by simp)
      have h2 := ih fun y hy => h y (by simp [hy])
      simp only [sumI, List.length_cons, Int.natCast_add, Int.add_mul]
      omega
  have h1 := key L h
  have h2 : (L.length : Int) * b ≤ 8 * b := Int.mul_le_mul_of_nonneg_right (by omega) hb
  omega
/-- A list that has all numbers below k has so many. -/
theorem levels_len (k : Nat) : ∀ L : List Int, (∀ j : Nat, j < k → (j : Int) ∈ L) → k ≤ L.length := by
  induction k with
  | zero => intro L _; omega
  | succ k ih =>
    intro L h
    have h1 := h k (by omega)
    have h2 := ih (L.erase (k : Int)) fun j hj => (List.mem_erase_of_ne (by omega)).2 (h j (by omega))
    rw [List.length_erase_of_mem h1] at h2
    have : 0 < L.length := List.length_pos_of_mem h1
    omega
/-- A walk to node t, from a node: what it costs, and how many arcs. -/
inductive Way (l : List S41) (t : Int) : Int → Int → Nat → Prop
  | nil : Way l t t 0 0
  | cons {x : S41} {c : Int} {m : Nat} : x ∈ l → Way l t x.f1 c m → Way l t x.f0 (x.f2 + c) (m + 1)
theorem Way.node {n : Int} {l : List S41} (hn : Net1 n l) {t : Int} (ht : 0 ≤ t ∧ t < n) {v c : Int} {m : Nat} (h : Way l t v c m) : 0 ≤ v ∧ v < n := by
  cases h with
  | nil => exact ht
  | cons hx _ => have := hn.ends _ hx; exact ⟨this.1, this.2.1⟩
def cM (M : List S108) (v : Int) : Int := (rd_T108 M v).f0
def aM (M : List S108) (v : Int) : Int := (rd_T108 M v).f1
def sumC (M : List S108) : Int := sumI (M.map fun m => m.f0)
def sumA (M : List S108) : Int := sumI (M.map fun m => m.f1)
theorem cM_set (M : List S108) (i j a b : Int) (hi : 0 ≤ i) (hl : i < (M.length : Int)) (hj : 0 ≤ j) : cM (M.set i.toNat ⟨a, b⟩) j = if i = j then a else cM M j := by
  unfold cM; rw [rdm_set M i j _ hi hl hj]; split <;> rfl
theorem aM_set (M : List S108) (i j a b : Int) (hi : 0 ≤ i) (hl : i < (M.length : Int)) (hj : 0 ≤ j) : aM (M.set i.toNat ⟨a, b⟩) j = if i = j then b else aM M j := by
  unfold aM; rw [rdm_set M i j _ hi hl hj]; split <;> rfl
theorem cM_get (M : List S108) (i : Nat) (h : i < M.length) : cM M (i : Int) = M[i].f0 := by simp [cM, rd_T108, h]
theorem aM_get (M : List S108) (i : Nat) (h : i < M.length) : aM M (i : Int) = M[i].f1 := by simp [aM, rd_T108, h]
theorem sumC_set (M : List S108) (i a b : Int) (hi : 0 ≤ i) (hl : i < (M.length : Int)) : sumC (M.set i.toNat ⟨a, b⟩) = sumC M - cM M i + a := by
  obtain ⟨j, rfl⟩ : ∃ j : Nat, i = (j : Int) := ⟨i.toNat, by omega⟩
  unfold sumC
  rw [List.map_set, Int.toNat_natCast, sumI_set _ j _ (by rw [List.length_map]; omega), cM_get M j (by omega)]
  rw [List.getD_eq_getElem?_getD, List.getElem?_map, List.getElem?_eq_getElem (show j < M.length by omega)]
  rfl
theorem sumA_set (M : List S108) (i a b : Int) (hi : 0 ≤ i) (hl : i < (M.length : Int)) : sumA (M.set i.toNat ⟨a, b⟩) = sumA M - aM M i + b := by
  obtain ⟨j, rfl⟩ : ∃ j : Nat, i = (j : Int) := ⟨i.toNat, by omega⟩
  unfold sumA
  rw [List.map_set, Int.toNat_natCast, sumI_set _ j _ (by rw [List.length_map]; omega), aM_get M j (by omega)]
  rw [List.getD_eq_getElem?_getD, List.getElem?_map, List.getElem?_eq_getElem (show j < M.length by omega)]
  rfl
/-- What holds of the measures while they are made. -/
structure MInv (n : Int) (l : List S41) (t : Int) (M : List S108) : Prop where
  len : (M.length : Int) = n
  rng : ∀ v, 0 ≤ v → v < n → 0 ≤ cM M v ∧ cM M v ≤ 99999 ∧ 0 ≤ aM M v ∧ (cM M v = 99999 → aM M v = 0)
  tz : cM M t = 0 ∧ aM M t = 0
  way : ∀ v, 0 ≤ v → v < n → cM M v ≠ 99999 → Way l t v (cM M v) (aM M v).toNat
  par : ∀ v, 0 ≤ v → v < n → v ≠ t → cM M v ≠ 99999 → ∃ x ∈ l, x.f0 = v ∧ cM M x.f1 ≠ 99999 ∧ (cM M x.f1 + x.f2 < cM M v ∨ cM M x.f1 + x.f2 = cM M v ∧ aM M x.f1 + 1 ≤ aM M v)
  bnd : ∀ v, 0 ≤ v → v < n → aM M v + sumC M ≤ 799992
def pot (M : List S108) : Nat := (sumC M * 6399937 + sumA M).toNat
/-- An arc says that it can be nearer. -/
def Less (M : List S108) (x : S41) : Prop := cM M x.f1 + x.f2 < cM M x.f0 ∨ cM M x.f1 + x.f2 = cM M x.f0 ∧ aM M x.f1 + 1 < aM M x.f0
def Closed (l : List S41) (M : List S108) : Prop := ∀ x ∈ l, cM M x.f1 ≠ 99999 → ¬ Less M x
theorem MInv.sums {n : Int} {l : List S41} {t : Int} {M : List S108} (hn : Net1 n l) (h : MInv n l t M) : 0 ≤ sumC M ∧ 0 ≤ sumA M ∧ sumA M ≤ 6399936 := by
  have hl := h.len
  have hi := hn.hi
  have hc : ∀ x ∈ (M.map fun m => m.f0), 0 ≤ x := by
    intro x hx
    obtain ⟨m, hm, rfl⟩ := List.mem_map.1 hx
    obtain ⟨i, hi, rfl⟩ := List.getElem_of_mem hm
    have := h.rng i (by omega) (by omega)
    rw [cM_get M i hi] at this
    exact this.1
  have hC := sumI_nonneg _ hc
  have ha : ∀ x ∈ (M.map fun m => m.f1), 0 ≤ x ∧ x ≤ 799992 := by
    intro x hx
    obtain ⟨m, hm, rfl⟩ := List.mem_map.1 hx
    obtain ⟨i, hi, rfl⟩ := List.getElem_of_mem hm
    have h1 := h.rng i (by omega) (by omega)
    have h2 := h.bnd i (by omega) (by omega)
    rw [aM_get M i hi] at h1 h2
    unfold sumC at h2
    omega
  have h1 := sumI_nonneg _ fun x hx => (ha x hx).1
  have h2 := sumI_le8 _ 799992 (by omega) (by rw [List.length_map]; omega) fun x hx => (ha x hx).2
  exact ⟨hC, h1, by unfold sumA; omega⟩
set_option maxHeartbeats 4000000 in
theorem MInv.step {n : Int} {l : List S41} {t : Int} {M : List S108} (hn : Net1 n l) (h : MInv n l t M) {x : S41} (hx : x ∈ l) (hw : cM M x.f1 ≠ 99999) (hL : Less M x) :
    MInv n l t (M.set x.f0.toNat ⟨cM M x.f1 + x.f2, aM M x.f1 + 1⟩) ∧ pot (M.set x.f0.toNat ⟨cM M x.f1 + x.f2, aM M x.f1 + 1⟩) < pot M := by
  obtain ⟨e1, e2, e3, e4, e5, e6, e7, _⟩ := hn.ends x hx
  have hlen := h.len
  have hlt : x.f0 < (M.length : Int) := by omega
  have r0 := h.rng x.f0 e1 e2
  have r1 := h.rng x.f1 e3 e4
  have b0 := h.bnd x.f0 e1 e2
  have b1 := h.bnd x.f1 e3 e4
  have hc : ∀ j, 0 ≤ j → cM (M.set x.f0.toNat ⟨cM M x.f1 + x.f2, aM M x.f1 + 1⟩) j = if x.f0 = j then cM M x.f1 + x.f2 else cM M j := fun j hj => cM_set M x.f0 j _ _ e1 hlt hj
  have ha : ∀ j, 0 ≤ j → aM (M.set x.f0.toNat ⟨cM M x.f1 + x.f2, aM M x.f1 + 1⟩) j = if x.f0 = j then aM M x.f1 + 1 else aM M j := fun j hj => aM_set M x.f0 j _ _ e1 hlt hj
  have sC := sumC_set M x.f0 (cM M x.f1 + x.f2) (aM M x.f1 + 1) e1 hlt
  have sA := sumA_set M x.f0 (cM M x.f1 + x.f2) (aM M x.f1 + 1) e1 hlt
  obtain ⟨s1, s2, s3⟩ := h.sums hn
  unfold Less at hL
  have hz := h.tz
  have hut : x.f0 ≠ t := by
    intro e
    rw [e] at hL
    omega
  have hinv : MInv n l t (M.set x.f0.toNat ⟨cM M x.f1 + x.f2, aM M x.f1 + 1⟩) := by
    refine ⟨by rw [List.length_set]; exact hlen, ?_, ?_, ?_, ?_, ?_⟩
    · intro v v0 v1
      rw [hc v v0, ha v v0]
      have := h.rng v v0 v1
      split
      · omega
      · exact this
    · by_cases ht : 0 ≤ t
      · rw [hc t ht, ha t ht, if_neg hut, if_neg hut]; exact hz
      · have h1 : ∀ L : List S108, cM L t = cM L 0 ∧ aM L t = aM L 0 := by
          intro L
          have : t.toNat = (0 : Int).toNat := by omega
          unfold cM aM rd_T108
          rw [this]
          exact ⟨rfl, rfl⟩
        rw [(h1 _).1, (h1 _).2] at hz ⊢
        rw [hc 0 (by omega), ha 0 (by omega)]
        by_cases h2 : x.f0 = 0
        · rw [h2] at hL; omega
        · rw [if_neg h2, if_neg h2]; exact hz
    · intro v v0 v1
      rw [hc v v0, ha v v0]
      by_cases e : x.f0 = v
      · subst e
        rw [if_pos rfl, if_pos rfl]
        intro _
        have hw' := h.way x.f1 e3 e4 hw
        have hm : (aM M x.f1 + 1).toNat = (aM M x.f1).toNat + 1 := by omega
        rw [hm, Int.add_comm]
        exact Way.cons hx hw'
      · rw [if_neg e, if_neg e]; exact h.way v v0 v1
    · intro v v0 v1 vt
      rw [hc v v0, ha v v0]
      by_cases e : x.f0 = v
      · subst e
        rw [if_pos rfl, if_pos rfl]
        intro _
        refine ⟨x, hx, rfl, ?_, ?_⟩
        · rw [hc x.f1 e3, if_neg e5]; exact hw
        · rw [hc x.f1 e3, ha x.f1 e3, if_neg e5, if_neg e5]; omega
      · rw [if_neg e, if_neg e]
        intro hv
        obtain ⟨y, hy, y0, y1, y2⟩ := h.par v v0 v1 vt hv
        have ey := hn.ends y hy
        refine ⟨y, hy, y0, ?_, ?_⟩
        · rw [hc y.f1 ey.2.2.1]
          split
          · omega
          · exact y1
        · rw [hc y.f1 ey.2.2.1, ha y.f1 ey.2.2.1]
          by_cases e2 : x.f0 = y.f1
          · rw [if_pos e2, if_pos e2]; rw [← e2] at y2; omega
          · rw [if_neg e2, if_neg e2]; exact y2
    · intro v v0 v1
      rw [ha v v0, sC]
      have := h.bnd v v0 v1
      split <;> omega
  refine ⟨hinv, ?_⟩
  obtain ⟨t1, t2, t3⟩ := hinv.sums hn
  unfold pot
  rw [sC] at t1 ⊢
  rw [sA] at t2 t3 ⊢
  omega
/-- What the program's measures are at the end. -/
def Fin1 (n : Int) (l : List S41) (t : Int) (M : List S108) : Prop := MInv n l t M ∧ Closed l M
theorem less_eq (a b c d : Int) : impl_measure_less.f a b c d = some (decide (a < c ∨ a = c ∧ b < d)) := by
  unfold impl_measure_less.f
  by_cases h : a < c
  · rw [if_pos h]; simp [h]
  · by_cases h2 : a = c
    · subst h2; simp
    · rw [if_neg h, if_neg h2]; simp [h, h2]
set_option maxHeartbeats 4000000 in
theorem toward_loop {n : Int} {l : List S41} (hn : Net1 n l) {t : Int} : ∀ s : List S108 × Bool, (MInv n l t s.1 ∧ (s.2 = false → Closed l s.1)) → ∃ R, Fin1 n l t R ∧ Ev (fun k => impl_Net_toward.l0 k s.1 s.2 n l) R := by
  refine ev_ex (fun k (s : List S108 × Bool) => impl_Net_toward.l0 k s.1 s.2 n l) (fun s => pot s.1 * 2 + (if s.2 = true then 1 else 0)) (fun s => MInv n l t s.1 ∧ (s.2 = false → Closed l s.1)) (Fin1 n l t) ?_
  rintro ⟨M, b⟩ ⟨hM, hC⟩ ih
  simp only at hM hC ih ⊢
  have hll := hn.len
  cases b with
  | false => exact ⟨M, ⟨hM, hC rfl⟩, ev_now fun k => by simp [impl_Net_toward.l0]⟩
  | true =>
    simp only [impl_Net_toward.l0, if_true]
    have inner := ev_ex (fun k (s : Nat × List S108 × Bool) => impl_Net_toward.l1 k s.2.1 s.2.2 l (l.length : Int) (s.1 : Int) n l) (fun s => l.length - s.1)
      (fun s => s.1 ≤ l.length ∧ MInv n l t s.2.1 ∧ ((s.2.2 = false ∧ s.2.1 = M ∧ ∀ j, j < s.1 → ∀ hj : j < l.length, cM M l[j].f1 ≠ 99999 → ¬ Less M l[j]) ∨ (s.2.2 = true ∧ pot s.2.1 < pot M))) (Fin1 n l t) ?_ (0, M, false) ⟨Nat.zero_le _, hM, .inl ⟨rfl, rfl, fun j hj => absurd hj (Nat.not_lt_zero _)⟩⟩
    · exact inner
    rintro ⟨i, M1, b1⟩ ⟨hi, hM1, hb⟩ ih2
    simp only at hi hM1 hb ih2 ⊢
    by_cases h : i < l.length
    · have hlt : (i : Int) < (l.length : Int) := by omega
      have h0 : (0 : Int) ≤ (i : Int) := by omega
      have hxl : l[i] ∈ l := List.getElem_mem h
      obtain ⟨e1, e2, e3, e4, e5, e6, e7, _⟩ := hn.ends l[i] hxl
      have hlen := hM1.len
      have g1 : l[i].f1 < (M1.length : Int) := by omega
      have g0 : l[i].f0 < (M1.length : Int) := by omega
      simp only [impl_Net_toward.l1, hlt, h0, if_true, arc_at l i h, e1, e3, g0, g1, wsucc h (show l.length ≤ 9223372036854775807 by omega), less_eq, Option.bind_some]
      have r1 := hM1.rng l[i].f1 e3 e4
      have b1' := hM1.bnd l[i].f1 e3 e4
      have hs := hM1.sums hn
      by_cases hf : cM M1 l[i].f1 = 99999
      · have hf' : (rd_T108 M1 l[i].f1).f0 = 99999 := hf
        simp only [hf', if_true]
        refine ih2 (i + 1, M1, b1) ⟨by simp; omega, hM1, ?_⟩ (by simp; omega)
        rcases hb with ⟨q1, q2, q3⟩ | q
        · refine .inl ⟨q1, q2, fun j hj hjl hc => ?_⟩
          by_cases hji : j = i
          · subst hji; rw [← q2] at hc; exact absurd hf hc
          · exact q3 j (by simp at hj; omega) hjl hc
        · exact .inr q
      · have hf' : ¬ (rd_T108 M1 l[i].f1).f0 = 99999 := hf
        have w1 : wrap64 ((rd_T108 M1 l[i].f1).f0 + l[i].f2) = cM M1 l[i].f1 + l[i].f2 := by unfold cM at *; exact w_id (by omega) (by omega)
        have w2 : wrap64 ((rd_T108 M1 l[i].f1).f1 + 1) = aM M1 l[i].f1 + 1 := by unfold aM at *; exact w_id (by omega) (by omega)
        simp only [hf', if_false, w1, w2]
        by_cases hL : Less M1 l[i]
        · have hL' : (cM M1 l[i].f1 + l[i].f2 < (rd_T108 M1 l[i].f0).f0 ∨ cM M1 l[i].f1 + l[i].f2 = (rd_T108 M1 l[i].f0).f0 ∧ aM M1 l[i].f1 + 1 < (rd_T108 M1 l[i].f0).f1) := hL
          simp only [hL', decide_true, if_true]
          obtain ⟨hs1, hs2⟩ := hM1.step hn hxl hf hL
          refine ih2 (i + 1, _, true) ⟨by simp; omega, hs1, .inr ⟨rfl, ?_⟩⟩ (by simp; omega)
          rcases hb with ⟨_, q2, _⟩ | ⟨_, q⟩
          · rw [← q2]; exact hs2
          · exact Nat.lt_trans hs2 q
        · have hL' : ¬ (cM M1 l[i].f1 + l[i].f2 < (rd_T108 M1 l[i].f0).f0 ∨ cM M1 l[i].f1 + l[i].f2 = (rd_T108 M1 l[i].f0).f0 ∧ aM M1 l[i].f1 + 1 < (rd_T108 M1 l[i].f0).f1) := hL
          simp only [hL', decide_false, Bool.false_eq_true, if_false]
          refine ih2 (i + 1, M1, b1) ⟨by simp; omega, hM1, ?_⟩ (by simp; omega)
          rcases hb with ⟨q1, q2, q3⟩ | q
          · refine .inl ⟨q1, q2, fun j hj hjl hc => ?_⟩
            by_cases hji : j = i
            · subst hji; rw [← q2]; exact hL
            · exact q3 j (by simp at hj; omega) hjl hc
          · exact .inr q
    · have hlt : ¬ (i : Int) < (l.length : Int) := by omega
      simp only [impl_Net_toward.l1, hlt, if_false]
      rcases hb with ⟨q1, q2, q3⟩ | ⟨q1, q2⟩
      · subst q1
        refine ih (M1, false) ⟨hM1, fun _ x hx hc => ?_⟩ (by rw [q2]; simp)
        obtain ⟨j, hj, rfl⟩ := List.getElem_of_mem hx
        rw [q2] at hc ⊢
        exact q3 j (by omega) hj hc
      · subst q1
        exact ih (M1, true) ⟨hM1, fun h => by cases h⟩ (by simp; omega)
theorem minv_start {n : Int} {l : List S41} (hn : Net1 n l) {t : Int} (h0 : 0 ≤ t) (h1 : t < n) : MInv n l t ((List.replicate n.toNat (⟨99999, 0⟩ : S108)).set t.toNat ⟨0, 0⟩) := by
  have hlo := hn.lo
  have hhi := hn.hi
  have hll : ((List.replicate n.toNat (⟨99999, 0⟩ : S108)).length : Int) = n := by rw [List.length_replicate]; omega
  have hc : ∀ v, 0 ≤ v → v < n → cM ((List.replicate n.toNat (⟨99999, 0⟩ : S108)).set t.toNat ⟨0, 0⟩) v = if t = v then 0 else 99999 := by
    intro v v0 v1
    rw [cM_set _ t v _ _ h0 (by omega) v0]
    split
    · rfl
    · obtain ⟨j, rfl⟩ : ∃ j : Nat, v = (j : Int) := ⟨v.toNat, by omega⟩
      rw [cM_get _ j (by rw [List.length_replicate]; omega), List.getElem_replicate]
  have ha : ∀ v, 0 ≤ v → v < n → aM ((List.replicate n.toNat (⟨99999, 0⟩ : S108)).set t.toNat ⟨0, 0⟩) v = 0 := by
    intro v v0 v1
    rw [aM_set _ t v _ _ h0 (by omega) v0]
    split
    · rfl
    · obtain ⟨j, rfl⟩ : ∃ j : Nat, v = (j : Int) := ⟨v.toNat, by omega⟩
      rw [aM_get _ j (by rw [List.length_replicate]; omega), List.getElem_replicate]
  refine ⟨by rw [List.length_set]; exact hll, ?_, ?_, ?_, ?_, ?_⟩
  · intro v v0 v1
    rw [hc v v0 v1, ha v v0 v1]
    split <;> omega
  · rw [hc t h0 h1, ha t h0 h1, if_pos rfl]; exact ⟨rfl, rfl⟩
  · intro v v0 v1
    rw [hc v v0 v1, ha v v0 v1]
    split
    · rename_i e; subst e; intro _; exact Way.nil
    · intro h; exact absurd rfl h
  · intro v v0 v1 vt
    rw [hc v v0 v1, if_neg (Ne.symm vt)]
    intro h; exact absurd rfl h
  · intro v v0 v1
    rw [ha v v0 v1]
    have := sumI_le8 (((List.replicate n.toNat (⟨99999, 0⟩ : S108)).set t.toNat ⟨0, 0⟩).map fun m => m.f0) 99999 (by omega) (by rw [List.length_map, List.length_set, List.length_replicate]; omega) (by
      intro x hx
      obtain ⟨m, hm, rfl⟩ := List.mem_map.1 hx
      rcases List.mem_or_eq_of_mem_set hm with h | h
      · rw [List.eq_of_mem_replicate h]; exact Int.le_refl _
      · rw [h]; simp)
    unfold sumC
    omega
/-- No walk is nearer than the measures say. -/
theorem Fin1.low {n : Int} {l : List S41} (hn : Net1 n l) {t : Int} {M : List S108} (hM : Fin1 n l t M) {v c : Int} {m : Nat} (h : Way l t v c m) : cM M v < c ∨ (cM M v = c ∧ aM M v ≤ m) ∨ 99999 ≤ c := by
  induction h with
  | nil => rw [hM.1.tz.1, hM.1.tz.2]; exact .inr (.inl ⟨rfl, by omega⟩)
  | @cons x c m hx h ih =>
    obtain ⟨e1, e2, e3, e4, e5, e6, e7, _⟩ := hn.ends x hx
    have r0 := hM.1.rng x.f0 e1 e2
    by_cases hf : cM M x.f1 = 99999
    · rcases ih with ih | ih | ih <;> omega
    · have := hM.2 x hx hf
      unfold Less at this
      rcases ih with ih | ih | ih <;> omega
theorem Fin1.levels {n : Int} {l : List S41} (hn : Net1 n l) {t : Int} {M : List S108} (hM : Fin1 n l t M) (m : Nat) : ∀ v, 0 ≤ v → v < n → cM M v ≠ 99999 → aM M v = (m : Int) → ∀ j : Nat, j ≤ m → ∃ u, 0 ≤ u ∧ u < n ∧ aM M u = (j : Int) := by
  induction m with
  | zero => intro v v0 v1 _ hm j hj; exact ⟨v, v0, v1, by rw [hm]; omega⟩
  | succ m ih =>
    intro v v0 v1 hc hm j hj
    by_cases hj2 : j = m + 1
    · exact ⟨v, v0, v1, by rw [hm, hj2]⟩
    · have hvt : v ≠ t := by intro e; rw [e, hM.1.tz.2] at hm; omega
      obtain ⟨x, hx, x0, x1, x2⟩ := hM.1.par v v0 v1 hvt hc
      obtain ⟨e1, e2, e3, e4, e5, e6, e7, _⟩ := hn.ends x hx
      have := hM.2 x hx x1
      unfold Less at this
      rw [x0] at this
      exact ih x.f1 e3 e4 x1 (by omega) j (by omega)
theorem Fin1.few {n : Int} {l : List S41} (hn : Net1 n l) {t : Int} {M : List S108} (hM : Fin1 n l t M) {v : Int} (v0 : 0 ≤ v) (v1 : v < n) (hc : cM M v ≠ 99999) : aM M v + 1 ≤ n := by
  have hlen := hM.1.len
  have r := hM.1.rng v v0 v1
  have := levels_len ((aM M v).toNat + 1) (M.map fun m => m.f1) (by
    intro j hj
    obtain ⟨u, u0, u1, hu⟩ := hM.levels hn (aM M v).toNat v v0 v1 hc (by omega) j (by omega)
    obtain ⟨i, rfl⟩ : ∃ i : Nat, u = (i : Int) := ⟨u.toNat, by omega⟩
    rw [aM_get M i (by omega)] at hu
    rw [← hu]
    exact List.mem_map.2 ⟨M[i], List.getElem_mem _, rfl⟩)
  rw [List.length_map] at this
  omega
/-! ### the reference's least costs, and that both are the same -/
def revA (x : S41) : S41 := ⟨x.f1, x.f0, x.f2, x.f3, x.f4⟩
def backL (l : List S41) : List S41 := l.map revA
theorem backL_backL (l : List S41) : backL (backL l) = l := by
  unfold backL
  rw [List.map_map]
  have : revA ∘ revA = id := by funext x; rfl
  rw [this, List.map_id]
theorem backL_length (l : List S41) : (backL l).length = l.length := by unfold backL; rw [List.length_map]
theorem Net1.back {n : Int} {l : List S41} (hn : Net1 n l) : Net1 n (backL l) := by
  refine ⟨hn.lo, hn.hi, by rw [backL_length]; exact hn.len, fun x hx => ?_⟩
  obtain ⟨y, hy, rfl⟩ := List.mem_map.1 hx
  obtain ⟨a, b, c, d, e, f⟩ := hn.ends y hy
  exact ⟨c, d, a, b, fun z => e z.symm, f⟩
/-- What holds of the reference's costs while they are made. -/
structure SInv (n : Int) (l : List S41) (s : Int) (D : List Int) : Prop where
  len : (D.length : Int) = n
  rng : ∀ v, 0 ≤ v → v < n → 0 ≤ rd D v ∧ rd D v ≤ 99999
  sz : rd D s = 0
  way : ∀ v, 0 ≤ v → v < n → rd D v < 99999 → ∃ m, Way (backL l) s v (rd D v) m
def RInv (l : List S41) (s : Int) (D : List Int) (r : Nat) : Prop := ∀ v c m, Way (backL l) s v c m → m ≤ r → rd D v ≤ c
theorem SInv.step {n : Int} {l : List S41} {s : Int} {D : List Int} (hn : Net1 n l) (hs : 0 ≤ s ∧ s < n) (h : SInv n l s D) {y : S41} (hy : y ∈ l) (hf : rd D y.f0 < 99999) (hL : rd D y.f0 + y.f2 < rd D y.f1) :
    SInv n l s (D.set y.f1.toNat (rd D y.f0 + y.f2)) ∧ ∀ v, 0 ≤ v → v < n → rd (D.set y.f1.toNat (rd D y.f0 + y.f2)) v ≤ rd D v := by
  obtain ⟨e1, e2, e3, e4, e5, e6, e7, _⟩ := hn.ends y hy
  have hlen := h.len
  have hlt : y.f1 < (D.length : Int) := by omega
  have hc : ∀ j, 0 ≤ j → rd (D.set y.f1.toNat (rd D y.f0 + y.f2)) j = if y.f1 = j then rd D y.f0 + y.f2 else rd D j := fun j hj => rdi_set D y.f1 j _ e3 hlt hj
  have r0 := h.rng y.f0 e1 e2
  have r1 := h.rng y.f1 e3 e4
  have hys : y.f1 ≠ s := by intro e; rw [e, h.sz] at hL; omega
  refine ⟨⟨by rw [List.length_set]; exact hlen, ?_, ?_, ?_⟩, ?_⟩
  · intro v v0 v1
    rw [hc v v0]
    have := h.rng v v0 v1
    split <;> omega
  · rw [hc s hs.1, if_neg hys]; exact h.sz
  · intro v v0 v1
    rw [hc v v0]
    by_cases e : y.f1 = v
    · rw [if_pos e]
      intro _
      obtain ⟨m, hm⟩ := h.way y.f0 e1 e2 hf
      refine ⟨m + 1, ?_⟩
      have hx : revA y ∈ backL l := List.mem_map.2 ⟨y, hy, rfl⟩
      have := Way.cons (t := s) hx (show Way (backL l) s (revA y).f1 (rd D y.f0) m from hm)
      rw [Int.add_comm, ← e]
      exact this
    · rw [if_neg e]; exact h.way v v0 v1
  · intro v v0 v1
    rw [hc v v0]
    split
    · rename_i e; rw [← e]; omega
    · exact Int.le_refl _
theorem l3All_round {n : Int} {l : List S41} (hn : Net1 n l) {s : Int} (hs : 0 ≤ s ∧ s < n) (r : Nat) (D0 : List Int) (h0 : SInv n l s D0) (hR : RInv l s D0 r) (q : Int) (P : List Int → Prop)
    (next : ∀ D, SInv n l s D → RInv l s D (r + 1) → ∃ R, P R ∧ Ev (fun k => spec_l3All.l1 k D (wrap64 (q + 1)) n l) R) :
    ∃ R, P R ∧ Ev (fun k => spec_l3All.l2 k D0 q 0 n l) R := by
  have hll := hn.len
  refine ev_ex (fun k (x : Nat × List Int) => spec_l3All.l2 k x.2 q (x.1 : Int) n l) (fun x => l.length - x.1) (fun x => x.1 ≤ l.length ∧ SInv n l s x.2 ∧ (∀ v, 0 ≤ v → v < n → rd x.2 v ≤ rd D0 v) ∧ ∀ j, j < x.1 → ∀ hj : j < l.length, rd x.2 l[j].f1 ≤ rd D0 l[j].f0 + l[j].f2 ∨ 99999 ≤ rd D0 l[j].f0) P ?_ (0, D0) ⟨Nat.zero_le _, h0, fun _ _ _ => Int.le_refl _, fun j hj => absurd hj (Nat.not_lt_zero _)⟩
  rintro ⟨i, D⟩ ⟨hi, hD, hle, hj⟩ ih
  simp only at hi hD hle hj ih ⊢
  by_cases h : i < l.length
  · have hlt : (i : Int) < (l.length : Int) := by omega
    have h0' : (0 : Int) ≤ (i : Int) := by omega
    have hxl : l[i] ∈ l := List.getElem_mem h
    obtain ⟨e1, e2, e3, e4, e5, e6, e7, _⟩ := hn.ends l[i] hxl
    have hlen := hD.len
    have g0 : l[i].f0 < (D.length : Int) := by omega
    have g1 : l[i].f1 < (D.length : Int) := by omega
    have r0 := hD.rng l[i].f0 e1 e2
    have r1 := hD.rng l[i].f1 e3 e4
    have l0 := hle l[i].f0 e1 e2
    have l1 := hle l[i].f1 e3 e4
    have w1 : wrap64 (rd D l[i].f0 + l[i].f2) = rd D l[i].f0 + l[i].f2 := w_id (by omega) (by omega)
    simp only [spec_l3All.l2, hlt, h0', if_true, arc_at l i h, e1, e3, g0, g1, wsucc h (show l.length ≤ 9223372036854775807 by omega), w1]
    by_cases hf : rd D l[i].f0 < 99999
    · by_cases hL : rd D l[i].f0 + l[i].f2 < rd D l[i].f1
      · simp only [hf, hL, if_true]
        obtain ⟨s1, s2⟩ := hD.step hn hs hxl hf hL
        refine ih (i + 1, D.set l[i].f1.toNat (rd D l[i].f0 + l[i].f2)) ⟨by simp; omega, s1, fun v v0 v1 => Int.le_trans (s2 v v0 v1) (hle v v0 v1), ?_⟩ (by simp; omega)
        intro j hji hjl
        simp only at hji ⊢
        obtain ⟨_, _, j3, j4, _⟩ := hn.ends l[j] (List.getElem_mem hjl)
        by_cases hjj : j = i
        · subst hjj
          left
          rw [rdi_set D _ _ _ e3 g1 e3, if_pos rfl]
          omega
        · rcases hj j (by omega) hjl with z | z
          · exact .inl (Int.le_trans (s2 _ j3 j4) z)
          · exact .inr z
      · simp only [hf, hL, if_true, if_false]
        refine ih (i + 1, D) ⟨by simp; omega, hD, hle, ?_⟩ (by simp; omega)
        intro j hji hjl
        simp only at hji ⊢
        by_cases hjj : j = i
        · subst hjj; omega
        · exact hj j (by omega) hjl
    · simp only [hf, if_false]
      refine ih (i + 1, D) ⟨by simp; omega, hD, hle, ?_⟩ (by simp; omega)
      intro j hji hjl
      simp only at hji ⊢
      by_cases hjj : j = i
      · subst hjj; right; omega
      · exact hj j (by omega) hjl
  · have hlt : ¬ (i : Int) < (l.length : Int) := by omega
    simp only [spec_l3All.l2, hlt, if_false]
    refine next D hD ?_
    intro v c m hw hm
    cases hw with
    | nil => rw [hD.sz]; exact Int.le_refl _
    | @cons x c m hx hw =>
      obtain ⟨y, hy, rfl⟩ := List.mem_map.1 hx
      obtain ⟨j, hjl, rfl⟩ := List.getElem_of_mem hy
      have h1 := hR _ _ _ hw (by omega)
      obtain ⟨j1, j2, j3, j4, j5, j6, j7, _⟩ := hn.ends l[j] hy
      have r1 := hD.rng l[j].f1 j3 j4
      have h2 := hj j (by omega) hjl
      simp only [revA] at h1 ⊢
      omega
theorem l3All_fill {n : Int} {l : List S41} (hn : Net1 n l) {s : Int} (hs : 0 ≤ s ∧ s < n) (P : List Int → Prop)
    (next : ∀ D, SInv n l s D → RInv l s D 0 → ∃ R, P R ∧ Ev (fun k => spec_l3All.l1 k D 0 n l) R) : ∃ R, P R ∧ Ev (fun k => spec_l3All.f k n l s) R := by
  have hlo := hn.lo
  have hhi := hn.hi
  unfold spec_l3All.f
  have b1 : (0 : Int) ≤ n := by omega
  have b2 : n.toNat ≤ 35184372088832 := by omega
  simp only [b1, b2, if_true]
  refine ev_ex (fun k (x : Nat × List Int) => spec_l3All.l0 k s x.2 (x.1 : Int) n l) (fun x => n.toNat - x.1) (fun x => x.1 ≤ n.toNat ∧ (x.2.length : Int) = n ∧ ∀ j : Nat, j < x.1 → rd x.2 (j : Int) = 99999) P ?_ (0, List.replicate n.toNat 0) ⟨Nat.zero_le _, by rw [List.length_replicate]; omega, fun j hj => absurd hj (Nat.not_lt_zero _)⟩
  rintro ⟨i, D⟩ ⟨hi, hlen, hj⟩ ih
  simp only at hi hlen hj ih ⊢
  by_cases h : i < n.toNat
  · have hlt : (i : Int) < n := by omega
    have h0 : (0 : Int) ≤ (i : Int) := by omega
    have g : (i : Int) < (D.length : Int) := by omega
    simp only [spec_l3All.l0, hlt, h0, g, if_true, wsucc h (show n.toNat ≤ 9223372036854775807 by omega)]
    refine ih (i + 1, D.set (i : Int).toNat 99999) ⟨by simp; omega, by rw [List.length_set]; exact hlen, ?_⟩ (by simp; omega)
    intro j hji
    simp only at hji ⊢
    rw [rdi_set D _ _ _ h0 g (by omega)]
    by_cases e : (i : Int) = (j : Int)
    · rw [if_pos e]
    · rw [if_neg e]; exact hj j (by omega)
  · have hlt : ¬ (i : Int) < n := by omega
    have g : s < (D.length : Int) := by omega
    simp only [spec_l3All.l0, hlt, hs.1, g, if_false, if_true]
    have hc : ∀ j, 0 ≤ j → j < n → rd (D.set s.toNat 0) j = if s = j then 0 else 99999 := by
      intro j j0 j1
      rw [rdi_set D _ _ _ hs.1 g j0]
      split
      · rfl
      · obtain ⟨k, rfl⟩ : ∃ k : Nat, j = (k : Int) := ⟨j.toNat, by omega⟩
        exact hj k (by omega)
    refine next _ ⟨by rw [List.length_set]; exact hlen, ?_, ?_, ?_⟩ ?_
    · intro v v0 v1
      rw [hc v v0 v1]
      split <;> omega
    · rw [hc s hs.1 hs.2, if_pos rfl]
    · intro v v0 v1
      rw [hc v v0 v1]
      split
      · rename_i e; subst e; intro _; exact ⟨0, Way.nil⟩
      · intro h; omega
    · intro v c m hw hm
      cases hw with
      | nil => rw [hc s hs.1 hs.2, if_pos rfl]; exact Int.le_refl _
      | cons _ _ => omega
theorem l3All_ex {n : Int} {l : List S41} (hn : Net1 n l) {s : Int} (hs : 0 ≤ s ∧ s < n) : ∃ D, (SInv n l s D ∧ RInv l s D n.toNat) ∧ Ev (fun k => spec_l3All.f k n l s) D := by
  have hlo := hn.lo
  have hhi := hn.hi
  refine l3All_fill hn hs _ fun D hD hR => ?_
  refine ev_ex (fun k (x : Nat × List Int) => spec_l3All.l1 k x.2 (x.1 : Int) n l) (fun x => n.toNat - x.1) (fun x => x.1 ≤ n.toNat ∧ SInv n l s x.2 ∧ RInv l s x.2 x.1) _ ?_ (0, D) ⟨Nat.zero_le _, hD, hR⟩
  rintro ⟨r, D⟩ ⟨hr, hD, hR⟩ ih
  simp only at hr hD hR ih ⊢
  by_cases h : r < n.toNat
  · have hlt : (r : Int) < n := by omega
    simp only [spec_l3All.l1, hlt, if_true]
    refine l3All_round hn hs r D hD hR r _ fun D1 h1 h2 => ?_
    rw [wsucc h (show n.toNat ≤ 9223372036854775807 by omega)]
    exact ih (r + 1, D1) ⟨by simp; omega, h1, h2⟩ (by simp; omega)
  · have hlt : ¬ (r : Int) < n := by omega
    simp only [spec_l3All.l1, hlt, if_false]
    have : r = n.toNat := by omega
    rw [this] at hR
    exact ⟨D, ⟨hD, hR⟩, ev_now fun _ => rfl⟩
theorem costs_ev (M : List S108) (h : M.length ≤ 1000) : Ev (fun k => impl_costs.f k M) (M.map fun m => m.f0) := by
  unfold impl_costs.f
  have h1 : ((M.length : Int) : Int).toNat ≤ 35184372088832 := by omega
  simp only [h1, if_true]
  have := ev_ind (fun k (s : Nat × List Int) => impl_costs.l0 k s.2 M (M.length : Int) (s.1 : Int)) (fun s => M.length - s.1) (fun s => s.1 ≤ M.length ∧ s.2.length ≤ s.1) (fun s => s.2 ++ (M.drop s.1).map fun m => m.f0) ?_ (0, []) ⟨Nat.zero_le _, by simp⟩
  · simpa using this
  rintro ⟨i, x⟩ ⟨hi, hx⟩ ih
  simp only at hi hx ih ⊢
  by_cases h : i < M.length
  · have hlt : (i : Int) < (M.length : Int) := by omega
    have h0 : (0 : Int) ≤ (i : Int) := by omega
    have b1 : x.length < 17592186044416 := by omega
    simp only [impl_costs.l0, hlt, h0, b1, if_true, wsucc h (show M.length ≤ 9223372036854775807 by omega)]
    refine ev_at (ih (i + 1, x ++ [(rd_T108 M (i : Int)).f0]) ⟨by simp; omega, by simp; omega⟩ (by simp; omega)) ?_
    rw [List.drop_eq_getElem_cons h, List.map_cons, List.append_assoc]
    simp [rd_T108, h]
  · have hlt : ¬ (i : Int) < (M.length : Int) := by omega
    simp only [impl_costs.l0, hlt, if_false]
    refine ev_now fun k => ?_
    rw [List.drop_of_length_le (by omega)]
    simp
theorem back_ev (n : Int) (l : List S41) (hl : l.length ≤ 1000) : Ev (fun k => impl_Net_back.f k n l) (n, backL l) := by
  unfold impl_Net_back.f
  have h1 : ((l.length : Int) : Int).toNat ≤ 7036874417766 := by omega
  simp only [h1, if_true]
  have := ev_ind (fun k (s : Nat × List S41) => impl_Net_back.l0 k l (l.length : Int) (s.1 : Int) n s.2) (fun s => l.length - s.1) (fun s => s.1 ≤ l.length ∧ s.2.length ≤ s.1) (fun s => (n, s.2 ++ backL (l.drop s.1))) ?_ (0, []) ⟨Nat.zero_le _, by simp⟩
  · simpa using this
  rintro ⟨i, x⟩ ⟨hi, hx⟩ ih
  simp only at hi hx ih ⊢
  by_cases h : i < l.length
  · have hlt : (i : Int) < (l.length : Int) := by omega
    have h0 : (0 : Int) ≤ (i : Int) := by omega
    have b1 : x.length < 3518437208883 := by omega
    simp only [impl_Net_back.l0, hlt, h0, b1, if_true, wsucc h (show l.length ≤ 9223372036854775807 by omega), arc_at l i h]
    refine ev_at (ih (i + 1, x ++ [revA l[i]]) ⟨by simp; omega, by simp; omega⟩ (by simp; omega)) ?_
    rw [List.drop_eq_getElem_cons h, backL, backL, List.map_cons, List.append_assoc]
    rfl
  · have hlt : ¬ (i : Int) < (l.length : Int) := by omega
    simp only [impl_Net_back.l0, hlt, if_false]
    refine ev_now fun k => ?_
    rw [List.drop_of_length_le (by omega)]
    simp [backL]
/-- The least measures to a node: what the program makes. -/
theorem toward_ex {n : Int} {l : List S41} (hn : Net1 n l) {t : Int} (ht : 0 ≤ t ∧ t < n) : ∃ M, Fin1 n l t M ∧ Ev (fun k => impl_Net_toward.f k n l t) M := by
  have hlo := hn.lo
  have hhi := hn.hi
  unfold impl_Net_toward.f impl_measure.f
  have b : 0 ≤ n ∧ n ≤ 8 := by omega
  have g : t < ((n.toNat : Nat) : Int) := by omega
  simp only [b, and_self, if_true, Option.bind_some, ht.1, List.length_replicate, g]
  exact toward_loop hn ((List.replicate n.toNat (⟨99999, 0⟩ : S108)).set t.toNat ⟨0, 0⟩, true) ⟨minv_start hn ht.1 ht.2, fun h => by cases h⟩
/-- Both are the same: the costs of the program's measures on a net, and what the reference makes of the net turned round. -/
theorem near_same {n : Int} {l : List S41} (hn : Net1 n l) {t : Int} (ht : 0 ≤ t ∧ t < n) {M : List S108} (hM : Fin1 n l t M) {D : List Int} (hD : SInv n (backL l) t D) (hR : RInv (backL l) t D n.toNat) : (M.map fun m => m.f0) = D := by
  have hlo := hn.lo
  have l1 := hM.1.len
  have l2 := hD.len
  have key : ∀ v, 0 ≤ v → v < n → cM M v = rd D v := by
    intro v v0 v1
    have r1 := hM.1.rng v v0 v1
    have r2 := hD.rng v v0 v1
    have a1 : rd D v ≤ cM M v := by
      by_cases hf : cM M v = 99999
      · omega
      · have hw := hM.1.way v v0 v1 hf
        rw [← backL_backL l] at hw
        have := hM.few hn v0 v1 hf
        exact hR _ _ _ hw (by omega)
    have a2 : cM M v ≤ rd D v := by
      by_cases hf : rd D v < 99999
      · obtain ⟨m, hw⟩ := hD.way v v0 v1 hf
        rw [backL_backL] at hw
        have := hM.low hn hw
        omega
      · omega
    omega
  apply List.ext_getElem
  · rw [List.length_map]; omega
  · intro i h1 h2
    rw [List.length_map] at h1
    have := key i (by omega) (by omega)
    rw [cM_get M i h1, rd_at D i h2] at this
    rw [List.getElem_map]
    exact this
/-- What is true of the least costs from a node. -/
structure Dist (n : Int) (l : List S41) (s : Int) (D : List Int) : Prop where
  impl : Ev (fun k => impl_Net_from.f k n l s) D
  spec : Ev (fun k => spec_l3All.f k n l s) D
  inv : SInv n l s D
  low : ∀ v c m, Way (backL l) s v c m → rd D v ≤ c
theorem dist_ex {n : Int} {l : List S41} (hn : Net1 n l) {s : Int} (hs : 0 ≤ s ∧ s < n) : ∃ D, Dist n l s D := by
  obtain ⟨M, hM, he⟩ := toward_ex hn.back hs
  obtain ⟨D, ⟨hD, hR⟩, hd⟩ := l3All_ex hn hs
  have e : (M.map fun m => m.f0) = D := near_same hn.back hs hM (by rw [backL_backL]; exact hD) (by rw [backL_backL]; exact hR)
  have hlow : ∀ v c m, Way (backL l) s v c m → rd D v ≤ c := by
    intro v c m hw
    have hv := hw.node hn.back hs
    have h1 := hM.low hn.back hw
    have h2 := hM.1.rng v hv.1 hv.2
    have h3 : rd D v = cM M v := by
      have hl := hM.1.len
      obtain ⟨i, rfl⟩ : ∃ i : Nat, v = (i : Int) := ⟨v.toNat, by omega⟩
      rw [← e, cM_get M i (by omega), rd_at _ i (by rw [List.length_map]; omega), List.getElem_map]
    omega
  refine ⟨D, ?_, hd, hD, hlow⟩
  unfold impl_Net_from.f
  refine Ev.bind (back_ev n l (by have := hn.len; omega)) ?_
  refine Ev.bind he ?_
  refine Ev.bind (costs_ev M (by have := hM.1.len; have := hn.hi; omega)) (ev_now fun _ => by rw [e])

theorem Way.snoc {l : List S41} {t v c : Int} {m : Nat} (h : Way l t v c m) {x : S41} (hx : x ∈ l) (ht : x.f0 = t) : Way l x.f1 v (c + x.f2) (m + 1) := by
  induction h with
  | nil =>
    have := Way.cons (t := x.f1) hx (Way.nil (l := l))
    rw [ht] at this
    rw [Int.add_comm]
    exact this
  | @cons y c m hy _ ih =>
    have := Way.cons hy ih
    rw [show y.f2 + c + x.f2 = y.f2 + (c + x.f2) by omega]
    exact this
/-- A walk, gone the other way round. -/
theorem Way.rev {l : List S41} {t v c : Int} {m : Nat} (h : Way l t v c m) : Way (backL l) v t c m := by
  induction h with
  | nil => exact Way.nil
  | @cons x c m hx _ ih =>
    have hr : revA x ∈ backL l := List.mem_map.2 ⟨x, hx, rfl⟩
    have := ih.snoc hr rfl
    rw [Int.add_comm]
    exact this
theorem Dist.sym {n : Int} {l : List S41} {a b : Int} {D E : List Int} (ha : 0 ≤ a ∧ a < n) (hb : 0 ≤ b ∧ b < n) (hD : Dist n l a D) (hE : Dist n (backL l) b E) : rd D b = rd E a := by
  have r1 := hD.inv.rng b hb.1 hb.2
  have r2 := hE.inv.rng a ha.1 ha.2
  have h1 : rd E a ≤ rd D b := by
    by_cases h : rd D b < 99999
    · obtain ⟨m, hw⟩ := hD.inv.way b hb.1 hb.2 h
      exact hE.low _ _ _ hw.rev
    · omega
  have h2 : rd D b ≤ rd E a := by
    by_cases h : rd E a < 99999
    · obtain ⟨m, hw⟩ := hE.inv.way a ha.1 ha.2 h
      have := hw.rev
      rw [backL_backL] at this
      exact hD.low _ _ _ this
    · omega
  omega
open Classical in
/-- The least costs from a node, as a list. -/
noncomputable def distV (n : Int) (l : List S41) (s : Int) : List Int := if h : ∃ D, Dist n l s D then h.choose else []
theorem distV_is {n : Int} {l : List S41} (hn : Net1 n l) {s : Int} (hs : 0 ≤ s ∧ s < n) : Dist n l s (distV n l s) := by
  unfold distV
  rw [dif_pos (dist_ex hn hs)]
  exact (dist_ex hn hs).choose_spec
/-! ### all distances -/
theorem table_ev {n : Int} {l : List S41} (hn : Net1 n l) : Ev (fun k => impl_Net_table.f k n l) ((List.range n.toNat).map fun v : Nat => distV n l (v : Int)) := by
  have hlo := hn.lo
  have hhi := hn.hi
  unfold impl_Net_table.f
  have b0 : (0 : Int) ≤ n := by omega
  have b1 : n.toNat ≤ 11728124029610 := by omega
  simp only [b0, b1, if_true]
  refine ev_at (ev_ind (fun k (i : Nat) => impl_Net_table.l0 k ((List.range i).map fun v : Nat => distV n l (v : Int)) n (i : Int) n l) (fun i => n.toNat - i) (fun i => i ≤ n.toNat) (fun _ => (List.range n.toNat).map fun v : Nat => distV n l (v : Int)) ?_ 0 (Nat.zero_le _)) rfl
  intro i hi ih
  by_cases h : i < n.toNat
  · have hlt : (i : Int) < n := by omega
    have hD := distV_is hn (s := (i : Int)) (by omega)
    have b2 : ((List.range i).map fun v : Nat => distV n l (v : Int)).length < 5864062014805 := by rw [List.length_map, List.length_range]; omega
    simp only [impl_Net_table.l0, hlt, if_true]
    refine Ev.bind hD.impl ?_
    simp only [b2, if_true, wsucc h (show n.toNat ≤ 9223372036854775807 by omega)]
    have := ih (i + 1) (by omega) (by omega)
    rw [List.range_succ, List.map_append] at this
    exact this
  · have hlt : ¬ (i : Int) < n := by omega
    simp only [impl_Net_table.l0, hlt, if_false]
    refine ev_now fun k => ?_
    rw [show i = n.toNat by omega]
noncomputable def tableV (n : Int) (l : List S41) : List (List Int) := (List.range n.toNat).map fun v : Nat => distV n l (v : Int)
theorem tableV_length (n : Int) (l : List S41) : (tableV n l).length = n.toNat := by unfold tableV; rw [List.length_map, List.length_range]
theorem tableV_at (n : Int) (l : List S41) (i : Nat) (h : i < n.toNat) : rd_L3 (tableV n l) (i : Int) = distV n l (i : Int) := by
  unfold rd_L3 tableV
  rw [List.getD_eq_getElem?_getD, Int.toNat_natCast, List.getElem?_map, List.getElem?_range h]
  rfl
/-! ### nodes of a net, and what can be reached -/
theorem nodesIn_eq (n : Int) (l : List S41) (ns : List Int) : impl_nodesIn.f n l ns = some (netOkB n l && hasB n ns) := by
  unfold impl_nodesIn.f impl_Net_has.f
  rw [netOk_eq]
  cases netOkB n l <;> rfl
theorem hasB1 (n a : Int) : hasB n [a] = inB a 0 (wrap64 (n - 1)) := by unfold hasB; simp
theorem hasB2 (n a b : Int) : hasB n [a, b] = (inB a 0 (wrap64 (n - 1)) && inB b 0 (wrap64 (n - 1))) := by unfold hasB; simp
theorem hasB3 (n a b c : Int) : hasB n [a, b, c] = (inB a 0 (wrap64 (n - 1)) && (inB b 0 (wrap64 (n - 1)) && inB c 0 (wrap64 (n - 1)))) := by unfold hasB; simp
theorem node_of {n : Int} {l : List S41} (hn : Net1 n l) {a : Int} (h : inB a 0 (wrap64 (n - 1)) = true) : 0 ≤ a ∧ a < n := by
  have := hn.lo
  have := hn.hi
  rw [inB_iff, w_id (n := n - 1) (by omega) (by omega)] at h
  omega
/-! ### is a number there -/
theorem l12In_ev (l : List Int) (x : Int) (hl : l.length ≤ 9223372036854775807) : Ev (fun k => spec_l12In.f k l x) (l.contains x) := by
  unfold spec_l12In.f
  have := ev_ind (fun k (i : Nat) => spec_l12In.l0 k l x (i : Int)) (fun i => l.length - i) (fun i => i ≤ l.length) (fun i => (l.drop i).contains x) ?_ 0 (Nat.zero_le _)
  · simpa using this
  intro i hi ih
  by_cases h : i < l.length
  · have hlt : (i : Int) < (l.length : Int) := by omega
    have h0 : (0 : Int) ≤ (i : Int) := by omega
    simp only [spec_l12In.l0, hlt, h0, if_true, rd_at l i h, wsucc h hl]
    rw [List.drop_eq_getElem_cons h, List.contains_cons]
    by_cases he : l[i] = x
    · exact ev_now fun k => by simp [he]
    · have he' : (x == l[i]) = false := beq_eq_false_iff_ne.2 (fun e => he e.symm)
      simp only [he, if_false, he', Bool.false_or]
      exact ih (i + 1) (by omega) (by omega)
  · have hlt : ¬ (i : Int) < (l.length : Int) := by omega
    simp only [spec_l12In.l0, hlt, if_false]
    rw [List.drop_of_length_le (by omega)]
    exact ev_now fun k => rfl
theorem index_loop (l : List Int) (x : Int) (hl : l.length ≤ 9223372036854775807) : ∃ r : Int, Ev (fun k => slices_Index_int_int.f k l x) r ∧ decide (r ≥ 0) = l.contains x := by
  unfold slices_Index_int_int.f
  have key : ∀ d i : Nat, l.length - i ≤ d → i ≤ l.length → ∃ r : Int, Ev (fun k => slices_Index_int_int.l0 k l x (l.length : Int) (i : Int)) r ∧ decide (r ≥ 0) = (l.drop i).contains x := by
    intro d
    induction d with
    | zero =>
      intro i hd hi
      refine ⟨-1, ev_shift ?_, ?_⟩
      · have hlt : ¬ (i : Int) < (l.length : Int) := by omega
        simp only [slices_Index_int_int.l0, hlt, if_false]
        exact ev_now fun k => rfl
      · rw [List.drop_of_length_le (by omega)]; rfl
    | succ d ihd =>
      intro i hd hi
      by_cases h : i < l.length
      · have hlt : (i : Int) < (l.length : Int) := by omega
        have h0 : (0 : Int) ≤ (i : Int) := by omega
        by_cases he : x = l[i]
        · refine ⟨i, ev_shift ?_, ?_⟩
          · simp only [slices_Index_int_int.l0, hlt, h0, if_true, rd_at l i h]
            exact ev_now fun k => by simp only [he, if_true]
          · rw [List.drop_eq_getElem_cons h, List.contains_cons, he]; simp
        · obtain ⟨r, hr, hc⟩ := ihd (i + 1) (by omega) (by omega)
          refine ⟨r, ev_shift ?_, ?_⟩
          · simp only [slices_Index_int_int.l0, hlt, h0, if_true, rd_at l i h, he, if_false, wsucc h hl]
            exact hr
          · rw [hc, List.drop_eq_getElem_cons h, List.contains_cons, beq_eq_false_iff_ne.2 he, Bool.false_or]
      · refine ⟨-1, ev_shift ?_, ?_⟩
        · have hlt : ¬ (i : Int) < (l.length : Int) := by omega
          simp only [slices_Index_int_int.l0, hlt, if_false]
          exact ev_now fun k => rfl
        · rw [List.drop_of_length_le (by omega)]; rfl
  have := key l.length 0 (by omega) (by omega)
  simpa using this
theorem contains_ev (l : List Int) (x : Int) (hl : l.length ≤ 9223372036854775807) : Ev (fun k => slices_Contains_int_int.f k l x) (l.contains x) := by
  unfold slices_Contains_int_int.f
  obtain ⟨r, hr, hc⟩ := index_loop l x hl
  exact Ev.bind hr (ev_now fun k => by rw [hc])
/-! ### tours -/
def nodeB (n v : Int) : Bool := inB v 0 (wrap64 (n - 1))
def freshAt (s : List Int) (i : Nat) : Bool := !(s.take i).contains (s.getD i 0)
def stopsB (n : Int) (l : List S41) (s : List Int) : Bool := netOkB n l && ((List.range' 0 s.length).all (fun i => nodeB n (s.getD i 0) && freshAt s i) && inB (s.length : Int) 1 5)
theorem rd_getD (s : List Int) (i : Nat) : rd s (i : Int) = s.getD i 0 := by unfold rd; rw [Int.toNat_natCast]
theorem rangeAll_step (p : Nat → Bool) (i n : Nat) (h : i < n) : (List.range' i (n - i)).all p = (p i && (List.range' (i + 1) (n - (i + 1))).all p) := by
  rw [show n - i = (n - (i + 1)) + 1 by omega, List.range'_succ, List.all_cons]
theorem l17Stops_ev (n : Int) (l : List S41) (s : List Int) (hs : s.length ≤ 9223372036854775807) : Ev (fun k => spec_l17Stops.f k n l s) ((List.range' 0 s.length).all (fun i => nodeB n (s.getD i 0) && freshAt s i) && inB (s.length : Int) 1 5) := by
  unfold spec_l17Stops.f
  refine ev_at (ev_ind (fun k (i : Nat) => spec_l17Stops.l0 k s (i : Int) n l) (fun i => s.length - i) (fun i => i ≤ s.length) (fun i => (List.range' i (s.length - i)).all (fun i => nodeB n (s.getD i 0) && freshAt s i) && inB (s.length : Int) 1 5) ?_ 0 (Nat.zero_le _)) rfl
  intro i hi ih
  by_cases h : i < s.length
  · have hlt : (i : Int) < (s.length : Int) := by omega
    have hle : (i : Int) ≤ (s.length : Int) := by omega
    have h0 : (0 : Int) ≤ (i : Int) := by omega
    have next := ih (i + 1) (by omega) (by omega)
    simp only [spec_l17Stops.l0, hlt, hle, h0, if_true, l1In_eq, Option.bind_some, wsucc h hs, Int.toNat_natCast, rd_getD]
    rw [rangeAll_step _ i _ h]
    generalize (List.range' (i + 1) (s.length - (i + 1))).all (fun i => nodeB n (s.getD i 0) && freshAt s i) = q at next ⊢
    unfold nodeB freshAt
    cases inB (s.getD i 0) 0 (wrap64 (n - 1)) with
    | false => exact ev_now fun k => by simp
    | true =>
      simp only [if_true]
      refine Ev.bind (l12In_ev (s.take i) (s.getD i 0) (by rw [List.length_take]; omega)) ?_
      cases (s.take i).contains (s.getD i 0) with
      | true => exact ev_now fun k => by simp
      | false => simpa using next
  · have hlt : ¬ (i : Int) < (s.length : Int) := by omega
    simp only [spec_l17Stops.l0, hlt, if_false, l1In_eq, Option.bind_some]
    refine ev_now fun k => ?_
    rw [show s.length - i = 0 by omega]
    rfl
theorem hasB_all (n : Int) (s : List Int) : hasB n s = (List.range' 0 s.length).all (fun i => nodeB n (s.getD i 0)) := by
  rw [Bool.eq_iff_iff]
  unfold hasB nodeB
  rw [Bool.not_eq_true', List.all_eq_true]
  constructor
  · intro h i hi
    have hi' : i < s.length := by simpa [List.mem_range'] using hi
    cases h2 : inB (s.getD i 0) 0 (wrap64 (n - 1)) with
    | true => rfl
    | false =>
      have : s.any (fun v => !inB v 0 (wrap64 (n - 1))) = true := List.any_eq_true.2 ⟨s[i], List.getElem_mem hi', by
        have e : s.getD i 0 = s[i] := by simp [hi']
        rw [e] at h2
        rw [h2]; rfl⟩
      rw [this] at h; cases h
  · intro h
    cases h2 : s.any (fun v => !inB v 0 (wrap64 (n - 1))) with
    | false => rfl
    | true =>
      obtain ⟨v, hv, hb⟩ := List.any_eq_true.1 h2
      obtain ⟨i, hi, rfl⟩ := List.getElem_of_mem hv
      have := h i (by simp [List.mem_range']; omega)
      have e : s.getD i 0 = s[i] := by simp [hi]
      rw [e] at this
      rw [this] at hb
      cases hb
theorem stopsOk_ev (n : Int) (l : List S41) (s : List Int) (hs : s.length ≤ 9223372036854775807) : Ev (fun k => impl_stopsOk.f k n l s) (stopsB n l s) := by
  unfold impl_stopsOk.f
  refine ev_at (ev_ind (fun k (i : Nat) => impl_stopsOk.l0 k s s (s.length : Int) (i : Int) n l) (fun i => s.length - i) (fun i => i ≤ s.length) (fun i => (List.range' i (s.length - i)).all (freshAt s) && (inB (s.length : Int) 1 5 && (netOkB n l && hasB n s))) ?_ 0 (Nat.zero_le _)) ?_
  · intro i hi ih
    by_cases h : i < s.length
    · have hlt : (i : Int) < (s.length : Int) := by omega
      have hle : (i : Int) ≤ (s.length : Int) := by omega
      have h0 : (0 : Int) ≤ (i : Int) := by omega
      have next := ih (i + 1) (by omega) (by omega)
      simp only [impl_stopsOk.l0, hlt, hle, h0, if_true, wsucc h hs, Int.toNat_natCast, rd_getD]
      rw [rangeAll_step _ i _ h]
      generalize (List.range' (i + 1) (s.length - (i + 1))).all (freshAt s) = q at next ⊢
      unfold freshAt
      refine Ev.bind (contains_ev (s.take i) (s.getD i 0) (by rw [List.length_take]; omega)) ?_
      cases (s.take i).contains (s.getD i 0) with
      | true => exact ev_now fun k => by simp
      | false => simpa using next
    · have hlt : ¬ (i : Int) < (s.length : Int) := by omega
      simp only [impl_stopsOk.l0, hlt, if_false, within_eq, nodesIn_eq, Option.bind_some]
      refine ev_now fun k => ?_
      rw [show s.length - i = 0 by omega]
      cases inB (s.length : Int) 1 5 <;> simp
  · unfold stopsB
    rw [hasB_all, Nat.sub_zero]
    have e : (List.range' 0 s.length).all (fun i => nodeB n (s.getD i 0) && freshAt s i) = ((List.range' 0 s.length).all (fun i => nodeB n (s.getD i 0)) && (List.range' 0 s.length).all (freshAt s)) := by
      rw [Bool.eq_iff_iff, Bool.and_eq_true, List.all_eq_true, List.all_eq_true, List.all_eq_true]
      constructor
      · intro h; exact ⟨fun i hi => (Bool.and_eq_true _ _ ▸ h i hi).1, fun i hi => (Bool.and_eq_true _ _ ▸ h i hi).2⟩
      · intro h i hi; rw [Bool.and_eq_true]; exact ⟨h.1 i hi, h.2 i hi⟩
    rw [e]
    generalize (List.range' 0 s.length).all (fun i => nodeB n (s.getD i 0)) = x
    generalize (List.range' 0 s.length).all (freshAt s) = y
    cases x <;> cases y <;> cases netOkB n l <;> cases inB (s.length : Int) 1 5 <;> rfl
theorem stops_of {n : Int} {l : List S41} {s : List Int} (h : stopsB n l s = true) : Net1 n l ∧ s.length ≤ 5 ∧ 1 ≤ s.length ∧ ∀ i : Nat, i < s.length → 0 ≤ rd s (i : Int) ∧ rd s (i : Int) < n := by
  unfold stopsB at h
  simp only [Bool.and_eq_true, inB_iff, List.all_eq_true] at h
  have hn := net1_of h.1
  refine ⟨hn, by omega, by omega, fun i hi => ?_⟩
  have := (h.2.1 i (by simp [List.mem_range']; omega)).1
  rw [rd_getD]
  exact node_of hn this
/-! ### stops, each once -/
theorem stopsB_iff (n : Int) (l : List S41) (s : List Int) : stopsB n l s = true ↔ netOkB n l = true ∧ (∀ x ∈ s, nodeB n x = true) ∧ s.Nodup ∧ 1 ≤ s.length ∧ s.length ≤ 5 := by
  unfold stopsB
  simp only [Bool.and_eq_true, inB_iff, List.all_eq_true, List.mem_range'_1]
  constructor
  · rintro ⟨h1, h2, h3⟩
    refine ⟨h1, ?_, ?_, by omega, by omega⟩
    · intro x hx
      obtain ⟨i, hi, rfl⟩ := List.getElem_of_mem hx
      have := (h2 i (by omega)).1
      rwa [List.getD_eq_getElem?_getD, List.getElem?_eq_getElem hi] at this
    · show List.Pairwise _ s
      rw [List.pairwise_iff_getElem]
      intro i j hi hj hij e
      have := (h2 j (by omega)).2
      unfold freshAt at this
      rw [List.getD_eq_getElem?_getD, List.getElem?_eq_getElem hj, Option.getD_some, ← e] at this
      have hm : s[i] ∈ s.take j := by
        rw [List.mem_iff_getElem]
        exact ⟨i, by rw [List.length_take]; omega, by rw [List.getElem_take]⟩
      rw [← List.contains_iff_mem] at hm
      rw [hm] at this
      cases this
  · rintro ⟨h1, h2, h3, h4, h5⟩
    refine ⟨h1, fun i hi => ?_, by omega, by omega⟩
    have hi' : i < s.length := by omega
    rw [List.getD_eq_getElem?_getD, List.getElem?_eq_getElem hi']
    refine ⟨h2 _ (List.getElem_mem hi'), ?_⟩
    unfold freshAt
    rw [List.getD_eq_getElem?_getD, List.getElem?_eq_getElem hi', Option.getD_some]
    cases hc : (s.take i).contains s[i] with
    | false => rfl
    | true =>
      rw [List.contains_iff_mem, List.mem_iff_getElem] at hc
      obtain ⟨j, hj, e⟩ := hc
      rw [List.length_take] at hj
      rw [List.getElem_take] at e
      have h3' := List.pairwise_iff_getElem.1 h3
      exact absurd e (h3' j i (by omega) hi' (by omega))
/-! ### what holds of least costs -/
theorem ev_one {α : Type} {g : Nat → Option α} {a b : α} (h : Ev g a) (h' : Ev g b) : a = b := by
  obtain ⟨K, h⟩ := h
  obtain ⟨K', h'⟩ := h'
  have h1 := h (max K K') (by omega)
  rw [h' (max K K') (by omega)] at h1
  exact (Option.some.inj h1).symm
theorem Way.trans {l : List S41} {t v u c c' : Int} {m m' : Nat} (h1 : Way l t v c m) (h2 : Way l v u c' m') : Way l t u (c' + c) (m' + m) := by
  induction h2 with
  | nil => simpa using h1
  | @cons x c' m' hx _ ih =>
    have := Way.cons hx ih
    rw [show x.f2 + c' + c = x.f2 + (c' + c) by omega, show m' + 1 + m = (m' + m) + 1 by omega]
    exact this
theorem Way.cost {n : Int} {l : List S41} (hn : Net1 n l) {t v c : Int} {m : Nat} (h : Way l t v c m) : 0 ≤ c ∧ c ≤ 99 * (m : Int) := by
  induction h with
  | nil => simp
  | @cons x c m hx _ ih =>
    obtain ⟨_, _, _, _, _, h1, h2, _⟩ := hn.ends _ hx
    omega
theorem Dist.meas {n : Int} {l : List S41} (hn : Net1 n l) {s : Int} (hs : 0 ≤ s ∧ s < n) {D : List Int} (hD : Dist n l s D) : ∃ M, Fin1 n (backL l) s M ∧ ∀ v, 0 ≤ v → v < n → cM M v = rd D v := by
  obtain ⟨M, hM, _⟩ := toward_ex hn.back hs
  obtain ⟨D', ⟨h1, h2⟩, hd⟩ := l3All_ex hn hs
  have e : (M.map fun m => m.f0) = D' := near_same hn.back hs hM (by rw [backL_backL]; exact h1) (by rw [backL_backL]; exact h2)
  have e2 : D' = D := ev_one hd hD.spec
  refine ⟨M, hM, fun v v0 v1 => ?_⟩
  have hl := hM.1.len
  obtain ⟨i, rfl⟩ : ∃ i : Nat, v = (i : Int) := ⟨v.toNat, by omega⟩
  rw [← e2, ← e, cM_get M i (by omega), rd_at _ i (by rw [List.length_map]; omega), List.getElem_map]
theorem Dist.small {n : Int} {l : List S41} (hn : Net1 n l) {s : Int} (hs : 0 ≤ s ∧ s < n) {D : List Int} (hD : Dist n l s D) {v : Int} (v0 : 0 ≤ v) (v1 : v < n) (h : rd D v < 99999) : rd D v ≤ 700 := by
  obtain ⟨M, hM, he⟩ := hD.meas hn hs
  have hhi := hn.hi
  have e := he v v0 v1
  have hc : cM M v ≠ 99999 := by omega
  have h1 := hM.few hn.back v0 v1 hc
  have h2 := (hM.1.way v v0 v1 hc).cost hn.back
  have h3 := hM.1.rng v v0 v1
  omega
theorem Dist.tri {n : Int} {l : List S41} {a k : Int} (hk : 0 ≤ k ∧ k < n) {A K : List Int} (hA : Dist n l a A) (hK : Dist n l k K) {v : Int} (v0 : 0 ≤ v) (v1 : v < n) (h1 : rd A k < 99999) (h2 : rd K v < 99999) : rd A v ≤ rd A k + rd K v := by
  obtain ⟨m1, w1⟩ := hA.inv.way k hk.1 hk.2 h1
  obtain ⟨m2, w2⟩ := hK.inv.way v v0 v1 h2
  have := hA.low _ _ _ (w1.trans w2)
  omega
theorem Dist.arc {n : Int} {l : List S41} (hn : Net1 n l) {a : Int} {D : List Int} (hD : Dist n l a D) {x : S41} (hx : x ∈ l) (h : rd D x.f0 < 99999) : rd D x.f1 ≤ rd D x.f0 + x.f2 := by
  obtain ⟨e1, e2, e3, e4, _⟩ := hn.ends x hx
  obtain ⟨m, hw⟩ := hD.inv.way x.f0 e1 e2 h
  have hx' : revA x ∈ backL l := List.mem_map.2 ⟨x, hx, rfl⟩
  have := hD.low _ _ _ (Way.cons (t := a) hx' (show Way (backL l) a (revA x).f1 (rd D x.f0) m from hw))
  simp only [revA] at this
  omega
theorem dist_one {n : Int} {l : List S41} {s : Int} {D E : List Int} (hD : Dist n l s D) (hE : Dist n l s E) : D = E := ev_one hD.spec hE.spec
theorem inB_node {n : Int} {l : List S41} (hn : Net1 n l) {a : Int} (h : 0 ≤ a ∧ a < n) : inB a 0 (wrap64 (n - 1)) = true := by
  have := hn.lo
  have := hn.hi
  rw [inB_iff, w_id (n := n - 1) (by omega) (by omega)]
  omega
/-! ### what tours cost -/
/-- What it costs to go from each to the next. -/
noncomputable def stepT (n : Int) (l : List S41) : List Int → List Int
  | [] => []
  | [_] => []
  | a :: b :: r => rd (distV n l a) b :: stepT n l (b :: r)
noncomputable def tourE (n : Int) (l : List S41) (s : List Int) : List Int := stepT n l (s ++ s.take 1)
def sumFar (es : List Int) : Int := if es.contains 99999 = true then 99999 else sumI es
noncomputable def tourV (n : Int) (l : List S41) (s : List Int) : Int := sumFar (tourE n l s)
theorem stepT_length (n : Int) (l : List S41) : ∀ s : List Int, (stepT n l s).length = s.length - 1
  | [] => rfl
  | [_] => rfl
  | a :: b :: r => by have := stepT_length n l (b :: r); simp only [stepT, List.length_cons] at this ⊢; omega
theorem rd_succ (a : Int) (s : List Int) (i : Nat) : rd (a :: s) ((i + 1 : Nat) : Int) = rd s (i : Int) := by simp [rd]
theorem stepT_at (n : Int) (l : List S41) : ∀ (s : List Int) (i : Nat), i + 1 < s.length → rd (stepT n l s) (i : Int) = rd (distV n l (rd s (i : Int))) (rd s ((i + 1 : Nat) : Int))
  | [], i, h => by simp at h
  | [_], i, h => by simp at h
  | a :: b :: r, 0, _ => by simp [stepT, rd]
  | a :: b :: r, i + 1, h => by
    have := stepT_at n l (b :: r) i (by simpa using h)
    rw [stepT, rd_succ, this, rd_succ a (b :: r) i, rd_succ a (b :: r) (i + 1)]
theorem tourE_length (n : Int) (l : List S41) (s : List Int) : (tourE n l s).length = s.length := by
  unfold tourE
  rw [stepT_length, List.length_append, List.length_take]
  omega
theorem tourE_at (n : Int) (l : List S41) (s : List Int) (i : Nat) (h : i < s.length) : rd (tourE n l s) (i : Int) = rd (distV n l (rd s (i : Int))) (rd s (((i + 1) % s.length : Nat) : Int)) := by
  unfold tourE
  have hl : (s ++ s.take 1).length = s.length + 1 := by rw [List.length_append, List.length_take]; omega
  rw [stepT_at n l _ i (by omega)]
  have e1 : rd (s ++ s.take 1) (i : Int) = rd s (i : Int) := by
    rw [rd_at _ i (by omega), rd_at s i h, List.getElem_append_left h]
  have e2 : rd (s ++ s.take 1) ((i + 1 : Nat) : Int) = rd s (((i + 1) % s.length : Nat) : Int) := by
    by_cases c : i + 1 < s.length
    · rw [Nat.mod_eq_of_lt c, rd_at _ (i + 1) (by omega), rd_at s (i + 1) c, List.getElem_append_left c]
    · have e : i + 1 = s.length := by omega
      rw [e, Nat.mod_self, rd_at _ s.length (by omega), rd_at s 0 (by omega), List.getElem_append_right (Nat.le_refl _)]
      simp
  rw [e1, e2]
theorem stepT_snoc (n : Int) (l : List S41) (a b : Int) : ∀ zs : List Int, stepT n l (zs ++ [a] ++ [b]) = stepT n l (zs ++ [a]) ++ [rd (distV n l a) b]
  | [] => by simp [stepT]
  | [z] => by simp [stepT]
  | y :: z :: zs => by
    have := stepT_snoc n l a b (z :: zs)
    simp only [List.cons_append, stepT] at this ⊢
    rw [this]
theorem sumFar_snoc (e : Int) (es : List Int) : sumFar (es ++ [e]) = sumFar (e :: es) := by
  have h1 : (es ++ [e]).contains 99999 = (e :: es).contains 99999 := by
    rw [Bool.eq_iff_iff, List.contains_iff_mem, List.contains_iff_mem]
    simp [or_comm]
  have h2 : ∀ es : List Int, sumI (es ++ [e]) = sumI es + e := by
    intro es
    induction es with
    | nil => simp [sumI]
    | cons x xs ih => simp only [List.cons_append, sumI, ih]; omega
  unfold sumFar
  rw [h1, h2]
  simp only [sumI]
  rw [Int.add_comm]
theorem tourV_rot (n : Int) (l : List S41) (x : Int) (xs : List Int) : tourV n l (xs ++ [x]) = tourV n l (x :: xs) := by
  unfold tourV tourE
  cases xs with
  | nil => rfl
  | cons y ys =>
    have h := stepT_snoc n l x y (y :: ys)
    have e1 : (y :: ys ++ [x]) ++ (y :: ys ++ [x]).take 1 = (y :: ys) ++ [x] ++ [y] := by simp
    have e2 : (x :: y :: ys) ++ (x :: y :: ys).take 1 = x :: y :: (ys ++ [x]) := by simp
    rw [e1, e2, h, sumFar_snoc, stepT]
    rfl
/-- What is left of a tour's cost from number i on. -/
theorem around_val {n : Int} {l : List S41} (hn : Net1 n l) (s : List Int) (hl : s.length ≤ 1000) (hs : ∀ i : Nat, i < s.length → 0 ≤ rd s (i : Int) ∧ rd s (i : Int) < n) (d : Nat) : ∀ (i : Nat) (sum : Int), s.length - i = d → i ≤ s.length → 0 ≤ sum → sum ≤ 1000 * (i : Int) →
    Ev (fun k => spec_l17Cost.l0 k s sum (i : Int) n l) (if ((tourE n l s).drop i).contains 99999 = true then 99999 else sum + sumI ((tourE n l s).drop i)) ∧ Ev (fun k => impl_around.l0 k (tableV n l) s sum s (s.length : Int) (i : Int)) (if ((tourE n l s).drop i).contains 99999 = true then 99999 else sum + sumI ((tourE n l s).drop i)) := by
  have hlo := hn.lo
  have hhi := hn.hi
  have hE := tourE_length n l s
  induction d with
  | zero =>
    intro i sum hd hi _ _
    have hlt : ¬ (i : Int) < (s.length : Int) := by omega
    have hz : (tourE n l s).drop i = [] := List.drop_of_length_le (by omega)
    rw [hz]
    have e : (if ([] : List Int).contains 99999 = true then 99999 else sum + sumI []) = sum := by simp [sumI]
    rw [e]
    exact ⟨ev_shift (ev_now fun k => by simp only [spec_l17Cost.l0, hlt, if_false]), ev_shift (ev_now fun k => by simp only [impl_around.l0, hlt, if_false])⟩
  | succ d ih =>
    intro i sum hd hi hs0 hs1
    have h : i < s.length := by omega
    have hlt : (i : Int) < (s.length : Int) := by omega
    have h0 : (0 : Int) ≤ (i : Int) := by omega
    have hne : ¬ (s.length : Int) = 0 := by omega
    obtain ⟨q, hq, hqe, hqd⟩ : ∃ q : Nat, q < s.length ∧ Int.tmod ((i + 1 : Nat) : Int) (s.length : Int) = (q : Int) ∧ q = (i + 1) % s.length := ⟨(i + 1) % s.length, Nat.mod_lt _ (by omega), rfl, rfl⟩
    have ha := hs i h
    have hb := hs q hq
    have hD := distV_is hn ha
    have hlen := hD.inv.len
    have hr := hD.inv.rng _ hb.1 hb.2
    have hsm := hD.small hn ha hb.1 hb.2
    have q0 : (0 : Int) ≤ (q : Int) := by omega
    have q1 : (q : Int) < (s.length : Int) := by omega
    obtain ⟨a, hae⟩ : ∃ a : Nat, rd s (i : Int) = (a : Int) := ⟨(rd s (i : Int)).toNat, by omega⟩
    have g1 : rd s (i : Int) < ((tableV n l).length : Int) := by rw [tableV_length]; omega
    have ht : rd_L3 (tableV n l) (rd s (i : Int)) = distV n l (rd s (i : Int)) := by rw [hae]; exact tableV_at n l a (by omega)
    have g2 : rd s (q : Int) < ((distV n l (rd s (i : Int))).length : Int) := by omega
    have hEi : i < (tourE n l s).length := by omega
    have hat := tourE_at n l s i h
    rw [← hqd, rd_at _ i hEi] at hat
    rw [List.drop_eq_getElem_cons hEi, hat]
    generalize hx : rd (distV n l (rd s (i : Int))) (rd s (q : Int)) = x at *
    by_cases c : x = 99999
    · subst c
      have e : ((99999 : Int) :: (tourE n l s).drop (i + 1)).contains 99999 = true := by simp
      rw [if_pos e]
      refine ⟨ev_shift ?_, ev_shift ?_⟩
      · simp only [spec_l17Cost.l0, hlt, h0, if_true]
        refine Ev.bind hD.spec ?_
        simp only [hne, if_false, wsucc h (show s.length ≤ 9223372036854775807 by omega), hqe, q0, q1, hb.1, g2, if_true, hx, ge_iff_le, Int.le_refl]
        exact ev_now fun _ => rfl
      · simp only [impl_around.l0, hlt, h0, ha.1, g1, hne, if_true, if_false, wsucc h (show s.length ≤ 9223372036854775807 by omega), hqe, q0, q1, hb.1, ht, g2, hx]
        exact ev_now fun _ => rfl
    · have hxs := hsm (by omega)
      have c' : ¬ x ≥ 99999 := by omega
      have hw : wrap64 (sum + x) = sum + x := w_id (by omega) (by omega)
      obtain ⟨v1, v2⟩ := ih (i + 1) (sum + x) (by omega) (by omega) (by omega) (by omega)
      have e : (x :: (tourE n l s).drop (i + 1)).contains 99999 = ((tourE n l s).drop (i + 1)).contains 99999 := by
        rw [List.contains_cons]
        have : ((99999 : Int) == x) = false := beq_eq_false_iff_ne.2 (fun z => c z.symm)
        rw [this, Bool.false_or]
      have e2 : sum + sumI (x :: (tourE n l s).drop (i + 1)) = sum + x + sumI ((tourE n l s).drop (i + 1)) := by simp only [sumI]; omega
      rw [e, e2]
      refine ⟨ev_shift ?_, ev_shift ?_⟩
      · simp only [spec_l17Cost.l0, hlt, h0, if_true]
        refine Ev.bind hD.spec ?_
        simp only [hne, if_false, wsucc h (show s.length ≤ 9223372036854775807 by omega), hqe, q0, q1, hb.1, g2, if_true, hx, c', hw]
        exact v1
      · simp only [impl_around.l0, hlt, h0, ha.1, g1, hne, if_true, if_false, wsucc h (show s.length ≤ 9223372036854775807 by omega), hqe, q0, q1, hb.1, ht, g2, hx, c, hw]
        exact v2
theorem around_ev {n : Int} {l : List S41} (hn : Net1 n l) (s : List Int) (hl : s.length ≤ 1000) (hs : ∀ i : Nat, i < s.length → 0 ≤ rd s (i : Int) ∧ rd s (i : Int) < n) :
    Ev (fun k => spec_l17Cost.f k n l s) (tourV n l s) ∧ Ev (fun k => impl_around.f k (tableV n l) s) (tourV n l s) := by
  obtain ⟨v1, v2⟩ := around_val hn s hl hs s.length 0 0 (by omega) (by omega) (by omega) (by omega)
  rw [List.drop_zero, Int.zero_add] at v1 v2
  unfold spec_l17Cost.f impl_around.f tourV sumFar
  exact ⟨v1, v2⟩
theorem tourE_rng {n : Int} {l : List S41} (hn : Net1 n l) (s : List Int) (hs : ∀ i : Nat, i < s.length → 0 ≤ rd s (i : Int) ∧ rd s (i : Int) < n) : ∀ x ∈ tourE n l s, 0 ≤ x ∧ (x = 99999 ∨ x ≤ 700) := by
  intro x hx
  obtain ⟨i, hi, rfl⟩ := List.getElem_of_mem hx
  rw [tourE_length] at hi
  have hat := tourE_at n l s i hi
  rw [rd_at _ i (by rw [tourE_length]; exact hi)] at hat
  rw [hat]
  have ha := hs i hi
  have hb := hs ((i + 1) % s.length) (Nat.mod_lt _ (by omega))
  have hD := distV_is hn ha
  have hr := hD.inv.rng _ hb.1 hb.2
  have hsm := hD.small hn ha hb.1 hb.2
  omega
theorem sumFar_rng : ∀ es : List Int, (∀ x ∈ es, 0 ≤ x ∧ (x = 99999 ∨ x ≤ 700)) → es.contains 99999 = false → 0 ≤ sumI es ∧ sumI es ≤ 700 * (es.length : Int) := by
  intro es
  induction es with
  | nil => intro _ _; simp [sumI]
  | cons x xs ih =>
    intro h hc
    rw [List.contains_cons, Bool.or_eq_false_iff, beq_eq_false_iff_ne] at hc
    have h1 := h x (by simp)
    have h2 := ih (fun y hy => h y (by simp [hy])) hc.2
    simp only [sumI, List.length_cons]
    omega
theorem tourV_rng {n : Int} {l : List S41} (hn : Net1 n l) (s : List Int) (hl : s.length ≤ 100) (hs : ∀ i : Nat, i < s.length → 0 ≤ rd s (i : Int) ∧ rd s (i : Int) < n) : 0 ≤ tourV n l s ∧ tourV n l s ≤ 99999 := by
  unfold tourV sumFar
  split
  · omega
  · rename_i h
    have := sumFar_rng _ (tourE_rng hn s hs) (by simpa using h)
    rw [tourE_length] at this
    omega
/-! ### what a best tour is, from a beginning on -/
def Opt (n : Int) (l : List S41) (head left : List Int) (st R : List Int × Int) : Prop := R.2 ≤ st.2 ∧ (R = st ∨ R.2 < st.2 ∧ ∃ p, p.Perm left ∧ R = (head ++ p, tourV n l (head ++ p))) ∧ ∀ p, p.Perm left → R.2 ≤ tourV n l (head ++ p)
/-! ### the best of all tours -/
theorem tourV_turn (n : Int) (l : List S41) : ∀ a b : List Int, tourV n l (a ++ b) = tourV n l (b ++ a)
  | [], b => by rw [List.append_nil]; rfl
  | x :: a, b => by
    have h1 := tourV_rot n l x (a ++ b)
    have h2 := tourV_turn n l a (b ++ [x])
    rw [List.append_assoc] at h1
    rw [List.cons_append, ← h1, h2, List.append_assoc]
    rfl
/-- What TourBest tells of stops that are ok. -/
def BestOf (n : Int) (l : List S41) (s : List Int) (R : List Int × Int) : Prop := R.2 ≤ 99999 ∧ (R = ([], 99999) ∨ R.2 < 99999 ∧ ∃ p, p.Perm (s.drop 1) ∧ R = (s.take 1 ++ p, tourV n l (s.take 1 ++ p))) ∧ ∀ o, o.Perm s → R.2 ≤ tourV n l o
theorem best_of {n : Int} {l : List S41} {s : List Int} {R : List Int × Int} (h1 : 1 ≤ s.length) (h : Opt n l (s.take 1) (s.drop 1) ([], 99999) R) : BestOf n l s R := by
  obtain ⟨o1, o2, o3⟩ := h
  refine ⟨o1, o2, fun o ho => ?_⟩
  cases s with
  | nil => simp at h1
  | cons x xs =>
    have hx : x ∈ o := ho.symm.subset List.mem_cons_self
    obtain ⟨a, b, rfl⟩ := List.append_of_mem hx
    have hp : (b ++ a).Perm xs := by
      have h2 : (x :: (b ++ a)).Perm (x :: xs) := by
        refine List.Perm.trans ?_ ho
        have h3 : (x :: b ++ a).Perm (a ++ x :: b) := List.perm_append_comm
        exact h3
      exact List.Perm.cons_inv h2
    have h4 := o3 (b ++ a) hp
    rw [tourV_turn n l a (x :: b)]
    exact h4
theorem bests_same {n : Int} {l : List S41} {s s' : List Int} {R R' : List Int × Int} (h1 : 1 ≤ s.length) (h1' : 1 ≤ s'.length) (hp : s'.Perm s) (h : BestOf n l s R) (h' : BestOf n l s' R') : R'.2 = R.2 := by
  have key : ∀ {s s' : List Int} {R R' : List Int × Int}, 1 ≤ s.length → s'.Perm s → BestOf n l s R → BestOf n l s' R' → R'.2 ≤ R.2 := by
    intro s s' R R' h1 hp h h'
    rcases h.2.1 with e | ⟨_, p, hq, e⟩
    · rw [e]; exact h'.1
    · have : (s.take 1 ++ p).Perm s' := by
        refine List.Perm.trans ?_ hp.symm
        have h2 : (s.take 1 ++ p).Perm (s.take 1 ++ s.drop 1) := List.Perm.append_left _ hq
        rwa [List.take_append_drop] at h2
      have h3 := h'.2.2 _ this
      rw [e]
      exact h3
  have a := key h1 hp h h'
  have b := key h1' hp.symm h' h
  omega
theorem implTourCost_ev (n : Int) (l : List S41) (s : List Int) (hs : s.length ≤ 9223372036854775807) : Ev (fun k => impl_TourCost.f k n l s) (if stopsB n l s = true then tourV n l s else -1) := by
  unfold impl_TourCost.f
  refine Ev.bind (stopsOk_ev n l s hs) ?_
  cases hok : stopsB n l s with
  | false => simp only [Bool.false_eq_true, if_false]; exact ev_now fun _ => rfl
  | true =>
    obtain ⟨hn, h5, h1, hin⟩ := stops_of hok
    simp only [if_true]
    exact Ev.bind (table_ev hn) (Ev.bind (around_ev hn s (by omega) hin).2 (ev_now fun _ => rfl))
theorem stopsB_perm {n : Int} {l : List S41} {s o : List Int} (hp : o.Perm s) (h : stopsB n l s = true) : stopsB n l o = true := by
  obtain ⟨a, b, c, d, e⟩ := (stopsB_iff n l s).1 h
  have hl := hp.length_eq
  exact (stopsB_iff n l o).2 ⟨a, fun x hx => b x (hp.subset hx), hp.nodup_iff.2 c, by omega, by omega⟩
/-! ### what stands in some places -/
theorem chosen_ev (xs w : List Int) (hw : w.length ≤ 1000) (hin : ∀ x ∈ w, 0 ≤ x ∧ x < (xs.length : Int)) : Ev (fun k => impl_chosen.f k xs w) (w.map (rd xs)) := by
  unfold impl_chosen.f
  have b : ((w.length : Int)).toNat ≤ 35184372088832 := by omega
  simp only [b, if_true]
  refine ev_at (ev_ind (fun k (s : Nat × List Int) => impl_chosen.l0 k xs s.2 w (w.length : Int) (s.1 : Int)) (fun s => w.length - s.1) (fun s => s.1 ≤ w.length ∧ s.2.length ≤ s.1) (fun s => s.2 ++ (w.drop s.1).map (rd xs)) ?_ (0, []) ⟨Nat.zero_le _, by simp⟩) (by simp)
  rintro ⟨i, acc⟩ ⟨hi, ha⟩ ih
  simp only at hi ha ih ⊢
  by_cases h : i < w.length
  · have hlt : (i : Int) < (w.length : Int) := by omega
    have h0 : (0 : Int) ≤ (i : Int) := by omega
    obtain ⟨b0, b1⟩ := hin _ (List.getElem_mem h)
    have b2 : acc.length < 17592186044416 := by omega
    simp only [impl_chosen.l0, hlt, h0, if_true, rd_at w i h, b0, b1, b2, wsucc h (show w.length ≤ 9223372036854775807 by omega)]
    refine ev_at (ih (i + 1, acc ++ [rd xs w[i]]) ⟨by simp; omega, by simp; omega⟩ (by simp; omega)) ?_
    rw [List.drop_eq_getElem_cons h]
    rw [List.map_cons, List.append_assoc]
    rfl
  · have hlt : ¬ (i : Int) < (w.length : Int) := by omega
    simp only [impl_chosen.l0, hlt, if_false]
    refine ev_now fun k => ?_
    rw [List.drop_of_length_le (by omega)]
    simp
/-! ### the best tour: what both tell, and that none costs less -/
/-- The places that are free, of so many, ahead of one, and from one on. -/
def frA (bg : List Int) (i : Nat) : List Nat := (List.range i).filter fun x => !bg.contains (x : Int)
def frB (many : Nat) (bg : List Int) (i : Nat) : List Nat := (List.range' i (many - i)).filter fun x => !bg.contains (x : Int)
theorem frB_end (many : Nat) (bg : List Int) : frB many bg many = [] := by unfold frB; rw [Nat.sub_self]; rfl
theorem frB_step {many : Nat} {bg : List Int} {i : Nat} (h : i < many) : frB many bg i = if bg.contains (i : Int) = true then frB many bg (i + 1) else i :: frB many bg (i + 1) := by
  unfold frB
  obtain ⟨d, hd⟩ : ∃ d, many - i = d + 1 := ⟨many - i - 1, by omega⟩
  rw [hd, List.range'_succ, List.filter_cons, show many - (i + 1) = d by omega]
  cases bg.contains (i : Int) <;> simp
theorem frA_step (bg : List Int) (i : Nat) : frA bg (i + 1) = if bg.contains (i : Int) = true then frA bg i else frA bg i ++ [i] := by
  unfold frA
  rw [List.range_succ, List.filter_append, List.filter_cons]
  cases bg.contains (i : Int) <;> simp
theorem fr_more (many : Nat) (bg : List Int) (i : Nat) : frA (bg ++ [(i : Int)]) i = frA bg i ∧ frB many (bg ++ [(i : Int)]) (i + 1) = frB many bg (i + 1) := by
  have key : ∀ x : Nat, x ≠ i → (!(bg ++ [(i : Int)]).contains (x : Int)) = !bg.contains (x : Int) := by
    intro x hx
    congr 1
    rw [Bool.eq_iff_iff, List.contains_iff_mem, List.contains_iff_mem, List.mem_append, List.mem_singleton]
    constructor
    · rintro (h | h)
      · exact h
      · omega
    · exact .inl
  constructor
  · exact List.filter_congr fun x hx => key x (by rw [List.mem_range] at hx; omega)
  · exact List.filter_congr fun x hx => key x (by rw [List.mem_range'_1] at hx; omega)
theorem fr_all (many : Nat) (bg : List Int) : ∀ i, i ≤ many → frA bg i ++ frB many bg i = frB many bg 0
  | 0, _ => rfl
  | i + 1, h => by
    have ih := fr_all many bg i (by omega)
    rw [← ih, frA_step, frB_step (show i < many by omega)]
    cases bg.contains (i : Int) <;> simp
def plc (s : List Int) (F : List Nat) : List Int := F.map fun i : Nat => rd s (i : Int)
def OptL (n : Int) (l : List S41) (s bg : List Int) (i : Nat) (st R : List Int × Int) : Prop := R.2 ≤ st.2 ∧ (R = st ∨ R.2 < st.2 ∧ ∃ j, i ≤ j ∧ j < s.length ∧ bg.contains (j : Int) = false ∧ ∃ p, p.Perm (plc s (frB s.length (bg ++ [(j : Int)]) 0)) ∧ R = ((bg ++ [(j : Int)]).map (rd s) ++ p, tourV n l ((bg ++ [(j : Int)]).map (rd s) ++ p))) ∧ ∀ j, i ≤ j → j < s.length → bg.contains (j : Int) = false → ∀ p, p.Perm (plc s (frB s.length (bg ++ [(j : Int)]) 0)) → R.2 ≤ tourV n l ((bg ++ [(j : Int)]).map (rd s) ++ p)
theorem fr_split {many : Nat} {bg : List Int} {j : Nat} (h : j < many) (hc : bg.contains (j : Int) = false) : frB many bg 0 = frA bg j ++ j :: frB many bg (j + 1) ∧ frB many (bg ++ [(j : Int)]) 0 = frA bg j ++ frB many bg (j + 1) := by
  have hci : (bg ++ [(j : Int)]).contains (j : Int) = true := by rw [List.contains_iff_mem]; simp
  have hne : ¬ bg.contains (j : Int) = true := by rw [hc]; exact Bool.false_ne_true
  obtain ⟨m1, m2⟩ := fr_more many bg j
  refine ⟨?_, ?_⟩
  · rw [← fr_all many bg j (by omega), frB_step h, if_neg hne]
  · rw [← fr_all many (bg ++ [(j : Int)]) (j + 1) (by omega), frA_step, if_pos hci, m1, m2]
theorem plc_perm {s bg : List Int} {j : Nat} (h : j < s.length) (hc : bg.contains (j : Int) = false) : (plc s (frB s.length bg 0)).Perm (rd s (j : Int) :: plc s (frB s.length (bg ++ [(j : Int)]) 0)) := by
  obtain ⟨e1, e2⟩ := fr_split h hc
  rw [e1, e2]
  unfold plc
  rw [List.map_append, List.map_cons, List.map_append]
  exact List.perm_middle
theorem fr_mem {many : Nat} {bg : List Int} {j : Nat} (h : j ∈ frB many bg 0) : j < many ∧ bg.contains (j : Int) = false := by
  unfold frB at h
  rw [List.mem_filter, List.mem_range'_1, Bool.not_eq_true'] at h
  exact ⟨by omega, h.2⟩
theorem opt_of {n : Int} {l : List S41} {s bg : List Int} {st R : List Int × Int} (hF : (frB s.length bg 0).length ≠ 0) (h : OptL n l s bg 0 st R) : Opt n l (bg.map (rd s)) (plc s (frB s.length bg 0)) st R := by
  obtain ⟨h1, h2, h3⟩ := h
  have hmap : ∀ (j : Nat) (p : List Int), (bg ++ [(j : Int)]).map (rd s) ++ p = bg.map (rd s) ++ (rd s (j : Int) :: p) := fun j p => by rw [List.map_append, List.append_assoc]; rfl
  refine ⟨h1, ?_, ?_⟩
  · rcases h2 with h2 | ⟨hlt, j, _, hj, hc, p, hp, e⟩
    · exact .inl h2
    · rw [hmap] at e
      exact .inr ⟨hlt, rd s (j : Int) :: p, (hp.cons _).trans (plc_perm hj hc).symm, e⟩
  · intro p hp
    cases p with
    | nil =>
      have := hp.length_eq
      unfold plc at this
      rw [List.length_map, List.length_nil] at this
      exact absurd this.symm hF
    | cons x p =>
      have hx : x ∈ plc s (frB s.length bg 0) := hp.subset List.mem_cons_self
      unfold plc at hx
      obtain ⟨j, hj, e⟩ := List.mem_map.1 hx
      obtain ⟨j1, j2⟩ := fr_mem hj
      have hq := hp.trans (plc_perm j1 j2)
      rw [e] at hq
      have := h3 j (Nat.zero_le _) j1 j2 p (List.Perm.cons_inv hq)
      rw [hmap, e] at this
      exact this
theorem try_step (n : Int) (l : List S41) (head left rest : List Int) (a : Nat) (x : Int) (st R1 R : List Int × Int) (hl : left.length ≤ 5) (hh : head.length ≤ 5) (ha : a < left.length) (hx : rd left (a : Int) = x) (hr : left.take a ++ left.drop (a + 1) = rest) (h1 : Ev (fun k => spec_l17Try.f k n l (head ++ [x]) rest st.1 st.2) R1) (h2 : Ev (fun k => spec_l17Try.l0 k head left R1.1 R1.2 ((a + 1 : Nat) : Int) n l) R) : Ev (fun k => spec_l17Try.l0 k head left st.1 st.2 (a : Int) n l) R := by
  have z : ([] : List Int).length = 0 := rfl
  have z1 : ([x] : List Int).length = 1 := rfl
  have t1 : (left.take a).length ≤ 5 := by rw [List.length_take]; omega
  have t2 : (left.drop (a + 1)).length ≤ 5 := by rw [List.length_drop]; omega
  have b1 : ([] : List Int).length + (left.take a).length < 17592186044416 := by omega
  have b2 : (left.take a).length + (left.drop (a + 1)).length < 17592186044416 := by omega
  have b3 : ([] : List Int).length + head.length < 17592186044416 := by omega
  have b4 : head.length + ([x] : List Int).length < 17592186044416 := by omega
  have g0 : (0 : Int) ≤ (a : Int) := by omega
  have g1 : (a : Int) < (left.length : Int) := by omega
  have g2 : (a : Int) ≤ (left.length : Int) := by omega
  have hw : wrap64 ((a : Int) + 1) = ((a + 1 : Nat) : Int) := wsucc ha (by omega)
  have g3 : (0 : Int) ≤ ((a + 1 : Nat) : Int) := by omega
  have g4 : ((a + 1 : Nat) : Int) ≤ (left.length : Int) := by omega
  refine ev_shift ?_
  simp only [spec_l17Try.l0, g1, if_true, Option.bind_some, g0, g2, Int.toNat_natCast, b1, hw, g3, g4, List.nil_append, b2, b3, hx, b4, hr]
  exact Ev.bind h1 h2
theorem tour_loop {n : Int} {l : List S41} (s : List Int) (hs5 : s.length ≤ 5) (m : Nat) (bg : List Int) (hbl : bg.length + (m + 1) = s.length) (hbr : ∀ x ∈ bg, 0 ≤ x ∧ x < (s.length : Int))
    (ih : ∀ (bg : List Int) (st : List Int × Int), bg.length + m = s.length → (∀ x ∈ bg, 0 ≤ x ∧ x < (s.length : Int)) → (frB s.length bg 0).length = m → st.1.length ≤ 5 → ∃ R : List Int × Int, Opt n l (bg.map (rd s)) (plc s (frB s.length bg 0)) st R ∧ R.1.length ≤ 5 ∧ Ev (fun k => ordF k (tableV n l) s s.length m bg st) R ∧ Ev (fun k => spec_l17Try.f k n l (bg.map (rd s)) (plc s (frB s.length bg 0)) st.1 st.2) R)
    (hF : (frB s.length bg 0).length = m + 1) : ∀ (d i : Nat) (st : List Int × Int), s.length - i = d → i ≤ s.length → st.1.length ≤ 5 → ∃ R : List Int × Int, OptL n l s bg i st R ∧ R.1.length ≤ 5 ∧ Ev (fun k => loopF (fun i s1 => (slices_Contains_int_int.f k bg i).bind fun b => if b = true then some s1 else ordF k (tableV n l) s s.length m (bg ++ [i]) s1) d i st) R ∧ Ev (fun k => spec_l17Try.l0 k (bg.map (rd s)) (plc s (frB s.length bg 0)) st.1 st.2 ((frA bg i).length : Int) n l) R := by
  have hLl : (plc s (frB s.length bg 0)).length = m + 1 := by unfold plc; rw [List.length_map, hF]
  intro d
  induction d with
  | zero =>
    intro i st hd hi h5
    have e : i = s.length := by omega
    have hA : (frA bg i).length = m + 1 := by
      have := fr_all s.length bg i hi
      rw [e, frB_end, List.append_nil] at this
      rw [e, this, hF]
    have hlt : ¬ ((frA bg i).length : Int) < ((plc s (frB s.length bg 0)).length : Int) := by omega
    refine ⟨st, ⟨Int.le_refl _, .inl rfl, fun j hj1 hj2 => by omega⟩, h5, ev_now fun _ => rfl, ev_shift (ev_now fun k => ?_)⟩
    simp only [spec_l17Try.l0, hlt, if_false]
  | succ d ihd =>
    intro i st hd hi h5
    have h : i < s.length := by omega
    have hsplit := fr_all s.length bg i hi
    by_cases c : bg.contains (i : Int) = true
    · obtain ⟨R, ⟨o1, o2, o3⟩, h1, h2, h3⟩ := ihd (i + 1) st (by omega) (by omega) h5
      have hO : OptL n l s bg i st R := by
        refine ⟨o1, ?_, ?_⟩
        · rcases o2 with o2 | ⟨olt, j, hj, r⟩
          · exact .inl o2
          · exact .inr ⟨olt, j, by omega, r⟩
        · intro j hj1 hj2 hj3 p hp
          by_cases e : j = i
          · rw [e, c] at hj3; cases hj3
          · exact o3 j (by omega) hj2 hj3 p hp
      refine ⟨R, hO, h1, ?_, ?_⟩
      · refine Ev.bind (a := st) (Ev.bind (contains_ev bg (i : Int) (by omega)) ?_) h2
        simp only [c, if_true]
        exact ev_now fun _ => rfl
      · rw [frA_step, if_pos c] at h3
        exact h3
    · have c' : bg.contains (i : Int) = false := by simpa using c
      rw [frB_step h, if_neg c] at hsplit
      have hin : ∀ x ∈ bg ++ [(i : Int)], 0 ≤ x ∧ x < (s.length : Int) := by
        intro x hx
        rw [List.mem_append, List.mem_singleton] at hx
        rcases hx with hx | rfl
        · exact hbr x hx
        · omega
      obtain ⟨m1, m2⟩ := fr_more s.length bg i
      have hci : (bg ++ [(i : Int)]).contains (i : Int) = true := by rw [List.contains_iff_mem]; simp
      have hFr : frB s.length (bg ++ [(i : Int)]) 0 = frA bg i ++ frB s.length bg (i + 1) := by
        rw [← fr_all s.length (bg ++ [(i : Int)]) (i + 1) (by omega), frA_step, if_pos hci, m1, m2]
      have hFl : (frB s.length (bg ++ [(i : Int)]) 0).length = m := by
        rw [hFr, List.length_append]
        have := congrArg List.length hsplit
        rw [List.length_append, List.length_cons, hF] at this
        omega
      obtain ⟨R1, ⟨q1, q2, q3⟩, r1, r2, r3⟩ := ih (bg ++ [(i : Int)]) st (by rw [List.length_append, List.length_singleton]; omega) hin hFl h5
      obtain ⟨R, ⟨o1, o2, o3⟩, h1, h2, h3⟩ := ihd (i + 1) R1 (by omega) (by omega) r1
      have hO : OptL n l s bg i st R := by
        refine ⟨Int.le_trans o1 q1, ?_, ?_⟩
        · rcases o2 with o2 | ⟨olt, j, hj, r⟩
          · rcases q2 with q2 | ⟨qlt, p, hp, e⟩
            · exact .inl (o2.trans q2)
            · exact .inr ⟨by rw [o2]; exact qlt, i, Nat.le_refl _, h, c', p, hp, o2.trans e⟩
          · exact .inr ⟨Int.lt_of_lt_of_le olt q1, j, by omega, r⟩
        · intro j hj1 hj2 hj3 p hp
          by_cases e : j = i
          · rw [e] at hp ⊢
            exact Int.le_trans o1 (q3 p hp)
          · exact o3 j (by omega) hj2 hj3 p hp
      refine ⟨R, hO, h1, ?_, ?_⟩
      · refine Ev.bind (a := R1) (Ev.bind (contains_ev bg (i : Int) (by omega)) ?_) h2
        simp only [c', Bool.false_eq_true, if_false]
        exact r2
      · have hA : (frA bg i).length < (plc s (frB s.length bg 0)).length := by
          have := congrArg List.length hsplit
          rw [List.length_append, List.length_cons] at this
          unfold plc
          rw [List.length_map]
          omega
        have ePl : plc s (frB s.length bg 0) = plc s (frA bg i) ++ rd s (i : Int) :: plc s (frB s.length bg (i + 1)) := by
          rw [← hsplit]
          unfold plc
          rw [List.map_append, List.map_cons]
        have pl : (plc s (frA bg i)).length = (frA bg i).length := by unfold plc; rw [List.length_map]
        have e1 : rd (plc s (frB s.length bg 0)) ((frA bg i).length : Int) = rd s (i : Int) := by
          rw [ePl, rd_at _ _ (by rw [List.length_append, List.length_cons, pl]; omega), List.getElem_append_right (by rw [pl]; exact Nat.le_refl _)]
          simp [pl]
        have e2 : (plc s (frB s.length bg 0)).take (frA bg i).length ++ (plc s (frB s.length bg 0)).drop ((frA bg i).length + 1) = plc s (frB s.length (bg ++ [(i : Int)]) 0) := by
          rw [hFr, ePl]
          unfold plc
          rw [List.map_append]
          rw [List.take_left' (by rw [List.length_map])]
          congr 1
          rw [show (frA bg i).length + 1 = ((frA bg i).map fun j : Nat => rd s (j : Int)).length + 1 by rw [List.length_map], List.drop_append]
          simp
        have e3 : bg.map (rd s) ++ [rd s (i : Int)] = (bg ++ [(i : Int)]).map (rd s) := by rw [List.map_append]; rfl
        rw [← e3] at r3
        rw [frA_step, if_neg c, List.length_append, List.length_singleton] at h3
        exact try_step n l (bg.map (rd s)) (plc s (frB s.length bg 0)) _ (frA bg i).length (rd s (i : Int)) st R1 R (by omega) (by rw [List.length_map]; omega) hA e1 e2 r3 h3
theorem tour_try {n : Int} {l : List S41} (hn : Net1 n l) (s : List Int) (hs5 : s.length ≤ 5) (hin : ∀ i : Nat, i < s.length → 0 ≤ rd s (i : Int) ∧ rd s (i : Int) < n) : ∀ (m : Nat) (bg : List Int) (st : List Int × Int), bg.length + m = s.length → (∀ x ∈ bg, 0 ≤ x ∧ x < (s.length : Int)) → (frB s.length bg 0).length = m → st.1.length ≤ 5 → ∃ R : List Int × Int, Opt n l (bg.map (rd s)) (plc s (frB s.length bg 0)) st R ∧ R.1.length ≤ 5 ∧ Ev (fun k => ordF k (tableV n l) s s.length m bg st) R ∧ Ev (fun k => spec_l17Try.f k n l (bg.map (rd s)) (plc s (frB s.length bg 0)) st.1 st.2) R := by
  intro m
  induction m with
  | zero =>
    intro bg st hl hr hF h5
    have e0 : plc s (frB s.length bg 0) = [] := by
      have : frB s.length bg 0 = [] := List.length_eq_zero_iff.1 hF
      rw [this]
      rfl
    have ho : ∀ i : Nat, i < (bg.map (rd s)).length → 0 ≤ rd (bg.map (rd s)) (i : Int) ∧ rd (bg.map (rd s)) (i : Int) < n := by
      intro i hi
      rw [rd_at _ i hi, List.getElem_map]
      rw [List.length_map] at hi
      obtain ⟨b0, b1⟩ := hr _ (List.getElem_mem hi)
      obtain ⟨j, hj⟩ := Int.eq_ofNat_of_zero_le b0
      rw [hj]
      exact hin j (by omega)
    obtain ⟨t1, t2⟩ := around_ev hn (bg.map (rd s)) (by rw [List.length_map]; omega) ho
    have hch := chosen_ev s bg (by omega) hr
    by_cases c : tourV n l (bg.map (rd s)) < st.2
    · refine ⟨(bg.map (rd s), tourV n l (bg.map (rd s))), ?_, by rw [List.length_map]; omega, ?_, ?_⟩
      · rw [e0]
        refine ⟨by simp only; omega, .inr ⟨c, [], List.Perm.refl _, by rw [List.append_nil]⟩, fun p hp => ?_⟩
        rw [List.Perm.eq_nil hp, List.append_nil]
        exact Int.le_refl _
      · refine Ev.bind hch (Ev.bind t2 (ev_now fun _ => ?_))
        rw [if_pos c]
      · rw [e0]
        refine ev_shift ?_
        have z : ([] : List Int).length = 0 := rfl
        have z2 : (bg.map (rd s)).length ≤ 5 := by rw [List.length_map]; omega
        have b1 : ([] : List Int).length + (bg.map (rd s)).length < 17592186044416 := by omega
        have zi : (([] : List Int).length : Int) = 0 := rfl
        simp only [spec_l17Try.f, zi, if_true]
        refine Ev.bind t1 ?_
        simp only [c, if_true, Option.bind_some, b1, List.nil_append]
        exact ev_now fun _ => rfl
    · refine ⟨st, ?_, h5, ?_, ?_⟩
      · rw [e0]
        refine ⟨Int.le_refl _, .inl rfl, fun p hp => ?_⟩
        rw [List.Perm.eq_nil hp, List.append_nil]
        omega
      · refine Ev.bind hch (Ev.bind t2 (ev_now fun _ => ?_))
        rw [if_neg c]
      · rw [e0]
        refine ev_shift ?_
        have zi : (([] : List Int).length : Int) = 0 := rfl
        simp only [spec_l17Try.f, zi, if_true]
        refine Ev.bind t1 ?_
        simp only [c, if_false]
        exact ev_now fun _ => rfl
  | succ m ih =>
    intro bg st hl hr hF h5
    have hLl : (plc s (frB s.length bg 0)).length = m + 1 := by unfold plc; rw [List.length_map, hF]
    obtain ⟨R, hO, h1, h2, h3⟩ := tour_loop s hs5 m bg hl hr ih hF s.length 0 st (by omega) (Nat.zero_le _) h5
    refine ⟨R, opt_of (by rw [hF]; omega) hO, h1, h2, ev_shift ?_⟩
    have hne : ¬ ((plc s (frB s.length bg 0)).length : Int) = 0 := by omega
    simp only [spec_l17Try.f, hne, if_false]
    exact h3
theorem tourBest_val (n : Int) (l : List S41) (s : List Int) (hl : l.length ≤ 9223372036854775807) (hs : s.length ≤ 9223372036854775807) : ∃ R : List Int × Int, (stopsB n l s = false → R = ([], -1)) ∧ (stopsB n l s = true → Opt n l (s.take 1) (s.drop 1) ([], 99999) R) ∧ R.1.length ≤ 5 ∧ Ev (fun k => spec_TourBest.f k n l s) R ∧ Ev (fun k => impl_TourBest.f k n l s) R := by
  have hst := stopsOk_ev n l s hs
  have hsp := l17Stops_ev n l s hs
  cases hok : stopsB n l s with
  | false =>
    rw [hok] at hst
    refine ⟨([], -1), fun _ => rfl, nofun, by simp, ?_, ?_⟩
    · unfold spec_TourBest.f
      refine Ev.bind (l1Ok_ev n l hl) ?_
      cases h1 : netOkB n l with
      | false => simp only [Bool.false_eq_true, if_false]; exact ev_now fun _ => rfl
      | true =>
        simp only [if_true]
        refine Ev.bind hsp ?_
        have h2 : ((List.range' 0 s.length).all (fun i => nodeB n (s.getD i 0) && freshAt s i) && inB (s.length : Int) 1 5) = false := by
          unfold stopsB at hok
          rw [h1, Bool.true_and] at hok
          exact hok
        rw [h2]
        simp only [Bool.false_eq_true, if_false]
        exact ev_now fun _ => rfl
    · unfold impl_TourBest.f tbF
      refine Ev.bind hst ?_
      simp only [Bool.false_eq_true, if_false]
      exact ev_now fun _ => rfl
  | true =>
    rw [hok] at hst
    obtain ⟨hn, h5, h1, hin⟩ := stops_of hok
    have hok2 : netOkB n l = true ∧ ((List.range' 0 s.length).all (fun i => nodeB n (s.getD i 0) && freshAt s i) && inB (s.length : Int) 1 5) = true := by
      unfold stopsB at hok
      rwa [Bool.and_eq_true] at hok
    rw [hok2.2] at hsp
    have ec : ([(0 : Int)] : List Int).contains ((0 : Nat) : Int) = true := rfl
    have eF : frB s.length [0] 0 = List.range' 1 (s.length - 1) := by
      rw [frB_step (show 0 < s.length by omega), if_pos ec]
      unfold frB
      refine List.filter_eq_self.2 fun x hx => ?_
      rw [List.mem_range'_1] at hx
      rw [Bool.not_eq_true', ← Bool.not_eq_true, List.contains_iff_mem, List.mem_singleton]
      omega
    have e1 : ([(0 : Int)] : List Int).map (rd s) = s.take 1 := by
      cases s with
      | nil => simp at h1
      | cons x xs => rfl
    have e2 : plc s (frB s.length [0] 0) = s.drop 1 := by
      rw [eF]
      unfold plc
      apply List.ext_getElem
      · simp
      · intro i h1' h2'
        rw [List.getElem_map, List.getElem_range', List.getElem_drop]
        rw [List.length_map, List.length_range'] at h1'
        rw [show 1 + 1 * i = 1 + i by omega]
        exact rd_at s (1 + i) (by omega)
    obtain ⟨R, rO, r1, r2, r3⟩ := tour_try (n := n) (l := l) hn s h5 hin (s.length - 1) [0] ([], 99999) (by simp; omega) (fun x hx => by rw [List.mem_singleton] at hx; omega) (by rw [eF, List.length_range']) (by simp)
    rw [e1, e2] at r3 rO
    refine ⟨R, nofun, fun _ => rO, r1, ?_, ?_⟩
    · unfold spec_TourBest.f
      refine Ev.bind (l1Ok_ev n l hl) ?_
      simp only [hok2.1, if_true]
      refine Ev.bind hsp ?_
      have h1' : 1 ≤ (s.length : Int) := by omega
      simp only [if_true, h1']
      exact Ev.bind r3 (ev_now fun _ => rfl)
    · unfold impl_TourBest.f tbF
      refine Ev.bind hst ?_
      simp only [if_true]
      refine Ev.bind (table_ev hn) ?_
      have hc : 1 ≤ s.length ∧ s.length ≤ 1000 := ⟨h1, by omega⟩
      simp only [hc, and_self, if_true]
      exact r2
/-! ### draws: what they make is of some size, whatever it is -/
theorem xor_nn {x y : Int} (hx : 0 ≤ x) (hx2 : x < 1099511627776) (hy : 0 ≤ y) (hy2 : y < 1099511627776) : 0 ≤ Go.bits .xor .i64 x y := by
  obtain ⟨a, rfl⟩ := Int.eq_ofNat_of_zero_le hx
  obtain ⟨b, rfl⟩ := Int.eq_ofNat_of_zero_le hy
  have h1 : (BitVec.ofInt 64 (a : Int)).toNat = a := by
    rw [BitVec.toNat_ofInt]
    omega
  have h2 : (BitVec.ofInt 64 (b : Int)).toNat = b := by
    rw [BitVec.toNat_ofInt]
    omega
  have h3 : a ^^^ b < 2 ^ 40 := Nat.xor_lt_two_pow (by omega) (by omega)
  have h4 : Go.bits .xor .i64 (a : Int) (b : Int) = IntKind.i64.wrap ((a ^^^ b : Nat) : Int) := by
    unfold Go.bits
    show IntKind.i64.wrap ((BitVec.ofInt 64 (a : Int) ^^^ BitVec.ofInt 64 (b : Int)).toNat : Int) = _
    rw [BitVec.toNat_xor, h1, h2]
  rw [h4, IntKind.wrap_i64]
  omega
/-- The bytes of a reader. -/
def Bytes (b : List Int) : Prop := b.length ≤ 2000 ∧ ∀ x ∈ b, 0 ≤ x ∧ x ≤ 255
theorem Bytes.at {b : List Int} (hb : Bytes b) (i : Int) : 0 ≤ rd b i ∧ rd b i ≤ 255 := by
  unfold rd
  rw [List.getD_eq_getElem?_getD]
  cases h : b[i.toNat]? with
  | none => simp
  | some x => exact hb.2 x (List.mem_of_getElem? h)
theorem pick_ex {b : List Int} (hb : Bytes b) {p n : Int} (hp : 0 ≤ p) (hp2 : p ≤ 1000000) (hn : n ≤ 1000000) :
    ∃ v, Ev (fun k => spec_l30Rd_pick.f k b p n) (v, p + 1) ∧ 0 ≤ v ∧ (1 ≤ n → v < n) ∧ (n < 1 → v = 0) := by
  have hl := hb.1
  have w1 : wrap64 (p + 1) = p + 1 := w_id (by omega) (by omega)
  have w0 : wrap64 (p + 1 - 1) = p := by rw [w_id (by omega) (by omega)]; omega
  unfold spec_l30Rd_pick.f
  rw [w1]
  by_cases h1 : n < 1
  · refine ⟨0, ?_, Int.le_refl _, fun h => by omega, fun _ => rfl⟩
    simp only [h1, if_true]
    exact ev_shift (ev_now fun k => by simp only [spec_l30Rd_pick.j0, if_true])
  · simp only [h1, if_false]
    have hn0 : ¬ n = 0 := by omega
    by_cases h2 : b.length = 0
    · refine ⟨0, ?_, Int.le_refl _, fun h => by omega, fun h => by first | exact absurd h h1 | exact h.elim⟩
      have e : ((b.length : Int) == 0) = true := by rw [beq_iff_eq]; omega
      rw [e]
      exact ev_shift (ev_now fun k => by simp only [spec_l30Rd_pick.j0, if_true])
    · have e : ((b.length : Int) == 0) = false := by rw [beq_eq_false_iff_ne]; omega
      have hm0 : ¬ (b.length : Int) = 0 := by omega
      rw [e]
      by_cases h3 : p < (b.length : Int)
      · have hr := hb.at p
        have w2 : wrap64 (rd b p) = rd b p := w_id (by omega) (by omega)
        refine ⟨Int.tmod (rd b p) n, ?_, Int.tmod_nonneg _ hr.1, fun h => Int.tmod_lt_of_pos _ (by omega), fun h => by first | exact absurd h h1 | exact h.elim⟩
        exact ev_shift (ev_now fun k => by simp only [spec_l30Rd_pick.j0, Bool.false_eq_true, if_false, w0, h3, hp, hn0, if_true, w2])
      · have q1 := Int.tmod_nonneg (a := p) (b.length : Int) hp
        have q2 := Int.tmod_lt_of_pos p (show (0 : Int) < (b.length : Int) by omega)
        have w3 : wrap64 (wrap64 (p * 7) + 3) = p * 7 + 3 := by rw [w_id (n := p * 7) (by omega) (by omega), w_id (by omega) (by omega)]
        have q3 := Int.tmod_nonneg (a := p * 7 + 3) (b.length : Int) (by omega)
        have q4 := Int.tmod_lt_of_pos (p * 7 + 3) (show (0 : Int) < (b.length : Int) by omega)
        have q5 : 0 ≤ Int.tdiv p (b.length : Int) := Int.tdiv_nonneg hp (by omega)
        have q6 : Int.tdiv p (b.length : Int) ≤ p := Int.tdiv_le_self _ hp
        obtain ⟨d, hd⟩ : ∃ d, Int.tdiv p (b.length : Int) = d := ⟨_, rfl⟩
        rw [hd] at q5 q6
        have r1 := hb.at (Int.tmod p (b.length : Int))
        have r2 := hb.at (Int.tmod (p * 7 + 3) (b.length : Int))
        have wx : wrap64 (wrap64 (wrap64 (wrap64 (wrap64 (rd b (Int.tmod p (b.length : Int))) * 131) + wrap64 (wrap64 (rd b (Int.tmod (p * 7 + 3) (b.length : Int))) * 1117)) + wrap64 (p * 29)) + wrap64 (wrap64 d * 53)) = rd b (Int.tmod p (b.length : Int)) * 131 + rd b (Int.tmod (p * 7 + 3) (b.length : Int)) * 1117 + p * 29 + d * 53 := by
          generalize rd b (Int.tmod p (b.length : Int)) = x1 at r1 ⊢
          generalize rd b (Int.tmod (p * 7 + 3) (b.length : Int)) = x2 at r2 ⊢
          rw [w_id (n := x1) (by omega) (by omega), w_id (n := x2) (by omega) (by omega), w_id (n := x1 * 131) (by omega) (by omega), w_id (n := x2 * 1117) (by omega) (by omega), w_id (n := p * 29) (by omega) (by omega), w_id (n := d) (by omega) (by omega), w_id (n := d * 53) (by omega) (by omega), w_id (n := x1 * 131 + x2 * 1117) (by omega) (by omega), w_id (n := x1 * 131 + x2 * 1117 + p * 29) (by omega) (by omega), w_id (by omega) (by omega)]
        generalize hX : rd b (Int.tmod p (b.length : Int)) * 131 + rd b (Int.tmod (p * 7 + 3) (b.length : Int)) * 1117 + p * 29 + d * 53 = X at wx
        have x0 : 0 ≤ X := by omega
        have x1 : X < 1099511627776 := by omega
        have y0 : 0 ≤ Int.tdiv X 64 := Int.tdiv_nonneg x0 (by omega)
        have y1 : Int.tdiv X 64 ≤ X := Int.tdiv_le_self _ x0
        have wy : wrap64 (Int.tdiv X 64) = Int.tdiv X 64 := w_id (by omega) (by omega)
        refine ⟨Int.tmod (Go.bits .xor .i64 X (Int.tdiv X 64)) n, ?_, Int.tmod_nonneg _ (xor_nn x0 x1 y0 (by omega)), fun h => Int.tmod_lt_of_pos _ (by omega), fun h => by first | exact absurd h h1 | exact h.elim⟩
        exact ev_shift (ev_now fun k => by simp only [spec_l30Rd_pick.j0, Bool.false_eq_true, if_false, w0, h3, hm0, q1, q2, w3, q3, q4, hn0, if_true, hd, wx, wy])
theorem one_ex {b : List Int} (hb : Bytes b) {p : Int} (hp : 0 ≤ p) (hp2 : p ≤ 1000000) (l : List Int) (hl : 1 ≤ l.length) (hl2 : l.length ≤ 1000) :
    ∃ v, v ∈ l ∧ Ev (fun k => spec_l30Rd_one.f k b p l) (v, p + 1) := by
  obtain ⟨v, hv, h0, h1, _⟩ := pick_ex hb hp hp2 (n := (l.length : Int)) (by omega)
  have h1 := h1 (by omega)
  unfold spec_l30Rd_one.f
  obtain ⟨i, rfl⟩ := Int.eq_ofNat_of_zero_le h0
  have hi : i < l.length := by omega
  refine ⟨l[i], List.getElem_mem hi, Ev.bind hv ?_⟩
  simp only [h0, h1, if_true, rd_at l i hi]
  exact ev_now fun _ => rfl
theorem open_ex (l : List Int) (h : ∀ x ∈ l, (Lit.int .u8 x).wf = true) : ∃ b, Bytes b ∧ spec_l30Open.f l = some (b, 0) := by
  have hw : ∀ x ∈ l, 0 ≤ x ∧ x ≤ 255 := by
    intro x hx
    have := h x hx
    simp [Lit.wf, IntKind.min, IntKind.max, IntKind.signed, IntKind.bits] at this
    omega
  unfold spec_l30Open.f
  by_cases h1 : (l.length : Int) > 2000
  · have h2 : 2000 ≤ (l.length : Int) := by omega
    rw [if_pos h1, if_pos h2]
    exact ⟨_, ⟨by rw [List.length_take]; omega, fun x hx => hw x (List.mem_of_mem_take hx)⟩, rfl⟩
  · rw [if_neg h1]
    exact ⟨_, ⟨by omega, hw⟩, rfl⟩
/-! ### nets, nodes and walks that are drawn -/
theorem l30Net_loop {b : List Int} (hb : Bytes b) {n : Int} (hn : 2 ≤ n ∧ n ≤ 6) : ∀ (m : Nat) (l : List S41) (p : Int), l.length + m ≤ 13 → 0 ≤ p → p + 6 * m ≤ 100000 →
    ∃ l' q, Ev (fun k => spec_l30Net.l0 k (m : Int) b p n l) (n, l', q) ∧ l'.length ≤ 13 ∧ 0 ≤ q ∧ q ≤ p + 6 * m := by
  intro m
  induction m with
  | zero =>
    intro l p hl hp hq
    exact ⟨l, p, ev_shift (ev_now fun k => by simp [spec_l30Net.l0]), by omega, hp, by omega⟩
  | succ m ih =>
    intro l p hl hp hq
    obtain ⟨v1, e1, _⟩ := pick_ex hb hp (by omega) (n := n) (by omega)
    obtain ⟨v2, e2, _⟩ := pick_ex hb (p := p + 1) (by omega) (by omega) (n := n) (by omega)
    obtain ⟨v3, e3, _⟩ := pick_ex hb (p := p + 1 + 1) (by omega) (by omega) (n := 100) (by omega)
    obtain ⟨v4, _, e4⟩ := one_ex hb (p := p + 1 + 1 + 1) (by omega) (by omega) [0, 1, 2, 5, 9, v3] (by simp) (by simp)
    obtain ⟨v5, _, e5⟩ := one_ex hb (p := p + 1 + 1 + 1 + 1) (by omega) (by omega) [0, 0, 3, 8] (by simp) (by simp)
    obtain ⟨v6, e6, _⟩ := pick_ex hb (p := p + 1 + 1 + 1 + 1 + 1) (by omega) (by omega) (n := 10) (by omega)
    have hpos : ((m + 1 : Nat) : Int) > 0 := by omega
    have hw : wrap64 (((m + 1 : Nat) : Int) - 1) = (m : Int) := by rw [w_id (by omega) (by omega)]; omega
    have hlen : l.length < 3518437208883 := by omega
    have hn0 : ¬ n = 0 := by omega
    by_cases hv : v1 = v2
    · obtain ⟨l', q, he, h1, h2, h3⟩ := ih (l ++ [⟨v1, Int.tmod (wrap64 (v2 + 1)) n, v4, v5, v6⟩]) (p + 1 + 1 + 1 + 1 + 1 + 1) (by rw [List.length_append]; simp; omega) (by omega) (by omega)
      refine ⟨l', q, ev_shift ?_, h1, h2, by omega⟩
      simp only [spec_l30Net.l0, hpos, if_true]
      refine Ev.bind e1 (Ev.bind e2 (Ev.bind e3 (Ev.bind e4 (Ev.bind e5 (Ev.bind e6 ?_)))))
      simp only [hv, hn0, hlen, if_true, if_false, hw]
      rw [hv] at he
      exact he
    · obtain ⟨l', q, he, h1, h2, h3⟩ := ih (l ++ [⟨v1, v2, v4, v5, v6⟩]) (p + 1 + 1 + 1 + 1 + 1 + 1) (by rw [List.length_append]; simp; omega) (by omega) (by omega)
      refine ⟨l', q, ev_shift ?_, h1, h2, by omega⟩
      simp only [spec_l30Net.l0, hpos, if_true]
      refine Ev.bind e1 (Ev.bind e2 (Ev.bind e3 (Ev.bind e4 (Ev.bind e5 (Ev.bind e6 ?_)))))
      simp only [hv, hlen, if_true, if_false, hw]
      exact he
theorem l30Net_ex {b : List Int} (hb : Bytes b) {p : Int} (hp : 0 ≤ p) (hp2 : p ≤ 90000) :
    ∃ n l q, Ev (fun k => spec_l30Net.f k b p) (n, l, q) ∧ l.length ≤ 13 ∧ 0 ≤ q ∧ q ≤ p + 100 ∧ 2 ≤ n ∧ n ≤ 6 := by
  obtain ⟨v1, e1, h1, h1', _⟩ := pick_ex hb hp (by omega) (n := 5) (by omega)
  obtain ⟨v2, e2, h2, h2', _⟩ := pick_ex hb (p := p + 1) (by omega) (by omega) (n := 14) (by omega)
  have h1' := h1' (by omega)
  have h2' := h2' (by omega)
  obtain ⟨m, rfl⟩ := Int.eq_ofNat_of_zero_le h2
  have hw : wrap64 (2 + v1) = 2 + v1 := w_id (by omega) (by omega)
  obtain ⟨l, q, he, h3, h4, h5⟩ := l30Net_loop hb (n := 2 + v1) (by omega) m [] (p + 1 + 1) (by simp; omega) (by omega) (by omega)
  refine ⟨2 + v1, l, q, ?_, h3, h4, by omega, by omega, by omega⟩
  unfold spec_l30Net.f
  refine Ev.bind e1 (Ev.bind e2 ?_)
  rw [hw]
  exact he
/-! ### drawn nodes -/
theorem l30Node_ex {b : List Int} (hb : Bytes b) {p : Int} (hp : 0 ≤ p) (hp2 : p ≤ 90000) (n : Int) (hn : n ≤ 1000000) (l : List S41) :
    ∃ v q, Ev (fun k => spec_l30Node.f k b p n l) (v, q) ∧ 0 ≤ q ∧ q ≤ p + 10 := by
  obtain ⟨v1, e1, _⟩ := pick_ex hb hp (by omega) (n := 16) (by omega)
  unfold spec_l30Node.f
  by_cases c : v1 = 0
  · obtain ⟨v2, _, e2⟩ := one_ex hb (p := p + 1) (by omega) (by omega) [(-1), n] (by simp) (by simp)
    refine ⟨v2, p + 1 + 1, Ev.bind e1 ?_, by omega, by omega⟩
    simp only [c, if_true]
    exact Ev.bind e2 (ev_now fun _ => rfl)
  · obtain ⟨v2, e2, _⟩ := pick_ex hb (p := p + 1) (by omega) (by omega) (n := n) hn
    refine ⟨v2, p + 1 + 1, Ev.bind e1 ?_, by omega, by omega⟩
    simp only [c, if_false]
    exact Ev.bind e2 (ev_now fun _ => rfl)
/-! ### drawn nets, ok or not -/
theorem l30AnyNet_ex {b : List Int} (hb : Bytes b) {p : Int} (hp : 0 ≤ p) (hp2 : p ≤ 90000) :
    ∃ n l q, Ev (fun k => spec_l30AnyNet.f k b p) (n, l, q) ∧ l.length ≤ 13 ∧ 0 ≤ q ∧ q ≤ p + 200 ∧ n ≤ 1000000 := by
  obtain ⟨n, l, q, he, h1, h2, h3, h4, h5⟩ := l30Net_ex hb hp hp2
  unfold spec_l30AnyNet.f
  by_cases hl : (l.length : Int) > 0
  · obtain ⟨v1, e1, g1, g2, _⟩ := pick_ex hb h2 (by omega) (n := (l.length : Int)) (by omega)
    have g2 := g2 (by omega)
    obtain ⟨v2, e2, _⟩ := pick_ex hb (p := q + 1) (by omega) (by omega) (n := 16) (by omega)
    by_cases c0 : v2 = 0
    · obtain ⟨v3, _, e3⟩ := one_ex hb (p := q + 1 + 1) (by omega) (by omega) [(-1), 8, (rd_T41 l v1).f0] (by simp) (by simp)
      refine ⟨n, l.set v1.toNat (⟨(rd_T41 l v1).f0, v3, (rd_T41 l v1).f2, (rd_T41 l v1).f3, (rd_T41 l v1).f4⟩ : S41), q + 1 + 1 + 1, Ev.bind he ?_, ?_, ?_, ?_, ?_⟩
      · simp only [hl, if_true]
        refine Ev.bind e1 (Ev.bind e2 ?_)
        simp only [c0, if_true, g1, g2]
        exact Ev.bind e3 (ev_now fun _ => rfl)
      · rw [List.length_set]; exact h1
      · omega
      · omega
      · omega
    · by_cases c1 : v2 = 1
      · obtain ⟨v3, _, e3⟩ := one_ex hb (p := q + 1 + 1) (by omega) (by omega) [(-1), 100] (by simp) (by simp)
        refine ⟨n, l.set v1.toNat (⟨(rd_T41 l v1).f0, (rd_T41 l v1).f1, v3, (rd_T41 l v1).f3, (rd_T41 l v1).f4⟩ : S41), q + 1 + 1 + 1, Ev.bind he ?_, ?_, ?_, ?_, ?_⟩
        · simp only [hl, if_true]
          refine Ev.bind e1 (Ev.bind e2 ?_)
          simp only [c1, if_true, show ¬ (1 : Int) = 0 by omega, if_false]
          refine Ev.bind e3 ?_
          simp only [g1, g2, if_true]
          exact ev_now fun _ => rfl
        · rw [List.length_set]; exact h1
        · omega
        · omega
        · omega
      · by_cases c2 : v2 = 2
        · obtain ⟨v3, hv3, e3⟩ := one_ex hb (p := q + 1 + 1) (by omega) (by omega) [0, 1, 9, 8] (by simp) (by simp)
          refine ⟨v3, l, q + 1 + 1 + 1, Ev.bind he ?_, h1, by omega, by omega, by simp only [List.mem_cons, List.not_mem_nil, or_false] at hv3; omega⟩
          simp only [hl, if_true]
          refine Ev.bind e1 (Ev.bind e2 ?_)
          simp only [c2, if_true, show ¬ (2 : Int) = 0 by omega, show ¬ (2 : Int) = 1 by omega, if_false]
          exact Ev.bind e3 (ev_now fun _ => rfl)
        · refine ⟨n, l, q + 1 + 1, Ev.bind he ?_, h1, by omega, by omega, by omega⟩
          simp only [hl, if_true]
          refine Ev.bind e1 (Ev.bind e2 ?_)
          simp only [c0, c1, c2, if_false]
          exact ev_now fun _ => rfl
  · refine ⟨n, l, q, Ev.bind he ?_, h1, h2, by omega, by omega⟩
    simp only [hl, if_false]
    exact ev_now fun _ => rfl
/-! ### stops that are drawn -/
theorem l30Stops_loop {b : List Int} (hb : Bytes b) {n : Int} (hn : n ≤ 1000000) (l : List S41) : ∀ (m : Nat) (s : List Int) (p : Int), s.length + m ≤ 20 → (m = 0 → 1 ≤ s.length) → (1 ≤ s.length ∨ 1 ≤ m) → 0 ≤ p → p + m ≤ 90000 →
    ∃ R : List Int × Int, (R.1.length ≤ 21 ∧ 0 ≤ R.2 ∧ R.2 ≤ p + m + 5) ∧ Ev (fun k => spec_l30Stops.l0 k s (m : Int) b p n l) R := by
  intro m
  induction m with
  | zero =>
    intro s p h1 h2 _ h3 h4
    have h2 := h2 rfl
    obtain ⟨v, e, _⟩ := pick_ex hb h3 (by omega) (n := 14) (by omega)
    have hz : ¬ ((0 : Nat) : Int) > 0 := by omega
    by_cases c : v = 0
    · refine ⟨(s ++ [rd s 0], p + 1), ⟨by simp <;> omega, by simp <;> omega, by simp <;> omega⟩, ev_shift ?_⟩
      simp only [spec_l30Stops.l0, hz, if_false]
      refine Ev.bind e ?_
      have g : (0 : Int) < (s.length : Int) := by omega
      have g2 : s.length < 17592186044416 := by omega
      simp only [c, if_true, g, g2]
      exact ev_now fun _ => rfl
    · refine ⟨(s, p + 1), ⟨by simp <;> omega, by simp <;> omega, by simp <;> omega⟩, ev_shift ?_⟩
      simp only [spec_l30Stops.l0, hz, if_false]
      refine Ev.bind e ?_
      simp only [c, if_false]
      exact ev_now fun _ => rfl
  | succ m ih =>
    intro s p h1 _ _ h3 h4
    have hpos : ((m + 1 : Nat) : Int) > 0 := by omega
    have hw : wrap64 (((m + 1 : Nat) : Int) - 1) = (m : Int) := by rw [w_id (by omega) (by omega)]; omega
    obtain ⟨v, e, _⟩ := pick_ex hb h3 (by omega) (n := n) hn
    have g2 : s.length < 17592186044416 := by omega
    by_cases c : s.contains v = true
    · have hs1 : 1 ≤ s.length := by
        rw [List.contains_iff_mem] at c
        exact List.length_pos_of_mem c
      obtain ⟨R, hR, he⟩ := ih s (p + 1) (by omega) (fun _ => hs1) (.inl hs1) (by omega) (by omega)
      refine ⟨R, ⟨hR.1, hR.2.1, by omega⟩, ev_shift ?_⟩
      simp only [spec_l30Stops.l0, hpos, if_true]
      refine Ev.bind e (Ev.bind (l12In_ev s v (by omega)) ?_)
      simp only [c, if_true, hw]
      exact he
    · obtain ⟨R, hR, he⟩ := ih (s ++ [v]) (p + 1) (by simp; omega) (fun _ => by simp) (.inl (by simp)) (by omega) (by omega)
      refine ⟨R, ⟨hR.1, hR.2.1, by omega⟩, ev_shift ?_⟩
      simp only [spec_l30Stops.l0, hpos, if_true]
      refine Ev.bind e (Ev.bind (l12In_ev s v (by omega)) ?_)
      simp only [c, Bool.false_eq_true, if_false, g2, if_true, hw]
      exact he
theorem l30Stops_ex {b : List Int} (hb : Bytes b) {n : Int} (hn : n ≤ 1000000) (l : List S41) {p : Int} (hp : 0 ≤ p) (hp2 : p ≤ 80000) :
    ∃ R : List Int × Int, (R.1.length ≤ 21 ∧ 0 ≤ R.2 ∧ R.2 ≤ p + 30) ∧ Ev (fun k => spec_l30Stops.f k b p n l) R := by
  obtain ⟨v, e, g0, g1, _⟩ := pick_ex hb hp (by omega) (n := 5) (by omega)
  have g1 := g1 (by omega)
  have hw : wrap64 (1 + v) = ((v.toNat + 1 : Nat) : Int) := by rw [w_id (by omega) (by omega)]; omega
  obtain ⟨R, hR, he⟩ := l30Stops_loop hb hn l (v.toNat + 1) [] (p + 1) (by simp; omega) (fun h => by omega) (.inr (by omega)) (by omega) (by omega)
  refine ⟨R, ⟨hR.1, hR.2.1, by omega⟩, ?_⟩
  unfold spec_l30Stops.f
  refine Ev.bind e ?_
  rw [hw]
  exact he
theorem drawTourCost_ex (c : List Int) (h : ∀ x ∈ c, (Lit.int .u8 x).wf = true) : ∃ n l s, Ev (fun k => spec_DrawTourCost.f k c) (n, l, s) ∧ l.length ≤ 13 ∧ s.length ≤ 21 := by
  obtain ⟨b, hb, ho⟩ := open_ex c h
  obtain ⟨n, l, q, he, h1, h2, h3, h4⟩ := l30AnyNet_ex hb (p := 0) (by omega) (by omega)
  obtain ⟨⟨s, q2⟩, ⟨g1, g2, g3⟩, e⟩ := l30Stops_ex hb h4 l h2 (by omega)
  unfold spec_DrawTourCost.f
  simp only [ho, Option.bind_some]
  exact ⟨n, l, s, Ev.bind he (Ev.bind e (ev_now fun _ => rfl)), h1, g1⟩
/-! ### drawn stops for the best tour -/
theorem drawTourBest_ex (c : List Int) (h : ∀ x ∈ c, (Lit.int .u8 x).wf = true) : ∃ n l s, Ev (fun k => spec_DrawTourBest.f k c) (n, l, s) ∧ l.length ≤ 13 ∧ s.length ≤ 21 := by
  obtain ⟨n, l, s, he, h1, h2⟩ := drawTourCost_ex c h
  unfold spec_DrawTourBest.f
  exact ⟨n, l, s, Ev.bind he (ev_now fun _ => rfl), h1, h2⟩
/-! ### the laws' own tests of lists -/
theorem ev_uniq {α : Type} {g : Nat → Option α} {a b : α} (h : Ev g a) (h' : Ev g b) : a = b := by
  obtain ⟨K, h⟩ := h
  obtain ⟨K', h'⟩ := h'
  have h1 := h (max K K') (by omega)
  rw [h' (max K K') (by omega)] at h1
  exact (Option.some.inj h1).symm
theorem wkInts_self (l : List Int) (hl : l.length ≤ 9223372036854775807) : Ev (fun k => laws_wkInts.f k l l) true := by
  unfold laws_wkInts.f
  simp only [if_true]
  refine ev_ind (fun k (i : Nat) => laws_wkInts.l0 k l l (i : Int)) (fun i => l.length - i) (fun i => i ≤ l.length) (fun _ => true) ?_ 0 (Nat.zero_le _)
  intro i hi ih
  by_cases h : i < l.length
  · have hlt : (i : Int) < (l.length : Int) := by omega
    have h0 : (0 : Int) ≤ (i : Int) := by omega
    simp only [laws_wkInts.l0, hlt, h0, if_true, wsucc h hl]
    exact ih (i + 1) (by omega) (by omega)
  · have hlt : ¬ (i : Int) < (l.length : Int) := by omega
    simp only [laws_wkInts.l0, hlt, if_false]
    exact ev_now fun _ => rfl
theorem wkIn_ev (l : List Int) (x : Int) (hl : l.length ≤ 9223372036854775807) : Ev (fun k => laws_wkIn.f k l x) (l.contains x) := by
  unfold laws_wkIn.f
  refine ev_at (ev_ind (fun k (i : Nat) => laws_wkIn.l0 k l x (i : Int)) (fun i => l.length - i) (fun i => i ≤ l.length) (fun i => (l.drop i).contains x) ?_ 0 (Nat.zero_le _)) (by rw [List.drop_zero])
  intro i hi ih
  by_cases h : i < l.length
  · have hlt : (i : Int) < (l.length : Int) := by omega
    have h0 : (0 : Int) ≤ (i : Int) := by omega
    have next := ih (i + 1) (by omega) (by omega)
    simp only [laws_wkIn.l0, hlt, h0, if_true, rd_at l i h, wsucc h hl]
    rw [List.drop_eq_getElem_cons h, List.contains_cons]
    by_cases e : l[i] = x
    · simp only [e, if_true, beq_self_eq_true, Bool.true_or]
      exact ev_now fun _ => rfl
    · have e' : (x == l[i]) = false := beq_eq_false_iff_ne.2 (fun z => e z.symm)
      simp only [e, if_false, e', Bool.false_or]
      exact next
  · have hlt : ¬ (i : Int) < (l.length : Int) := by omega
    simp only [laws_wkIn.l0, hlt, if_false]
    refine ev_now fun k => ?_
    rw [List.drop_of_length_le (by omega)]
    rfl
theorem swap_perm (L : List Int) (i k : Nat) (hi : i < L.length) (hk : k < L.length) : ((L.set i L[k]).set k L[i]).Perm L := by
  rw [List.perm_iff_count]
  intro a
  have c1 := List.count_set (l := L) (a := L[k]) (b := a) hi
  have hk' : k < (L.set i L[k]).length := by rw [List.length_set]; exact hk
  have c2 := List.count_set (l := L.set i L[k]) (a := L[i]) (b := a) hk'
  rw [c2, c1, List.getElem_set]
  have p1 : L[i] = a → 1 ≤ L.count a := fun e => List.one_le_count_iff.2 (e ▸ List.getElem_mem hi)
  have p2 : L[k] = a → 1 ≤ L.count a := fun e => List.one_le_count_iff.2 (e ▸ List.getElem_mem hk)
  by_cases h : i = k
  · subst h
    simp only [if_true, beq_iff_eq]
    by_cases e : L[i] = a
    · have := p1 e
      simp only [e, if_true]
      omega
    · simp only [e, if_false]
      omega
  · simp only [h, if_false, beq_iff_eq]
    by_cases e1 : L[i] = a
    · by_cases e2 : L[k] = a
      · have := p1 e1
        simp only [e1, e2, if_true]
        omega
      · have := p1 e1
        simp only [e1, e2, if_true, if_false]
        omega
    · by_cases e2 : L[k] = a
      · have := p2 e2
        simp only [e1, e2, if_true, if_false]
        omega
      · simp only [e1, e2, if_false]
        omega
theorem FnTourSwap : laws_FnTourSwap.Pure := by
  intro c m _ _ hc hm _ _
  refine Ev.rounds ?_
  unfold laws_FnTourSwap.f
  by_cases h0 : (c.length : Int) > 1048576
  · simp only [h0, if_true]; exact ev_shift (ev_now fun k => by simp only [laws_FnTourSwap.j0, if_true])
  simp only [h0, if_false]
  refine ev_shift ?_
  by_cases h1 : (m.length : Int) > 1048576
  · simp only [laws_FnTourSwap.j0, h1, decide_true, if_true]; exact ev_now fun _ => rfl
  simp only [laws_FnTourSwap.j0, h1, decide_false, Bool.false_eq_true, if_false]
  obtain ⟨n, l, s, he, hl, hs⟩ := drawTourBest_ex c hc
  have hl9 : l.length ≤ 9223372036854775807 := by omega
  obtain ⟨R, hR0, hR1, hR5, hsp, hi⟩ := tourBest_val n l s hl9 (by omega)
  have hself := wkInts_self R.1 (by omega)
  refine Ev.bind he (Ev.bind hi (Ev.bind hsp ?_))
  simp only [if_true]
  refine Ev.bind hself ?_
  simp only [if_true]
  have easy : Ev (fun k => laws_FnTourSwap.j1 k m R.1 R.2 R.1 R.2 true n l) true := by
    refine ev_shift ?_
    simp only [laws_FnTourSwap.j1, if_true]
    exact Ev.bind hself (ev_now fun _ => rfl)
  by_cases hneg : R.2 < 0
  · simp only [hneg, if_true]; exact easy
  simp only [hneg, if_false]
  by_cases h2 : (R.1.length : Int) < 2
  · simp only [h2, decide_true]; exact easy
  simp only [h2, decide_false]
  refine ev_shift ?_
  cases hok : stopsB n l s with
  | false =>
    have := hR0 hok
    rw [this] at hneg
    omega
  | true =>
    obtain ⟨hn, h5, hone, hin⟩ := stops_of hok
    have hB := best_of hone (hR1 hok)
    obtain ⟨V, q⟩ := R
    simp only at h2 hself hneg hR5 ⊢
    have hVs : V.Perm s ∧ q ≤ 99999 := by
      refine ⟨?_, hB.1⟩
      rcases hB.2.1 with e | ⟨_, p, hq, e⟩
      · injection e with e1 e2
        rw [e1] at h2
        simp at h2
      · injection e with e1 e2
        rw [e1]
        have h3 : (s.take 1 ++ p).Perm (s.take 1 ++ s.drop 1) := List.Perm.append_left _ hq
        rwa [List.take_append_drop] at h3
    have hz : ¬ (V.length : Int) = 0 := by omega
    obtain ⟨i, hi1, hi2⟩ : ∃ i : Nat, i < V.length ∧ (m.length : Int) % (V.length : Int) = (i : Int) := ⟨m.length % V.length, Nat.mod_lt _ (by omega), rfl⟩
    obtain ⟨k, hk1, hk2⟩ : ∃ k : Nat, k < V.length ∧ Int.tmod (wrap64 ((m.length : Int) / (V.length : Int))) (V.length : Int) = (k : Int) := by
      refine ⟨(m.length / V.length) % V.length, Nat.mod_lt _ (by omega), ?_⟩
      have hd : (m.length : Int) / (V.length : Int) = ((m.length / V.length : Nat) : Int) := rfl
      have hle : m.length / V.length ≤ m.length := Nat.div_le_self _ _
      have hml : m.length ≤ 1048576 := by omega
      rw [hd]
      generalize m.length / V.length = q2 at hle ⊢
      rw [w_id (by omega) (by omega)]
      rfl
    replace hi2 := Lib.hid hi2
    replace hk2 := Lib.hid hk2
    have g0 : (0 : Int) ≤ (i : Int) := by omega
    have g1 : (i : Int) < (V.length : Int) := by omega
    have g2 : (0 : Int) ≤ (k : Int) := by omega
    have g3 : (k : Int) < (V.length : Int) := by omega
    have z : ([] : List Int).length = 0 := rfl
    have b1 : ([] : List Int).length + V.length < 17592186044416 := by omega
    have e1 : rd V (i : Int) = V[i] := rd_at V i hi1
    have e2 : rd V (k : Int) = V[k] := rd_at V k hk1
    have hsw := swap_perm V i k hi1 hk1
    have hO := hsw.trans hVs.1
    have hokO := stopsB_perm hO hok
    have hlO : ((V.set i V[k]).set k V[i]).length = V.length := by rw [List.length_set, List.length_set]
    obtain ⟨R', hR0', hR1', hR5', _, hi'⟩ := tourBest_val n l ((V.set i V[k]).set k V[i]) hl9 (by omega)
    obtain ⟨_, _, hone', _⟩ := stops_of hokO
    have hB' := best_of hone' (hR1' hokO)
    have hc2 := bests_same hone hone' hO hB hB'
    have hc3 := hB.2.2 _ hO
    have hT := implTourCost_ev n l ((V.set i V[k]).set k V[i]) (by omega)
    rw [if_pos hokO] at hT
    simp only at hc2 hc3
    simp only [laws_FnTourSwap.j1, Bool.false_eq_true, if_false, hz, Option.bind_some, b1, if_true, List.nil_append, hi2.out, hk2.out, g0, g1, g2, g3, Int.toNat_natCast, e1, e2]
    refine Ev.bind hi' (Ev.bind hT ?_)
    have hge : tourV n l ((V.set i V[k]).set k V[i]) ≥ q := hc3
    simp only [hge, if_true, hc2, beq_self_eq_true]
    exact ev_now fun _ => rfl
end Go.Proofs.Ytgickejeakmenaa.Pure
