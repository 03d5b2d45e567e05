/- The pure statement of FnExactSeenCost: on all arguments the reference and the program tell the same cost. No condition. -/
import Derived.Test.YtbappbbljncdeaaFKinds
import Derived.Test.YtbappbbljncdeaaFimplMeas
import Derived.Test.YtbappbbljncdeaaFimplNear
import Derived.Test.YtbappbbljncdeaaFimplNetOk
import Derived.Test.YtbappbbljncdeaaFimplNetback
import Derived.Test.YtbappbbljncdeaaFimplNethas
import Derived.Test.YtbappbbljncdeaaFimplNettoward
import Derived.Test.YtbappbbljncdeaaFimplSeenCost
import Derived.Test.YtbappbbljncdeaaFimplnodesIn
import Derived.Test.YtbappbbljncdeaaFimplseenOk
import Derived.Test.YtbappbbljncdeaaFimplwithin
import Derived.Test.YtbappbbljncdeaaFlawsFnExactSeenCost
import Derived.Test.YtbappbbljncdeaaFlawsInt
import Derived.Test.YtbappbbljncdeaaFlawsNet
import Derived.Test.YtbappbbljncdeaaFlawseqIntSS
import Derived.Test.YtbappbbljncdeaaFlawsszIntSS
import Derived.Test.YtbappbbljncdeaaFlawstoIntSS
import Derived.Test.YtbappbbljncdeaaFspecSeenCost
import Derived.Test.YtbappbbljncdeaaFspecl11Any
import Derived.Test.YtbappbbljncdeaaFspecl15Cost
import Derived.Test.YtbappbbljncdeaaFspecl15Ok
import Derived.Test.YtbappbbljncdeaaFspecl1In
import Derived.Test.YtbappbbljncdeaaFspecl1Ok
import Derived.Test.YtbappbbljncdeaaFspecl3All
import Derived.Test.YtbappbbljncdeaaFtextcore
import Derived.Test.YtbappbbljncdeaaFtextseenok
namespace Go.Proofs.Ytbappbbljncdeaa.Pure
open Go.RowKit Go.Proofs.Ytbappbbljncdeaa.F Go.Proofs.YtbappbbljncdeaaW.PrintWords
set_option linter.unusedVariables false
set_option linter.unusedSimpArgs false
/-! ### rounds -/
theorem ev_shift {α : Type} {g : Nat → Option α} {r : α} (h : Ev (fun k => g (k + 1)) r) : Ev g r := by
  obtain ⟨K, h⟩ := h
  refine ⟨K + 1, fun k hk => ?_⟩
  obtain ⟨m, rfl⟩ : ∃ m, k = m + 1 := ⟨k - 1, by omega⟩
  exact h m (by omega)
theorem ev_ind {σ β : Type} (g : Nat → σ → Option β) (μ : σ → Nat) (Inv : σ → Prop) (r : σ → β)
    (h : ∀ s, Inv s → (∀ s', Inv s' → μ s' < μ s → Ev (fun k => g k s') (r s')) → Ev (fun k => g (k + 1) s) (r s)) : ∀ s, Inv s → Ev (fun k => g k s) (r s) := by
  have key : ∀ n s, μ s ≤ n → Inv s → Ev (fun k => g k s) (r s) := by
    intro n
    induction n with
    | zero => intro s hs hi; exact ev_shift (h s hi (fun s' _ hlt => absurd hlt (by omega)))
    | succ n ih => intro s hs hi; exact ev_shift (h s hi (fun s' hi' hlt => ih s' (by omega) hi'))
  exact fun s hi => key _ s (Nat.le_refl _) hi
theorem ev_now {α : Type} {g : Nat → Option α} {r : α} (h : ∀ k, g k = some r) : Ev g r := ⟨0, fun k _ => h k⟩
theorem ev_at {α : Type} {g : Nat → Option α} {r r' : α} (h : Ev g r) (e : r = r') : Ev g r' := e ▸ h
/-! ### numbers and lists -/
theorem wsucc {i n : Nat} (h : i < n) (hn : n ≤ 9223372036854775807) : wrap64 ((i : Int) + 1) = ((i + 1 : Nat) : Int) := by
  unfold wrap64; omega
theorem wpred {i : Nat} (h : 0 < i) (hi : i ≤ 9223372036854775807) : wrap64 ((i : Int) - 1) = ((i - 1 : Nat) : Int) := by
  unfold wrap64; omega
theorem w_id {n : Int} (h : -9223372036854775808 ≤ n) (h' : n ≤ 9223372036854775807) : wrap64 n = n := by unfold wrap64; omega
theorem rd_nat (l : List Int) (i : Nat) : rd l (i : Int) = l.getD i 0 := by simp [rd]
theorem rd_at (l : List Int) (i : Nat) (h : i < l.length) : rd l (i : Int) = l[i] := by simp [rd, h]
theorem arc_at (l : List S100) (i : Nat) (h : i < l.length) : rd_T100 l (i : Int) = l[i] := by simp [rd_T100, h]
theorem any_at {α : Type} (p : α → Bool) (l : List α) (i : Nat) (h : i < l.length) : (l.drop i).any p = (p l[i] || (l.drop (i + 1)).any p) := by
  rw [List.drop_eq_getElem_cons h, List.any_cons]
/-! ### is a net valid -/
theorem within_eq (a b c : Int) : impl_within.f a b c = some (inB a b c) := by
  unfold impl_within.f inB
  by_cases h : b ≤ a
  · rw [if_pos h]; simp [h]
  · rw [if_neg h]; simp [h]
theorem l1In_eq (a b c : Int) : spec_l1In.f a b c = some (inB a b c) := within_eq a b c
theorem arcBad_eq (n : Int) (x : S100) : arcBad n x = !(inB x.f0 0 (wrap64 (n - 1)) && (inB x.f1 0 (wrap64 (n - 1)) && (!(x.f0 == x.f1) && (inB x.f2 0 99 && (inB x.f3 0 99 && inB x.f4 0 9))))) := by
  unfold arcBad hasB
  cases h1 : inB x.f0 0 (wrap64 (n - 1)) <;> cases h2 : inB x.f1 0 (wrap64 (n - 1)) <;> simp [h1, h2, Bool.not_and]
theorem netOk_eq (n : Int) (l : List S100) : impl_NetOk.f n l = some (netOkB n l) := rfl
theorem l1Ok_loop (n : Int) (l : List S100) (hl : l.length ≤ 9223372036854775807) (i : Nat) (hi : i ≤ l.length) :
    Ev (fun k => spec_l1Ok.l0 k (i : Int) n l) (!((l.drop i).any (arcBad n)) && (inB n 1 8 && decide (l.length ≤ 16))) := by
  refine ev_ind (fun k (i : Nat) => spec_l1Ok.l0 k (i : Int) n l) (fun i => l.length - i) (fun i => i ≤ l.length) (fun i => !((l.drop i).any (arcBad n)) && (inB n 1 8 && decide (l.length ≤ 16))) ?_ i hi
  intro i hi ih
  by_cases h : i < l.length
  · have hlt : (i : Int) < (l.length : Int) := by omega
    have h0 : (0 : Int) ≤ (i : Int) := by omega
    simp only [spec_l1Ok.l0, hlt, h0, if_true, l1In_eq, Option.bind_some, arc_at l i h, wsucc h hl]
    rw [any_at _ _ _ h, arcBad_eq]
    have ih' := ih (i + 1) (by omega) (by omega)
    generalize (l.drop (i + 1)).any (arcBad n) = q at ih' ⊢
    generalize l[i] = x at ih' ⊢
    cases inB x.f0 0 (wrap64 (n - 1)) with
    | false => exact ev_now fun k => by simp
    | true =>
    cases inB x.f1 0 (wrap64 (n - 1)) with
    | false => exact ev_now fun k => by simp
    | true =>
    by_cases he : x.f0 = x.f1
    · exact ev_now fun k => by simp [he]
    · cases inB x.f2 0 99 with
      | false => exact ev_now fun k => by simp [he]
      | true =>
      cases inB x.f3 0 99 with
      | false => exact ev_now fun k => by simp [he]
      | true =>
      cases inB x.f4 0 9 with
      | false => exact ev_now fun k => by simp [he]
      | true =>
        have he' : (x.f0 == x.f1) = false := beq_eq_false_iff_ne.2 he
        simpa [he, he'] using ih'
  · have hlt : ¬ (i : Int) < (l.length : Int) := by omega
    have he : i = l.length := by omega
    simp only [spec_l1Ok.l0, hlt, if_false, l1In_eq, Option.bind_some]
    subst he
    refine ev_now fun k => ?_
    cases inB n 1 8 <;> simp
    omega
theorem l1Ok_ev (n : Int) (l : List S100) (hl : l.length ≤ 9223372036854775807) : Ev (fun k => spec_l1Ok.f k n l) (netOkB n l) := by
  refine ev_at (l1Ok_loop n l hl 0 (Nat.zero_le _)) ?_
  unfold netOkB
  rw [List.drop_zero]
  cases inB n 1 8 <;> cases decide (l.length ≤ 16) <;> cases l.any (arcBad n) <;> rfl
theorem netOk_len {n : Int} {l : List S100} (h : netOkB n l = true) : l.length ≤ 16 := by
  unfold netOkB at h
  simp only [Bool.and_eq_true, decide_eq_true_eq] at h
  exact h.2.1
theorem inB_iff {a b c : Int} : inB a b c = true ↔ b ≤ a ∧ a ≤ c := by unfold inB; rw [Bool.and_eq_true, decide_eq_true_eq, decide_eq_true_eq]
/-! ### a valid net -/
/-- What a valid net is. -/
structure Net1 (n : Int) (l : List S100) : Prop where
  lo : 1 ≤ n
  hi : n ≤ 8
  len : l.length ≤ 16
  ends : ∀ x ∈ l, 0 ≤ x.f0 ∧ x.f0 < n ∧ 0 ≤ x.f1 ∧ x.f1 < n ∧ x.f0 ≠ x.f1 ∧ 0 ≤ x.f2 ∧ x.f2 ≤ 99 ∧ 0 ≤ x.f3 ∧ x.f3 ≤ 99 ∧ 0 ≤ x.f4 ∧ x.f4 ≤ 9
theorem net1_of {n : Int} {l : List S100} (h : netOkB n l = true) : Net1 n l := by
  unfold netOkB at h
  simp only [Bool.and_eq_true, decide_eq_true_eq, inB_iff, Bool.not_eq_true'] at h
  obtain ⟨⟨h1, h2⟩, h3, h4⟩ := h
  refine ⟨h1, h2, h3, fun x hx => ?_⟩
  have h5 : arcBad n x = false := by
    cases h6 : arcBad n x with
    | false => rfl
    | true => rw [List.any_eq_true.2 ⟨x, hx, h6⟩] at h4; cases h4
  rw [arcBad_eq] at h5
  simp only [Bool.not_eq_false', Bool.and_eq_true, inB_iff, Bool.not_eq_true', beq_eq_false_iff_ne] at h5
  rw [w_id (n := n - 1) (by omega) (by omega)] at h5
  obtain ⟨a, b, c, d, e, f⟩ := h5
  exact ⟨a.1, by omega, b.1, by omega, c, d.1, d.2, e.1, e.2, f.1, f.2⟩
theorem netOk_of {n : Int} {l : List S100} (hn : Net1 n l) : netOkB n l = true := by
  unfold netOkB
  have hlo := hn.lo
  have hhi := hn.hi
  have hl := hn.len
  simp only [Bool.and_eq_true, decide_eq_true_eq, inB_iff, Bool.not_eq_true']
  refine ⟨⟨hlo, hhi⟩, hl, ?_⟩
  rw [List.any_eq_false]
  intro x hx
  obtain ⟨h1, h2, h3, h4, h5, h6, h7, h8, h9, h10, h11⟩ := hn.ends x hx
  have : arcBad n x = false := by
    rw [arcBad_eq]
    simp only [Bool.not_eq_false', Bool.and_eq_true, inB_iff, Bool.not_eq_true', beq_eq_false_iff_ne]
    rw [w_id (n := n - 1) (by omega) (by omega)]
    exact ⟨⟨h1, by omega⟩, ⟨h3, by omega⟩, h5, ⟨h6, h7⟩, ⟨h8, h9⟩, h10, h11⟩
  rw [this]; exact Bool.false_ne_true
/-! ### the least costs from all nodes to one -/
theorem ev_ex {σ β : Type} (g : Nat → σ → Option β) (μ : σ → Nat) (Inv : σ → Prop) (P : β → Prop)
    (h : ∀ s, Inv s → (∀ s', Inv s' → μ s' < μ s → ∃ r, P r ∧ Ev (fun k => g k s') r) → ∃ r, P r ∧ Ev (fun k => g (k + 1) s) r) : ∀ s, Inv s → ∃ r, P r ∧ Ev (fun k => g k s) r := by
  have key : ∀ n s, μ s ≤ n → Inv s → ∃ r, P r ∧ Ev (fun k => g k s) r := by
    intro n
    induction n with
    | zero => intro s hs hi; obtain ⟨r, hp, he⟩ := h s hi (fun s' _ hlt => absurd hlt (by omega)); exact ⟨r, hp, ev_shift he⟩
    | succ n ih => intro s hs hi; obtain ⟨r, hp, he⟩ := h s hi (fun s' hi' hlt => ih s' (by omega) hi'); exact ⟨r, hp, ev_shift he⟩
  exact fun s hi => key _ s (Nat.le_refl _) hi
theorem rdi_set (D : List Int) (i j : Int) (v : Int) (hi : 0 ≤ i) (hl : i < (D.length : Int)) (hj : 0 ≤ j) : rd (D.set i.toNat v) j = if i = j then v else rd D j := by
  unfold rd
  rw [List.getD_eq_getElem?_getD, List.getD_eq_getElem?_getD, List.getElem?_set]
  by_cases h : i = j
  · subst h; rw [if_pos rfl, if_pos rfl, if_pos (by omega)]; rfl
  · rw [if_neg h, if_neg (by omega)]
theorem rdm_set (D : List S144) (i j : Int) (v : S144) (hi : 0 ≤ i) (hl : i < (D.length : Int)) (hj : 0 ≤ j) : rd_T144 (D.set i.toNat v) j = if i = j then v else rd_T144 D j := by
  unfold rd_T144
  rw [List.getD_eq_getElem?_getD, List.getD_eq_getElem?_getD, List.getElem?_set]
  by_cases h : i = j
  · subst h; rw [if_pos rfl, if_pos rfl, if_pos (by omega)]; rfl
  · rw [if_neg h, if_neg (by omega)]
def sumI : List Int → Int
  | [] => 0
  | x :: xs => x + sumI xs
theorem sumI_set (L : List Int) : ∀ (i : Nat) (v : Int), i < L.length → sumI (L.set i v) = sumI L - L.getD i 0 + v := by
  induction L with
  | nil => intro i v h; exact absurd h (by simp)
  | cons x xs ih =>
    intro i v h
    cases i with
    | zero => simp [sumI]; omega
    | succ i => simp only [List.set_cons_succ, sumI, ih i v (by simpa using h), List.getD_cons_succ]; omega
theorem sumI_nonneg (L : List Int) (h : ∀ x ∈ L, 0 ≤ x) : 0 ≤ sumI L := by
  induction L with
  | nil => simp [sumI]
  | cons x xs ih => have := h x (by simp); have := ih fun y hy => h y (by simp [hy]); simp only [sumI]; omega
theorem sumI_le8 (L : List Int) (b : Int) (hb : 0 ≤ b) (hl : L.length ≤ 8) (h : ∀ x ∈ L, x ≤ b) : sumI L ≤ 8 * b := by
  have key : ∀ L : List Int, (∀ x ∈ L, x ≤ b) → sumI L ≤ (L.length : Int) * b := by
    intro L
    induction L with
    | nil => intro _; simp [sumI]
    | cons x xs ih =>
      intro h
      have h1 := h x (by simp)
      have h2 := ih fun y hy => h y (by simp [hy])
      simp only [sumI, List.length_cons, Int.natCast_add, Int.add_mul]
      omega
  have h1 := key L h
  have h2 : (L.length : Int) * b ≤ 8 * b := Int.mul_le_mul_of_nonneg_right (by omega) hb
  omega
/-- A list that has all numbers below k has so many. -/
theorem levels_len (k : Nat) : ∀ L : List Int, (∀ j : Nat, j < k → (j : Int) ∈ L) → k ≤ L.length := by
  induction k with
  | zero => intro L _; omega
  | succ k ih =>
    intro L h
    have h1 := h k (by omega)
    have h2 := ih (L.erase (k : Int)) fun j hj => (List.mem_erase_of_ne (by omega)).2 (h j (by omega))
    rw [List.length_erase_of_mem h1] at h2
    have : 0 < L.length := List.length_pos_of_mem h1
    omega
/-- A walk to node t, from a node: what it costs, and how many arcs. -/
inductive Way (l : List S100) (t : Int) : Int → Int → Nat → Prop
  | nil : Way l t t 0 0
  | cons {x : S100} {c : Int} {m : Nat} : x ∈ l → Way l t x.f1 c m → Way l t x.f0 (x.f2 + c) (m + 1)
theorem Way.node {n : Int} {l : List S100} (hn : Net1 n l) {t : Int} (ht : 0 ≤ t ∧ t < n) {v c : Int} {m : Nat} (h : Way l t v c m) : 0 ≤ v ∧ v < n := by
  cases h with
  | nil => exact ht
  | cons hx _ => have := hn.ends _ hx; exact ⟨this.1, this.2.1⟩
def cM (M : List S144) (v : Int) : Int := (rd_T144 M v).f0
def aM (M : List S144) (v : Int) : Int := (rd_T144 M v).f1
def sumC (M : List S144) : Int := sumI (M.map fun m => m.f0)
def sumA (M : List S144) : Int := sumI (M.map fun m => m.f1)
theorem cM_set (M : List S144) (i j a b : Int) (hi : 0 ≤ i) (hl : i < (M.length : Int)) (hj : 0 ≤ j) : cM (M.set i.toNat ⟨a, b⟩) j = if i = j then a else cM M j := by
  unfold cM; rw [rdm_set M i j _ hi hl hj]; split <;> rfl
theorem aM_set (M : List S144) (i j a b : Int) (hi : 0 ≤ i) (hl : i < (M.length : Int)) (hj : 0 ≤ j) : aM (M.set i.toNat ⟨a, b⟩) j = if i = j then b else aM M j := by
  unfold aM; rw [rdm_set M i j _ hi hl hj]; split <;> rfl
theorem cM_get (M : List S144) (i : Nat) (h : i < M.length) : cM M (i : Int) = M[i].f0 := by simp [cM, rd_T144, h]
theorem aM_get (M : List S144) (i : Nat) (h : i < M.length) : aM M (i : Int) = M[i].f1 := by simp [aM, rd_T144, h]
theorem sumC_set (M : List S144) (i a b : Int) (hi : 0 ≤ i) (hl : i < (M.length : Int)) : sumC (M.set i.toNat ⟨a, b⟩) = sumC M - cM M i + a := by
  obtain ⟨j, rfl⟩ : ∃ j : Nat, i = (j : Int) := ⟨i.toNat, by omega⟩
  unfold sumC
  rw [List.map_set, Int.toNat_natCast, sumI_set _ j _ (by rw [List.length_map]; omega), cM_get M j (by omega)]
  rw [List.getD_eq_getElem?_getD, List.getElem?_map, List.getElem?_eq_getElem (show j < M.length by omega)]
  rfl
theorem sumA_set (M : List S144) (i a b : Int) (hi : 0 ≤ i) (hl : i < (M.length : Int)) : sumA (M.set i.toNat ⟨a, b⟩) = sumA M - aM M i + b := by
  obtain ⟨j, rfl⟩ : ∃ j : Nat, i = (j : Int) := ⟨i.toNat, by omega⟩
  unfold sumA
  rw [List.map_set, Int.toNat_natCast, sumI_set _ j _ (by rw [List.length_map]; omega), aM_get M j (by omega)]
  rw [List.getD_eq_getElem?_getD, List.getElem?_map, List.getElem?_eq_getElem (show j < M.length by omega)]
  rfl
/-- What holds of the measures while they are made. -/
structure MInv (n : Int) (l : List S100) (t : Int) (M : List S144) : Prop where
  len : (M.length : Int) = n
  rng : ∀ v, 0 ≤ v → v < n → 0 ≤ cM M v ∧ cM M v ≤ 99999 ∧ 0 ≤ aM M v ∧ (cM M v = 99999 → aM M v = 0)
  tz : cM M t = 0 ∧ aM M t = 0
  way : ∀ v, 0 ≤ v → v < n → cM M v ≠ 99999 → Way l t v (cM M v) (aM M v).toNat
  par : ∀ v, 0 ≤ v → v < n → v ≠ t → cM M v ≠ 99999 → ∃ x ∈ l, x.f0 = v ∧ cM M x.f1 ≠ 99999 ∧ (cM M x.f1 + x.f2 < cM M v ∨ cM M x.f1 + x.f2 = cM M v ∧ aM M x.f1 + 1 ≤ aM M v)
  bnd : ∀ v, 0 ≤ v → v < n → aM M v + sumC M ≤ 799992
def pot (M : List S144) : Nat := (sumC M * 6399937 + sumA M).toNat
/-- An arc says that it can be nearer. -/
def Less (M : List S144) (x : S100) : Prop := cM M x.f1 + x.f2 < cM M x.f0 ∨ cM M x.f1 + x.f2 = cM M x.f0 ∧ aM M x.f1 + 1 < aM M x.f0
def Closed (l : List S100) (M : List S144) : Prop := ∀ x ∈ l, cM M x.f1 ≠ 99999 → ¬ Less M x
theorem MInv.sums {n : Int} {l : List S100} {t : Int} {M : List S144} (hn : Net1 n l) (h : MInv n l t M) : 0 ≤ sumC M ∧ 0 ≤ sumA M ∧ sumA M ≤ 6399936 := by
  have hl := h.len
  have hi := hn.hi
  have hc : ∀ x ∈ (M.map fun m => m.f0), 0 ≤ x := by
    intro x hx
    obtain ⟨m, hm, rfl⟩ := List.mem_map.1 hx
    obtain ⟨i, hi, rfl⟩ := List.getElem_of_mem hm
    have := h.rng i (by omega) (by omega)
    rw [cM_get M i hi] at this
    exact this.1
  have hC := sumI_nonneg _ hc
  have ha : ∀ x ∈ (M.map fun m => m.f1), 0 ≤ x ∧ x ≤ 799992 := by
    intro x hx
    obtain ⟨m, hm, rfl⟩ := List.mem_map.1 hx
    obtain ⟨i, hi, rfl⟩ := List.getElem_of_mem hm
    have h1 := h.rng i (by omega) (by omega)
    have h2 := h.bnd i (by omega) (by omega)
    rw [aM_get M i hi] at h1 h2
    unfold sumC at h2
    omega
  have h1 := sumI_nonneg _ fun x hx => (ha x hx).1
  have h2 := sumI_le8 _ 799992 (by omega) (by rw [List.length_map]; omega) fun x hx => (ha x hx).2
  exact ⟨hC, h1, by unfold sumA; omega⟩
set_option maxHeartbeats 4000000 in
theorem MInv.step {n : Int} {l : List S100} {t : Int} {M : List S144} (hn : Net1 n l) (h : MInv n l t M) {x : S100} (hx : x ∈ l) (hw : cM M x.f1 ≠ 99999) (hL : Less M x) :
    MInv n l t (M.set x.f0.toNat ⟨cM M x.f1 + x.f2, aM M x.f1 + 1⟩) ∧ pot (M.set x.f0.toNat ⟨cM M x.f1 + x.f2, aM M x.f1 + 1⟩) < pot M := by
  obtain ⟨e1, e2, e3, e4, e5, e6, e7, _⟩ := hn.ends x hx
  have hlen := h.len
  have hlt : x.f0 < (M.length : Int) := by omega
  have r0 := h.rng x.f0 e1 e2
  have r1 := h.rng x.f1 e3 e4
  have b0 := h.bnd x.f0 e1 e2
  have b1 := h.bnd x.f1 e3 e4
  have hc : ∀ j, 0 ≤ j → cM (M.set x.f0.toNat ⟨cM M x.f1 + x.f2, aM M x.f1 + 1⟩) j = if x.f0 = j then cM M x.f1 + x.f2 else cM M j := fun j hj => cM_set M x.f0 j _ _ e1 hlt hj
  have ha : ∀ j, 0 ≤ j → aM (M.set x.f0.toNat ⟨cM M x.f1 + x.f2, aM M x.f1 + 1⟩) j = if x.f0 = j then aM M x.f1 + 1 else aM M j := fun j hj => aM_set M x.f0 j _ _ e1 hlt hj
  have sC := sumC_set M x.f0 (cM M x.f1 + x.f2) (aM M x.f1 + 1) e1 hlt
  have sA := sumA_set M x.f0 (cM M x.f1 + x.f2) (aM M x.f1 + 1) e1 hlt
  obtain ⟨s1, s2, s3⟩ := h.sums hn
  unfold Less at hL
  have hz := h.tz
  have hut : x.f0 ≠ t := by
    intro e
    rw [e] at hL
    omega
  have hinv : MInv n l t (M.set x.f0.toNat ⟨cM M x.f1 + x.f2, aM M x.f1 + 1⟩) := by
    refine ⟨by rw [List.length_set]; exact hlen, ?_, ?_, ?_, ?_, ?_⟩
    · intro v v0 v1
      rw [hc v v0, ha v v0]
      have := h.rng v v0 v1
      split
      · omega
      · exact this
    · by_cases ht : 0 ≤ t
      · rw [hc t ht, ha t ht, if_neg hut, if_neg hut]; exact hz
      · have h1 : ∀ L : List S144, cM L t = cM L 0 ∧ aM L t = aM L 0 := by
          intro L
          have : t.toNat = (0 : Int).toNat := by omega
          unfold cM aM rd_T144
          rw [this]
          exact ⟨rfl, rfl⟩
        rw [(h1 _).1, (h1 _).2] at hz ⊢
        rw [hc 0 (by omega), ha 0 (by omega)]
        by_cases h2 : x.f0 = 0
        · rw [h2] at hL; omega
        · rw [if_neg h2, if_neg h2]; exact hz
    · intro v v0 v1
      rw [hc v v0, ha v v0]
      by_cases e : x.f0 = v
      · subst e
        rw [if_pos rfl, if_pos rfl]
        intro _
        have hw' := h.way x.f1 e3 e4 hw
        have hm : (aM M x.f1 + 1).toNat = (aM M x.f1).toNat + 1 := by omega
        rw [hm, Int.add_comm]
        exact Way.cons hx hw'
      · rw [if_neg e, if_neg e]; exact h.way v v0 v1
    · intro v v0 v1 vt
      rw [hc v v0, ha v v0]
      by_cases e : x.f0 = v
      · subst e
        rw [if_pos rfl, if_pos rfl]
        intro _
        refine ⟨x, hx, rfl, ?_, ?_⟩
        · rw [hc x.f1 e3, if_neg e5]; exact hw
        · rw [hc x.f1 e3, ha x.f1 e3, if_neg e5, if_neg e5]; omega
      · rw [if_neg e, if_neg e]
        intro hv
        obtain ⟨y, hy, y0, y1, y2⟩ := h.par v v0 v1 vt hv
        have ey := hn.ends y hy
        refine ⟨y, hy, y0, ?_, ?_⟩
        · rw [hc y.f1 ey.2.2.1]
          split
          · omega
          · exact y1
        · rw [hc y.f1 ey.2.2.1, ha y.f1 ey.2.2.1]
          by_cases e2 : x.f0 = y.f1
          · rw [if_pos e2, if_pos e2]; rw [← e2] at y2; omega
          · rw [if_neg e2, if_neg e2]; exact y2
    · intro v v0 v1
      rw [ha v v0, sC]
      have := h.bnd v v0 v1
      split <;> omega
  refine ⟨hinv, ?_⟩
  obtain ⟨t1, t2, t3⟩ := hinv.sums hn
  unfold pot
  rw [sC] at t1 ⊢
  rw [sA] at t2 t3 ⊢
  omega
/-- What the program's measures are at the end. -/
def Fin1 (n : Int) (l : List S100) (t : Int) (M : List S144) : Prop := MInv n l t M ∧ Closed l M
theorem less_eq (a b c d : Int) : impl_measure_less.f a b c d = some (decide (a < c ∨ a = c ∧ b < d)) := by
  unfold impl_measure_less.f
  by_cases h : a < c
  · rw [if_pos h]; simp [h]
  · by_cases h2 : a = c
    · subst h2; simp
    · rw [if_neg h, if_neg h2]; simp [h, h2]
set_option maxHeartbeats 4000000 in
theorem toward_loop {n : Int} {l : List S100} (hn : Net1 n l) {t : Int} : ∀ s : List S144 × Bool, (MInv n l t s.1 ∧ (s.2 = false → Closed l s.1)) → ∃ R, Fin1 n l t R ∧ Ev (fun k => impl_Net_toward.l0 k s.1 s.2 n l) R := by
  refine ev_ex (fun k (s : List S144 × Bool) => impl_Net_toward.l0 k s.1 s.2 n l) (fun s => pot s.1 * 2 + (if s.2 = true then 1 else 0)) (fun s => MInv n l t s.1 ∧ (s.2 = false → Closed l s.1)) (Fin1 n l t) ?_
  rintro ⟨M, b⟩ ⟨hM, hC⟩ ih
  simp only at hM hC ih ⊢
  have hll := hn.len
  cases b with
  | false => exact ⟨M, ⟨hM, hC rfl⟩, ev_now fun k => by simp [impl_Net_toward.l0]⟩
  | true =>
    simp only [impl_Net_toward.l0, if_true]
    have inner := ev_ex (fun k (s : Nat × List S144 × Bool) => impl_Net_toward.l1 k s.2.1 s.2.2 l (l.length : Int) (s.1 : Int) n l) (fun s => l.length - s.1)
      (fun s => s.1 ≤ l.length ∧ MInv n l t s.2.1 ∧ ((s.2.2 = false ∧ s.2.1 = M ∧ ∀ j, j < s.1 → ∀ hj : j < l.length, cM M l[j].f1 ≠ 99999 → ¬ Less M l[j]) ∨ (s.2.2 = true ∧ pot s.2.1 < pot M))) (Fin1 n l t) ?_ (0, M, false) ⟨Nat.zero_le _, hM, .inl ⟨rfl, rfl, fun j hj => absurd hj (Nat.not_lt_zero _)⟩⟩
    · exact inner
    rintro ⟨i, M1, b1⟩ ⟨hi, hM1, hb⟩ ih2
    simp only at hi hM1 hb ih2 ⊢
    by_cases h : i < l.length
    · have hlt : (i : Int) < (l.length : Int) := by omega
      have h0 : (0 : Int) ≤ (i : Int) := by omega
      have hxl : l[i] ∈ l := List.getElem_mem h
      obtain ⟨e1, e2, e3, e4, e5, e6, e7, _⟩ := hn.ends l[i] hxl
      have hlen := hM1.len
      have g1 : l[i].f1 < (M1.length : Int) := by omega
      have g0 : l[i].f0 < (M1.length : Int) := by omega
      simp only [impl_Net_toward.l1, hlt, h0, if_true, arc_at l i h, e1, e3, g0, g1, wsucc h (show l.length ≤ 9223372036854775807 by omega), less_eq, Option.bind_some]
      have r1 := hM1.rng l[i].f1 e3 e4
      have b1' := hM1.bnd l[i].f1 e3 e4
      have hs := hM1.sums hn
      by_cases hf : cM M1 l[i].f1 = 99999
      · have hf' : (rd_T144 M1 l[i].f1).f0 = 99999 := hf
        simp only [hf', if_true]
        refine ih2 (i + 1, M1, b1) ⟨by simp; omega, hM1, ?_⟩ (by simp; omega)
        rcases hb with ⟨q1, q2, q3⟩ | q
        · refine .inl ⟨q1, q2, fun j hj hjl hc => ?_⟩
          by_cases hji : j = i
          · subst hji; rw [← q2] at hc; exact absurd hf hc
          · exact q3 j (by simp at hj; omega) hjl hc
        · exact .inr q
      · have hf' : ¬ (rd_T144 M1 l[i].f1).f0 = 99999 := hf
        have w1 : wrap64 ((rd_T144 M1 l[i].f1).f0 + l[i].f2) = cM M1 l[i].f1 + l[i].f2 := by unfold cM at *; exact w_id (by omega) (by omega)
        have w2 : wrap64 ((rd_T144 M1 l[i].f1).f1 + 1) = aM M1 l[i].f1 + 1 := by unfold aM at *; exact w_id (by omega) (by omega)
        simp only [hf', if_false, w1, w2]
        by_cases hL : Less M1 l[i]
        · have hL' : (cM M1 l[i].f1 + l[i].f2 < (rd_T144 M1 l[i].f0).f0 ∨ cM M1 l[i].f1 + l[i].f2 = (rd_T144 M1 l[i].f0).f0 ∧ aM M1 l[i].f1 + 1 < (rd_T144 M1 l[i].f0).f1) := hL
          simp only [hL', decide_true, if_true]
          obtain ⟨hs1, hs2⟩ := hM1.step hn hxl hf hL
          refine ih2 (i + 1, _, true) ⟨by simp; omega, hs1, .inr ⟨rfl, ?_⟩⟩ (by simp; omega)
          rcases hb with ⟨_, q2, _⟩ | ⟨_, q⟩
          · rw [← q2]; exact hs2
          · exact Nat.lt_trans hs2 q
        · have hL' : ¬ (cM M1 l[i].f1 + l[i].f2 < (rd_T144 M1 l[i].f0).f0 ∨ cM M1 l[i].f1 + l[i].f2 = (rd_T144 M1 l[i].f0).f0 ∧ aM M1 l[i].f1 + 1 < (rd_T144 M1 l[i].f0).f1) := hL
          simp only [hL', decide_false, Bool.false_eq_true, if_false]
          refine ih2 (i + 1, M1, b1) ⟨by simp; omega, hM1, ?_⟩ (by simp; omega)
          rcases hb with ⟨q1, q2, q3⟩ | q
          · refine .inl ⟨q1, q2, fun j hj hjl hc => ?_⟩
            by_cases hji : j = i
            · subst hji; rw [← q2]; exact hL
            · exact q3 j (by simp at hj; omega) hjl hc
          · exact .inr q
    · have hlt : ¬ (i : Int) < (l.length : Int) := by omega
      simp only [impl_Net_toward.l1, hlt, if_false]
      rcases hb with ⟨q1, q2, q3⟩ | ⟨q1, q2⟩
      · subst q1
        refine ih (M1, false) ⟨hM1, fun _ x hx hc => ?_⟩ (by rw [q2]; simp)
        obtain ⟨j, hj, rfl⟩ := List.getElem_of_mem hx
        rw [q2] at hc ⊢
        exact q3 j (by omega) hj hc
      · subst q1
        exact ih (M1, true) ⟨hM1, fun h => by cases h⟩ (by simp; omega)
theorem minv_start {n : Int} {l : List S100} (hn : Net1 n l) {t : Int} (h0 : 0 ≤ t) (h1 : t < n) : MInv n l t ((List.replicate n.toNat (⟨99999, 0⟩ : S144)).set t.toNat ⟨0, 0⟩) := by
  have hlo := hn.lo
  have hhi := hn.hi
  have hll : ((List.replicate n.toNat (⟨99999, 0⟩ : S144)).length : Int) = n := by rw [List.length_replicate]; omega
  have hc : ∀ v, 0 ≤ v → v < n → cM ((List.replicate n.toNat (⟨99999, 0⟩ : S144)).set t.toNat ⟨0, 0⟩) v = if t = v then 0 else 99999 := by
    intro v v0 v1
    rw [cM_set _ t v _ _ h0 (by omega) v0]
    split
    · rfl
    · obtain ⟨j, rfl⟩ : ∃ j : Nat, v = (j : Int) := ⟨v.toNat, by omega⟩
      rw [cM_get _ j (by rw [List.length_replicate]; omega), List.getElem_replicate]
  have ha : ∀ v, 0 ≤ v → v < n → aM ((List.replicate n.toNat (⟨99999, 0⟩ : S144)).set t.toNat ⟨0, 0⟩) v = 0 := by
    intro v v0 v1
    rw [aM_set _ t v _ _ h0 (by omega) v0]
    split
    · rfl
    · obtain ⟨j, rfl⟩ : ∃ j : Nat, v = (j : Int) := ⟨v.toNat, by omega⟩
      rw [aM_get _ j (by rw [List.length_replicate]; omega), List.getElem_replicate]
  refine ⟨by rw [List.length_set]; exact hll, ?_, ?_, ?_, ?_, ?_⟩
  · intro v v0 v1
    rw [hc v v0 v1, ha v v0 v1]
    split <;> omega
  · rw [hc t h0 h1, ha t h0 h1, if_pos rfl]; exact ⟨rfl, rfl⟩
  · intro v v0 v1
    rw [hc v v0 v1, ha v v0 v1]
    split
    · rename_i e; subst e; intro _; exact Way.nil
    · intro h; exact absurd rfl h
  · intro v v0 v1 vt
    rw [hc v v0 v1, if_neg (Ne.symm vt)]
    intro h; exact absurd rfl h
  · intro v v0 v1
    rw [ha v v0 v1]
    have := sumI_le8 (((List.replicate n.toNat (⟨99999, 0⟩ : S144)).set t.toNat ⟨0, 0⟩).map fun m => m.f0) 99999 (by omega) (by rw [List.length_map, List.length_set, List.length_replicate]; omega) (by
      intro x hx
      obtain ⟨m, hm, rfl⟩ := List.mem_map.1 hx
      rcases List.mem_or_eq_of_mem_set hm with h | h
      · rw [List.eq_of_mem_replicate h]; exact Int.le_refl _
      · rw [h]; simp)
    unfold sumC
    omega
/-- No walk is nearer than the measures say. -/
theorem Fin1.low {n : Int} {l : List S100} (hn : Net1 n l) {t : Int} {M : List S144} (hM : Fin1 n l t M) {v c : Int} {m : Nat} (h : Way l t v c m) : cM M v < c ∨ (cM M v = c ∧ aM M v ≤ m) ∨ 99999 ≤ c := by
  induction h with
  | nil => rw [hM.1.tz.1, hM.1.tz.2]; exact .inr (.inl ⟨rfl, by omega⟩)
  | @cons x c m hx h ih =>
    obtain ⟨e1, e2, e3, e4, e5, e6, e7, _⟩ := hn.ends x hx
    have r0 := hM.1.rng x.f0 e1 e2
    by_cases hf : cM M x.f1 = 99999
    · rcases ih with ih | ih | ih <;> omega
    · have := hM.2 x hx hf
      unfold Less at this
      rcases ih with ih | ih | ih <;> omega
theorem Fin1.levels {n : Int} {l : List S100} (hn : Net1 n l) {t : Int} {M : List S144} (hM : Fin1 n l t M) (m : Nat) : ∀ v, 0 ≤ v → v < n → cM M v ≠ 99999 → aM M v = (m : Int) → ∀ j : Nat, j ≤ m → ∃ u, 0 ≤ u ∧ u < n ∧ aM M u = (j : Int) := by
  induction m with
  | zero => intro v v0 v1 _ hm j hj; exact ⟨v, v0, v1, by rw [hm]; omega⟩
  | succ m ih =>
    intro v v0 v1 hc hm j hj
    by_cases hj2 : j = m + 1
    · exact ⟨v, v0, v1, by rw [hm, hj2]⟩
    · have hvt : v ≠ t := by intro e; rw [e, hM.1.tz.2] at hm; omega
      obtain ⟨x, hx, x0, x1, x2⟩ := hM.1.par v v0 v1 hvt hc
      obtain ⟨e1, e2, e3, e4, e5, e6, e7, _⟩ := hn.ends x hx
      have := hM.2 x hx x1
      unfold Less at this
      rw [x0] at this
      exact ih x.f1 e3 e4 x1 (by omega) j (by omega)
theorem Fin1.few {n : Int} {l : List S100} (hn : Net1 n l) {t : Int} {M : List S144} (hM : Fin1 n l t M) {v : Int} (v0 : 0 ≤ v) (v1 : v < n) (hc : cM M v ≠ 99999) : aM M v + 1 ≤ n := by
  have hlen := hM.1.len
  have r := hM.1.rng v v0 v1
  have := levels_len ((aM M v).toNat + 1) (M.map fun m => m.f1) (by
    intro j hj
    obtain ⟨u, u0, u1, hu⟩ := hM.levels hn (aM M v).toNat v v0 v1 hc (by omega) j (by omega)
    obtain ⟨i, rfl⟩ : ∃ i : Nat, u = (i : Int) := ⟨u.toNat, by omega⟩
    rw [aM_get M i (by omega)] at hu
    rw [← hu]
    exact List.mem_map.2 ⟨M[i], List.getElem_mem _, rfl⟩)
  rw [List.length_map] at this
  omega
/-! ### the reference's least costs, and that both are the same -/
def revA (x : S100) : S100 := ⟨x.f1, x.f0, x.f2, x.f3, x.f4⟩
def backL (l : List S100) : List S100 := l.map revA
theorem backL_backL (l : List S100) : backL (backL l) = l := by
  unfold backL
  rw [List.map_map]
  have : revA ∘ revA = id := by funext x; rfl
  rw [this, List.map_id]
theorem backL_length (l : List S100) : (backL l).length = l.length := by unfold backL; rw [List.length_map]
theorem Net1.back {n : Int} {l : List S100} (hn : Net1 n l) : Net1 n (backL l) := by
  refine ⟨hn.lo, hn.hi, by rw [backL_length]; exact hn.len, fun x hx => ?_⟩
  obtain ⟨y, hy, rfl⟩ := List.mem_map.1 hx
  obtain ⟨a, b, c, d, e, f⟩ := hn.ends y hy
  exact ⟨c, d, a, b, fun z => e z.symm, f⟩
/-- What holds of the reference's costs while they are made. -/
structure SInv (n : Int) (l : List S100) (s : Int) (D : List Int) : Prop where
  len : (D.length : Int) = n
  rng : ∀ v, 0 ≤ v → v < n → 0 ≤ rd D v ∧ rd D v ≤ 99999
  sz : rd D s = 0
  way : ∀ v, 0 ≤ v → v < n → rd D v < 99999 → ∃ m, Way (backL l) s v (rd D v) m
def RInv (l : List S100) (s : Int) (D : List Int) (r : Nat) : Prop := ∀ v c m, Way (backL l) s v c m → m ≤ r → rd D v ≤ c
theorem SInv.step {n : Int} {l : List S100} {s : Int} {D : List Int} (hn : Net1 n l) (hs : 0 ≤ s ∧ s < n) (h : SInv n l s D) {y : S100} (hy : y ∈ l) (hf : rd D y.f0 < 99999) (hL : rd D y.f0 + y.f2 < rd D y.f1) :
    SInv n l s (D.set y.f1.toNat (rd D y.f0 + y.f2)) ∧ ∀ v, 0 ≤ v → v < n → rd (D.set y.f1.toNat (rd D y.f0 + y.f2)) v ≤ rd D v := by
  obtain ⟨e1, e2, e3, e4, e5, e6, e7, _⟩ := hn.ends y hy
  have hlen := h.len
  have hlt : y.f1 < (D.length : Int) := by omega
  have hc : ∀ j, 0 ≤ j → rd (D.set y.f1.toNat (rd D y.f0 + y.f2)) j = if y.f1 = j then rd D y.f0 + y.f2 else rd D j := fun j hj => rdi_set D y.f1 j _ e3 hlt hj
  have r0 := h.rng y.f0 e1 e2
  have r1 := h.rng y.f1 e3 e4
  have hys : y.f1 ≠ s := by intro e; rw [e, h.sz] at hL; omega
  refine ⟨⟨by rw [List.length_set]; exact hlen, ?_, ?_, ?_⟩, ?_⟩
  · intro v v0 v1
    rw [hc v v0]
    have := h.rng v v0 v1
    split <;> omega
  · rw [hc s hs.1, if_neg hys]; exact h.sz
  · intro v v0 v1
    rw [hc v v0]
    by_cases e : y.f1 = v
    · rw [if_pos e]
      intro _
      obtain ⟨m, hm⟩ := h.way y.f0 e1 e2 hf
      refine ⟨m + 1, ?_⟩
      have hx : revA y ∈ backL l := List.mem_map.2 ⟨y, hy, rfl⟩
      have := Way.cons (t := s) hx (show Way (backL l) s (revA y).f1 (rd D y.f0) m from hm)
      rw [Int.add_comm, ← e]
      exact this
    · rw [if_neg e]; exact h.way v v0 v1
  · intro v v0 v1
    rw [hc v v0]
    split
    · rename_i e; rw [← e]; omega
    · exact Int.le_refl _
theorem l3All_round {n : Int} {l : List S100} (hn : Net1 n l) {s : Int} (hs : 0 ≤ s ∧ s < n) (r : Nat) (D0 : List Int) (h0 : SInv n l s D0) (hR : RInv l s D0 r) (q : Int) (P : List Int → Prop)
    (next : ∀ D, SInv n l s D → RInv l s D (r + 1) → ∃ R, P R ∧ Ev (fun k => spec_l3All.l1 k D (wrap64 (q + 1)) n l) R) :
    ∃ R, P R ∧ Ev (fun k => spec_l3All.l2 k D0 q 0 n l) R := by
  have hll := hn.len
  refine ev_ex (fun k (x : Nat × List Int) => spec_l3All.l2 k x.2 q (x.1 : Int) n l) (fun x => l.length - x.1) (fun x => x.1 ≤ l.length ∧ SInv n l s x.2 ∧ (∀ v, 0 ≤ v → v < n → rd x.2 v ≤ rd D0 v) ∧ ∀ j, j < x.1 → ∀ hj : j < l.length, rd x.2 l[j].f1 ≤ rd D0 l[j].f0 + l[j].f2 ∨ 99999 ≤ rd D0 l[j].f0) P ?_ (0, D0) ⟨Nat.zero_le _, h0, fun _ _ _ => Int.le_refl _, fun j hj => absurd hj (Nat.not_lt_zero _)⟩
  rintro ⟨i, D⟩ ⟨hi, hD, hle, hj⟩ ih
  simp only at hi hD hle hj ih ⊢
  by_cases h : i < l.length
  · have hlt : (i : Int) < (l.length : Int) := by omega
    have h0' : (0 : Int) ≤ (i : Int) := by omega
    have hxl : l[i] ∈ l := List.getElem_mem h
    obtain ⟨e1, e2, e3, e4, e5, e6, e7, _⟩ := hn.ends l[i] hxl
    have hlen := hD.len
    have g0 : l[i].f0 < (D.length : Int) := by omega
    have g1 : l[i].f1 < (D.length : Int) := by omega
    have r0 := hD.rng l[i].f0 e1 e2
    have r1 := hD.rng l[i].f1 e3 e4
    have l0 := hle l[i].f0 e1 e2
    have l1 := hle l[i].f1 e3 e4
    have w1 : wrap64 (rd D l[i].f0 + l[i].f2) = rd D l[i].f0 + l[i].f2 := w_id (by omega) (by omega)
    simp only [spec_l3All.l2, hlt, h0', if_true, arc_at l i h, e1, e3, g0, g1, wsucc h (show l.length ≤ 9223372036854775807 by omega), w1]
    by_cases hf : rd D l[i].f0 < 99999
    · by_cases hL : rd D l[i].f0 + l[i].f2 < rd D l[i].f1
      · simp only [hf, hL, if_true]
        obtain ⟨s1, s2⟩ := hD.step hn hs hxl hf hL
        refine ih (i + 1, D.set l[i].f1.toNat (rd D l[i].f0 + l[i].f2)) ⟨by simp; omega, s1, fun v v0 v1 => Int.le_trans (s2 v v0 v1) (hle v v0 v1), ?_⟩ (by simp; omega)
        intro j hji hjl
        simp only at hji ⊢
        obtain ⟨_, _, j3, j4, _⟩ := hn.ends l[j] (List.getElem_mem hjl)
        by_cases hjj : j = i
        · subst hjj
          left
          rw [rdi_set D _ _ _ e3 g1 e3, if_pos rfl]
          omega
        · rcases hj j (by omega) hjl with z | z
          · exact .inl (Int.le_trans (s2 _ j3 j4) z)
          · exact .inr z
      · simp only [hf, hL, if_true, if_false]
        refine ih (i + 1, D) ⟨by simp; omega, hD, hle, ?_⟩ (by simp; omega)
        intro j hji hjl
        simp only at hji ⊢
        by_cases hjj : j = i
        · subst hjj; omega
        · exact hj j (by omega) hjl
    · simp only [hf, if_false]
      refine ih (i + 1, D) ⟨by simp; omega, hD, hle, ?_⟩ (by simp; omega)
      intro j hji hjl
      simp only at hji ⊢
      by_cases hjj : j = i
      · subst hjj; right; omega
      · exact hj j (by omega) hjl
  · have hlt : ¬ (i : Int) < (l.length : Int) := by omega
    simp only [spec_l3All.l2, hlt, if_false]
    refine next D hD ?_
    intro v c m hw hm
    cases hw with
    | nil => rw [hD.sz]; exact Int.le_refl _
    | @cons x c m hx hw =>
      obtain ⟨y, hy, rfl⟩ := List.mem_map.1 hx
      obtain ⟨j, hjl, rfl⟩ := List.getElem_of_mem hy
      have h1 := hR _ _ _ hw (by omega)
      obtain ⟨j1, j2, j3, j4, j5, j6, j7, _⟩ := hn.ends l[j] hy
      have r1 := hD.rng l[j].f1 j3 j4
      have h2 := hj j (by omega) hjl
      simp only [revA] at h1 ⊢
      omega
theorem l3All_fill {n : Int} {l : List S100} (hn : Net1 n l) {s : Int} (hs : 0 ≤ s ∧ s < n) (P : List Int → Prop)
    (next : ∀ D, SInv n l s D → RInv l s D 0 → ∃ R, P R ∧ Ev (fun k => spec_l3All.l1 k D 0 n l) R) : ∃ R, P R ∧ Ev (fun k => spec_l3All.f k n l s) R := by
  have hlo := hn.lo
  have hhi := hn.hi
  unfold spec_l3All.f
  have b1 : (0 : Int) ≤ n := by omega
  have b2 : n.toNat ≤ 35184372088832 := by omega
  simp only [b1, b2, if_true]
  refine ev_ex (fun k (x : Nat × List Int) => spec_l3All.l0 k s x.2 (x.1 : Int) n l) (fun x => n.toNat - x.1) (fun x => x.1 ≤ n.toNat ∧ (x.2.length : Int) = n ∧ ∀ j : Nat, j < x.1 → rd x.2 (j : Int) = 99999) P ?_ (0, List.replicate n.toNat 0) ⟨Nat.zero_le _, by rw [List.length_replicate]; omega, fun j hj => absurd hj (Nat.not_lt_zero _)⟩
  rintro ⟨i, D⟩ ⟨hi, hlen, hj⟩ ih
  simp only at hi hlen hj ih ⊢
  by_cases h : i < n.toNat
  · have hlt : (i : Int) < n := by omega
    have h0 : (0 : Int) ≤ (i : Int) := by omega
    have g : (i : Int) < (D.length : Int) := by omega
    simp only [spec_l3All.l0, hlt, h0, g, if_true, wsucc h (show n.toNat ≤ 9223372036854775807 by omega)]
    refine ih (i + 1, D.set (i : Int).toNat 99999) ⟨by simp; omega, by rw [List.length_set]; exact hlen, ?_⟩ (by simp; omega)
    intro j hji
    simp only at hji ⊢
    rw [rdi_set D _ _ _ h0 g (by omega)]
    by_cases e : (i : Int) = (j : Int)
    · rw [if_pos e]
    · rw [if_neg e]; exact hj j (by omega)
  · have hlt : ¬ (i : Int) < n := by omega
    have g : s < (D.length : Int) := by omega
    simp only [spec_l3All.l0, hlt, hs.1, g, if_false, if_true]
    have hc : ∀ j, 0 ≤ j → j < n → rd (D.set s.toNat 0) j = if s = j then 0 else 99999 := by
      intro j j0 j1
      rw [rdi_set D _ _ _ hs.1 g j0]
      split
      · rfl
      · obtain ⟨k, rfl⟩ : ∃ k : Nat, j = (k : Int) := ⟨j.toNat, by omega⟩
        exact hj k (by omega)
    refine next _ ⟨by rw [List.length_set]; exact hlen, ?_, ?_, ?_⟩ ?_
    · intro v v0 v1
      rw [hc v v0 v1]
      split <;> omega
    · rw [hc s hs.1 hs.2, if_pos rfl]
    · intro v v0 v1
      rw [hc v v0 v1]
      split
      · rename_i e; subst e; intro _; exact ⟨0, Way.nil⟩
      · intro h; omega
    · intro v c m hw hm
      cases hw with
      | nil => rw [hc s hs.1 hs.2, if_pos rfl]; exact Int.le_refl _
      | cons _ _ => omega
theorem l3All_ex {n : Int} {l : List S100} (hn : Net1 n l) {s : Int} (hs : 0 ≤ s ∧ s < n) : ∃ D, (SInv n l s D ∧ RInv l s D n.toNat) ∧ Ev (fun k => spec_l3All.f k n l s) D := by
  have hlo := hn.lo
  have hhi := hn.hi
  refine l3All_fill hn hs _ fun D hD hR => ?_
  refine ev_ex (fun k (x : Nat × List Int) => spec_l3All.l1 k x.2 (x.1 : Int) n l) (fun x => n.toNat - x.1) (fun x => x.1 ≤ n.toNat ∧ SInv n l s x.2 ∧ RInv l s x.2 x.1) _ ?_ (0, D) ⟨Nat.zero_le _, hD, hR⟩
  rintro ⟨r, D⟩ ⟨hr, hD, hR⟩ ih
  simp only at hr hD hR ih ⊢
  by_cases h : r < n.toNat
  · have hlt : (r : Int) < n := by omega
    simp only [spec_l3All.l1, hlt, if_true]
    refine l3All_round hn hs r D hD hR r _ fun D1 h1 h2 => ?_
    rw [wsucc h (show n.toNat ≤ 9223372036854775807 by omega)]
    exact ih (r + 1, D1) ⟨by simp; omega, h1, h2⟩ (by simp; omega)
  · have hlt : ¬ (r : Int) < n := by omega
    simp only [spec_l3All.l1, hlt, if_false]
    have : r = n.toNat := by omega
    rw [this] at hR
    exact ⟨D, ⟨hD, hR⟩, ev_now fun _ => rfl⟩
theorem costs_ev (M : List S144) (h : M.length ≤ 1000) : Ev (fun k => impl_costs.f k M) (M.map fun m => m.f0) := by
  unfold impl_costs.f
  have h1 : ((M.length : Int) : Int).toNat ≤ 35184372088832 := by omega
  simp only [h1, if_true]
  have := ev_ind (fun k (s : Nat × List Int) => impl_costs.l0 k s.2 M (M.length : Int) (s.1 : Int)) (fun s => M.length - s.1) (fun s => s.1 ≤ M.length ∧ s.2.length ≤ s.1) (fun s => s.2 ++ (M.drop s.1).map fun m => m.f0) ?_ (0, []) ⟨Nat.zero_le _, by simp⟩
  · simpa using this
  rintro ⟨i, x⟩ ⟨hi, hx⟩ ih
  simp only at hi hx ih ⊢
  by_cases h : i < M.length
  · have hlt : (i : Int) < (M.length : Int) := by omega
    have h0 : (0 : Int) ≤ (i : Int) := by omega
    have b1 : x.length < 17592186044416 := by omega
    simp only [impl_costs.l0, hlt, h0, b1, if_true, wsucc h (show M.length ≤ 9223372036854775807 by omega)]
    refine ev_at (ih (i + 1, x ++ [(rd_T144 M (i : Int)).f0]) ⟨by simp; omega, by simp; omega⟩ (by simp; omega)) ?_
    rw [List.drop_eq_getElem_cons h, List.map_cons, List.append_assoc]
    simp [rd_T144, h]
  · have hlt : ¬ (i : Int) < (M.length : Int) := by omega
    simp only [impl_costs.l0, hlt, if_false]
    refine ev_now fun k => ?_
    rw [List.drop_of_length_le (by omega)]
    simp
theorem back_ev (n : Int) (l : List S100) (hl : l.length ≤ 1000) : Ev (fun k => impl_Net_back.f k n l) (n, backL l) := by
  unfold impl_Net_back.f
  have h1 : ((l.length : Int) : Int).toNat ≤ 7036874417766 := by omega
  simp only [h1, if_true]
  have := ev_ind (fun k (s : Nat × List S100) => impl_Net_back.l0 k l (l.length : Int) (s.1 : Int) n s.2) (fun s => l.length - s.1) (fun s => s.1 ≤ l.length ∧ s.2.length ≤ s.1) (fun s => (n, s.2 ++ backL (l.drop s.1))) ?_ (0, []) ⟨Nat.zero_le _, by simp⟩
  · simpa using this
  rintro ⟨i, x⟩ ⟨hi, hx⟩ ih
  simp only at hi hx ih ⊢
  by_cases h : i < l.length
  · have hlt : (i : Int) < (l.length : Int) := by omega
    have h0 : (0 : Int) ≤ (i : Int) := by omega
    have b1 : x.length < 3518437208883 := by omega
    simp only [impl_Net_back.l0, hlt, h0, b1, if_true, wsucc h (show l.length ≤ 9223372036854775807 by omega), arc_at l i h]
    refine ev_at (ih (i + 1, x ++ [revA l[i]]) ⟨by simp; omega, by simp; omega⟩ (by simp; omega)) ?_
    rw [List.drop_eq_getElem_cons h, backL, backL, List.map_cons, List.append_assoc]
    rfl
  · have hlt : ¬ (i : Int) < (l.length : Int) := by omega
    simp only [impl_Net_back.l0, hlt, if_false]
    refine ev_now fun k => ?_
    rw [List.drop_of_length_le (by omega)]
    simp [backL]
/-- The least measures to a node: what the program makes. -/
theorem toward_ex {n : Int} {l : List S100} (hn : Net1 n l) {t : Int} (ht : 0 ≤ t ∧ t < n) : ∃ M, Fin1 n l t M ∧ Ev (fun k => impl_Net_toward.f k n l t) M := by
  have hlo := hn.lo
  have hhi := hn.hi
  unfold impl_Net_toward.f impl_measure.f
  have b : 0 ≤ n ∧ n ≤ 8 := by omega
  have g : t < ((n.toNat : Nat) : Int) := by omega
  simp only [b, and_self, if_true, Option.bind_some, ht.1, List.length_replicate, g]
  exact toward_loop hn ((List.replicate n.toNat (⟨99999, 0⟩ : S144)).set t.toNat ⟨0, 0⟩, true) ⟨minv_start hn ht.1 ht.2, fun h => by cases h⟩
/-- Both are the same: the costs of the program's measures on a net, and what the reference makes of the net turned round. -/
theorem near_same {n : Int} {l : List S100} (hn : Net1 n l) {t : Int} (ht : 0 ≤ t ∧ t < n) {M : List S144} (hM : Fin1 n l t M) {D : List Int} (hD : SInv n (backL l) t D) (hR : RInv (backL l) t D n.toNat) : (M.map fun m => m.f0) = D := by
  have hlo := hn.lo
  have l1 := hM.1.len
  have l2 := hD.len
  have key : ∀ v, 0 ≤ v → v < n → cM M v = rd D v := by
    intro v v0 v1
    have r1 := hM.1.rng v v0 v1
    have r2 := hD.rng v v0 v1
    have a1 : rd D v ≤ cM M v := by
      by_cases hf : cM M v = 99999
      · omega
      · have hw := hM.1.way v v0 v1 hf
        rw [← backL_backL l] at hw
        have := hM.few hn v0 v1 hf
        exact hR _ _ _ hw (by omega)
    have a2 : cM M v ≤ rd D v := by
      by_cases hf : rd D v < 99999
      · obtain ⟨m, hw⟩ := hD.way v v0 v1 hf
        rw [backL_backL] at hw
        have := hM.low hn hw
        omega
      · omega
    omega
  apply List.ext_getElem
  · rw [List.length_map]; omega
  · intro i h1 h2
    rw [List.length_map] at h1
    have := key i (by omega) (by omega)
    rw [cM_get M i h1, rd_at D i h2] at this
    rw [List.getElem_map]
    exact this
/-- What is true of the least costs from a node. -/
structure Dist (n : Int) (l : List S100) (s : Int) (D : List Int) : Prop where
  impl : Ev (fun k => impl_Net_from.f k n l s) D
  spec : Ev (fun k => spec_l3All.f k n l s) D
  inv : SInv n l s D
  low : ∀ v c m, Way (backL l) s v c m → rd D v ≤ c
theorem dist_ex {n : Int} {l : List S100} (hn : Net1 n l) {s : Int} (hs : 0 ≤ s ∧ s < n) : ∃ D, Dist n l s D := by
  obtain ⟨M, hM, he⟩ := toward_ex hn.back hs
  obtain ⟨D, ⟨hD, hR⟩, hd⟩ := l3All_ex hn hs
  have e : (M.map fun m => m.f0) = D := near_same hn.back hs hM (by rw [backL_backL]; exact hD) (by rw [backL_backL]; exact hR)
  have hlow : ∀ v c m, Way (backL l) s v c m → rd D v ≤ c := by
    intro v c m hw
    have hv := hw.node hn.back hs
    have h1 := hM.low hn.back hw
    have h2 := hM.1.rng v hv.1 hv.2
    have h3 : rd D v = cM M v := by
      have hl := hM.1.len
      obtain ⟨i, rfl⟩ : ∃ i : Nat, v = (i : Int) := ⟨v.toNat, by omega⟩
      rw [← e, cM_get M i (by omega), rd_at _ i (by rw [List.length_map]; omega), List.getElem_map]
    omega
  refine ⟨D, ?_, hd, hD, hlow⟩
  unfold impl_Net_from.f
  refine Ev.bind (back_ev n l (by have := hn.len; omega)) ?_
  refine Ev.bind he ?_
  refine Ev.bind (costs_ev M (by have := hM.1.len; have := hn.hi; omega)) (ev_now fun _ => by rw [e])

theorem Way.snoc {l : List S100} {t v c : Int} {m : Nat} (h : Way l t v c m) {x : S100} (hx : x ∈ l) (ht : x.f0 = t) : Way l x.f1 v (c + x.f2) (m + 1) := by
  induction h with
  | nil =>
    have := Way.cons (t := x.f1) hx (Way.nil (l := l))
    rw [ht] at this
    rw [Int.add_comm]
    exact this
  | @cons y c m hy _ ih =>
    have := Way.cons hy ih
    rw [show y.f2 + c + x.f2 = y.f2 + (c + x.f2) by omega]
    exact this
/-- A walk, gone the other way round. -/
theorem Way.rev {l : List S100} {t v c : Int} {m : Nat} (h : Way l t v c m) : Way (backL l) v t c m := by
  induction h with
  | nil => exact Way.nil
  | @cons x c m hx _ ih =>
    have hr : revA x ∈ backL l := List.mem_map.2 ⟨x, hx, rfl⟩
    have := ih.snoc hr rfl
    rw [Int.add_comm]
    exact this
theorem Dist.sym {n : Int} {l : List S100} {a b : Int} {D E : List Int} (ha : 0 ≤ a ∧ a < n) (hb : 0 ≤ b ∧ b < n) (hD : Dist n l a D) (hE : Dist n (backL l) b E) : rd D b = rd E a := by
  have r1 := hD.inv.rng b hb.1 hb.2
  have r2 := hE.inv.rng a ha.1 ha.2
  have h1 : rd E a ≤ rd D b := by
    by_cases h : rd D b < 99999
    · obtain ⟨m, hw⟩ := hD.inv.way b hb.1 hb.2 h
      exact hE.low _ _ _ hw.rev
    · omega
  have h2 : rd D b ≤ rd E a := by
    by_cases h : rd E a < 99999
    · obtain ⟨m, hw⟩ := hE.inv.way a ha.1 ha.2 h
      have := hw.rev
      rw [backL_backL] at this
      exact hD.low _ _ _ this
    · omega
  omega
open Classical in
/-- The least costs from a node, as a list. -/
noncomputable def distV (n : Int) (l : List S100) (s : Int) : List Int := if h : ∃ D, Dist n l s D then h.choose else []
theorem distV_is {n : Int} {l : List S100} (hn : Net1 n l) {s : Int} (hs : 0 ≤ s ∧ s < n) : Dist n l s (distV n l s) := by
  unfold distV
  rw [dif_pos (dist_ex hn hs)]
  exact (dist_ex hn hs).choose_spec
/-! ### nodes of a net, and what can be reached -/
theorem nodesIn_eq (n : Int) (l : List S100) (ns : List Int) : impl_nodesIn.f n l ns = some (netOkB n l && hasB n ns) := by
  unfold impl_nodesIn.f impl_Net_has.f
  rw [netOk_eq]
  cases netOkB n l <;> rfl
theorem hasB1 (n a : Int) : hasB n [a] = inB a 0 (wrap64 (n - 1)) := by unfold hasB; simp
theorem hasB2 (n a b : Int) : hasB n [a, b] = (inB a 0 (wrap64 (n - 1)) && inB b 0 (wrap64 (n - 1))) := by unfold hasB; simp
theorem hasB3 (n a b c : Int) : hasB n [a, b, c] = (inB a 0 (wrap64 (n - 1)) && (inB b 0 (wrap64 (n - 1)) && inB c 0 (wrap64 (n - 1)))) := by unfold hasB; simp
theorem node_of {n : Int} {l : List S100} (hn : Net1 n l) {a : Int} (h : inB a 0 (wrap64 (n - 1)) = true) : 0 ≤ a ∧ a < n := by
  have := hn.lo
  have := hn.hi
  rw [inB_iff, w_id (n := n - 1) (by omega) (by omega)] at h
  omega
/-! ### all distances -/
theorem table_ev {n : Int} {l : List S100} (hn : Net1 n l) : Ev (fun k => impl_Net_table.f k n l) ((List.range n.toNat).map fun v : Nat => distV n l (v : Int)) := by
  have hlo := hn.lo
  have hhi := hn.hi
  unfold impl_Net_table.f
  have b0 : (0 : Int) ≤ n := by omega
  have b1 : n.toNat ≤ 11728124029610 := by omega
  simp only [b0, b1, if_true]
  refine ev_at (ev_ind (fun k (i : Nat) => impl_Net_table.l0 k ((List.range i).map fun v : Nat => distV n l (v : Int)) n (i : Int) n l) (fun i => n.toNat - i) (fun i => i ≤ n.toNat) (fun _ => (List.range n.toNat).map fun v : Nat => distV n l (v : Int)) ?_ 0 (Nat.zero_le _)) rfl
  intro i hi ih
  by_cases h : i < n.toNat
  · have hlt : (i : Int) < n := by omega
    have hD := distV_is hn (s := (i : Int)) (by omega)
    have b2 : ((List.range i).map fun v : Nat => distV n l (v : Int)).length < 5864062014805 := by rw [List.length_map, List.length_range]; omega
    simp only [impl_Net_table.l0, hlt, if_true]
    refine Ev.bind hD.impl ?_
    simp only [b2, if_true, wsucc h (show n.toNat ≤ 9223372036854775807 by omega)]
    have := ih (i + 1) (by omega) (by omega)
    rw [List.range_succ, List.map_append] at this
    exact this
  · have hlt : ¬ (i : Int) < n := by omega
    simp only [impl_Net_table.l0, hlt, if_false]
    refine ev_now fun k => ?_
    rw [show i = n.toNat by omega]
noncomputable def tableV (n : Int) (l : List S100) : List (List Int) := (List.range n.toNat).map fun v : Nat => distV n l (v : Int)
theorem tableV_length (n : Int) (l : List S100) : (tableV n l).length = n.toNat := by unfold tableV; rw [List.length_map, List.length_range]
theorem tableV_at (n : Int) (l : List S100) (i : Nat) (h : i < n.toNat) : rd_L4 (tableV n l) (i : Int) = distV n l (i : Int) := by
  unfold rd_L4 tableV
  rw [List.getD_eq_getElem?_getD, Int.toNat_natCast, List.getElem?_map, List.getElem?_range h]
  rfl
/-! ### what holds of least costs -/
theorem ev_one {α : Type} {g : Nat → Option α} {a b : α} (h : Ev g a) (h' : Ev g b) : a = b := by
  obtain ⟨K, h⟩ := h
  obtain ⟨K', h'⟩ := h'
  have h1 := h (max K K') (by omega)
  rw [h' (max K K') (by omega)] at h1
  exact (Option.some.inj h1).symm
theorem Way.trans {l : List S100} {t v u c c' : Int} {m m' : Nat} (h1 : Way l t v c m) (h2 : Way l v u c' m') : Way l t u (c' + c) (m' + m) := by
  induction h2 with
  | nil => simpa using h1
  | @cons x c' m' hx _ ih =>
    have := Way.cons hx ih
    rw [show x.f2 + c' + c = x.f2 + (c' + c) by omega, show m' + 1 + m = (m' + m) + 1 by omega]
    exact this
theorem Way.cost {n : Int} {l : List S100} (hn : Net1 n l) {t v c : Int} {m : Nat} (h : Way l t v c m) : 0 ≤ c ∧ c ≤ 99 * (m : Int) := by
  induction h with
  | nil => simp
  | @cons x c m hx _ ih =>
    obtain ⟨_, _, _, _, _, h1, h2, _⟩ := hn.ends _ hx
    omega
theorem Dist.meas {n : Int} {l : List S100} (hn : Net1 n l) {s : Int} (hs : 0 ≤ s ∧ s < n) {D : List Int} (hD : Dist n l s D) : ∃ M, Fin1 n (backL l) s M ∧ ∀ v, 0 ≤ v → v < n → cM M v = rd D v := by
  obtain ⟨M, hM, _⟩ := toward_ex hn.back hs
  obtain ⟨D', ⟨h1, h2⟩, hd⟩ := l3All_ex hn hs
  have e : (M.map fun m => m.f0) = D' := near_same hn.back hs hM (by rw [backL_backL]; exact h1) (by rw [backL_backL]; exact h2)
  have e2 : D' = D := ev_one hd hD.spec
  refine ⟨M, hM, fun v v0 v1 => ?_⟩
  have hl := hM.1.len
  obtain ⟨i, rfl⟩ : ∃ i : Nat, v = (i : Int) := ⟨v.toNat, by omega⟩
  rw [← e2, ← e, cM_get M i (by omega), rd_at _ i (by rw [List.length_map]; omega), List.getElem_map]
theorem Dist.small {n : Int} {l : List S100} (hn : Net1 n l) {s : Int} (hs : 0 ≤ s ∧ s < n) {D : List Int} (hD : Dist n l s D) {v : Int} (v0 : 0 ≤ v) (v1 : v < n) (h : rd D v < 99999) : rd D v ≤ 700 := by
  obtain ⟨M, hM, he⟩ := hD.meas hn hs
  have hhi := hn.hi
  have e := he v v0 v1
  have hc : cM M v ≠ 99999 := by omega
  have h1 := hM.few hn.back v0 v1 hc
  have h2 := (hM.1.way v v0 v1 hc).cost hn.back
  have h3 := hM.1.rng v v0 v1
  omega
theorem Dist.tri {n : Int} {l : List S100} {a k : Int} (hk : 0 ≤ k ∧ k < n) {A K : List Int} (hA : Dist n l a A) (hK : Dist n l k K) {v : Int} (v0 : 0 ≤ v) (v1 : v < n) (h1 : rd A k < 99999) (h2 : rd K v < 99999) : rd A v ≤ rd A k + rd K v := by
  obtain ⟨m1, w1⟩ := hA.inv.way k hk.1 hk.2 h1
  obtain ⟨m2, w2⟩ := hK.inv.way v v0 v1 h2
  have := hA.low _ _ _ (w1.trans w2)
  omega
theorem Dist.arc {n : Int} {l : List S100} (hn : Net1 n l) {a : Int} {D : List Int} (hD : Dist n l a D) {x : S100} (hx : x ∈ l) (h : rd D x.f0 < 99999) : rd D x.f1 ≤ rd D x.f0 + x.f2 := by
  obtain ⟨e1, e2, e3, e4, _⟩ := hn.ends x hx
  obtain ⟨m, hw⟩ := hD.inv.way x.f0 e1 e2 h
  have hx' : revA x ∈ backL l := List.mem_map.2 ⟨x, hx, rfl⟩
  have := hD.low _ _ _ (Way.cons (t := a) hx' (show Way (backL l) a (revA x).f1 (rd D x.f0) m from hw))
  simp only [revA] at this
  omega
theorem dist_one {n : Int} {l : List S100} {s : Int} {D E : List Int} (hD : Dist n l s D) (hE : Dist n l s E) : D = E := ev_one hD.spec hE.spec
theorem inB_node {n : Int} {l : List S100} (hn : Net1 n l) {a : Int} (h : 0 ≤ a ∧ a < n) : inB a 0 (wrap64 (n - 1)) = true := by
  have := hn.lo
  have := hn.hi
  rw [inB_iff, w_id (n := n - 1) (by omega) (by omega)]
  omega
/-! ### sights -/
theorem row_at (s : List (List Int)) (i : Nat) (h : i < s.length) : rd_L4 s (i : Int) = s[i] := by simp [rd_L4, h]
/-- Are they sights of a net of n nodes. -/
def sightsB (n : Int) (s : List (List Int)) : Bool := !(s.any (seenBad n)) && inB (s.length : Int) 1 6
theorem l15Ok_ev (n : Int) (l : List S100) (s : List (List Int)) (hs : s.length ≤ 9223372036854775807) (hr : ∀ x ∈ s, x.length ≤ 9223372036854775807) : Ev (fun k => spec_l15Ok.f k n l s) (sightsB n s) := by
  unfold spec_l15Ok.f sightsB
  refine ev_at (ev_ind (fun k (i : Nat) => spec_l15Ok.l0 k s (i : Int) n l) (fun i => s.length - i) (fun i => i ≤ s.length) (fun i => !((s.drop i).any (seenBad n)) && inB (s.length : Int) 1 6) ?_ 0 (Nat.zero_le _)) (by rw [List.drop_zero])
  intro i hi ih
  by_cases h : i < s.length
  · have hlt : (i : Int) < (s.length : Int) := by omega
    have h0 : (0 : Int) ≤ (i : Int) := by omega
    have next := ih (i + 1) (by omega) (by omega)
    have hrl := hr s[i] (List.getElem_mem h)
    have hat := row_at s i h
    simp only [spec_l15Ok.l0, hlt, if_true]
    rw [any_at _ _ _ h]
    generalize (s.drop (i + 1)).any (seenBad n) = q at next ⊢
    generalize s[i] = row at hrl hat ⊢
    refine ev_at (ev_ind (fun k (j : Nat) => spec_l15Ok.l1 k s (i : Int) (j : Int) n l) (fun j => row.length - j) (fun j => j ≤ row.length) (fun j => !(decide ((row.length : Int) ≠ n) || (row.drop j).any (fun c => !(inB c 0 99)) || q) && inB (s.length : Int) 1 6) ?_ 0 (Nat.zero_le _)) ?_
    · intro j hj ihj
      by_cases g : j < row.length
      · have glt : (j : Int) < (row.length : Int) := by omega
        have g0 : (0 : Int) ≤ (j : Int) := by omega
        have nextj := ihj (j + 1) (by omega) (by omega)
        simp only [spec_l15Ok.l1, hlt, h0, hat, glt, g0, if_true, l1In_eq, Option.bind_some, wsucc g hrl, rd_at row j g]
        rw [any_at _ _ _ g]
        cases inB row[j] 0 99 with
        | false => exact ev_now fun k => by simp
        | true => simpa using nextj
      · have glt : ¬ (j : Int) < (row.length : Int) := by omega
        simp only [spec_l15Ok.l1, hlt, h0, hat, glt, if_true, if_false, wsucc h hs]
        rw [List.drop_of_length_le (by omega)]
        by_cases c : (row.length : Int) = n
        · simp only [c, if_true]
          simpa using next
        · simp only [c, if_false]
          exact ev_now fun k => by simp [c]
    · unfold seenBad
      rw [List.drop_zero]
  · have hlt : ¬ (i : Int) < (s.length : Int) := by omega
    simp only [spec_l15Ok.l0, hlt, if_false, l1In_eq, Option.bind_some]
    rw [List.drop_of_length_le (by omega)]
    exact ev_now fun k => by simp
theorem seenOk_eq (n : Int) (l : List S100) (s : List (List Int)) : impl_seenOk.f n l s = some (netOkB n l && sightsB n s) := by
  unfold impl_seenOk.f seenOkB sightsB
  cases netOkB n l <;> cases inB (s.length : Int) 1 6 <;> cases s.any (seenBad n) <;> rfl
structure Sights (n : Int) (s : List (List Int)) : Prop where
  lo : 1 ≤ s.length
  hi : s.length ≤ 6
  len : ∀ i : Nat, i < s.length → ((rd_L4 s (i : Int)).length : Int) = n
  rng : ∀ (i : Nat) (v : Int), i < s.length → 0 ≤ v → v < n → 0 ≤ rd (rd_L4 s (i : Int)) v ∧ rd (rd_L4 s (i : Int)) v ≤ 99
theorem sights_of {n : Int} {s : List (List Int)} (h : sightsB n s = true) : Sights n s := by
  unfold sightsB at h
  rw [Bool.and_eq_true, inB_iff, Bool.not_eq_true'] at h
  have key : ∀ i : Nat, i < s.length → ((rd_L4 s (i : Int)).length : Int) = n ∧ ∀ x ∈ rd_L4 s (i : Int), 0 ≤ x ∧ x ≤ 99 := by
    intro i hi
    rw [row_at s i hi]
    have hb : seenBad n s[i] = false := by
      cases hc : seenBad n s[i] with
      | false => rfl
      | true =>
        have : s.any (seenBad n) = true := List.any_eq_true.2 ⟨_, List.getElem_mem hi, hc⟩
        rw [this] at h
        cases h.1
    unfold seenBad at hb
    rw [Bool.or_eq_false_iff, decide_eq_false_iff_not, Decidable.not_not] at hb
    refine ⟨hb.1, fun x hx => ?_⟩
    cases hc : inB x 0 99 with
    | true => exact inB_iff.1 hc
    | false =>
      have : s[i].any (fun c => !(inB c 0 99)) = true := List.any_eq_true.2 ⟨x, hx, by rw [hc]; rfl⟩
      rw [this] at hb
      cases hb.2
  refine ⟨by omega, by omega, fun i hi => (key i hi).1, fun i v hi v0 v1 => (key i hi).2 _ ?_⟩
  obtain ⟨a, rfl⟩ := Int.eq_ofNat_of_zero_le v0
  have hl := (key i hi).1
  rw [rd_at _ a (by omega)]
  exact List.getElem_mem _
theorem seen_ok {n : Int} {l : List S100} {s : List (List Int)} (h : (netOkB n l && sightsB n s) = true) : Net1 n l ∧ Sights n s := by
  rw [Bool.and_eq_true] at h
  exact ⟨net1_of h.1, sights_of h.2⟩
/-! ### what nodes cost -/
theorem l11Any_ev (n : Int) (l : List S100) (s : List Int) (hs : s.length ≤ 9223372036854775807) : Ev (fun k => spec_l11Any.f k n l s) (hasB n s) := by
  unfold spec_l11Any.f hasB
  refine ev_at (ev_ind (fun k (i : Nat) => spec_l11Any.l0 k s (i : Int) n l) (fun i => s.length - i) (fun i => i ≤ s.length) (fun i => !((s.drop i).any fun v => !(inB v 0 (wrap64 (n - 1))))) ?_ 0 (Nat.zero_le _)) (by rw [List.drop_zero])
  intro i hi ih
  by_cases h : i < s.length
  · have hlt : (i : Int) < (s.length : Int) := by omega
    have h0 : (0 : Int) ≤ (i : Int) := by omega
    have next := ih (i + 1) (by omega) (by omega)
    simp only [spec_l11Any.l0, hlt, h0, if_true, l1In_eq, Option.bind_some, wsucc h hs, rd_at s i h]
    rw [any_at _ _ _ h]
    cases inB s[i] 0 (wrap64 (n - 1)) with
    | false => exact ev_now fun k => by simp
    | true => simpa using next
  · have hlt : ¬ (i : Int) < (s.length : Int) := by omega
    simp only [spec_l11Any.l0, hlt, if_false]
    rw [List.drop_of_length_le (by omega)]
    exact ev_now fun k => by simp
theorem hasB_of {n : Int} {l : List S100} (hn : Net1 n l) {s : List Int} (h : hasB n s = true) : ∀ i : Nat, i < s.length → 0 ≤ rd s (i : Int) ∧ rd s (i : Int) < n := by
  intro i hi
  refine node_of hn ?_
  rw [rd_at s i hi]
  cases h2 : inB s[i] 0 (wrap64 (n - 1)) with
  | true => rfl
  | false =>
    unfold hasB at h
    have : s.any (fun v => !(inB v 0 (wrap64 (n - 1)))) = true := List.any_eq_true.2 ⟨s[i], List.getElem_mem hi, by rw [h2]; rfl⟩
    rw [this] at h
    cases h
/-- What it costs to have been at the first i of nodes; none: it cannot be. -/
noncomputable def accS (n : Int) (l : List S100) (s : List (List Int)) (ns : List Int) : Nat → Option Int
  | 0 => some 0
  | i + 1 => (accS n l s ns i).bind fun a => if i = 0 then some (a + rd (rd_L4 s (i : Int)) (rd ns (i : Int))) else if rd (distV n l (rd ns ((i - 1 : Nat) : Int))) (rd ns (i : Int)) = 99999 then none else some (a + rd (rd_L4 s (i : Int)) (rd ns (i : Int)) + rd (distV n l (rd ns ((i - 1 : Nat) : Int))) (rd ns (i : Int)))
noncomputable def costS (n : Int) (l : List S100) (s : List (List Int)) (ns : List Int) : Int := (accS n l s ns ns.length).getD 99999
theorem accS_none {n : Int} {l : List S100} {s : List (List Int)} {ns : List Int} {i : Nat} (h : accS n l s ns i = none) : ∀ d, accS n l s ns (i + d) = none
  | 0 => h
  | d + 1 => by show (accS n l s ns (i + d)).bind _ = none; rw [accS_none h d]; rfl
theorem costS_val {n : Int} {l : List S100} (hn : Net1 n l) {s : List (List Int)} (hs : Sights n s) (ns : List Int) (hl : ns.length = s.length) (hns : ∀ i : Nat, i < ns.length → 0 ≤ rd ns (i : Int) ∧ rd ns (i : Int) < n) (d : Nat) : ∀ (i : Nat) (a : Int), ns.length - i = d → i ≤ ns.length → accS n l s ns i = some a → 0 ≤ a → a ≤ 1000 * (i : Int) →
    Ev (fun k => spec_l15Cost.l0 k s ns a (i : Int) n l) (costS n l s ns) ∧ Ev (fun k => impl_SeenCost.l0 k s ns (tableV n l) a ns (ns.length : Int) (i : Int)) (costS n l s ns) := by
  have hlo := hn.lo
  have hhi := hn.hi
  have hl6 := hs.hi
  induction d with
  | zero =>
    intro i a hd hi ha _ _
    have hlt : ¬ (i : Int) < (ns.length : Int) := by omega
    have e : costS n l s ns = a := by unfold costS; rw [show ns.length = i by omega, ha]; rfl
    rw [e]
    exact ⟨ev_shift (ev_now fun k => by simp only [spec_l15Cost.l0, hlt, if_false]), ev_shift (ev_now fun k => by simp only [impl_SeenCost.l0, hlt, if_false])⟩
  | succ d ih =>
    intro i a hd hi ha h0 h1
    have h : i < ns.length := by omega
    have hlt : (i : Int) < (ns.length : Int) := by omega
    have hlt' : (i : Int) < (s.length : Int) := by omega
    have p0 : (0 : Int) ≤ (i : Int) := by omega
    have hb := hns i h
    have hr := hs.rng i (rd ns (i : Int)) (by omega) hb.1 hb.2
    have hlen := hs.len i (by omega)
    have g1 : rd ns (i : Int) < ((rd_L4 s (i : Int)).length : Int) := by omega
    generalize hx : rd (rd_L4 s (i : Int)) (rd ns (i : Int)) = x at *
    have hw : wrap64 (a + x) = a + x := w_id (by omega) (by omega)
    by_cases c : i = 0
    · subst c
      have hacc : accS n l s ns 1 = some (a + x) := by show (accS n l s ns 0).bind _ = _; rw [ha, ← hx]; rfl
      obtain ⟨v1, v2⟩ := ih 1 (a + x) (by omega) (by omega) hacc (by omega) (by omega)
      have wz : wrap64 (((0 : Nat) : Int) + 1) = ((1 : Nat) : Int) := wsucc h (by omega)
      have ng : ¬ ((0 : Nat) : Int) > 0 := by omega
      have z0 : (((0 : Nat) : Int) = 0) = True := eq_true rfl
      refine ⟨ev_shift ?_, ev_shift ?_⟩
      · simp only [spec_l15Cost.l0, hlt, hlt', p0, hb.1, g1, ng, hx, hw, wz, if_true, if_false]
        exact v1
      · simp only [impl_SeenCost.l0, hlt, hlt', p0, hb.1, g1, hx, hw, wz, z0, if_true]
        exact v2
    · have hpr : i - 1 < ns.length := by omega
      have ha1 := hns (i - 1) hpr
      have hD := distV_is hn ha1
      have hdl := hD.inv.len
      have hdr := hD.inv.rng _ hb.1 hb.2
      have hsm := hD.small hn ha1 hb.1 hb.2
      have wp : wrap64 ((i : Int) - 1) = ((i - 1 : Nat) : Int) := wpred (by omega) (by omega)
      have q0 : (0 : Int) ≤ ((i - 1 : Nat) : Int) := by omega
      have q1 : ((i - 1 : Nat) : Int) < (ns.length : Int) := by omega
      obtain ⟨u, hu⟩ : ∃ u : Nat, rd ns ((i - 1 : Nat) : Int) = (u : Int) := ⟨(rd ns ((i - 1 : Nat) : Int)).toNat, by omega⟩
      have t1 : rd ns ((i - 1 : Nat) : Int) < ((tableV n l).length : Int) := by rw [tableV_length]; omega
      have ht : rd_L4 (tableV n l) (rd ns ((i - 1 : Nat) : Int)) = distV n l (rd ns ((i - 1 : Nat) : Int)) := by rw [hu]; exact tableV_at n l u (by omega)
      have t2 : rd ns (i : Int) < ((distV n l (rd ns ((i - 1 : Nat) : Int))).length : Int) := by omega
      have pg : (i : Int) > 0 := by omega
      have pz : ¬ (i : Int) = 0 := by omega
      have hacc : accS n l s ns (i + 1) = if rd (distV n l (rd ns ((i - 1 : Nat) : Int))) (rd ns (i : Int)) = 99999 then none else some (a + x + rd (distV n l (rd ns ((i - 1 : Nat) : Int))) (rd ns (i : Int))) := by
        show (accS n l s ns i).bind _ = _
        rw [ha, ← hx]
        simp only [Option.bind_some, c, if_false]
      generalize hy : rd (distV n l (rd ns ((i - 1 : Nat) : Int))) (rd ns (i : Int)) = y at *
      by_cases cy : y = 99999
      · subst cy
        rw [if_pos rfl] at hacc
        have e : costS n l s ns = 99999 := by
          unfold costS
          have := accS_none hacc (ns.length - (i + 1))
          rw [show i + 1 + (ns.length - (i + 1)) = ns.length by omega] at this
          rw [this]; rfl
        rw [e]
        refine ⟨ev_shift ?_, ev_shift ?_⟩
        · simp only [spec_l15Cost.l0, hlt, hlt', p0, hb.1, g1, pg, wp, q0, q1, if_true]
          refine Ev.bind hD.spec ?_
          simp only [t2, hy, if_true, ge_iff_le, Int.le_refl]
          exact ev_now fun _ => rfl
        · simp only [impl_SeenCost.l0, hlt, hlt', p0, hb.1, g1, pz, wp, q0, q1, ha1.1, t1, ht, t2, hy, if_true, if_false]
          exact ev_now fun _ => rfl
      · have hys := hsm (by omega)
        rw [if_neg cy] at hacc
        have cy' : ¬ y ≥ 99999 := by omega
        have hw2 : wrap64 (a + x + y) = a + x + y := w_id (by omega) (by omega)
        obtain ⟨v1, v2⟩ := ih (i + 1) (a + x + y) (by omega) (by omega) hacc (by omega) (by omega)
        refine ⟨ev_shift ?_, ev_shift ?_⟩
        · simp only [spec_l15Cost.l0, hlt, hlt', p0, hb.1, g1, pg, wp, q0, q1, if_true]
          refine Ev.bind hD.spec ?_
          simp only [t2, hx, hy, cy', hw, hw2, if_true, if_false, wsucc h (show ns.length ≤ 9223372036854775807 by omega)]
          exact v1
        · simp only [impl_SeenCost.l0, hlt, hlt', p0, hb.1, g1, pz, wp, q0, q1, ha1.1, t1, ht, t2, hx, hy, cy, hw, hw2, if_true, if_false, wsucc h (show ns.length ≤ 9223372036854775807 by omega)]
          exact v2
/-- What both tell: -1 where something is not ok. -/
noncomputable def seenCostV (n : Int) (l : List S100) (s : List (List Int)) (ns : List Int) : Int := if (netOkB n l && sightsB n s) = true ∧ ns.length = s.length ∧ hasB n ns = true then costS n l s ns else -1
theorem seenCost_ev (n : Int) (l : List S100) (s : List (List Int)) (ns : List Int) (hl : l.length ≤ 9223372036854775807) (hs : s.length ≤ 9223372036854775807) (hr : ∀ x ∈ s, x.length ≤ 9223372036854775807) (hns : ns.length ≤ 9223372036854775807) :
    Ev (fun k => spec_SeenCost.f k n l s ns) (seenCostV n l s ns) ∧ Ev (fun k => impl_SeenCost.f k n l s ns) (seenCostV n l s ns) := by
  unfold spec_SeenCost.f impl_SeenCost.f seenCostV
  by_cases hok : (netOkB n l && sightsB n s) = true
  · obtain ⟨hn, hS⟩ := seen_ok hok
    have h1 : netOkB n l = true := (Bool.and_eq_true _ _ ▸ hok).1
    have h2 : sightsB n s = true := (Bool.and_eq_true _ _ ▸ hok).2
    by_cases hlen : ns.length = s.length
    · have hlen' : (ns.length : Int) = (s.length : Int) := by omega
      cases hh : hasB n ns with
      | true =>
        obtain ⟨v1, v2⟩ := costS_val hn hS ns hlen (hasB_of hn hh) ns.length 0 0 (by omega) (by omega) rfl (by omega) (by omega)
        have e : (if (netOkB n l && sightsB n s) = true ∧ ns.length = s.length ∧ true = true then costS n l s ns else -1) = costS n l s ns := if_pos ⟨hok, hlen, rfl⟩
        rw [e]
        constructor
        · refine Ev.bind (l1Ok_ev n l hl) ?_
          simp only [h1, if_true]
          refine Ev.bind (l15Ok_ev n l s hs hr) ?_
          simp only [h2, hlen', if_true]
          refine Ev.bind (l11Any_ev n l ns hns) ?_
          simp only [hh, if_true]
          unfold spec_l15Cost.f
          exact Ev.bind v1 (ev_now fun _ => rfl)
        · simp only [seenOk_eq, hok, Option.bind_some, if_true, hlen']
          have hb : ∀ k, impl_SeenCost.j0 (k + 1) s ns (!true) n l = (impl_Net_table.f k n l).bind fun t => impl_SeenCost.l0 k s ns t 0 ns (ns.length : Int) 0 := fun k => by simp [impl_SeenCost.j0]
          have hhas : impl_Net_has.f n l ns = some true := by rw [← hh]; rfl
          simp only [hhas, Option.bind_some]
          refine ev_shift ?_
          simp only [hb]
          exact Ev.bind (table_ev hn) v2
      | false =>
        have e : (if (netOkB n l && sightsB n s) = true ∧ ns.length = s.length ∧ false = true then costS n l s ns else -1) = -1 := if_neg (fun z => by cases z.2.2)
        rw [e]
        constructor
        · refine Ev.bind (l1Ok_ev n l hl) ?_
          simp only [h1, if_true]
          refine Ev.bind (l15Ok_ev n l s hs hr) ?_
          simp only [h2, hlen', if_true]
          refine Ev.bind (l11Any_ev n l ns hns) ?_
          simp only [hh]
          exact ev_now fun _ => rfl
        · have hhas : impl_Net_has.f n l ns = some false := by rw [← hh]; rfl
          simp only [seenOk_eq, hok, Option.bind_some, if_true, hlen', hhas]
          exact ev_shift (ev_now fun _ => rfl)
    · have hlen' : ¬ (ns.length : Int) = (s.length : Int) := by omega
      rw [if_neg (fun z => hlen z.2.1)]
      constructor
      · refine Ev.bind (l1Ok_ev n l hl) ?_
        simp only [h1, if_true]
        refine Ev.bind (l15Ok_ev n l s hs hr) ?_
        simp only [h2, hlen', if_true, if_false]
        exact ev_now fun _ => rfl
      · simp only [seenOk_eq, hok, Option.bind_some, if_true, hlen', if_false]
        exact ev_shift (ev_now fun _ => rfl)
  · have hok' : (netOkB n l && sightsB n s) = false := by simpa using hok
    rw [if_neg (fun z => hok z.1)]
    constructor
    · refine Ev.bind (l1Ok_ev n l hl) ?_
      cases h1 : netOkB n l with
      | false => exact ev_now fun _ => rfl
      | true =>
        rw [h1, Bool.true_and] at hok'
        simp only [if_true]
        refine Ev.bind (l15Ok_ev n l s hs hr) ?_
        rw [hok']
        exact ev_now fun _ => rfl
    · simp only [seenOk_eq, hok', Option.bind_some]
      exact ev_shift (ev_now fun _ => rfl)
/-! ### the laws' own helpers: what they copy is the same, what is the same is equal -/
theorem arc118_at (l : List S132) (i : Nat) (h : i < l.length) : rd_T132 l (i : Int) = l[i] := by simp [rd_T132, h]
def arcOf (x : S132) : S100 := ⟨x.f0, x.f1, x.f2, x.f3, x.f4⟩
theorem set_next {α : Type} (f : Nat → α) (m i : Nat) (l : List α) (hl : l.length = m) (hi : i < m) (h : ∀ j, j < i → l[j]? = some (f j)) : ∀ j, j < i + 1 → (l.set i (f i))[j]? = some (f j) := by
  intro j hj
  rw [List.getElem?_set]
  by_cases e : i = j
  · subst e; rw [if_pos rfl, if_pos (by omega)]
  · rw [if_neg e]; exact h j (by omega)
theorem toArcS_loop (l : List S132) (hl : l.length ≤ 9223372036854775807) (i : Nat) (acc : List S100) (hi : i ≤ l.length) (ha : acc.length = l.length) (hp : ∀ j, j < i → acc[j]? = (l.map arcOf)[j]?) :
    Ev (fun k => laws_toArcS.l0 k l acc (i : Int)) (l.map arcOf) := by
  refine ev_ind (fun k (s : Nat × List S100) => laws_toArcS.l0 k l s.2 (s.1 : Int)) (fun s => l.length - s.1) (fun s => s.1 ≤ l.length ∧ s.2.length = l.length ∧ ∀ j, j < s.1 → s.2[j]? = (l.map arcOf)[j]?) (fun _ => l.map arcOf) ?_ (i, acc) ⟨hi, ha, hp⟩
  rintro ⟨i, acc⟩ ⟨hi, ha, hp⟩ ih
  simp only at hi ha hp ih ⊢
  by_cases h : i < l.length
  · have hlt : (i : Int) < (l.length : Int) := by omega
    have hlt' : (i : Int) < (acc.length : Int) := by omega
    have h0 : (0 : Int) ≤ (i : Int) := by omega
    simp only [laws_toArcS.l0, hlt, hlt', h0, if_true, laws_toArc.f, Option.bind_some, arc118_at l i h, wsucc h hl, Int.toNat_natCast]
    refine ih (i + 1, acc.set i (arcOf l[i])) ⟨by simp; omega, by simp [ha], ?_⟩ (by simp; omega)
    intro j hj
    simp only at hj ⊢
    rw [List.getElem?_set]
    by_cases e : i = j
    · subst e
      rw [if_pos rfl, if_pos (by omega)]
      simp [h]
    · rw [if_neg e]; exact hp j (by omega)
  · have hlt : ¬ (i : Int) < (l.length : Int) := by omega
    simp only [laws_toArcS.l0, hlt, if_false]
    refine ev_now fun k => ?_
    congr 1
    apply List.ext_getElem?
    intro j
    by_cases hj : j < l.length
    · exact hp j (by omega)
    · rw [List.getElem?_eq_none (by omega), List.getElem?_eq_none (by simp; omega)]
theorem toNet_ev (n : Int) (l : List S132) (hl : l.length ≤ 1048576) : Ev (fun k => laws_toNet.f k n l) (n, l.map arcOf) := by
  unfold laws_toNet.f
  refine Ev.bind (a := l.map arcOf) ?_ (ev_now fun _ => rfl)
  unfold laws_toArcS.f
  have h0 : (0 : Int) ≤ (l.length : Int) := by omega
  have h1 : ((l.length : Int) : Int).toNat ≤ 7036874417766 := by omega
  simp only [h0, h1, if_true]
  exact toArcS_loop l (by omega) 0 _ (Nat.zero_le _) (by simp) (fun j hj => absurd hj (Nat.not_lt_zero _))
theorem szNet_eq (n : Int) (l : List S132) (hl : l.length ≤ 9223372036854775807) : laws_szNet.f n l 1048576 = some (if l.length ≤ 1048576 then 1048576 - (l.length : Int) else -1) := by
  unfold laws_szNet.f laws_szArcS.f
  rw [w_id (n := 1048576 - (l.length : Int)) (by omega) (by omega)]
  by_cases h : l.length ≤ 1048576
  · rw [if_neg (by omega)]
    simp only [Option.bind_some]
    rw [if_neg (by omega), if_pos h]
  · rw [if_pos (by omega)]
    simp only [Option.bind_some]
    rw [if_pos (by omega), if_neg h]
theorem eqArc_self (x : S100) : laws_eqArc.f x.f0 x.f1 x.f2 x.f3 x.f4 x.f0 x.f1 x.f2 x.f3 x.f4 = some true := by simp [laws_eqArc.f]
theorem eqArcS_self (l : List S100) (hl : l.length ≤ 9223372036854775807) : Ev (fun k => laws_eqArcS.f k l l) true := by
  unfold laws_eqArcS.f
  simp only [if_true]
  refine ev_ind (fun k (i : Nat) => laws_eqArcS.l0 k l l (i : Int)) (fun i => l.length - i) (fun i => i ≤ l.length) (fun _ => true) ?_ 0 (Nat.zero_le _)
  intro i hi ih
  by_cases h : i < l.length
  · have hlt : (i : Int) < (l.length : Int) := by omega
    have h0 : (0 : Int) ≤ (i : Int) := by omega
    simp only [laws_eqArcS.l0, hlt, h0, if_true, eqArc_self, Option.bind_some, wsucc h hl]
    exact ih (i + 1) (by omega) (by omega)
  · have hlt : ¬ (i : Int) < (l.length : Int) := by omega
    simp only [laws_eqArcS.l0, hlt, if_false]
    exact ev_now fun _ => rfl
theorem eqNet_self (n : Int) (l : List S100) (hl : l.length ≤ 9223372036854775807) : Ev (fun k => laws_eqNet.f k n l n l) true := by
  unfold laws_eqNet.f
  simp only [if_true]
  exact Ev.bind (eqArcS_self l hl) (ev_now fun _ => by simp)
theorem toIntS_ev (l : List Int) (hl : l.length ≤ 1048576) : Ev (fun k => laws_toIntS.f k l) l := by
  unfold laws_toIntS.f
  have h0 : (0 : Int) ≤ (l.length : Int) := by omega
  have h1 : ((l.length : Int) : Int).toNat ≤ 35184372088832 := by omega
  simp only [h0, h1, if_true]
  refine ev_ind (fun k (s : Nat × List Int) => laws_toIntS.l0 k l s.2 (s.1 : Int)) (fun s => l.length - s.1) (fun s => s.1 ≤ l.length ∧ s.2.length = l.length ∧ ∀ j, j < s.1 → s.2[j]? = l[j]?) (fun _ => l) ?_ (0, List.replicate l.length 0) ⟨Nat.zero_le _, by simp, fun j hj => absurd hj (Nat.not_lt_zero _)⟩
  rintro ⟨i, acc⟩ ⟨hi, ha, hp⟩ ih
  simp only at hi ha hp ih ⊢
  by_cases h : i < l.length
  · have hlt : (i : Int) < (l.length : Int) := by omega
    have hlt' : (i : Int) < (acc.length : Int) := by omega
    have h0 : (0 : Int) ≤ (i : Int) := by omega
    simp only [laws_toIntS.l0, hlt, hlt', h0, if_true, rd_at l i h, wsucc h (show l.length ≤ 9223372036854775807 by omega), Int.toNat_natCast]
    refine ih (i + 1, acc.set i l[i]) ⟨by simp; omega, by simp [ha], ?_⟩ (by simp; omega)
    intro j hj
    simp only at hj ⊢
    rw [List.getElem?_set]
    by_cases e : i = j
    · subst e
      rw [if_pos rfl, if_pos (by omega)]
      simp [h]
    · rw [if_neg e]; exact hp j (by omega)
  · have hlt : ¬ (i : Int) < (l.length : Int) := by omega
    simp only [laws_toIntS.l0, hlt, if_false]
    refine ev_now fun k => ?_
    congr 1
    apply List.ext_getElem?
    intro j
    by_cases hj : j < l.length
    · exact hp j (by omega)
    · rw [List.getElem?_eq_none (by omega), List.getElem?_eq_none (by omega)]
theorem eqIntS_self (l : List Int) (hl : l.length ≤ 9223372036854775807) : Ev (fun k => laws_eqIntS.f k l l) true := by
  unfold laws_eqIntS.f
  simp only [if_true]
  refine ev_ind (fun k (i : Nat) => laws_eqIntS.l0 k l l (i : Int)) (fun i => l.length - i) (fun i => i ≤ l.length) (fun _ => true) ?_ 0 (Nat.zero_le _)
  intro i hi ih
  by_cases h : i < l.length
  · have hlt : (i : Int) < (l.length : Int) := by omega
    have h0 : (0 : Int) ≤ (i : Int) := by omega
    simp only [laws_eqIntS.l0, hlt, h0, if_true, wsucc h hl]
    exact ih (i + 1) (by omega) (by omega)
  · have hlt : ¬ (i : Int) < (l.length : Int) := by omega
    simp only [laws_eqIntS.l0, hlt, if_false]
    exact ev_now fun _ => rfl
/-! ### the laws' own helpers on rows of rows -/
theorem rowS_at (s : List (List Int)) (i : Nat) (h : i < s.length) : rd_L4 s (i : Int) = s[i] := by simp [rd_L4, h]
theorem szIntSS_ex (s : List (List Int)) (a : Int) (hs : s.length ≤ 9223372036854775807) (hr : ∀ x ∈ s, x.length ≤ 9223372036854775807) (h0 : 0 ≤ a) (h1 : a ≤ 1048576) : ∃ v : Int, (0 ≤ v → s.length ≤ 1048576 ∧ ∀ x ∈ s, x.length ≤ 1048576) ∧ Ev (fun k => laws_szIntSS.f k s a) v := by
  unfold laws_szIntSS.f
  rw [w_id (n := a - (s.length : Int)) (by omega) (by omega)]
  by_cases h : a - (s.length : Int) < 0
  · simp only [h, if_true]
    exact ⟨-1, fun z => absurd z (by omega), ev_now fun _ => rfl⟩
  · simp only [h, if_false]
    refine ev_ex (fun k (x : Nat × Int) => laws_szIntSS.l0 k s x.2 (x.1 : Int)) (fun x => s.length - x.1) (fun x => x.1 ≤ s.length ∧ 0 ≤ x.2 ∧ x.2 ≤ 1048576 ∧ ∀ j : Nat, j < x.1 → ∀ hj : j < s.length, s[j].length ≤ 1048576) (fun v => 0 ≤ v → s.length ≤ 1048576 ∧ ∀ x ∈ s, x.length ≤ 1048576) ?_ (0, a - (s.length : Int)) ⟨Nat.zero_le _, by simp; omega, by simp; omega, fun j hj => absurd hj (Nat.not_lt_zero _)⟩
    rintro ⟨i, b⟩ ⟨hi, b0, b1, hj⟩ ih
    simp only at hi b0 b1 hj ih ⊢
    by_cases g : i < s.length
    · have hlt : (i : Int) < (s.length : Int) := by omega
      have p0 : (0 : Int) ≤ (i : Int) := by omega
      have hrl := hr s[i] (List.getElem_mem g)
      simp only [laws_szIntSS.l0, hlt, p0, if_true, rowS_at s i g, laws_szIntS.f, w_id (n := b - (s[i].length : Int)) (by omega) (by omega)]
      by_cases c : b - (s[i].length : Int) < 0
      · have c1 : (-1 : Int) < 0 := by omega
        simp only [c, c1, if_true, Option.bind_some]
        exact ⟨-1, fun z => absurd z (by omega), ev_now fun _ => rfl⟩
      · simp only [c, if_false, Option.bind_some, wsucc g (show s.length ≤ 9223372036854775807 by omega)]
        refine ih (i + 1, b - (s[i].length : Int)) ⟨by simp; omega, by simp; omega, by simp; omega, ?_⟩ (by simp; omega)
        intro j hji hjl
        simp only at hji
        by_cases e : j = i
        · subst e; omega
        · exact hj j (by omega) hjl
    · have hlt : ¬ (i : Int) < (s.length : Int) := by omega
      simp only [laws_szIntSS.l0, hlt, if_false]
      refine ⟨b, fun _ => ⟨by omega, fun x hx => ?_⟩, ev_now fun _ => rfl⟩
      obtain ⟨j, hjl, rfl⟩ := List.getElem_of_mem hx
      exact hj j (by omega) hjl
theorem toIntSS_ev (s : List (List Int)) (hs : s.length ≤ 1048576) (hr : ∀ x ∈ s, x.length ≤ 1048576) : Ev (fun k => laws_toIntSS.f k s) s := by
  unfold laws_toIntSS.f
  have h0 : (0 : Int) ≤ (s.length : Int) := by omega
  have h1 : s.length ≤ 11728124029610 := by omega
  simp only [h0, if_true, Int.toNat_natCast, h1]
  refine ev_ind (fun k (x : Nat × List (List Int)) => laws_toIntSS.l0 k s x.2 (x.1 : Int)) (fun x => s.length - x.1) (fun x => x.1 ≤ s.length ∧ x.2.length = s.length ∧ ∀ j, j < x.1 → x.2[j]? = s[j]?) (fun _ => s) ?_ (0, List.replicate s.length []) ⟨Nat.zero_le _, by simp, fun j hj => absurd hj (Nat.not_lt_zero _)⟩
  rintro ⟨i, acc⟩ ⟨hi, ha, hp⟩ ih
  simp only at hi ha hp ih ⊢
  by_cases h : i < s.length
  · have hlt : (i : Int) < (s.length : Int) := by omega
    have hlt' : (i : Int) < (acc.length : Int) := by omega
    have p0 : (0 : Int) ≤ (i : Int) := by omega
    simp only [laws_toIntSS.l0, hlt, hlt', p0, if_true, rowS_at s i h, wsucc h (show s.length ≤ 9223372036854775807 by omega), Int.toNat_natCast]
    refine Ev.bind (toIntS_ev s[i] (hr _ (List.getElem_mem h))) ?_
    refine ih (i + 1, acc.set i s[i]) ⟨by simp; omega, by simp [ha], ?_⟩ (by simp; omega)
    intro j hj
    simp only at hj ⊢
    rw [List.getElem?_set]
    by_cases e : i = j
    · subst e
      rw [if_pos rfl, if_pos (by omega)]
      simp [h]
    · rw [if_neg e]; exact hp j (by omega)
  · have hlt : ¬ (i : Int) < (s.length : Int) := by omega
    simp only [laws_toIntSS.l0, hlt, if_false]
    refine ev_now fun k => ?_
    congr 1
    apply List.ext_getElem?
    intro j
    by_cases hj : j < s.length
    · exact hp j (by omega)
    · rw [List.getElem?_eq_none (by omega), List.getElem?_eq_none (by omega)]
theorem eqIntSS_self (s : List (List Int)) (hs : s.length ≤ 9223372036854775807) (hr : ∀ x ∈ s, x.length ≤ 9223372036854775807) : Ev (fun k => laws_eqIntSS.f k s s) true := by
  unfold laws_eqIntSS.f
  simp only [if_true]
  refine ev_ind (fun k (i : Nat) => laws_eqIntSS.l0 k s s (i : Int)) (fun i => s.length - i) (fun i => i ≤ s.length) (fun _ => true) ?_ 0 (Nat.zero_le _)
  intro i hi ih
  by_cases h : i < s.length
  · have hlt : (i : Int) < (s.length : Int) := by omega
    have h0 : (0 : Int) ≤ (i : Int) := by omega
    simp only [laws_eqIntSS.l0, hlt, h0, if_true, wsucc h hs, rowS_at s i h]
    refine Ev.bind (eqIntS_self s[i] (hr _ (List.getElem_mem h))) ?_
    simp only [if_true]
    exact ih (i + 1) (by omega) (by omega)
  · have hlt : ¬ (i : Int) < (s.length : Int) := by omega
    simp only [laws_eqIntSS.l0, hlt, if_false]
    exact ev_now fun _ => rfl
theorem FnExactSeenCost : laws_FnExactSeenCost.Pure := by
  intro n l s ns _ hl hs hns
  refine Ev.rounds ?_
  unfold laws_FnExactSeenCost.f
  by_cases h0 : (ns.length : Int) > 1048576
  · simp only [h0, if_true]; exact ev_now fun _ => rfl
  · simp only [h0, if_false, szNet_eq n l hl.1, Option.bind_some]
    by_cases h3 : l.length ≤ 1048576
    · have h4 : ¬ (1048576 - (l.length : Int) < 0) := by omega
      have hnl : ns.length ≤ 1048576 := by omega
      simp only [h3, h4, if_true, if_false]
      have hlm : (l.map arcOf).length ≤ 9223372036854775807 := by rw [List.length_map]; omega
      have hsr : ∀ x ∈ s, x.length ≤ 9223372036854775807 := fun x hx => (hs.2 x hx).1
      obtain ⟨v, hv, e⟩ := szIntSS_ex s (1048576 - (l.length : Int)) hs.1 hsr (by omega) (by omega)
      refine Ev.bind e ?_
      by_cases hv0 : v < 0
      · simp only [hv0, if_true]
        exact ev_now fun _ => rfl
      · simp only [hv0, if_false]
        obtain ⟨s1, s2⟩ := hv (by omega)
        obtain ⟨v1, v2⟩ := seenCost_ev n (l.map arcOf) s ns hlm hs.1 hsr hns.1
        refine Ev.bind (toNet_ev n l h3) ?_
        refine Ev.bind (toIntSS_ev s s1 s2) ?_
        refine Ev.bind (toIntS_ev ns hnl) ?_
        refine Ev.bind v1 ?_
        refine Ev.bind (toNet_ev n l h3) ?_
        refine Ev.bind (toIntSS_ev s s1 s2) ?_
        refine Ev.bind (toIntS_ev ns hnl) ?_
        refine Ev.bind v2 ?_
        simp only [if_true]
        refine Ev.bind (toNet_ev n l h3) ?_
        refine Ev.bind (eqNet_self _ _ hlm) ?_
        simp only [if_true]
        refine Ev.bind (toIntSS_ev s s1 s2) ?_
        refine Ev.bind (eqIntSS_self s hs.1 hsr) ?_
        simp only [if_true]
        refine Ev.bind (toIntS_ev ns hnl) ?_
        refine Ev.bind (eqIntS_self ns hns.1) ?_
        simp only [if_true]
        exact ev_now fun _ => rfl
    · have h4 : ((-1 : Int) < 0) := by omega
      simp only [h3, h4, if_true, if_false]
      exact ev_now fun _ => rfl
end Go.Proofs.Ytbappbbljncdeaa.Pure
