/- The pure statement of FnExactSeenBest: on all arguments the reference and the program tell the same nodes and the same cost, in memory of their own. No condition. -/
import Derived.Test.YtlgolgfcolnddaaFKinds
import Derived.Test.YtlgolgfcolnddaaFimplMeas
import Derived.Test.YtlgolgfcolnddaaFimplNear
import Derived.Test.YtlgolgfcolnddaaFimplNetOk
import Derived.Test.YtlgolgfcolnddaaFimplNetback
import Derived.Test.YtlgolgfcolnddaaFimplNettoward
import Derived.Test.YtlgolgfcolnddaaFimplSeenBest
import Derived.Test.YtlgolgfcolnddaaFimplseenOk
import Derived.Test.YtlgolgfcolnddaaFimplwithin
import Derived.Test.YtlgolgfcolnddaaFlawsFnExactSeenBest
import Derived.Test.YtlgolgfcolnddaaFlawsInt
import Derived.Test.YtlgolgfcolnddaaFlawsMarkInt
import Derived.Test.YtlgolgfcolnddaaFlawsNet
import Derived.Test.YtlgolgfcolnddaaFlawseqIntSS
import Derived.Test.YtlgolgfcolnddaaFlawsmarkIntSS
import Derived.Test.YtlgolgfcolnddaaFlawsszIntSS
import Derived.Test.YtlgolgfcolnddaaFlawstoIntSS
import Derived.Test.YtlgolgfcolnddaaFslicesIn
import Derived.Test.YtlgolgfcolnddaaFspecSeenBest
import Derived.Test.YtlgolgfcolnddaaFspecl15Ok
import Derived.Test.YtlgolgfcolnddaaFspecl15Rows
import Derived.Test.YtlgolgfcolnddaaFspecl1In
import Derived.Test.YtlgolgfcolnddaaFspecl1Ok
import Derived.Test.YtlgolgfcolnddaaFspecl3All
import Derived.Test.YtlgolgfcolnddaaFtextcore
import Derived.Test.YtlgolgfcolnddaaFtextmarkss
import Derived.Test.YtlgolgfcolnddaaFtextminint
import Derived.Test.YtlgolgfcolnddaaFtextseenbest
import Derived.Test.YtlgolgfcolnddaaFtextseenok
import Derived.Test.YtlgolgfcolnddaaFtextseenstep
namespace Go.Proofs.Ytlgolgfcolnddaa.Pure
open Go.RowKit Go.Proofs.Ytlgolgfcolnddaa.F Go.Proofs.YtlgolgfcolnddaaW.PrintWords
set_option linter.unusedVariables false
set_option linter.unusedSimpArgs false
/-! ### rounds -/
theorem ev_shift {α : Type} {g : Nat → Option α} {r : α} (h : Ev (fun k => g (k + 1)) r) : Ev g r := by
  obtain ⟨K, h⟩ := h
  refine ⟨K + 1, fun k hk => ?_⟩
  obtain ⟨m, rfl⟩ : ∃ m, k = m + 1 := ⟨k - 1, by omega⟩
  exact h m (by omega)
theorem ev_ind {σ β : Type} (g : Nat → σ → Option β) (μ : σ → Nat) (Inv : σ → Prop) (r : σ → β)
    (h : ∀ s, Inv s → (∀ s', Inv s' → μ s' < μ s → Ev (fun k => g k s') (r s')) → Ev (fun k => g (k + 1) s) (r s)) : ∀ s, Inv s → Ev (fun k => g k s) (r s) := by
  have key : ∀ n s, μ s ≤ n → Inv s → Ev (fun k => g k s) (r s) := by
    intro n
    induction n with
    | zero => intro s hs hi; exact ev_shift (h s hi (fun s' _ hlt => absurd hlt (by omega)))
    | succ n ih => intro s hs hi; exact ev_shift (h s hi (fun s' hi' hlt => ih s' (by omega) hi'))
  exact fun s hi => key _ s (Nat.le_refl _) hi
theorem ev_now {α : Type} {g : Nat → Option α} {r : α} (h : ∀ k, g k = some r) : Ev g r := ⟨0, fun k _ => h k⟩
theorem ev_at {α : Type} {g : Nat → Option α} {r r' : α} (h : Ev g r) (e : r = r') : Ev g r' := e ▸ h
/-! ### numbers and lists -/
theorem wsucc {i n : Nat} (h : i < n) (hn : n ≤ 9223372036854775807) : wrap64 ((i : Int) + 1) = ((i + 1 : Nat) : Int) := by
  unfold wrap64; omega
theorem wpred {i : Nat} (h : 0 < i) (hi : i ≤ 9223372036854775807) : wrap64 ((i : Int) - 1) = ((i - 1 : Nat) : Int) := by
  unfold wrap64; omega
theorem w_id {n : Int} (h : -9223372036854775808 ≤ n) (h' : n ≤ 9223372036854775807) : wrap64 n = n := by unfold wrap64; omega
theorem rd_nat (l : List Int) (i : Nat) : rd l (i : Int) = l.getD i 0 := by simp [rd]
theorem rd_at (l : List Int) (i : Nat) (h : i < l.length) : rd l (i : Int) = l[i] := by simp [rd, h]
theorem arc_at (l : List S58) (i : Nat) (h : i < l.length) : rd_T58 l (i : Int) = l[i] := by simp [rd_T58, h]
theorem any_at {α : Type} (p : α → Bool) (l : List α) (i : Nat) (h : i < l.length) : (l.drop i).any p = (p l[i] || (l.drop (i + 1)).any p) := by
  rw [List.drop_eq_getElem_cons h, List.any_cons]
/-! ### is a net valid -/
theorem within_eq (a b c : Int) : impl_within.f a b c = some (inB a b c) := by
  unfold impl_within.f inB
  by_cases h : b ≤ a
  · rw [if_pos h]; simp [h]
  · rw [if_neg h]; simp [h]
theorem l1In_eq (a b c : Int) : spec_l1In.f a b c = some (inB a b c) := within_eq a b c
theorem arcBad_eq (n : Int) (x : S58) : arcBad n x = !(inB x.f0 0 (wrap64 (n - 1)) && (inB x.f1 0 (wrap64 (n - 1)) && (!(x.f0 == x.f1) && (inB x.f2 0 99 && (inB x.f3 0 99 && inB x.f4 0 9))))) := by
  unfold arcBad hasB
  cases h1 : inB x.f0 0 (wrap64 (n - 1)) <;> cases h2 : inB x.f1 0 (wrap64 (n - 1)) <;> simp [h1, h2, Bool.not_and]
theorem netOk_eq (n : Int) (l : List S58) : impl_NetOk.f n l = some (netOkB n l) := rfl
theorem l1Ok_loop (n : Int) (l : List S58) (hl : l.length ≤ 9223372036854775807) (i : Nat) (hi : i ≤ l.length) :
    Ev (fun k => spec_l1Ok.l0 k (i : Int) n l) (!((l.drop i).any (arcBad n)) && (inB n 1 8 && decide (l.length ≤ 16))) := by
  refine ev_ind (fun k (i : Nat) => spec_l1Ok.l0 k (i : Int) n l) (fun i => l.length - i) (fun i => i ≤ l.length) (fun i => !((l.drop i).any (arcBad n)) && (inB n 1 8 && decide (l.length ≤ 16))) ?_ i hi
  intro i hi ih
  by_cases h : i < l.length
  · have hlt : (i : Int) < (l.length : Int) := by omega
    have h0 : (0 : Int) ≤ (i : Int) := by omega
    simp only [spec_l1Ok.l0, hlt, h0, if_true, l1In_eq, Option.bind_some, arc_at l i h, wsucc h hl]
    rw [any_at _ _ _ h, arcBad_eq]
    have ih' := ih (i + 1) (by omega) (by omega)
    generalize (l.drop (i + 1)).any (arcBad n) = q at ih' ⊢
    generalize l[i] = x at ih' ⊢
    cases inB x.f0 0 (wrap64 (n - 1)) with
    | false => exact ev_now fun k => by simp
    | true =>
    cases inB x.f1 0 (wrap64 (n - 1)) with
    | false => exact ev_now fun k => by simp
    | true =>
    by_cases he : x.f0 = x.f1
    · exact ev_now fun k => by simp [he]
    · cases inB x.f2 0 99 with
      | false => exact ev_now fun k => by simp [he]
      | true =>
      cases inB x.f3 0 99 with
      | false => exact ev_now fun k => by simp [he]
      | true =>
      cases inB x.f4 0 9 with
      | false => exact ev_now fun k => by simp [he]
      | true =>
        have he' : (x.f0 == x.f1) = false := beq_eq_false_iff_ne.2 he
        simpa [he, he'] using ih'
  · have hlt : ¬ (i : Int) < (l.length : Int) := by omega
    have he : i = l.length := by omega
    simp only [spec_l1Ok.l0, hlt, if_false, l1In_eq, Option.bind_some]
    subst he
    refine ev_now fun k => ?_
    cases inB n 1 8 <;> simp
    omega
theorem l1Ok_ev (n : Int) (l : List S58) (hl : l.length ≤ 9223372036854775807) : Ev (fun k => spec_l1Ok.f k n l) (netOkB n l) := by
  refine ev_at (l1Ok_loop n l hl 0 (Nat.zero_le _)) ?_
  unfold netOkB
  rw [List.drop_zero]
  cases inB n 1 8 <;> cases decide (l.length ≤ 16) <;> cases l.any (arcBad n) <;> rfl
theorem netOk_len {n : Int} {l : List S58} (h : netOkB n l = true) : l.length ≤ 16 := by
  unfold netOkB at h
  simp only [Bool.and_eq_true, decide_eq_true_eq] at h
  exact h.2.1
theorem inB_iff {a b c : Int} : inB a b c = true ↔ b ≤ a ∧ a ≤ c := by unfold inB; rw [Bool.and_eq_true, decide_eq_true_eq, decide_eq_true_eq]
/-! ### a valid net -/
/-- What a valid net is. -/
structure Net1 (n : Int) (l : List S58) : Prop where
  lo : 1 ≤ n
  hi : n ≤ 8
  len : l.length ≤ 16
  ends : ∀ x ∈ l, 0 ≤ x.f0 ∧ x.f0 < n ∧ 0 ≤ x.f1 ∧ x.f1 < n ∧ x.f0 ≠ x.f1 ∧ 0 ≤ x.f2 ∧ x.f2 ≤ 99 ∧ 0 ≤ x.f3 ∧ x.f3 ≤ 99 ∧ 0 ≤ x.f4 ∧ x.f4 ≤ 9
theorem net1_of {n : Int} {l : List S58} (h : netOkB n l = true) : Net1 n l := by
  unfold netOkB at h
  simp only [Bool.and_eq_true, decide_eq_true_eq, inB_iff, Bool.not_eq_true'] at h
  obtain ⟨⟨h1, h2⟩, h3, h4⟩ := h
  refine ⟨h1, h2, h3, fun x hx => ?_⟩
  have h5 : arcBad n x = false := by
    cases h6 : arcBad n x with
    | false => rfl
    | true => rw [List.any_eq_true.2 ⟨x, hx, h6⟩] at h4; cases h4
  rw [arcBad_eq] at h5
  simp only [Bool.not_eq_false', Bool.and_eq_true, inB_iff, Bool.not_eq_true', beq_eq_false_iff_ne] at h5
  rw [w_id (n := n - 1) (by omega) (by omega)] at h5
  obtain ⟨a, b, c, d, e, f⟩ := h5
  exact ⟨a.1, by omega, b.1, by omega, c, d.1, d.2, e.1, e.2, f.1, f.2⟩
theorem netOk_of {n : Int} {l : List S58} (hn : Net1 n l) : netOkB n l = true := by
  unfold netOkB
  have hlo := hn.lo
  have hhi := hn.hi
  have hl := hn.len
  simp only [Bool.and_eq_true, decide_eq_true_eq, inB_iff, Bool.not_eq_true']
  refine ⟨⟨hlo, hhi⟩, hl, ?_⟩
  rw [List.any_eq_false]
  intro x hx
  obtain ⟨h1, h2, h3, h4, h5, h6, h7, h8, h9, h10, h11⟩ := hn.ends x hx
  have : arcBad n x = false := by
    rw [arcBad_eq]
    simp only [Bool.not_eq_false', Bool.and_eq_true, inB_iff, Bool.not_eq_true', beq_eq_false_iff_ne]
    rw [w_id (n := n - 1) (by omega) (by omega)]
    exact ⟨⟨h1, by omega⟩, ⟨h3, by omega⟩, h5, ⟨h6, h7⟩, ⟨h8, h9⟩, h10, h11⟩
  rw [this]; exact Bool.false_ne_true
/-! ### a node's number -/
theorem node_of {n : Int} {l : List S58} (hn : Net1 n l) {a : Int} (h : inB a 0 (wrap64 (n - 1)) = true) : 0 ≤ a ∧ a < n := by
  have := hn.lo
  have := hn.hi
  rw [inB_iff, w_id (n := n - 1) (by omega) (by omega)] at h
  omega
/-! ### rounds that end somewhere -/
theorem ev_ex {σ β : Type} (g : Nat → σ → Option β) (μ : σ → Nat) (Inv : σ → Prop) (P : β → Prop)
    (h : ∀ s, Inv s → (∀ s', Inv s' → μ s' < μ s → ∃ r, P r ∧ Ev (fun k => g k s') r) → ∃ r, P r ∧ Ev (fun k => g (k + 1) s) r) : ∀ s, Inv s → ∃ r, P r ∧ Ev (fun k => g k s) r := by
  have key : ∀ n s, μ s ≤ n → Inv s → ∃ r, P r ∧ Ev (fun k => g k s) r := by
    intro n
    induction n with
    | zero => intro s hs hi; obtain ⟨r, hp, he⟩ := h s hi (fun s' _ hlt => absurd hlt (by omega)); exact ⟨r, hp, ev_shift he⟩
    | succ n ih => intro s hs hi; obtain ⟨r, hp, he⟩ := h s hi (fun s' hi' hlt => ih s' (by omega) hi'); exact ⟨r, hp, ev_shift he⟩
  exact fun s hi => key _ s (Nat.le_refl _) hi
/-! ### the least costs from all nodes to one -/
theorem rdi_set (D : List Int) (i j : Int) (v : Int) (hi : 0 ≤ i) (hl : i < (D.length : Int)) (hj : 0 ≤ j) : rd (D.set i.toNat v) j = if i = j then v else rd D j := by
  unfold rd
  rw [List.getD_eq_getElem?_getD, List.getD_eq_getElem?_getD, List.getElem?_set]
  by_cases h : i = j
  · subst h; rw [if_pos rfl, if_pos rfl, if_pos (by omega)]; rfl
  · rw [if_neg h, if_neg (by omega)]
theorem rdm_set (D : List S114) (i j : Int) (v : S114) (hi : 0 ≤ i) (hl : i < (D.length : Int)) (hj : 0 ≤ j) : rd_T114 (D.set i.toNat v) j = if i = j then v else rd_T114 D j := by
  unfold rd_T114
  rw [List.getD_eq_getElem?_getD, List.getD_eq_getElem?_getD, List.getElem?_set]
  by_cases h : i = j
  · subst h; rw [if_pos rfl, if_pos rfl, if_pos (by omega)]; rfl
  · rw [if_neg h, if_neg (by omega)]
def sumI : List Int → Int
  | [] => 0
  | x :: xs => x + sumI xs
theorem sumI_set (L : List Int) : ∀ (i : Nat) (v : Int), i < L.length → sumI (L.set i v) = sumI L - L.getD i 0 + v := by
  induction L with
  | nil => intro i v h; exact absurd h (by simp)
  | cons x xs ih =>
    intro i v h
    cases i with
    | zero => simp [sumI]; omega
    | succ i => simp only [List.set_cons_succ, sumI, ih i v (by simpa using h), List.getD_cons_succ]; omega
theorem sumI_nonneg (L : List Int) (h : ∀ x ∈ L, 0 ≤ x) : 0 ≤ sumI L := by
  induction L with
  | nil => simp [sumI]
  | cons x xs ih => have := h x (by simp); have := ih fun y hy => h y (by simp [hy]); simp only [sumI]; omega
theorem sumI_le8 (L : List Int) (b : Int) (hb : 0 ≤ b) (hl : L.length ≤ 8) (h : ∀ x ∈ L, x ≤ b) : sumI L ≤ 8 * b := by
  have key : ∀ L : List Int, (∀ x ∈ L, x ≤ b) → sumI L ≤ (L.length : Int) * b := by
    intro L
    induction L with
    | nil => intro _; simp [sumI]
    | cons x xs ih =>
      intro h
      have h1 := h x (by simp)
      have h2 := ih fun y hy => h y (by simp [hy])
      simp only [sumI, List.length_cons, Int.natCast_add, Int.add_mul]
      omega
  have h1 := key L h
  have h2 : (L.length : Int) * b ≤ 8 * b := Int.mul_le_mul_of_nonneg_right (by omega) hb
  omega
/-- A list that has all numbers below k has so many. -/
theorem levels_len (k : Nat) : ∀ L : List Int, (∀ j : Nat, j < k → (j : Int) ∈ L) → k ≤ L.length := by
  induction k with
  | zero => intro L _; omega
  | succ k ih =>
    intro L h
    have h1 := h k (by omega)
    have h2 := ih (L.erase (k : Int)) fun j hj => (List.mem_erase_of_ne (by omega)).2 (h j (by omega))
    rw [List.length_erase_of_mem h1] at h2
    have : 0 < L.length := List.length_pos_of_mem h1
    omega
/-- A walk to node t, from a node: what it costs, and how many arcs. -/
inductive Way (l : List S58) (t : Int) : Int → Int → Nat → Prop
  | nil : Way l t t 0 0
  | cons {x : S58} {c : Int} {m : Nat} : x ∈ l → Way l t x.f1 c m → Way l t x.f0 (x.f2 + c) (m + 1)
theorem Way.node {n : Int} {l : List S58} (hn : Net1 n l) {t : Int} (ht : 0 ≤ t ∧ t < n) {v c : Int} {m : Nat} (h : Way l t v c m) : 0 ≤ v ∧ v < n := by
  cases h with
  | nil => exact ht
  | cons hx _ => have := hn.ends _ hx; exact ⟨this.1, this.2.1⟩
def cM (M : List S114) (v : Int) : Int := (rd_T114 M v).f0
def aM (M : List S114) (v : Int) : Int := (rd_T114 M v).f1
def sumC (M : List S114) : Int := sumI (M.map fun m => m.f0)
def sumA (M : List S114) : Int := sumI (M.map fun m => m.f1)
theorem cM_set (M : List S114) (i j a b : Int) (hi : 0 ≤ i) (hl : i < (M.length : Int)) (hj : 0 ≤ j) : cM (M.set i.toNat ⟨a, b⟩) j = if i = j then a else cM M j := by
  unfold cM; rw [rdm_set M i j _ hi hl hj]; split <;> rfl
theorem aM_set (M : List S114) (i j a b : Int) (hi : 0 ≤ i) (hl : i < (M.length : Int)) (hj : 0 ≤ j) : aM (M.set i.toNat ⟨a, b⟩) j = if i = j then b else aM M j := by
  unfold aM; rw [rdm_set M i j _ hi hl hj]; split <;> rfl
theorem cM_get (M : List S114) (i : Nat) (h : i < M.length) : cM M (i : Int) = M[i].f0 := by simp [cM, rd_T114, h]
theorem aM_get (M : List S114) (i : Nat) (h : i < M.length) : aM M (i : Int) = M[i].f1 := by simp [aM, rd_T114, h]
theorem sumC_set (M : List S114) (i a b : Int) (hi : 0 ≤ i) (hl : i < (M.length : Int)) : sumC (M.set i.toNat ⟨a, b⟩) = sumC M - cM M i + a := by
  obtain ⟨j, rfl⟩ : ∃ j : Nat, i = (j : Int) := ⟨i.toNat, by omega⟩
  unfold sumC
  rw [List.map_set, Int.toNat_natCast, sumI_set _ j _ (by rw [List.length_map]; omega), cM_get M j (by omega)]
  rw [List.getD_eq_getElem?_getD, List.getElem?_map, List.getElem?_eq_getElem (show j < M.length by omega)]
  rfl
theorem sumA_set (M : List S114) (i a b : Int) (hi : 0 ≤ i) (hl : i < (M.length : Int)) : sumA (M.set i.toNat ⟨a, b⟩) = sumA M - aM M i + b := by
  obtain ⟨j, rfl⟩ : ∃ j : Nat, i = (j : Int) := ⟨i.toNat, by omega⟩
  unfold sumA
  rw [List.map_set, Int.toNat_natCast, sumI_set _ j _ (by rw [List.length_map]; omega), aM_get M j (by omega)]
  rw [List.getD_eq_getElem?_getD, List.getElem?_map, List.getElem?_eq_getElem (show j < M.length by omega)]
  rfl
/-- What holds of the measures while they are made. -/
structure MInv (n : Int) (l : List S58) (t : Int) (M : List S114) : Prop where
  len : (M.length : Int) = n
  rng : ∀ v, 0 ≤ v → v < n → 0 ≤ cM M v ∧ cM M v ≤ 99999 ∧ 0 ≤ aM M v ∧ (cM M v = 99999 → aM M v = 0)
  tz : cM M t = 0 ∧ aM M t = 0
  way : ∀ v, 0 ≤ v → v < n → cM M v ≠ 99999 → Way l t v (cM M v) (aM M v).toNat
  par : ∀ v, 0 ≤ v → v < n → v ≠ t → cM M v ≠ 99999 → ∃ x ∈ l, x.f0 = v ∧ cM M x.f1 ≠ 99999 ∧ (cM M x.f1 + x.f2 < cM M v ∨ cM M x.f1 + x.f2 = cM M v ∧ aM M x.f1 + 1 ≤ aM M v)
  bnd : ∀ v, 0 ≤ v → v < n → aM M v + sumC M ≤ 799992
def pot (M : List S114) : Nat := (sumC M * 6399937 + sumA M).toNat
/-- An arc says that it can be nearer. -/
def Less (M : List S114) (x : S58) : Prop := cM M x.f1 + x.f2 < cM M x.f0 ∨ cM M x.f1 + x.f2 = cM M x.f0 ∧ aM M x.f1 + 1 < aM M x.f0
def Closed (l : List S58) (M : List S114) : Prop := ∀ x ∈ l, cM M x.f1 ≠ 99999 → ¬ Less M x
theorem MInv.sums {n : Int} {l : List S58} {t : Int} {M : List S114} (hn : Net1 n l) (h : MInv n l t M) : 0 ≤ sumC M ∧ 0 ≤ sumA M ∧ sumA M ≤ 6399936 := by
  have hl := h.len
  have hi := hn.hi
  have hc : ∀ x ∈ (M.map fun m => m.f0), 0 ≤ x := by
    intro x hx
    obtain ⟨m, hm, rfl⟩ := List.mem_map.1 hx
    obtain ⟨i, hi, rfl⟩ := List.getElem_of_mem hm
    have := h.rng i (by omega) (by omega)
    rw [cM_get M i hi] at this
    exact this.1
  have hC := sumI_nonneg _ hc
  have ha : ∀ x ∈ (M.map fun m => m.f1), 0 ≤ x ∧ x ≤ 799992 := by
    intro x hx
    obtain ⟨m, hm, rfl⟩ := List.mem_map.1 hx
    obtain ⟨i, hi, rfl⟩ := List.getElem_of_mem hm
    have h1 := h.rng i (by omega) (by omega)
    have h2 := h.bnd i (by omega) (by omega)
    rw [aM_get M i hi] at h1 h2
    unfold sumC at h2
    omega
  have h1 := sumI_nonneg _ fun x hx => (ha x hx).1
  have h2 := sumI_le8 _ 799992 (by omega) (by rw [List.length_map]; omega) fun x hx => (ha x hx).2
  exact ⟨hC, h1, by unfold sumA; omega⟩
set_option maxHeartbeats 4000000 in
theorem MInv.step {n : Int} {l : List S58} {t : Int} {M : List S114} (hn : Net1 n l) (h : MInv n l t M) {x : S58} (hx : x ∈ l) (hw : cM M x.f1 ≠ 99999) (hL : Less M x) :
    MInv n l t (M.set x.f0.toNat ⟨cM M x.f1 + x.f2, aM M x.f1 + 1⟩) ∧ pot (M.set x.f0.toNat ⟨cM M x.f1 + x.f2, aM M x.f1 + 1⟩) < pot M := by
  obtain ⟨e1, e2, e3, e4, e5, e6, e7, _⟩ := hn.ends x hx
  have hlen := h.len
  have hlt : x.f0 < (M.length : Int) := by omega
  have r0 := h.rng x.f0 e1 e2
  have r1 := h.rng x.f1 e3 e4
  have b0 := h.bnd x.f0 e1 e2
  have b1 := h.bnd x.f1 e3 e4
  have hc : ∀ j, 0 ≤ j → cM (M.set x.f0.toNat ⟨cM M x.f1 + x.f2, aM M x.f1 + 1⟩) j = if x.f0 = j then cM M x.f1 + x.f2 else cM M j := fun j hj => cM_set M x.f0 j _ _ e1 hlt hj
  have ha : ∀ j, 0 ≤ j → aM (M.set x.f0.toNat ⟨cM M x.f1 + x.f2, aM M x.f1 + 1⟩) j = if x.f0 = j then aM M x.f1 + 1 else aM M j := fun j hj => aM_set M x.f0 j _ _ e1 hlt hj
  have sC := sumC_set M x.f0 (cM M x.f1 + x.f2) (aM M x.f1 + 1) e1 hlt
  have sA := sumA_set M x.f0 (cM M x.f1 + x.f2) (aM M x.f1 + 1) e1 hlt
  obtain ⟨s1, s2, s3⟩ := h.sums hn
  unfold Less at hL
  have hz := h.tz
  have hut : x.f0 ≠ t := by
    intro e
    rw [e] at hL
    omega
  have hinv : MInv n l t (M.set x.f0.toNat ⟨cM M x.f1 + x.f2, aM M x.f1 + 1⟩) := by
    refine ⟨by rw [List.length_set]; exact hlen, ?_, ?_, ?_, ?_, ?_⟩
    · intro v v0 v1
      rw [hc v v0, ha v v0]
      have := h.rng v v0 v1
      split
      · omega
      · exact this
    · by_cases ht : 0 ≤ t
      · rw [hc t ht, ha t ht, if_neg hut, if_neg hut]; exact hz
      · have h1 : ∀ L : List S114, cM L t = cM L 0 ∧ aM L t = aM L 0 := by
          intro L
          have : t.toNat = (0 : Int).toNat := by omega
          unfold cM aM rd_T114
          rw [this]
          exact ⟨rfl, rfl⟩
        rw [(h1 _).1, (h1 _).2] at hz ⊢
        rw [hc 0 (by omega), ha 0 (by omega)]
        by_cases h2 : x.f0 = 0
        · rw [h2] at hL; omega
        · rw [if_neg h2, if_neg h2]; exact hz
    · intro v v0 v1
      rw [hc v v0, ha v v0]
      by_cases e : x.f0 = v
      · subst e
        rw [if_pos rfl, if_pos rfl]
        intro _
        have hw' := h.way x.f1 e3 e4 hw
        have hm : (aM M x.f1 + 1).toNat = (aM M x.f1).toNat + 1 := by omega
        rw [hm, Int.add_comm]
        exact Way.cons hx hw'
      · rw [if_neg e, if_neg e]; exact h.way v v0 v1
    · intro v v0 v1 vt
      rw [hc v v0, ha v v0]
      by_cases e : x.f0 = v
      · subst e
        rw [if_pos rfl, if_pos rfl]
        intro _
        refine ⟨x, hx, rfl, ?_, ?_⟩
        · rw [hc x.f1 e3, if_neg e5]; exact hw
        · rw [hc x.f1 e3, ha x.f1 e3, if_neg e5, if_neg e5]; omega
      · rw [if_neg e, if_neg e]
        intro hv
        obtain ⟨y, hy, y0, y1, y2⟩ := h.par v v0 v1 vt hv
        have ey := hn.ends y hy
        refine ⟨y, hy, y0, ?_, ?_⟩
        · rw [hc y.f1 ey.2.2.1]
          split
          · omega
          · exact y1
        · rw [hc y.f1 ey.2.2.1, ha y.f1 ey.2.2.1]
          by_cases e2 : x.f0 = y.f1
          · rw [if_pos e2, if_pos e2]; rw [← e2] at y2; omega
          · rw [if_neg e2, if_neg e2]; exact y2
    · intro v v0 v1
      rw [ha v v0, sC]
      have := h.bnd v v0 v1
      split <;> omega
  refine ⟨hinv, ?_⟩
  obtain ⟨t1, t2, t3⟩ := hinv.sums hn
  unfold pot
  rw [sC] at t1 ⊢
  rw [sA] at t2 t3 ⊢
  omega
/-- What the program's measures are at the end. -/
def Fin1 (n : Int) (l : List S58) (t : Int) (M : List S114) : Prop := MInv n l t M ∧ Closed l M
theorem less_eq (a b c d : Int) : impl_measure_less.f a b c d = some (decide (a < c ∨ a = c ∧ b < d)) := by
  unfold impl_measure_less.f
  by_cases h : a < c
  · rw [if_pos h]; simp [h]
  · by_cases h2 : a = c
    · subst h2; simp
    · rw [if_neg h, if_neg h2]; simp [h, h2]
set_option maxHeartbeats 4000000 in
theorem toward_loop {n : Int} {l : List S58} (hn : Net1 n l) {t : Int} : ∀ s : List S114 × Bool, (MInv n l t s.1 ∧ (s.2 = false → Closed l s.1)) → ∃ R, Fin1 n l t R ∧ Ev (fun k => impl_Net_toward.l0 k s.1 s.2 n l) R := by
  refine ev_ex (fun k (s : List S114 × Bool) => impl_Net_toward.l0 k s.1 s.2 n l) (fun s => pot s.1 * 2 + (if s.2 = true then 1 else 0)) (fun s => MInv n l t s.1 ∧ (s.2 = false → Closed l s.1)) (Fin1 n l t) ?_
  rintro ⟨M, b⟩ ⟨hM, hC⟩ ih
  simp only at hM hC ih ⊢
  have hll := hn.len
  cases b with
  | false => exact ⟨M, ⟨hM, hC rfl⟩, ev_now fun k => by simp [impl_Net_toward.l0]⟩
  | true =>
    simp only [impl_Net_toward.l0, if_true]
    have inner := ev_ex (fun k (s : Nat × List S114 × Bool) => impl_Net_toward.l1 k s.2.1 s.2.2 l (l.length : Int) (s.1 : Int) n l) (fun s => l.length - s.1)
      (fun s => s.1 ≤ l.length ∧ MInv n l t s.2.1 ∧ ((s.2.2 = false ∧ s.2.1 = M ∧ ∀ j, j < s.1 → ∀ hj : j < l.length, cM M l[j].f1 ≠ 99999 → ¬ Less M l[j]) ∨ (s.2.2 = true ∧ pot s.2.1 < pot M))) (Fin1 n l t) ?_ (0, M, false) ⟨Nat.zero_le _, hM, .inl ⟨rfl, rfl, fun j hj => absurd hj (Nat.not_lt_zero _)⟩⟩
    · exact inner
    rintro ⟨i, M1, b1⟩ ⟨hi, hM1, hb⟩ ih2
    simp only at hi hM1 hb ih2 ⊢
    by_cases h : i < l.length
    · have hlt : (i : Int) < (l.length : Int) := by omega
      have h0 : (0 : Int) ≤ (i : Int) := by omega
      have hxl : l[i] ∈ l := List.getElem_mem h
      obtain ⟨e1, e2, e3, e4, e5, e6, e7, _⟩ := hn.ends l[i] hxl
      have hlen := hM1.len
      have g1 : l[i].f1 < (M1.length : Int) := by omega
      have g0 : l[i].f0 < (M1.length : Int) := by omega
      simp only [impl_Net_toward.l1, hlt, h0, if_true, arc_at l i h, e1, e3, g0, g1, wsucc h (show l.length ≤ 9223372036854775807 by omega), less_eq, Option.bind_some]
      have r1 := hM1.rng l[i].f1 e3 e4
      have b1' := hM1.bnd l[i].f1 e3 e4
      have hs := hM1.sums hn
      by_cases hf : cM M1 l[i].f1 = 99999
      · have hf' : (rd_T114 M1 l[i].f1).f0 = 99999 := hf
        simp only [hf', if_true]
        refine ih2 (i + 1, M1, b1) ⟨by simp; omega, hM1, ?_⟩ (by simp; omega)
        rcases hb with ⟨q1, q2, q3⟩ | q
        · refine .inl ⟨q1, q2, fun j hj hjl hc => ?_⟩
          by_cases hji : j = i
          · subst hji; rw [← q2] at hc; exact absurd hf hc
          · exact q3 j (by simp at hj; omega) hjl hc
        · exact .inr q
      · have hf' : ¬ (rd_T114 M1 l[i].f1).f0 = 99999 := hf
        have w1 : wrap64 ((rd_T114 M1 l[i].f1).f0 + l[i].f2) = cM M1 l[i].f1 + l[i].f2 := by unfold cM at *; exact w_id (by omega) (by omega)
        have w2 : wrap64 ((rd_T114 M1 l[i].f1).f1 + 1) = aM M1 l[i].f1 + 1 := by unfold aM at *; exact w_id (by omega) (by omega)
        simp only [hf', if_false, w1, w2]
        by_cases hL : Less M1 l[i]
        · have hL' : (cM M1 l[i].f1 + l[i].f2 < (rd_T114 M1 l[i].f0).f0 ∨ cM M1 l[i].f1 + l[i].f2 = (rd_T114 M1 l[i].f0).f0 ∧ aM M1 l[i].f1 + 1 < (rd_T114 M1 l[i].f0).f1) := hL
          simp only [hL', decide_true, if_true]
          obtain ⟨hs1, hs2⟩ := hM1.step hn hxl hf hL
          refine ih2 (i + 1, _, true) ⟨by simp; omega, hs1, .inr ⟨rfl, ?_⟩⟩ (by simp; omega)
          rcases hb with ⟨_, q2, _⟩ | ⟨_, q⟩
          · rw [← q2]; exact hs2
          · exact Nat.lt_trans hs2 q
        · have hL' : ¬ (cM M1 l[i].f1 + l[i].f2 < (rd_T114 M1 l[i].f0).f0 ∨ cM M1 l[i].f1 + l[i].f2 = (rd_T114 M1 l[i].f0).f0 ∧ aM M1 l[i].f1 + 1 < (rd_T114 M1 l[i].f0).f1) := hL
          simp only [hL', decide_false, Bool.false_eq_true, if_false]
          refine ih2 (i + 1, M1, b1) ⟨by simp; omega, hM1, ?_⟩ (by simp; omega)
          rcases hb with ⟨q1, q2, q3⟩ | q
          · refine .inl ⟨q1, q2, fun j hj hjl hc => ?_⟩
            by_cases hji : j = i
            · subst hji; rw [← q2]; exact hL
            · exact q3 j (by simp at hj; omega) hjl hc
          · exact .inr q
    · have hlt : ¬ (i : Int) < (l.length : Int) := by omega
      simp only [impl_Net_toward.l1, hlt, if_false]
      rcases hb with ⟨q1, q2, q3⟩ | ⟨q1, q2⟩
      · subst q1
        refine ih (M1, false) ⟨hM1, fun _ x hx hc => ?_⟩ (by rw [q2]; simp)
        obtain ⟨j, hj, rfl⟩ := List.getElem_of_mem hx
        rw [q2] at hc ⊢
        exact q3 j (by omega) hj hc
      · subst q1
        exact ih (M1, true) ⟨hM1, fun h => by cases h⟩ (by simp; omega)
theorem minv_start {n : Int} {l : List S58} (hn : Net1 n l) {t : Int} (h0 : 0 ≤ t) (h1 : t < n) : MInv n l t ((List.replicate n.toNat (⟨99999, 0⟩ : S114)).set t.toNat ⟨0, 0⟩) := by
  have hlo := hn.lo
  have hhi := hn.hi
  have hll : ((List.replicate n.toNat (⟨99999, 0⟩ : S114)).length : Int) = n := by rw [List.length_replicate]; omega
  have hc : ∀ v, 0 ≤ v → v < n → cM ((List.replicate n.toNat (⟨99999, 0⟩ : S114)).set t.toNat ⟨0, 0⟩) v = if t = v then 0 else 99999 := by
    intro v v0 v1
    rw [cM_set _ t v _ _ h0 (by omega) v0]
    split
    · rfl
    · obtain ⟨j, rfl⟩ : ∃ j : Nat, v = (j : Int) := ⟨v.toNat, by omega⟩
      rw [cM_get _ j (by rw [List.length_replicate]; omega), List.getElem_replicate]
  have ha : ∀ v, 0 ≤ v → v < n → aM ((List.replicate n.toNat (⟨99999, 0⟩ : S114)).set t.toNat ⟨0, 0⟩) v = 0 := by
    intro v v0 v1
    rw [aM_set _ t v _ _ h0 (by omega) v0]
    split
    · rfl
    · obtain ⟨j, rfl⟩ : ∃ j : Nat, v = (j : Int) := ⟨v.toNat, by omega⟩
      rw [aM_get _ j (by rw [List.length_replicate]; omega), List.getElem_replicate]
  refine ⟨by rw [List.length_set]; exact hll, ?_, ?_, ?_, ?_, ?_⟩
  · intro v v0 v1
    rw [hc v v0 v1, ha v v0 v1]
    split <;> omega
  · rw [hc t h0 h1, ha t h0 h1, if_pos rfl]; exact ⟨rfl, rfl⟩
  · intro v v0 v1
    rw [hc v v0 v1, ha v v0 v1]
    split
    · rename_i e; subst e; intro _; exact Way.nil
    · intro h; exact absurd rfl h
  · intro v v0 v1 vt
    rw [hc v v0 v1, if_neg (Ne.symm vt)]
    intro h; exact absurd rfl h
  · intro v v0 v1
    rw [ha v v0 v1]
    have := sumI_le8 (((List.replicate n.toNat (⟨99999, 0⟩ : S114)).set t.toNat ⟨0, 0⟩).map fun m => m.f0) 99999 (by omega) (by rw [List.length_map, List.length_set, List.length_replicate]; omega) (by
      intro x hx
      obtain ⟨m, hm, rfl⟩ := List.mem_map.1 hx
      rcases List.mem_or_eq_of_mem_set hm with h | h
      · rw [List.eq_of_mem_replicate h]; exact Int.le_refl _
      · rw [h]; simp)
    unfold sumC
    omega
/-- No walk is nearer than the measures say. -/
theorem Fin1.low {n : Int} {l : List S58} (hn : Net1 n l) {t : Int} {M : List S114} (hM : Fin1 n l t M) {v c : Int} {m : Nat} (h : Way l t v c m) : cM M v < c ∨ (cM M v = c ∧ aM M v ≤ m) ∨ 99999 ≤ c := by
  induction h with
  | nil => rw [hM.1.tz.1, hM.1.tz.2]; exact .inr (.inl ⟨rfl, by omega⟩)
  | @cons x c m hx h ih =>
    obtain ⟨e1, e2, e3, e4, e5, e6, e7, _⟩ := hn.ends x hx
    have r0 := hM.1.rng x.f0 e1 e2
    by_cases hf : cM M x.f1 = 99999
    · rcases ih with ih | ih | ih <;> omega
    · have := hM.2 x hx hf
      unfold Less at this
      rcases ih with ih | ih | ih <;> omega
theorem Fin1.levels {n : Int} {l : List S58} (hn : Net1 n l) {t : Int} {M : List S114} (hM : Fin1 n l t M) (m : Nat) : ∀ v, 0 ≤ v → v < n → cM M v ≠ 99999 → aM M v = (m : Int) → ∀ j : Nat, j ≤ m → ∃ u, 0 ≤ u ∧ u < n ∧ aM M u = (j : Int) := by
  induction m with
  | zero => intro v v0 v1 _ hm j hj; exact ⟨v, v0, v1, by rw [hm]; omega⟩
  | succ m ih =>
    intro v v0 v1 hc hm j hj
    by_cases hj2 : j = m + 1
    · exact ⟨v, v0, v1, by rw [hm, hj2]⟩
    · have hvt : v ≠ t := by intro e; rw [e, hM.1.tz.2] at hm; omega
      obtain ⟨x, hx, x0, x1, x2⟩ := hM.1.par v v0 v1 hvt hc
      obtain ⟨e1, e2, e3, e4, e5, e6, e7, _⟩ := hn.ends x hx
      have := hM.2 x hx x1
      unfold Less at this
      rw [x0] at this
      exact ih x.f1 e3 e4 x1 (by omega) j (by omega)
theorem Fin1.few {n : Int} {l : List S58} (hn : Net1 n l) {t : Int} {M : List S114} (hM : Fin1 n l t M) {v : Int} (v0 : 0 ≤ v) (v1 : v < n) (hc : cM M v ≠ 99999) : aM M v + 1 ≤ n := by
  have hlen := hM.1.len
  have r := hM.1.rng v v0 v1
  have := levels_len ((aM M v).toNat + 1) (M.map fun m => m.f1) (by
    intro j hj
    obtain ⟨u, u0, u1, hu⟩ := hM.levels hn (aM M v).toNat v v0 v1 hc (by omega) j (by omega)
    obtain ⟨i, rfl⟩ : ∃ i : Nat, u = (i : Int) := ⟨u.toNat, by omega⟩
    rw [aM_get M i (by omega)] at hu
    rw [← hu]
    exact List.mem_map.2 ⟨M[i], List.getElem_mem _, rfl⟩)
  rw [List.length_map] at this
  omega
/-! ### least costs: what the program makes -/
def revA (x : S58) : S58 := ⟨x.f1, x.f0, x.f2, x.f3, x.f4⟩
def backL (l : List S58) : List S58 := l.map revA
theorem backL_backL (l : List S58) : backL (backL l) = l := by
  unfold backL
  rw [List.map_map]
  have : revA ∘ revA = id := by funext x; rfl
  rw [this, List.map_id]
theorem backL_length (l : List S58) : (backL l).length = l.length := by unfold backL; rw [List.length_map]
theorem Net1.back {n : Int} {l : List S58} (hn : Net1 n l) : Net1 n (backL l) := by
  refine ⟨hn.lo, hn.hi, by rw [backL_length]; exact hn.len, fun x hx => ?_⟩
  obtain ⟨y, hy, rfl⟩ := List.mem_map.1 hx
  obtain ⟨a, b, c, d, e, f⟩ := hn.ends y hy
  exact ⟨c, d, a, b, fun z => e z.symm, f⟩
/-- The least measures to a node: what the program makes. -/
theorem toward_ex {n : Int} {l : List S58} (hn : Net1 n l) {t : Int} (ht : 0 ≤ t ∧ t < n) : ∃ M, Fin1 n l t M ∧ Ev (fun k => impl_Net_toward.f k n l t) M := by
  have hlo := hn.lo
  have hhi := hn.hi
  unfold impl_Net_toward.f impl_measure.f
  have b : 0 ≤ n ∧ n ≤ 8 := by omega
  have g : t < ((n.toNat : Nat) : Int) := by omega
  simp only [b, and_self, if_true, Option.bind_some, ht.1, List.length_replicate, g]
  exact toward_loop hn ((List.replicate n.toNat (⟨99999, 0⟩ : S114)).set t.toNat ⟨0, 0⟩, true) ⟨minv_start hn ht.1 ht.2, fun h => by cases h⟩
theorem Way.snoc {l : List S58} {t v c : Int} {m : Nat} (h : Way l t v c m) {x : S58} (hx : x ∈ l) (ht : x.f0 = t) : Way l x.f1 v (c + x.f2) (m + 1) := by
  induction h with
  | nil =>
    have := Way.cons (t := x.f1) hx (Way.nil (l := l))
    rw [ht] at this
    rw [Int.add_comm]
    exact this
  | @cons y c m hy _ ih =>
    have := Way.cons hy ih
    rw [show y.f2 + c + x.f2 = y.f2 + (c + x.f2) by omega]
    exact this
/-- A walk, gone the other way round. -/
theorem Way.rev {l : List S58} {t v c : Int} {m : Nat} (h : Way l t v c m) : Way (backL l) v t c m := by
  induction h with
  | nil => exact Way.nil
  | @cons x c m hx _ ih =>
    have hr : revA x ∈ backL l := List.mem_map.2 ⟨x, hx, rfl⟩
    have := ih.snoc hr rfl
    rw [Int.add_comm]
    exact this
/-! ### the reference's least costs, and that both are the same -/
/-- What holds of the reference's costs while they are made. -/
structure SInv (n : Int) (l : List S58) (s : Int) (D : List Int) : Prop where
  len : (D.length : Int) = n
  rng : ∀ v, 0 ≤ v → v < n → 0 ≤ rd D v ∧ rd D v ≤ 99999
  sz : rd D s = 0
  way : ∀ v, 0 ≤ v → v < n → rd D v < 99999 → ∃ m, Way (backL l) s v (rd D v) m
def RInv (l : List S58) (s : Int) (D : List Int) (r : Nat) : Prop := ∀ v c m, Way (backL l) s v c m → m ≤ r → rd D v ≤ c
theorem SInv.step {n : Int} {l : List S58} {s : Int} {D : List Int} (hn : Net1 n l) (hs : 0 ≤ s ∧ s < n) (h : SInv n l s D) {y : S58} (hy : y ∈ l) (hf : rd D y.f0 < 99999) (hL : rd D y.f0 + y.f2 < rd D y.f1) :
    SInv n l s (D.set y.f1.toNat (rd D y.f0 + y.f2)) ∧ ∀ v, 0 ≤ v → v < n → rd (D.set y.f1.toNat (rd D y.f0 + y.f2)) v ≤ rd D v := by
  obtain ⟨e1, e2, e3, e4, e5, e6, e7, _⟩ := hn.ends y hy
  have hlen := h.len
  have hlt : y.f1 < (D.length : Int) := by omega
  have hc : ∀ j, 0 ≤ j → rd (D.set y.f1.toNat (rd D y.f0 + y.f2)) j = if y.f1 = j then rd D y.f0 + y.f2 else rd D j := fun j hj => rdi_set D y.f1 j _ e3 hlt hj
  have r0 := h.rng y.f0 e1 e2
  have r1 := h.rng y.f1 e3 e4
  have hys : y.f1 ≠ s := by intro e; rw [e, h.sz] at hL; omega
  refine ⟨⟨by rw [List.length_set]; exact hlen, ?_, ?_, ?_⟩, ?_⟩
  · intro v v0 v1
    rw [hc v v0]
    have := h.rng v v0 v1
    split <;> omega
  · rw [hc s hs.1, if_neg hys]; exact h.sz
  · intro v v0 v1
    rw [hc v v0]
    by_cases e : y.f1 = v
    · rw [if_pos e]
      intro _
      obtain ⟨m, hm⟩ := h.way y.f0 e1 e2 hf
      refine ⟨m + 1, ?_⟩
      have hx : revA y ∈ backL l := List.mem_map.2 ⟨y, hy, rfl⟩
      have := Way.cons (t := s) hx (show Way (backL l) s (revA y).f1 (rd D y.f0) m from hm)
      rw [Int.add_comm, ← e]
      exact this
    · rw [if_neg e]; exact h.way v v0 v1
  · intro v v0 v1
    rw [hc v v0]
    split
    · rename_i e; rw [← e]; omega
    · exact Int.le_refl _
theorem l3All_round {n : Int} {l : List S58} (hn : Net1 n l) {s : Int} (hs : 0 ≤ s ∧ s < n) (r : Nat) (D0 : List Int) (h0 : SInv n l s D0) (hR : RInv l s D0 r) (q : Int) (P : List Int → Prop)
    (next : ∀ D, SInv n l s D → RInv l s D (r + 1) → ∃ R, P R ∧ Ev (fun k => spec_l3All.l1 k D (wrap64 (q + 1)) n l) R) :
    ∃ R, P R ∧ Ev (fun k => spec_l3All.l2 k D0 q 0 n l) R := by
  have hll := hn.len
  refine ev_ex (fun k (x : Nat × List Int) => spec_l3All.l2 k x.2 q (x.1 : Int) n l) (fun x => l.length - x.1) (fun x => x.1 ≤ l.length ∧ SInv n l s x.2 ∧ (∀ v, 0 ≤ v → v < n → rd x.2 v ≤ rd D0 v) ∧ ∀ j, j < x.1 → ∀ hj : j < l.length, rd x.2 l[j].f1 ≤ rd D0 l[j].f0 + l[j].f2 ∨ 99999 ≤ rd D0 l[j].f0) P ?_ (0, D0) ⟨Nat.zero_le _, h0, fun _ _ _ => Int.le_refl _, fun j hj => absurd hj (Nat.not_lt_zero _)⟩
  rintro ⟨i, D⟩ ⟨hi, hD, hle, hj⟩ ih
  simp only at hi hD hle hj ih ⊢
  by_cases h : i < l.length
  · have hlt : (i : Int) < (l.length : Int) := by omega
    have h0' : (0 : Int) ≤ (i : Int) := by omega
    have hxl : l[i] ∈ l := List.getElem_mem h
    obtain ⟨e1, e2, e3, e4, e5, e6, e7, _⟩ := hn.ends l[i] hxl
    have hlen := hD.len
    have g0 : l[i].f0 < (D.length : Int) := by omega
    have g1 : l[i].f1 < (D.length : Int) := by omega
    have r0 := hD.rng l[i].f0 e1 e2
    have r1 := hD.rng l[i].f1 e3 e4
    have l0 := hle l[i].f0 e1 e2
    have l1 := hle l[i].f1 e3 e4
    have w1 : wrap64 (rd D l[i].f0 + l[i].f2) = rd D l[i].f0 + l[i].f2 := w_id (by omega) (by omega)
    simp only [spec_l3All.l2, hlt, h0', if_true, arc_at l i h, e1, e3, g0, g1, wsucc h (show l.length ≤ 9223372036854775807 by omega), w1]
    by_cases hf : rd D l[i].f0 < 99999
    · by_cases hL : rd D l[i].f0 + l[i].f2 < rd D l[i].f1
      · simp only [hf, hL, if_true]
        obtain ⟨s1, s2⟩ := hD.step hn hs hxl hf hL
        refine ih (i + 1, D.set l[i].f1.toNat (rd D l[i].f0 + l[i].f2)) ⟨by simp; omega, s1, fun v v0 v1 => Int.le_trans (s2 v v0 v1) (hle v v0 v1), ?_⟩ (by simp; omega)
        intro j hji hjl
        simp only at hji ⊢
        obtain ⟨_, _, j3, j4, _⟩ := hn.ends l[j] (List.getElem_mem hjl)
        by_cases hjj : j = i
        · subst hjj
          left
          rw [rdi_set D _ _ _ e3 g1 e3, if_pos rfl]
          omega
        · rcases hj j (by omega) hjl with z | z
          · exact .inl (Int.le_trans (s2 _ j3 j4) z)
          · exact .inr z
      · simp only [hf, hL, if_true, if_false]
        refine ih (i + 1, D) ⟨by simp; omega, hD, hle, ?_⟩ (by simp; omega)
        intro j hji hjl
        simp only at hji ⊢
        by_cases hjj : j = i
        · subst hjj; omega
        · exact hj j (by omega) hjl
    · simp only [hf, if_false]
      refine ih (i + 1, D) ⟨by simp; omega, hD, hle, ?_⟩ (by simp; omega)
      intro j hji hjl
      simp only at hji ⊢
      by_cases hjj : j = i
      · subst hjj; right; omega
      · exact hj j (by omega) hjl
  · have hlt : ¬ (i : Int) < (l.length : Int) := by omega
    simp only [spec_l3All.l2, hlt, if_false]
    refine next D hD ?_
    intro v c m hw hm
    cases hw with
    | nil => rw [hD.sz]; exact Int.le_refl _
    | @cons x c m hx hw =>
      obtain ⟨y, hy, rfl⟩ := List.mem_map.1 hx
      obtain ⟨j, hjl, rfl⟩ := List.getElem_of_mem hy
      have h1 := hR _ _ _ hw (by omega)
      obtain ⟨j1, j2, j3, j4, j5, j6, j7, _⟩ := hn.ends l[j] hy
      have r1 := hD.rng l[j].f1 j3 j4
      have h2 := hj j (by omega) hjl
      simp only [revA] at h1 ⊢
      omega
theorem l3All_fill {n : Int} {l : List S58} (hn : Net1 n l) {s : Int} (hs : 0 ≤ s ∧ s < n) (P : List Int → Prop)
    (next : ∀ D, SInv n l s D → RInv l s D 0 → ∃ R, P R ∧ Ev (fun k => spec_l3All.l1 k D 0 n l) R) : ∃ R, P R ∧ Ev (fun k => spec_l3All.f k n l s) R := by
  have hlo := hn.lo
  have hhi := hn.hi
  unfold spec_l3All.f
  have b1 : (0 : Int) ≤ n := by omega
  have b2 : n.toNat ≤ 35184372088832 := by omega
  simp only [b1, b2, if_true]
  refine ev_ex (fun k (x : Nat × List Int) => spec_l3All.l0 k s x.2 (x.1 : Int) n l) (fun x => n.toNat - x.1) (fun x => x.1 ≤ n.toNat ∧ (x.2.length : Int) = n ∧ ∀ j : Nat, j < x.1 → rd x.2 (j : Int) = 99999) P ?_ (0, List.replicate n.toNat 0) ⟨Nat.zero_le _, by rw [List.length_replicate]; omega, fun j hj => absurd hj (Nat.not_lt_zero _)⟩
  rintro ⟨i, D⟩ ⟨hi, hlen, hj⟩ ih
  simp only at hi hlen hj ih ⊢
  by_cases h : i < n.toNat
  · have hlt : (i : Int) < n := by omega
    have h0 : (0 : Int) ≤ (i : Int) := by omega
    have g : (i : Int) < (D.length : Int) := by omega
    simp only [spec_l3All.l0, hlt, h0, g, if_true, wsucc h (show n.toNat ≤ 9223372036854775807 by omega)]
    refine ih (i + 1, D.set (i : Int).toNat 99999) ⟨by simp; omega, by rw [List.length_set]; exact hlen, ?_⟩ (by simp; omega)
    intro j hji
    simp only at hji ⊢
    rw [rdi_set D _ _ _ h0 g (by omega)]
    by_cases e : (i : Int) = (j : Int)
    · rw [if_pos e]
    · rw [if_neg e]; exact hj j (by omega)
  · have hlt : ¬ (i : Int) < n := by omega
    have g : s < (D.length : Int) := by omega
    simp only [spec_l3All.l0, hlt, hs.1, g, if_false, if_true]
    have hc : ∀ j, 0 ≤ j → j < n → rd (D.set s.toNat 0) j = if s = j then 0 else 99999 := by
      intro j j0 j1
      rw [rdi_set D _ _ _ hs.1 g j0]
      split
      · rfl
      · obtain ⟨k, rfl⟩ : ∃ k : Nat, j = (k : Int) := ⟨j.toNat, by omega⟩
        exact hj k (by omega)
    refine next _ ⟨by rw [List.length_set]; exact hlen, ?_, ?_, ?_⟩ ?_
    · intro v v0 v1
      rw [hc v v0 v1]
      split <;> omega
    · rw [hc s hs.1 hs.2, if_pos rfl]
    · intro v v0 v1
      rw [hc v v0 v1]
      split
      · rename_i e; subst e; intro _; exact ⟨0, Way.nil⟩
      · intro h; omega
    · intro v c m hw hm
      cases hw with
      | nil => rw [hc s hs.1 hs.2, if_pos rfl]; exact Int.le_refl _
      | cons _ _ => omega
theorem l3All_ex {n : Int} {l : List S58} (hn : Net1 n l) {s : Int} (hs : 0 ≤ s ∧ s < n) : ∃ D, (SInv n l s D ∧ RInv l s D n.toNat) ∧ Ev (fun k => spec_l3All.f k n l s) D := by
  have hlo := hn.lo
  have hhi := hn.hi
  refine l3All_fill hn hs _ fun D hD hR => ?_
  refine ev_ex (fun k (x : Nat × List Int) => spec_l3All.l1 k x.2 (x.1 : Int) n l) (fun x => n.toNat - x.1) (fun x => x.1 ≤ n.toNat ∧ SInv n l s x.2 ∧ RInv l s x.2 x.1) _ ?_ (0, D) ⟨Nat.zero_le _, hD, hR⟩
  rintro ⟨r, D⟩ ⟨hr, hD, hR⟩ ih
  simp only at hr hD hR ih ⊢
  by_cases h : r < n.toNat
  · have hlt : (r : Int) < n := by omega
    simp only [spec_l3All.l1, hlt, if_true]
    refine l3All_round hn hs r D hD hR r _ fun D1 h1 h2 => ?_
    rw [wsucc h (show n.toNat ≤ 9223372036854775807 by omega)]
    exact ih (r + 1, D1) ⟨by simp; omega, h1, h2⟩ (by simp; omega)
  · have hlt : ¬ (r : Int) < n := by omega
    simp only [spec_l3All.l1, hlt, if_false]
    have : r = n.toNat := by omega
    rw [this] at hR
    exact ⟨D, ⟨hD, hR⟩, ev_now fun _ => rfl⟩
/-- Both are the same: the costs of the program's measures on a net, and what the reference makes of the net turned round. -/
theorem near_same {n : Int} {l : List S58} (hn : Net1 n l) {t : Int} (ht : 0 ≤ t ∧ t < n) {M : List S114} (hM : Fin1 n l t M) {D : List Int} (hD : SInv n (backL l) t D) (hR : RInv (backL l) t D n.toNat) : (M.map fun m => m.f0) = D := by
  have hlo := hn.lo
  have l1 := hM.1.len
  have l2 := hD.len
  have key : ∀ v, 0 ≤ v → v < n → cM M v = rd D v := by
    intro v v0 v1
    have r1 := hM.1.rng v v0 v1
    have r2 := hD.rng v v0 v1
    have a1 : rd D v ≤ cM M v := by
      by_cases hf : cM M v = 99999
      · omega
      · have hw := hM.1.way v v0 v1 hf
        rw [← backL_backL l] at hw
        have := hM.few hn v0 v1 hf
        exact hR _ _ _ hw (by omega)
    have a2 : cM M v ≤ rd D v := by
      by_cases hf : rd D v < 99999
      · obtain ⟨m, hw⟩ := hD.way v v0 v1 hf
        rw [backL_backL] at hw
        have := hM.low hn hw
        omega
      · omega
    omega
  apply List.ext_getElem
  · rw [List.length_map]; omega
  · intro i h1 h2
    rw [List.length_map] at h1
    have := key i (by omega) (by omega)
    rw [cM_get M i h1, rd_at D i h2] at this
    rw [List.getElem_map]
    exact this
/-! ### costs, and the net turned round -/
theorem costs_ev (M : List S114) (h : M.length ≤ 1000) : Ev (fun k => impl_costs.f k M) (M.map fun m => m.f0) := by
  unfold impl_costs.f
  have h1 : ((M.length : Int) : Int).toNat ≤ 35184372088832 := by omega
  simp only [h1, if_true]
  have := ev_ind (fun k (s : Nat × List Int) => impl_costs.l0 k s.2 M (M.length : Int) (s.1 : Int)) (fun s => M.length - s.1) (fun s => s.1 ≤ M.length ∧ s.2.length ≤ s.1) (fun s => s.2 ++ (M.drop s.1).map fun m => m.f0) ?_ (0, []) ⟨Nat.zero_le _, by simp⟩
  · simpa using this
  rintro ⟨i, x⟩ ⟨hi, hx⟩ ih
  simp only at hi hx ih ⊢
  by_cases h : i < M.length
  · have hlt : (i : Int) < (M.length : Int) := by omega
    have h0 : (0 : Int) ≤ (i : Int) := by omega
    have b1 : x.length < 17592186044416 := by omega
    simp only [impl_costs.l0, hlt, h0, b1, if_true, wsucc h (show M.length ≤ 9223372036854775807 by omega)]
    refine ev_at (ih (i + 1, x ++ [(rd_T114 M (i : Int)).f0]) ⟨by simp; omega, by simp; omega⟩ (by simp; omega)) ?_
    rw [List.drop_eq_getElem_cons h, List.map_cons, List.append_assoc]
    simp [rd_T114, h]
  · have hlt : ¬ (i : Int) < (M.length : Int) := by omega
    simp only [impl_costs.l0, hlt, if_false]
    refine ev_now fun k => ?_
    rw [List.drop_of_length_le (by omega)]
    simp
theorem back_ev (n : Int) (l : List S58) (hl : l.length ≤ 1000) : Ev (fun k => impl_Net_back.f k n l) (n, backL l) := by
  unfold impl_Net_back.f
  have h1 : ((l.length : Int) : Int).toNat ≤ 7036874417766 := by omega
  simp only [h1, if_true]
  have := ev_ind (fun k (s : Nat × List S58) => impl_Net_back.l0 k l (l.length : Int) (s.1 : Int) n s.2) (fun s => l.length - s.1) (fun s => s.1 ≤ l.length ∧ s.2.length ≤ s.1) (fun s => (n, s.2 ++ backL (l.drop s.1))) ?_ (0, []) ⟨Nat.zero_le _, by simp⟩
  · simpa using this
  rintro ⟨i, x⟩ ⟨hi, hx⟩ ih
  simp only at hi hx ih ⊢
  by_cases h : i < l.length
  · have hlt : (i : Int) < (l.length : Int) := by omega
    have h0 : (0 : Int) ≤ (i : Int) := by omega
    have b1 : x.length < 3518437208883 := by omega
    simp only [impl_Net_back.l0, hlt, h0, b1, if_true, wsucc h (show l.length ≤ 9223372036854775807 by omega), arc_at l i h]
    refine ev_at (ih (i + 1, x ++ [revA l[i]]) ⟨by simp; omega, by simp; omega⟩ (by simp; omega)) ?_
    rw [List.drop_eq_getElem_cons h, backL, backL, List.map_cons, List.append_assoc]
    rfl
  · have hlt : ¬ (i : Int) < (l.length : Int) := by omega
    simp only [impl_Net_back.l0, hlt, if_false]
    refine ev_now fun k => ?_
    rw [List.drop_of_length_le (by omega)]
    simp [backL]
/-! ### least costs from a node -/
/-- What is true of the least costs from a node. -/
structure Dist (n : Int) (l : List S58) (s : Int) (D : List Int) : Prop where
  impl : Ev (fun k => impl_Net_from.f k n l s) D
  spec : Ev (fun k => spec_l3All.f k n l s) D
  inv : SInv n l s D
  low : ∀ v c m, Way (backL l) s v c m → rd D v ≤ c
theorem dist_ex {n : Int} {l : List S58} (hn : Net1 n l) {s : Int} (hs : 0 ≤ s ∧ s < n) : ∃ D, Dist n l s D := by
  obtain ⟨M, hM, he⟩ := toward_ex hn.back hs
  obtain ⟨D, ⟨hD, hR⟩, hd⟩ := l3All_ex hn hs
  have e : (M.map fun m => m.f0) = D := near_same hn.back hs hM (by rw [backL_backL]; exact hD) (by rw [backL_backL]; exact hR)
  have hlow : ∀ v c m, Way (backL l) s v c m → rd D v ≤ c := by
    intro v c m hw
    have hv := hw.node hn.back hs
    have h1 := hM.low hn.back hw
    have h2 := hM.1.rng v hv.1 hv.2
    have h3 : rd D v = cM M v := by
      have hl := hM.1.len
      obtain ⟨i, rfl⟩ : ∃ i : Nat, v = (i : Int) := ⟨v.toNat, by omega⟩
      rw [← e, cM_get M i (by omega), rd_at _ i (by rw [List.length_map]; omega), List.getElem_map]
    omega
  refine ⟨D, ?_, hd, hD, hlow⟩
  unfold impl_Net_from.f
  refine Ev.bind (back_ev n l (by have := hn.len; omega)) ?_
  refine Ev.bind he ?_
  refine Ev.bind (costs_ev M (by have := hM.1.len; have := hn.hi; omega)) (ev_now fun _ => by rw [e])

theorem Dist.sym {n : Int} {l : List S58} {a b : Int} {D E : List Int} (ha : 0 ≤ a ∧ a < n) (hb : 0 ≤ b ∧ b < n) (hD : Dist n l a D) (hE : Dist n (backL l) b E) : rd D b = rd E a := by
  have r1 := hD.inv.rng b hb.1 hb.2
  have r2 := hE.inv.rng a ha.1 ha.2
  have h1 : rd E a ≤ rd D b := by
    by_cases h : rd D b < 99999
    · obtain ⟨m, hw⟩ := hD.inv.way b hb.1 hb.2 h
      exact hE.low _ _ _ hw.rev
    · omega
  have h2 : rd D b ≤ rd E a := by
    by_cases h : rd E a < 99999
    · obtain ⟨m, hw⟩ := hE.inv.way a ha.1 ha.2 h
      have := hw.rev
      rw [backL_backL] at this
      exact hD.low _ _ _ this
    · omega
  omega
open Classical in
/-- The least costs from a node, as a list. -/
noncomputable def distV (n : Int) (l : List S58) (s : Int) : List Int := if h : ∃ D, Dist n l s D then h.choose else []
theorem distV_is {n : Int} {l : List S58} (hn : Net1 n l) {s : Int} (hs : 0 ≤ s ∧ s < n) : Dist n l s (distV n l s) := by
  unfold distV
  rw [dif_pos (dist_ex hn hs)]
  exact (dist_ex hn hs).choose_spec
/-! ### all distances -/
theorem table_ev {n : Int} {l : List S58} (hn : Net1 n l) : Ev (fun k => impl_Net_table.f k n l) ((List.range n.toNat).map fun v : Nat => distV n l (v : Int)) := by
  have hlo := hn.lo
  have hhi := hn.hi
  unfold impl_Net_table.f
  have b0 : (0 : Int) ≤ n := by omega
  have b1 : n.toNat ≤ 11728124029610 := by omega
  simp only [b0, b1, if_true]
  refine ev_at (ev_ind (fun k (i : Nat) => impl_Net_table.l0 k ((List.range i).map fun v : Nat => distV n l (v : Int)) n (i : Int) n l) (fun i => n.toNat - i) (fun i => i ≤ n.toNat) (fun _ => (List.range n.toNat).map fun v : Nat => distV n l (v : Int)) ?_ 0 (Nat.zero_le _)) rfl
  intro i hi ih
  by_cases h : i < n.toNat
  · have hlt : (i : Int) < n := by omega
    have hD := distV_is hn (s := (i : Int)) (by omega)
    have b2 : ((List.range i).map fun v : Nat => distV n l (v : Int)).length < 5864062014805 := by rw [List.length_map, List.length_range]; omega
    simp only [impl_Net_table.l0, hlt, if_true]
    refine Ev.bind hD.impl ?_
    simp only [b2, if_true, wsucc h (show n.toNat ≤ 9223372036854775807 by omega)]
    have := ih (i + 1) (by omega) (by omega)
    rw [List.range_succ, List.map_append] at this
    exact this
  · have hlt : ¬ (i : Int) < n := by omega
    simp only [impl_Net_table.l0, hlt, if_false]
    refine ev_now fun k => ?_
    rw [show i = n.toNat by omega]
noncomputable def tableV (n : Int) (l : List S58) : List (List Int) := (List.range n.toNat).map fun v : Nat => distV n l (v : Int)
theorem tableV_length (n : Int) (l : List S58) : (tableV n l).length = n.toNat := by unfold tableV; rw [List.length_map, List.length_range]
theorem tableV_at (n : Int) (l : List S58) (i : Nat) (h : i < n.toNat) : rd_L3 (tableV n l) (i : Int) = distV n l (i : Int) := by
  unfold rd_L3 tableV
  rw [List.getD_eq_getElem?_getD, Int.toNat_natCast, List.getElem?_map, List.getElem?_range h]
  rfl
/-! ### ways and rounds -/
theorem ev_one {α : Type} {g : Nat → Option α} {a b : α} (h : Ev g a) (h' : Ev g b) : a = b := by
  obtain ⟨K, h⟩ := h
  obtain ⟨K', h'⟩ := h'
  have h1 := h (max K K') (by omega)
  rw [h' (max K K') (by omega)] at h1
  exact (Option.some.inj h1).symm
theorem Way.trans {l : List S58} {t v u c c' : Int} {m m' : Nat} (h1 : Way l t v c m) (h2 : Way l v u c' m') : Way l t u (c' + c) (m' + m) := by
  induction h2 with
  | nil => simpa using h1
  | @cons x c' m' hx _ ih =>
    have := Way.cons hx ih
    rw [show x.f2 + c' + c = x.f2 + (c' + c) by omega, show m' + 1 + m = (m' + m) + 1 by omega]
    exact this
theorem Way.cost {n : Int} {l : List S58} (hn : Net1 n l) {t v c : Int} {m : Nat} (h : Way l t v c m) : 0 ≤ c ∧ c ≤ 99 * (m : Int) := by
  induction h with
  | nil => simp
  | @cons x c m hx _ ih =>
    obtain ⟨_, _, _, _, _, h1, h2, _⟩ := hn.ends _ hx
    omega
theorem inB_node {n : Int} {l : List S58} (hn : Net1 n l) {a : Int} (h : 0 ≤ a ∧ a < n) : inB a 0 (wrap64 (n - 1)) = true := by
  have := hn.lo
  have := hn.hi
  rw [inB_iff, w_id (n := n - 1) (by omega) (by omega)]
  omega
/-! ### what holds of least costs -/
theorem Dist.meas {n : Int} {l : List S58} (hn : Net1 n l) {s : Int} (hs : 0 ≤ s ∧ s < n) {D : List Int} (hD : Dist n l s D) : ∃ M, Fin1 n (backL l) s M ∧ ∀ v, 0 ≤ v → v < n → cM M v = rd D v := by
  obtain ⟨M, hM, _⟩ := toward_ex hn.back hs
  obtain ⟨D', ⟨h1, h2⟩, hd⟩ := l3All_ex hn hs
  have e : (M.map fun m => m.f0) = D' := near_same hn.back hs hM (by rw [backL_backL]; exact h1) (by rw [backL_backL]; exact h2)
  have e2 : D' = D := ev_one hd hD.spec
  refine ⟨M, hM, fun v v0 v1 => ?_⟩
  have hl := hM.1.len
  obtain ⟨i, rfl⟩ : ∃ i : Nat, v = (i : Int) := ⟨v.toNat, by omega⟩
  rw [← e2, ← e, cM_get M i (by omega), rd_at _ i (by rw [List.length_map]; omega), List.getElem_map]
theorem Dist.small {n : Int} {l : List S58} (hn : Net1 n l) {s : Int} (hs : 0 ≤ s ∧ s < n) {D : List Int} (hD : Dist n l s D) {v : Int} (v0 : 0 ≤ v) (v1 : v < n) (h : rd D v < 99999) : rd D v ≤ 700 := by
  obtain ⟨M, hM, he⟩ := hD.meas hn hs
  have hhi := hn.hi
  have e := he v v0 v1
  have hc : cM M v ≠ 99999 := by omega
  have h1 := hM.few hn.back v0 v1 hc
  have h2 := (hM.1.way v v0 v1 hc).cost hn.back
  have h3 := hM.1.rng v v0 v1
  omega
theorem Dist.tri {n : Int} {l : List S58} {a k : Int} (hk : 0 ≤ k ∧ k < n) {A K : List Int} (hA : Dist n l a A) (hK : Dist n l k K) {v : Int} (v0 : 0 ≤ v) (v1 : v < n) (h1 : rd A k < 99999) (h2 : rd K v < 99999) : rd A v ≤ rd A k + rd K v := by
  obtain ⟨m1, w1⟩ := hA.inv.way k hk.1 hk.2 h1
  obtain ⟨m2, w2⟩ := hK.inv.way v v0 v1 h2
  have := hA.low _ _ _ (w1.trans w2)
  omega
theorem Dist.arc {n : Int} {l : List S58} (hn : Net1 n l) {a : Int} {D : List Int} (hD : Dist n l a D) {x : S58} (hx : x ∈ l) (h : rd D x.f0 < 99999) : rd D x.f1 ≤ rd D x.f0 + x.f2 := by
  obtain ⟨e1, e2, e3, e4, _⟩ := hn.ends x hx
  obtain ⟨m, hw⟩ := hD.inv.way x.f0 e1 e2 h
  have hx' : revA x ∈ backL l := List.mem_map.2 ⟨x, hx, rfl⟩
  have := hD.low _ _ _ (Way.cons (t := a) hx' (show Way (backL l) a (revA x).f1 (rd D x.f0) m from hw))
  simp only [revA] at this
  omega
theorem dist_one {n : Int} {l : List S58} {s : Int} {D E : List Int} (hD : Dist n l s D) (hE : Dist n l s E) : D = E := ev_one hD.spec hE.spec
/-! ### sights -/
theorem row_at (s : List (List Int)) (i : Nat) (h : i < s.length) : rd_L3 s (i : Int) = s[i] := by simp [rd_L3, h]
/-- Are they sights of a net of n nodes. -/
def sightsB (n : Int) (s : List (List Int)) : Bool := !(s.any (seenBad n)) && inB (s.length : Int) 1 6
theorem seenOk_eq (n : Int) (l : List S58) (s : List (List Int)) : impl_seenOk.f n l s = some (netOkB n l && sightsB n s) := by
  unfold impl_seenOk.f seenOkB sightsB
  cases netOkB n l <;> cases inB (s.length : Int) 1 6 <;> cases s.any (seenBad n) <;> rfl
structure Sights (n : Int) (s : List (List Int)) : Prop where
  lo : 1 ≤ s.length
  hi : s.length ≤ 6
  len : ∀ i : Nat, i < s.length → ((rd_L3 s (i : Int)).length : Int) = n
  rng : ∀ (i : Nat) (v : Int), i < s.length → 0 ≤ v → v < n → 0 ≤ rd (rd_L3 s (i : Int)) v ∧ rd (rd_L3 s (i : Int)) v ≤ 99
theorem sights_of {n : Int} {s : List (List Int)} (h : sightsB n s = true) : Sights n s := by
  unfold sightsB at h
  rw [Bool.and_eq_true, inB_iff, Bool.not_eq_true'] at h
  have key : ∀ i : Nat, i < s.length → ((rd_L3 s (i : Int)).length : Int) = n ∧ ∀ x ∈ rd_L3 s (i : Int), 0 ≤ x ∧ x ≤ 99 := by
    intro i hi
    rw [row_at s i hi]
    have hb : seenBad n s[i] = false := by
      cases hc : seenBad n s[i] with
      | false => rfl
      | true =>
        have : s.any (seenBad n) = true := List.any_eq_true.2 ⟨_, List.getElem_mem hi, hc⟩
        rw [this] at h
        cases h.1
    unfold seenBad at hb
    rw [Bool.or_eq_false_iff, decide_eq_false_iff_not, Decidable.not_not] at hb
    refine ⟨hb.1, fun x hx => ?_⟩
    cases hc : inB x 0 99 with
    | true => exact inB_iff.1 hc
    | false =>
      have : s[i].any (fun c => !(inB c 0 99)) = true := List.any_eq_true.2 ⟨x, hx, by rw [hc]; rfl⟩
      rw [this] at hb
      cases hb.2
  refine ⟨by omega, by omega, fun i hi => (key i hi).1, fun i v hi v0 v1 => (key i hi).2 _ ?_⟩
  obtain ⟨a, rfl⟩ := Int.eq_ofNat_of_zero_le v0
  have hl := (key i hi).1
  rw [rd_at _ a (by omega)]
  exact List.getElem_mem _
theorem seen_ok {n : Int} {l : List S58} {s : List (List Int)} (h : (netOkB n l && sightsB n s) = true) : Net1 n l ∧ Sights n s := by
  rw [Bool.and_eq_true] at h
  exact ⟨net1_of h.1, sights_of h.2⟩
/-! ### what nodes cost -/
theorem hasB_of {n : Int} {l : List S58} (hn : Net1 n l) {s : List Int} (h : hasB n s = true) : ∀ i : Nat, i < s.length → 0 ≤ rd s (i : Int) ∧ rd s (i : Int) < n := by
  intro i hi
  refine node_of hn ?_
  rw [rd_at s i hi]
  cases h2 : inB s[i] 0 (wrap64 (n - 1)) with
  | true => rfl
  | false =>
    unfold hasB at h
    have : s.any (fun v => !(inB v 0 (wrap64 (n - 1)))) = true := List.any_eq_true.2 ⟨s[i], List.getElem_mem hi, by rw [h2]; rfl⟩
    rw [this] at h
    cases h
noncomputable def accN (n : Int) (l : List S58) (s : List (List Int)) (ns : List Int) : Nat → Option Int
  | 0 => some 0
  | i + 1 => (accN n l s ns i).bind fun a => if i = 0 then some (a + rd (rd_L3 s (i : Int)) (rd ns (i : Int))) else if rd (distV n l (rd ns ((i - 1 : Nat) : Int))) (rd ns (i : Int)) = 99999 then none else some (a + rd (rd_L3 s (i : Int)) (rd ns (i : Int)) + rd (distV n l (rd ns ((i - 1 : Nat) : Int))) (rd ns (i : Int)))
noncomputable def costN (n : Int) (l : List S58) (s : List (List Int)) (ns : List Int) : Int := (accN n l s ns ns.length).getD 99999
theorem accN_none {n : Int} {l : List S58} {s : List (List Int)} {ns : List Int} {i : Nat} (h : accN n l s ns i = none) : ∀ d, accN n l s ns (i + d) = none
  | 0 => h
  | d + 1 => by show (accN n l s ns (i + d)).bind _ = none; rw [accN_none h d]; rfl
noncomputable def seenCostV (n : Int) (l : List S58) (s : List (List Int)) (ns : List Int) : Int := if (netOkB n l && sightsB n s) = true ∧ ns.length = s.length ∧ hasB n ns = true then costN n l s ns else -1
/-! ### the least, and where it is first -/
theorem minK_le (l : List Int) : ∀ k j : Nat, j ≤ k → minK l k ≤ rd l (j : Int)
  | 0, j, h => by
    have : j = 0 := by omega
    subst this
    exact Int.le_refl _
  | k + 1, j, h => by
    unfold minK
    by_cases e : j = k + 1
    · subst e; split <;> omega
    · have := minK_le l k j (by omega)
      split <;> omega
theorem minK_hit (l : List Int) : ∀ k : Nat, ∃ j : Nat, j ≤ k ∧ rd l (j : Int) = minK l k ∧ ∀ i : Nat, i < j → rd l (i : Int) ≠ minK l k
  | 0 => ⟨0, Nat.le_refl _, rfl, fun i h => absurd h (Nat.not_lt_zero _)⟩
  | k + 1 => by
    unfold minK
    obtain ⟨j, h1, h2, h3⟩ := minK_hit l k
    by_cases c : rd l ((k + 1 : Nat) : Int) < minK l k
    · rw [if_pos c]
      refine ⟨k + 1, Nat.le_refl _, rfl, fun i hi => ?_⟩
      have := minK_le l k i (by omega)
      omega
    · rw [if_neg c]
      exact ⟨j, by omega, h2, h3⟩
/-- The least of Far and f's first numbers, and the first place of it. -/
def minF (f : Nat → Int) : Nat → Int
  | 0 => 99999
  | u + 1 => if f u < minF f u then f u else minF f u
def argF (f : Nat → Int) : Nat → Nat
  | 0 => 0
  | u + 1 => if f u < minF f u then u else argF f u
theorem minF_le (f : Nat → Int) : ∀ n u : Nat, u < n → minF f n ≤ f u
  | 0, u, h => absurd h (Nat.not_lt_zero _)
  | n + 1, u, h => by
    unfold minF
    by_cases e : u = n
    · subst e; split <;> omega
    · have := minF_le f n u (by omega)
      split <;> omega
theorem minF_att (f : Nat → Int) : ∀ n : Nat, minF f n < 99999 → argF f n < n ∧ f (argF f n) = minF f n ∧ ∀ u : Nat, u < argF f n → f u ≠ minF f n
  | 0, h => absurd h (by unfold minF; omega)
  | n + 1, h => by
    rw [minF] at h ⊢
    rw [argF]
    by_cases c : f n < minF f n
    · rw [if_pos c, if_pos c]
      refine ⟨by omega, rfl, fun u hu => ?_⟩
      have := minF_le f n u hu
      omega
    · rw [if_neg c] at h
      rw [if_neg c, if_neg c]
      obtain ⟨h1, h2, h3⟩ := minF_att f n h
      exact ⟨by omega, h2, h3⟩
theorem minF_ge (f : Nat → Int) (b : Int) (hb : b ≤ 99999) : ∀ n : Nat, (∀ u : Nat, u < n → b ≤ f u) → b ≤ minF f n
  | 0, _ => hb
  | n + 1, h => by
    unfold minF
    have := minF_ge f b hb n (fun u hu => h u (by omega))
    have := h n (by omega)
    split <;> omega
theorem minF_congr {f g : Nat → Int} : ∀ n : Nat, (∀ u : Nat, u < n → f u = g u) → minF f n = minF g n ∧ argF f n = argF g n
  | 0, _ => ⟨rfl, rfl⟩
  | n + 1, h => by
    obtain ⟨h1, h2⟩ := minF_congr n (fun u hu => h u (by omega))
    exact ⟨by unfold minF; rw [h n (by omega), h1], by unfold argF; rw [h n (by omega), h1, h2]⟩
theorem bestV_eq (all least s : List (List Int)) (i v : Nat) : ∀ u : Nat, bestV all least s i v u = minF (fun u => stepV all least s i u v) u
  | 0 => rfl
  | u + 1 => by unfold bestV minF; rw [bestV_eq all least s i v u]
theorem seekV_hit (p : Nat → Bool) : ∀ (c u m : Nat), u ≤ m → m < u + c → p m = true → (∀ j : Nat, u ≤ j → j < m → p j = false) → seekV p c u = some m
  | 0, u, m, h1, h2, _, _ => absurd h2 (by omega)
  | c + 1, u, m, h1, h2, h3, h4 => by
    unfold seekV
    by_cases e : u = m
    · subst e; rw [if_pos h3]
    · rw [h4 u (Nat.le_refl _) (by omega), if_neg Bool.false_ne_true]
      exact seekV_hit p c (u + 1) m (by omega) (by omega) h3 (fun j h5 h6 => h4 j (by omega) h6)
/-! ### rows of least costs -/
/-- The row of sight i. -/
def lvV (N : Nat) (all s : List (List Int)) (i : Nat) : List Int := rdR (leastV N all s (i + 1)) (i : Int)
theorem leastV_at (N : Nat) (all s : List (List Int)) : ∀ m j : Nat, j < m → rdR (leastV N all s m) (j : Int) = lvV N all s j
  | 0, j, h => absurd h (Nat.not_lt_zero _)
  | m + 1, j, h => by
    by_cases e : j = m
    · subst e; rfl
    · have ih := leastV_at N all s m j (by omega)
      rw [← ih]
      have hm : ¬ m = 0 := by omega
      have hx : leastV N all s (m + 1) = leastV N all s m ++ [rowV N all (leastV N all s m) s m] := by rw [leastV, if_neg hm]
      rw [hx, rdR_nat, rdR_nat, List.getD_eq_getElem?_getD, List.getElem?_append_left (by rw [leastV_length]; omega), ← List.getD_eq_getElem?_getD]
theorem lvV_zero (N : Nat) (all s : List (List Int)) : lvV N all s 0 = rdR s 0 := by
  unfold lvV
  rw [rdR_nat]
  rfl
theorem lvV_succ (N : Nat) (all s : List (List Int)) (i : Nat) : lvV N all s (i + 1) = rowV N all (leastV N all s (i + 1)) s (i + 1) := by
  unfold lvV
  have hx : leastV N all s (i + 1 + 1) = leastV N all s (i + 1) ++ [rowV N all (leastV N all s (i + 1)) s (i + 1)] := by rw [leastV, if_neg (by omega)]
  rw [hx, rdR_nat, List.getD_eq_getElem?_getD, List.getElem?_append_right (by rw [leastV_length]; omega), leastV_length, Nat.sub_self]
  rfl
/-- What it costs to come to v by u, from sight i to the next. -/
def stV (N : Nat) (all s : List (List Int)) (i u v : Nat) : Int := if rd (rdR all (u : Int)) (v : Int) = 99999 then 99999 else wrap64 (wrap64 (rd (lvV N all s i) (u : Int) + rd (rdR all (u : Int)) (v : Int)) + rd (rdR s ((i + 1 : Nat) : Int)) (v : Int))
theorem stepV_eq (N : Nat) (all s : List (List Int)) (m i u v : Nat) (h : i < m) : stepV all (leastV N all s m) s (i + 1) u v = stV N all s i u v := by
  unfold stepV stV
  rw [Nat.add_sub_cancel, leastV_at N all s m i h]
theorem lvV_at (N : Nat) (all s : List (List Int)) (i v : Nat) (hv : v < N) : rd (lvV N all s (i + 1)) (v : Int) = minF (fun u => stV N all s i u v) N := by
  rw [lvV_succ]
  unfold rowV
  have : rd ((List.range N).map fun v => bestV all (leastV N all s (i + 1)) s (i + 1) v N) (v : Int) = bestV all (leastV N all s (i + 1)) s (i + 1) v N := by simp [rd, hv]
  rw [this, bestV_eq]
  exact (minF_congr N (fun u _ => stepV_eq N all s (i + 1) i u v (by omega))).1
/-- What is asked of a table and of sights. -/
structure SOk (N : Nat) (all s : List (List Int)) : Prop where
  n1 : 1 ≤ N
  s0 : 1 ≤ s.length
  s1 : s.length ≤ 6
  all0 : ∀ u v : Nat, u < N → v < N → 0 ≤ rd (rdR all (u : Int)) (v : Int)
  small : ∀ u v : Nat, u < N → v < N → rd (rdR all (u : Int)) (v : Int) ≠ 99999 → rd (rdR all (u : Int)) (v : Int) ≤ 10000
  diag : ∀ v : Nat, v < N → rd (rdR all (v : Int)) (v : Int) = 0
  sr : ∀ i v : Nat, i < s.length → v < N → 0 ≤ rd (rdR s (i : Int)) (v : Int) ∧ rd (rdR s (i : Int)) (v : Int) ≤ 99
theorem SOk.row {N : Nat} {all s : List (List Int)} (h : SOk N all s) : ∀ i v : Nat, i < s.length → v < N → 0 ≤ rd (lvV N all s i) (v : Int) ∧ rd (lvV N all s i) (v : Int) ≤ 99 * ((i : Int) + 1)
  | 0, v, hi, hv => by
    rw [lvV_zero]
    have := h.sr 0 v hi hv
    simpa using this
  | i + 1, v, hi, hv => by
    have ih := fun u hu => SOk.row h i u (by omega) hu
    have hs := h.sr (i + 1) v hi hv
    have h6 := h.s1
    rw [lvV_at N all s i v hv]
    have ev : stV N all s i v v = rd (lvV N all s i) (v : Int) + rd (rdR s ((i + 1 : Nat) : Int)) (v : Int) := by
      have := ih v hv
      unfold stV
      rw [h.diag v hv, if_neg (by omega), Int.add_zero, w_id (n := rd (lvV N all s i) (v : Int)) (by omega) (by omega), w_id (by omega) (by omega)]
    constructor
    · refine minF_ge _ 0 (by omega) N (fun u hu => ?_)
      simp only [stV]
      by_cases c : rd (rdR all (u : Int)) (v : Int) = 99999
      · rw [if_pos c]; omega
      · rw [if_neg c]
        have h1 := h.all0 u v hu hv
        have h2 := h.small u v hu hv c
        have h3 := ih u hu
        rw [w_id (n := rd (lvV N all s i) (u : Int) + rd (rdR all (u : Int)) (v : Int)) (by omega) (by omega), w_id (by omega) (by omega)]
        omega
    · have := minF_le (fun u => stV N all s i u v) N v hv
      have h3 := ih v hv
      simp only [ev] at this
      omega
theorem SOk.st {N : Nat} {all s : List (List Int)} (h : SOk N all s) (i u v : Nat) (hi : i + 1 < s.length) (hu : u < N) (hv : v < N) : stV N all s i u v = if rd (rdR all (u : Int)) (v : Int) = 99999 then 99999 else rd (lvV N all s i) (u : Int) + rd (rdR all (u : Int)) (v : Int) + rd (rdR s ((i + 1 : Nat) : Int)) (v : Int) := by
  unfold stV
  by_cases c : rd (rdR all (u : Int)) (v : Int) = 99999
  · rw [if_pos c, if_pos c]
  · rw [if_neg c, if_neg c]
    have h1 := h.all0 u v hu hv
    have h2 := h.small u v hu hv c
    have h3 := h.row i u (by omega) hu
    have h4 := h.sr (i + 1) v hi hv
    have h6 := h.s1
    rw [w_id (n := rd (lvV N all s i) (u : Int) + rd (rdR all (u : Int)) (v : Int)) (by omega) (by omega), w_id (by omega) (by omega)]
/-- Where one was ahead of v, the first of those. -/
def fromV (N : Nat) (all s : List (List Int)) (i v : Nat) : Nat := argF (fun u => stV N all s i u v) N
theorem SOk.from_ {N : Nat} {all s : List (List Int)} (h : SOk N all s) (i v : Nat) (hi : i + 1 < s.length) (hv : v < N) : fromV N all s i v < N ∧ stV N all s i (fromV N all s i v) v = rd (lvV N all s (i + 1)) (v : Int) ∧ rd (rdR all (fromV N all s i v : Int)) (v : Int) ≠ 99999 ∧ ∀ u : Nat, u < fromV N all s i v → stV N all s i u v ≠ rd (lvV N all s (i + 1)) (v : Int) := by
  have h1 := h.row (i + 1) v hi hv
  have h6 := h.s1
  rw [lvV_at N all s i v hv] at *
  obtain ⟨a, b, c⟩ := minF_att (fun u => stV N all s i u v) N (by omega)
  refine ⟨a, b, fun e => ?_, c⟩
  have b' : stV N all s i (fromV N all s i v) v = minF (fun u => stV N all s i u v) N := b
  have e2 : stV N all s i (fromV N all s i v) v = 99999 := by unfold stV; rw [if_pos e]
  omega
/-- The nodes up to sight i, the last of them v. -/
def pathV (N : Nat) (all s : List (List Int)) : Nat → Nat → List Int
  | 0, v => [(v : Int)]
  | i + 1, v => pathV N all s i (fromV N all s i v) ++ [(v : Int)]
theorem pathV_length (N : Nat) (all s : List (List Int)) : ∀ i v : Nat, (pathV N all s i v).length = i + 1
  | 0, _ => rfl
  | i + 1, v => by unfold pathV; rw [List.length_append, pathV_length N all s i]; rfl
theorem SOk.back {N : Nat} {all s : List (List Int)} (h : SOk N all s) : ∀ (i v : Nat) (tl : List Int), i < s.length → v < N → backV N all (leastV N all s s.length) s i v tl = some (pathV N all s i v ++ tl)
  | 0, v, tl, _, _ => rfl
  | i + 1, v, tl, hi, hv => by
    obtain ⟨a, b, _, c⟩ := h.from_ i v hi hv
    have hh : ∀ u : Nat, hitV all (leastV N all s s.length) s (i + 1) v u = (stV N all s i u v == rd (lvV N all s (i + 1)) (v : Int)) := fun u => by
      unfold hitV
      rw [stepV_eq N all s s.length i u v (by omega), leastV_at N all s s.length (i + 1) hi]
    unfold backV pathV
    rw [seekV_hit _ N 0 (fromV N all s i v) (Nat.zero_le _) (by omega) (by rw [hh, b]; exact beq_self_eq_true _) (fun j _ hj => by rw [hh]; exact beq_eq_false_iff_ne.2 (c j hj))]
    rw [Option.bind_some, SOk.back h i (fromV N all s i v) _ (by omega) a, List.append_assoc]
    rfl
/-- The first of the best nodes at the last sight. -/
noncomputable def bestAt (N : Nat) (all s : List (List Int)) : Nat := (minK_hit (lvV N all s (s.length - 1)) (N - 1)).choose
noncomputable def leastC (N : Nat) (all s : List (List Int)) : Int := minK (lvV N all s (s.length - 1)) (N - 1)
theorem SOk.at_ {N : Nat} {all s : List (List Int)} (h : SOk N all s) : bestAt N all s < N ∧ rd (lvV N all s (s.length - 1)) (bestAt N all s : Int) = leastC N all s ∧ ∀ i : Nat, i < bestAt N all s → rd (lvV N all s (s.length - 1)) (i : Int) ≠ leastC N all s := by
  obtain ⟨a, b, c⟩ := (minK_hit (lvV N all s (s.length - 1)) (N - 1)).choose_spec
  have := h.n1
  exact ⟨by unfold bestAt; omega, b, c⟩
theorem SOk.le_ {N : Nat} {all s : List (List Int)} (h : SOk N all s) (v : Nat) (hv : v < N) : leastC N all s ≤ rd (lvV N all s (s.length - 1)) (v : Int) := minK_le _ (N - 1) v (by omega)
/-! ### the best nodes for sights -/
theorem sok {n : Int} {l : List S58} (hn : Net1 n l) {s : List (List Int)} (hs : Sights n s) : SOk n.toNat (tableV n l) s := by
  have hlo := hn.lo
  have hd : ∀ u : Nat, u < n.toNat → rdR (tableV n l) (u : Int) = distV n l (u : Int) := fun u hu => tableV_at n l u hu
  refine ⟨by omega, hs.lo, hs.hi, fun u v hu hv => ?_, fun u v hu hv h => ?_, fun v hv => ?_, fun i v hi hv => hs.rng i (v : Int) hi (by omega) (by omega)⟩
  · rw [hd u hu]
    exact ((distV_is hn (s := (u : Int)) (by omega)).inv.rng (v : Int) (by omega) (by omega)).1
  · rw [hd u hu] at h ⊢
    have hD := distV_is hn (s := (u : Int)) (by omega)
    have h1 := (hD.inv.rng (v : Int) (by omega) (by omega)).2
    have := hD.small hn (by omega) (v := (v : Int)) (by omega) (by omega) (by omega)
    omega
  · rw [hd v hv]
    exact (distV_is hn (s := (v : Int)) (by omega)).inv.sz
theorem accN_succ {n : Int} {l : List S58} {s : List (List Int)} {ns : List Int} (i : Nat) : accN n l s ns (i + 1 + 1) = (accN n l s ns (i + 1)).bind fun a => if rd (distV n l (rd ns (i : Int))) (rd ns ((i + 1 : Nat) : Int)) = 99999 then none else some (a + rd (rd_L3 s ((i + 1 : Nat) : Int)) (rd ns ((i + 1 : Nat) : Int)) + rd (distV n l (rd ns (i : Int))) (rd ns ((i + 1 : Nat) : Int))) := by
  rfl
theorem accN_one {n : Int} {l : List S58} {s : List (List Int)} {ns : List Int} : accN n l s ns 1 = some (rd (rd_L3 s ((0 : Nat) : Int)) (rd ns ((0 : Nat) : Int))) := by
  show (some 0).bind _ = _
  simp
theorem accN_congr {n : Int} {l : List S58} {s s' : List (List Int)} {ns ns' : List Int} : ∀ i : Nat, (∀ j : Nat, j < i → rd ns (j : Int) = rd ns' (j : Int) ∧ rd_L3 s (j : Int) = rd_L3 s' (j : Int)) → accN n l s ns i = accN n l s' ns' i
  | 0, _ => rfl
  | 1, h => by rw [accN_one, accN_one, (h 0 (by omega)).1, (h 0 (by omega)).2]
  | i + 2, h => by
    rw [accN_succ, accN_succ, accN_congr (i + 1) (fun j hj => h j (by omega)), (h i (by omega)).1, (h (i + 1) (by omega)).1, (h (i + 1) (by omega)).2]
/-- Nodes cost no less than the least told for the last of them. -/
theorem accN_ge {n : Int} {l : List S58} (hn : Net1 n l) {s : List (List Int)} (hs : Sights n s) {ns : List Int} : ∀ (i : Nat) (a : Int), i < s.length → (∀ j : Nat, j ≤ i → 0 ≤ rd ns (j : Int) ∧ rd ns (j : Int) < n) → accN n l s ns (i + 1) = some a → rd (lvV n.toNat (tableV n l) s i) (rd ns (i : Int)) ≤ a
  | 0, a, hi, _, h => by
    rw [accN_one] at h
    have h := Option.some.inj h
    rw [lvV_zero, ← h]
    exact Int.le_refl _
  | i + 1, a, hi, hb, h => by
    rw [accN_succ] at h
    obtain ⟨b, h1, h2⟩ := Option.bind_eq_some_iff.mp h
    have ih := accN_ge hn hs i b (by omega) (fun j hj => hb j (by omega)) h1
    have b1 := hb i (by omega)
    have b2 := hb (i + 1) (by omega)
    obtain ⟨u, hu⟩ : ∃ u : Nat, rd ns (i : Int) = (u : Int) := ⟨(rd ns (i : Int)).toNat, by omega⟩
    obtain ⟨v, hv⟩ : ∃ v : Nat, rd ns ((i + 1 : Nat) : Int) = (v : Int) := ⟨(rd ns ((i + 1 : Nat) : Int)).toNat, by omega⟩
    rw [hu, hv] at h2
    rw [hv]
    rw [hu] at ih
    have hd : rdR (tableV n l) (u : Int) = distV n l (u : Int) := tableV_at n l u (by omega)
    have hS := sok hn hs
    have st := hS.st i u v hi (by omega) (by omega)
    rw [lvV_at _ _ _ i v (by omega)]
    have le := minF_le (fun u => stV n.toNat (tableV n l) s i u v) n.toNat u (by omega)
    simp only [st, hd] at le
    by_cases c : rd (distV n l (u : Int)) (v : Int) = 99999
    · rw [if_pos c] at h2; cases h2
    · rw [if_neg c] at h2 le
      have h2 := Option.some.inj h2
      have e : rd_L3 s ((i + 1 : Nat) : Int) = rdR s ((i + 1 : Nat) : Int) := rfl
      rw [e] at h2
      omega
theorem rd_app_lt (a : List Int) (x : Int) (j : Nat) (h : j < a.length) : rd (a ++ [x]) (j : Int) = rd a (j : Int) := by
  rw [rd_at _ j (by rw [List.length_append]; omega), rd_at a j h, List.getElem_append_left h]
theorem rd_app_last (a : List Int) (x : Int) : rd (a ++ [x]) ((a.length : Nat) : Int) = x := by
  rw [rd_at _ a.length (by rw [List.length_append]; exact Nat.lt_succ_self _)]
  simp
theorem pathV_last (N : Nat) (all s : List (List Int)) : ∀ i v : Nat, rd (pathV N all s i v) (i : Int) = (v : Int)
  | 0, v => rfl
  | i + 1, v => by
    have h := rd_app_last (pathV N all s i (fromV N all s i v)) (v : Int)
    rw [pathV_length] at h
    exact h
theorem pathV_node {N : Nat} {all s : List (List Int)} (h : SOk N all s) : ∀ i v : Nat, i < s.length → v < N → ∀ j : Nat, j ≤ i → 0 ≤ rd (pathV N all s i v) (j : Int) ∧ rd (pathV N all s i v) (j : Int) < (N : Int)
  | 0, v, _, hv, j, hj => by
    have : j = 0 := by omega
    subst this
    have := pathV_last N all s 0 v
    rw [this]
    omega
  | i + 1, v, hi, hv, j, hj => by
    by_cases e : j = i + 1
    · subst e
      rw [pathV_last]
      omega
    · obtain ⟨a, _⟩ := h.from_ i v hi hv
      have := pathV_node h i (fromV N all s i v) (by omega) a j (by omega)
      unfold pathV
      rw [rd_app_lt _ _ j (by rw [pathV_length]; omega)]
      exact this
theorem acc_path {n : Int} {l : List S58} (hn : Net1 n l) {s : List (List Int)} (hs : Sights n s) : ∀ i v : Nat, i < s.length → v < n.toNat → accN n l s (pathV n.toNat (tableV n l) s i v) (i + 1) = some (rd (lvV n.toNat (tableV n l) s i) (v : Int))
  | 0, v, _, _ => by
    rw [accN_one, lvV_zero]
    rfl
  | i + 1, v, hi, hv => by
    have hS := sok hn hs
    obtain ⟨hu, he, hf, _⟩ := hS.from_ i v hi hv
    have ih := acc_path hn hs i (fromV n.toNat (tableV n l) s i v) (by omega) hu
    have hd : rdR (tableV n l) (fromV n.toNat (tableV n l) s i v : Int) = distV n l (fromV n.toNat (tableV n l) s i v : Int) := tableV_at n l _ hu
    have hlen := pathV_length n.toNat (tableV n l) s i (fromV n.toNat (tableV n l) s i v)
    have c1 : accN n l s (pathV n.toNat (tableV n l) s (i + 1) v) (i + 1) = accN n l s (pathV n.toNat (tableV n l) s i (fromV n.toNat (tableV n l) s i v)) (i + 1) := accN_congr (i + 1) (fun j hj => ⟨rd_app_lt _ _ j (by omega), rfl⟩)
    have c2 : rd (pathV n.toNat (tableV n l) s (i + 1) v) (i : Int) = (fromV n.toNat (tableV n l) s i v : Int) := (rd_app_lt _ _ i (by omega)).trans (pathV_last n.toNat (tableV n l) s i _)
    have st := hS.st i (fromV n.toNat (tableV n l) s i v) v hi hu hv
    rw [accN_succ, c1, ih, c2, pathV_last]
    rw [hd] at hf st
    rw [if_neg hf] at st
    rw [Option.bind_some, if_neg hf, ← he, st]
    have e : rd_L3 s ((i + 1 : Nat) : Int) = rdR s ((i + 1 : Nat) : Int) := rfl
    rw [e]
    congr 1
    omega
/-- What SeenBest tells of sights that are ok. -/
noncomputable def bestN (n : Int) (l : List S58) (s : List (List Int)) : List Int := pathV n.toNat (tableV n l) s (s.length - 1) (bestAt n.toNat (tableV n l) s)
theorem bestN_length {n : Int} {l : List S58} {s : List (List Int)} (hs : Sights n s) : (bestN n l s).length = s.length := by
  have := hs.lo
  unfold bestN
  rw [pathV_length]
  omega
theorem bestN_node {n : Int} {l : List S58} (hn : Net1 n l) {s : List (List Int)} (hs : Sights n s) (j : Nat) (hj : j < s.length) : 0 ≤ rd (bestN n l s) (j : Int) ∧ rd (bestN n l s) (j : Int) < n := by
  have hS := sok hn hs
  have := hs.lo
  have h := pathV_node hS (s.length - 1) (bestAt n.toNat (tableV n l) s) (by omega) hS.at_.1 j (by omega)
  have := hn.lo
  unfold bestN
  omega
theorem bestN_cost {n : Int} {l : List S58} (hn : Net1 n l) {s : List (List Int)} (hs : Sights n s) : costN n l s (bestN n l s) = leastC n.toNat (tableV n l) s := by
  have hS := sok hn hs
  have := hs.lo
  obtain ⟨a, b, _⟩ := hS.at_
  have h := acc_path hn hs (s.length - 1) (bestAt n.toNat (tableV n l) s) (by omega) a
  rw [show s.length - 1 + 1 = s.length by omega] at h
  unfold costN
  rw [bestN_length hs]
  unfold bestN
  rw [h, ← b]
  rfl
theorem least_rng {n : Int} {l : List S58} (hn : Net1 n l) {s : List (List Int)} (hs : Sights n s) : 0 ≤ leastC n.toNat (tableV n l) s ∧ leastC n.toNat (tableV n l) s ≤ 1000 := by
  have hS := sok hn hs
  have := hs.lo
  have := hs.hi
  obtain ⟨a, b, _⟩ := hS.at_
  have := hS.row (s.length - 1) _ (by omega) a
  omega
theorem least_le {n : Int} {l : List S58} (hn : Net1 n l) {s : List (List Int)} (hs : Sights n s) {ns : List Int} (hl : ns.length = s.length) (hb : ∀ j : Nat, j < s.length → 0 ≤ rd ns (j : Int) ∧ rd ns (j : Int) < n) : leastC n.toNat (tableV n l) s ≤ costN n l s ns := by
  have hr := least_rng hn hs
  have h0 := hs.lo
  unfold costN
  cases h : accN n l s ns ns.length with
  | none => exact Int.le_trans hr.2 (by decide)
  | some a =>
    rw [hl, show s.length = s.length - 1 + 1 by omega] at h
    have h1 := accN_ge hn hs (s.length - 1) a (by omega) (fun j hj => hb j (by omega)) h
    have b1 := hb (s.length - 1) (by omega)
    obtain ⟨u, hu⟩ : ∃ u : Nat, rd ns ((s.length - 1 : Nat) : Int) = (u : Int) := ⟨(rd ns ((s.length - 1 : Nat) : Int)).toNat, by omega⟩
    rw [hu] at h1
    have := (sok hn hs).le_ u (by omega)
    exact Int.le_trans this h1
/-! ### the program's best nodes -/
theorem index_first (l : List Int) (x : Int) (m : Nat) (hl : l.length ≤ 9223372036854775807) (hm : m < l.length) (hx : rd l (m : Int) = x) (hne : ∀ i : Nat, i < m → rd l (i : Int) ≠ x) : Ev (fun k => slices_Index_int_int.f k l x) (m : Int) := by
  unfold slices_Index_int_int.f
  refine ev_ind (fun k (i : Nat) => slices_Index_int_int.l0 k l x (l.length : Int) (i : Int)) (fun i => m - i) (fun i => i ≤ m) (fun _ => (m : Int)) ?_ 0 (Nat.zero_le _)
  intro i hi ih
  have h : i < l.length := by omega
  have hlt : (i : Int) < (l.length : Int) := by omega
  have h0 : (0 : Int) ≤ (i : Int) := by omega
  by_cases e : i = m
  · subst e
    rw [rd_at l i h] at hx
    simp only [slices_Index_int_int.l0, hlt, h0, if_true, rd_at l i h, hx]
    exact ev_now fun k => rfl
  · have hq := hne i (by omega)
    rw [rd_at l i h] at hq
    have hq' : ¬ x = l[i] := fun z => hq z.symm
    simp only [slices_Index_int_int.l0, hlt, h0, if_true, rd_at l i h, hq', if_false, wsucc h hl]
    exact ih (i + 1) (by omega) (by omega)
theorem seenOkB_eq (n : Int) (l : List S58) (s : List (List Int)) : seenOkB n l s = (netOkB n l && sightsB n s) := Option.some.inj (seenOk_eq n l s)
theorem lvV_len {n : Int} {l : List S58} (hn : Net1 n l) {s : List (List Int)} (hs : Sights n s) (i : Nat) : (lvV n.toNat (tableV n l) s i).length = n.toNat := by
  have h0 : (rdR s 0).length = n.toNat := by
    have := hs.len 0 hs.lo
    have e : rdR s 0 = rd_L3 s ((0 : Nat) : Int) := rfl
    rw [e]
    omega
  exact leastV_len h0 (i + 1) i (Nat.lt_succ_self _)
theorem seenBest_impl {n : Int} {l : List S58} {s : List (List Int)} (hok : (netOkB n l && sightsB n s) = true) : Ev (fun k => impl_SeenBest.f k n l s) (bestN n l s, leastC n.toNat (tableV n l) s) := by
  obtain ⟨hn, hs⟩ := seen_ok hok
  have hS := sok hn hs
  have hlo := hn.lo
  have h0 := hs.lo
  obtain ⟨a, b, c⟩ := hS.at_
  have hlen := lvV_len hn hs (s.length - 1)
  unfold impl_SeenBest.f sbF
  simp only [seenOkB_eq, hok, if_true]
  refine Ev.bind (table_ev hn) ?_
  show Ev (fun k => if (tableV n l).length = n.toNat ∧ ((tableV n l).all fun r => r.length == n.toNat) = true then endV k n.toNat (tableV n l) (leastV n.toNat (tableV n l) s s.length) s (rdR (leastV n.toNat (tableV n l) s s.length) ((s.length - 1 : Nat) : Int)) else none) _
  have hall : ((tableV n l).all fun r => r.length == n.toNat) = true := by
    rw [List.all_eq_true]
    intro r hr
    obtain ⟨u, hu, rfl⟩ := List.mem_map.1 hr
    have := (distV_is hn (s := (u : Int)) (by have := List.mem_range.1 hu; omega)).inv.len
    exact beq_iff_eq.2 (by omega)
  rw [leastV_at n.toNat (tableV n l) s s.length (s.length - 1) (by omega)]
  simp only [tableV_length, hall, and_self, if_true]
  unfold endV
  rw [hlen]
  refine Ev.bind (index_first (lvV n.toNat (tableV n l) s (s.length - 1)) _ (bestAt n.toNat (tableV n l) s) (by have := hn.hi; omega) (by omega) b c) ?_
  have g : (0 : Int) ≤ (bestAt n.toNat (tableV n l) s : Int) ∧ (bestAt n.toNat (tableV n l) s : Int) < (n.toNat : Int) := by omega
  simp only [g, and_self, if_true, Int.toNat_natCast]
  rw [hS.back (s.length - 1) _ [] (by omega) a, List.append_nil]
  exact ev_now fun k => rfl
theorem seenBest_not {n : Int} {l : List S58} {s : List (List Int)} (hok : ¬ (netOkB n l && sightsB n s) = true) : Ev (fun k => impl_SeenBest.f k n l s) ([], -1) := by
  unfold impl_SeenBest.f sbF
  simp only [seenOkB_eq, if_neg hok]
  exact ev_now fun k => rfl
/-! ### sights, as the reference asks -/
theorem l15Ok_ev (n : Int) (l : List S58) (s : List (List Int)) (hs : s.length ≤ 9223372036854775807) (hr : ∀ x ∈ s, x.length ≤ 9223372036854775807) : Ev (fun k => spec_l15Ok.f k n l s) (sightsB n s) := by
  unfold spec_l15Ok.f sightsB
  refine ev_at (ev_ind (fun k (i : Nat) => spec_l15Ok.l0 k s (i : Int) n l) (fun i => s.length - i) (fun i => i ≤ s.length) (fun i => !((s.drop i).any (seenBad n)) && inB (s.length : Int) 1 6) ?_ 0 (Nat.zero_le _)) (by rw [List.drop_zero])
  intro i hi ih
  by_cases h : i < s.length
  · have hlt : (i : Int) < (s.length : Int) := by omega
    have h0 : (0 : Int) ≤ (i : Int) := by omega
    have next := ih (i + 1) (by omega) (by omega)
    have hrl := hr s[i] (List.getElem_mem h)
    have hat := row_at s i h
    simp only [spec_l15Ok.l0, hlt, if_true]
    rw [any_at _ _ _ h]
    generalize (s.drop (i + 1)).any (seenBad n) = q at next ⊢
    generalize s[i] = row at hrl hat ⊢
    refine ev_at (ev_ind (fun k (j : Nat) => spec_l15Ok.l1 k s (i : Int) (j : Int) n l) (fun j => row.length - j) (fun j => j ≤ row.length) (fun j => !(decide ((row.length : Int) ≠ n) || (row.drop j).any (fun c => !(inB c 0 99)) || q) && inB (s.length : Int) 1 6) ?_ 0 (Nat.zero_le _)) ?_
    · intro j hj ihj
      by_cases g : j < row.length
      · have glt : (j : Int) < (row.length : Int) := by omega
        have g0 : (0 : Int) ≤ (j : Int) := by omega
        have nextj := ihj (j + 1) (by omega) (by omega)
        simp only [spec_l15Ok.l1, hlt, h0, hat, glt, g0, if_true, l1In_eq, Option.bind_some, wsucc g hrl, rd_at row j g]
        rw [any_at _ _ _ g]
        cases inB row[j] 0 99 with
        | false => exact ev_now fun k => by simp
        | true => simpa using nextj
      · have glt : ¬ (j : Int) < (row.length : Int) := by omega
        simp only [spec_l15Ok.l1, hlt, h0, hat, glt, if_true, if_false, wsucc h hs]
        rw [List.drop_of_length_le (by omega)]
        by_cases c : (row.length : Int) = n
        · simp only [c, if_true]
          simpa using next
        · simp only [c, if_false]
          exact ev_now fun k => by simp [c]
    · unfold seenBad
      rw [List.drop_zero]
  · have hlt : ¬ (i : Int) < (s.length : Int) := by omega
    simp only [spec_l15Ok.l0, hlt, if_false, l1In_eq, Option.bind_some]
    rw [List.drop_of_length_le (by omega)]
    exact ev_now fun k => by simp
/-! ### the reference's best nodes -/
theorem minF_le99 (f : Nat → Int) : ∀ n : Nat, minF f n ≤ 99999
  | 0 => Int.le_refl _
  | n + 1 => by
    have := minF_le99 f n
    unfold minF
    split <;> omega
/-- Where one was ahead, by sights. -/
def froV (N : Nat) (all s : List (List Int)) : Nat → List (List Int)
  | 0 => []
  | i + 1 => froV N all s i ++ [if i = 0 then List.replicate N 0 else (List.range N).map fun v => (fromV N all s (i - 1) v : Int)]
theorem froV_length (N : Nat) (all s : List (List Int)) : ∀ i, (froV N all s i).length = i
  | 0 => rfl
  | i + 1 => by unfold froV; rw [List.length_append, froV_length N all s i]; rfl
theorem froV_at (N : Nat) (all s : List (List Int)) : ∀ m j : Nat, j < m → rdR (froV N all s m) (j : Int) = if j = 0 then List.replicate N 0 else (List.range N).map fun v => (fromV N all s (j - 1) v : Int)
  | 0, j, h => absurd h (Nat.not_lt_zero _)
  | m + 1, j, h => by
    have hl := froV_length N all s m
    rw [froV, rdR_nat, List.getD_eq_getElem?_getD]
    by_cases e : j = m
    · subst e
      rw [List.getElem?_append_right (by omega), hl, Nat.sub_self]
      rfl
    · rw [List.getElem?_append_left (by omega), ← List.getD_eq_getElem?_getD, ← rdR_nat]
      exact froV_at N all s m j (by omega)
/-- Two rows while they are made at v, the first m nodes taken in. -/
structure TwoAt (N : Nat) (f : Nat → Nat → Int) (v m : Nat) (row back : List Int) : Prop where
  len : row.length = N ∧ back.length = N
  done : ∀ j : Nat, j < v → rd row (j : Int) = minF (f j) N ∧ rd back (j : Int) = (argF (f j) N : Int)
  now : v < N → rd row (v : Int) = minF (f v) m ∧ rd back (v : Int) = (argF (f v) m : Int)
  rest : ∀ j : Nat, v < j → j < N → rd back (j : Int) = 0
/-- The same ahead of v. -/
structure TwoTo (N : Nat) (f : Nat → Nat → Int) (v : Nat) (row back : List Int) : Prop where
  len : row.length = N ∧ back.length = N
  done : ∀ j : Nat, j < v → rd row (j : Int) = minF (f j) N ∧ rd back (j : Int) = (argF (f j) N : Int)
  rest : ∀ j : Nat, v ≤ j → j < N → rd back (j : Int) = 0
theorem rd_set_n (row : List Int) (v j : Nat) (x : Int) (h : v < row.length) : rd (row.set v x) (j : Int) = if v = j then x else rd row (j : Int) := rd_set_at row v j x h
theorem TwoTo.at_ {N : Nat} {f : Nat → Nat → Int} {v : Nat} {row back : List Int} (h : TwoTo N f v row back) (hv : v < N) : TwoAt N f v 0 (row.set v 99999) back := by
  obtain ⟨l1, l2⟩ := h.len
  refine ⟨⟨by rw [List.length_set]; exact l1, l2⟩, fun j hj => ?_, fun _ => ⟨?_, h.rest v (Nat.le_refl _) hv⟩, fun j h1 h2 => h.rest j (by omega) h2⟩
  · rw [rd_set_n row v j _ (by omega), if_neg (by omega)]; exact h.done j hj
  · rw [rd_set_n row v v _ (by omega), if_pos rfl]; rfl
theorem TwoAt.skip {N : Nat} {f : Nat → Nat → Int} {v m : Nat} {row back : List Int} (h : TwoAt N f v m row back) (hf : ¬ f v m < minF (f v) m) : TwoAt N f v (m + 1) row back := by
  refine ⟨h.len, h.done, fun hv => ?_, h.rest⟩
  rw [minF, argF, if_neg hf, if_neg hf]
  exact h.now hv
theorem TwoAt.take {N : Nat} {f : Nat → Nat → Int} {v m : Nat} {row back : List Int} (h : TwoAt N f v m row back) (hv : v < N) (hf : f v m < minF (f v) m) : TwoAt N f v (m + 1) (row.set v (f v m)) (back.set v (m : Int)) := by
  obtain ⟨l1, l2⟩ := h.len
  refine ⟨⟨by rw [List.length_set]; exact l1, by rw [List.length_set]; exact l2⟩, fun j hj => ?_, fun _ => ?_, fun j h1 h2 => ?_⟩
  · rw [rd_set_n row v j _ (by omega), rd_set_n back v j _ (by omega), if_neg (by omega), if_neg (by omega)]; exact h.done j hj
  · rw [rd_set_n row v v _ (by omega), rd_set_n back v v _ (by omega), if_pos rfl, if_pos rfl, minF, argF, if_pos hf, if_pos hf]
    exact ⟨rfl, rfl⟩
  · rw [rd_set_n back v j _ (by omega), if_neg (by omega)]; exact h.rest j h1 h2
theorem TwoAt.to_ {N : Nat} {f : Nat → Nat → Int} {v : Nat} {row back : List Int} (h : TwoAt N f v N row back) (hv : v < N) : TwoTo N f (v + 1) row back := by
  refine ⟨h.len, fun j hj => ?_, fun j h1 h2 => h.rest j (by omega) h2⟩
  by_cases e : j = v
  · subst e; exact h.now hv
  · exact h.done j (by omega)
theorem list_of_rd (row : List Int) (N : Nat) (g : Nat → Int) (hl : row.length = N) (h : ∀ j : Nat, j < N → rd row (j : Int) = g j) : row = (List.range N).map g := by
  apply List.ext_getElem
  · rw [hl, List.length_map, List.length_range]
  · intro j h1 h2
    have := h j (by omega)
    rw [rd_at row j h1] at this
    rw [this]
    simp
theorem TwoTo.end_ {N : Nat} {f : Nat → Nat → Int} {v : Nat} {row back : List Int} (h : TwoTo N f v row back) (hv : N ≤ v) : row = (List.range N).map (fun j => minF (f j) N) ∧ back = (List.range N).map (fun j => (argF (f j) N : Int)) := ⟨list_of_rd row N _ h.len.1 fun j hj => (h.done j (by omega)).1, list_of_rd back N _ h.len.2 fun j hj => (h.done j (by omega)).2⟩
theorem lvV_next (N : Nat) (all s : List (List Int)) (i : Nat) (hi : 1 ≤ i) : leastV N all s (i + 1) = leastV N all s i ++ [(List.range N).map (fun j => minF (fun u => stV N all s (i - 1) u j) N)] := by
  obtain ⟨m, rfl⟩ : ∃ m, i = m + 1 := ⟨i - 1, by omega⟩
  rw [leastV, if_neg (by omega), Nat.add_sub_cancel]
  congr 2
  unfold rowV
  apply List.map_congr_left
  intro j _
  rw [bestV_eq]
  exact (minF_congr N (fun u _ => stepV_eq N all s (m + 1) m u j (by omega))).1
theorem froV_next (N : Nat) (all s : List (List Int)) (i : Nat) (hi : 1 ≤ i) : froV N all s (i + 1) = froV N all s i ++ [(List.range N).map (fun j => (argF (fun u => stV N all s (i - 1) u j) N : Int))] := by
  rw [froV, if_neg (by omega)]
  rfl
theorem rows_ev {n : Int} {l : List S58} (hn : Net1 n l) {s : List (List Int)} (hs : Sights n s) (hr : (rd_L3 s 0).length ≤ 9223372036854775807) : Ev (fun k => spec_l15Rows.f k n l s) (leastV n.toNat (tableV n l) s s.length, froV n.toNat (tableV n l) s s.length) := by
  have hlo := hn.lo
  have hhi := hn.hi
  have h1 := hs.lo
  have h6 := hs.hi
  have hS := sok hn hs
  have hrow : ∀ i : Nat, i < s.length → (rd_L3 s (i : Int)).length = n.toNat := fun i hi => by have := hs.len i hi; omega
  obtain ⟨N, hN⟩ : ∃ N : Nat, n = (N : Int) := ⟨n.toNat, by omega⟩
  subst hN
  rw [Int.toNat_natCast] at *
  have hr0 := hrow 0 h1
  unfold spec_l15Rows.f
  have c0 : (0 : Int) < (s.length : Int) := by omega
  have c1 : ([] : List Int).length + (rd_L3 s 0).length < 17592186044416 := by have e : rd_L3 s 0 = rd_L3 s ((0 : Nat) : Int) := rfl; rw [e, hr0, List.length_nil]; omega
  have c2 : (0 : Int) ≤ (N : Int) := by omega
  have c3 : N ≤ 35184372088832 := by omega
  simp only [Option.bind_some, c0, c1, c2, c3, if_true, Int.toNat_natCast, List.nil_append]
  have e1 : leastV N (tableV (N : Int) l) s 1 = [rd_L3 s 0] := rfl
  have e2 : froV N (tableV (N : Int) l) s 1 = [List.replicate N 0] := rfl
  rw [← e1, ← e2]
  refine ev_ind (fun k (i : Nat) => spec_l15Rows.l0 k s (leastV N (tableV (N : Int) l) s i) (froV N (tableV (N : Int) l) s i) (i : Int) (N : Int) l) (fun i => s.length - i) (fun i => 1 ≤ i ∧ i ≤ s.length) (fun _ => (leastV N (tableV (N : Int) l) s s.length, froV N (tableV (N : Int) l) s s.length)) ?_ 1 ⟨Nat.le_refl _, h1⟩
  clear hr hr0 c1 e1 e2
  rintro i ⟨hi1, hi⟩ ih
  by_cases h : i < s.length
  · have hlt : (i : Int) < (s.length : Int) := by omega
    have next := ih (i + 1) ⟨by omega, by omega⟩ (by omega)
    simp only [spec_l15Rows.l0, hlt, c2, c3, if_true, Int.toNat_natCast]
    have hlen := leastV_length N (tableV (N : Int) l) s i
    have flen := froV_length N (tableV (N : Int) l) s i
    have hwi : wrap64 ((i : Int) - 1) = ((i - 1 : Nat) : Int) := wpred (by omega) (by omega)
    have hwn : wrap64 ((i : Int) + 1) = ((i + 1 : Nat) : Int) := wsucc h (by omega)
    have q0 : (0 : Int) ≤ ((i - 1 : Nat) : Int) := by omega
    have q1 : ((i - 1 : Nat) : Int) < ((leastV N (tableV (N : Int) l) s i).length : Int) := by omega
    have q2 : rd_L3 (leastV N (tableV (N : Int) l) s i) ((i - 1 : Nat) : Int) = lvV N (tableV (N : Int) l) s (i - 1) := leastV_at N (tableV (N : Int) l) s i (i - 1) (by omega)
    have q3 : (lvV N (tableV (N : Int) l) s (i - 1)).length = N := by have := lvV_len hn hs (i - 1); rwa [Int.toNat_natCast] at this
    have q4 : (0 : Int) ≤ (i : Int) := by omega
    have q5 := hrow i h
    generalize hf : (fun j u => stV N (tableV (N : Int) l) s (i - 1) u j) = f
    have hfv : ∀ u v : Nat, f v u = stV N (tableV (N : Int) l) s (i - 1) u v := fun u v => by rw [← hf]
    have nx1 := lvV_next N (tableV (N : Int) l) s i hi1
    have nx2 := froV_next N (tableV (N : Int) l) s i hi1
    refine ev_ind (fun k (x : Nat × List Int × List Int) => spec_l15Rows.l1 k s (leastV N (tableV (N : Int) l) s i) (froV N (tableV (N : Int) l) s i) (i : Int) x.2.1 x.2.2 (x.1 : Int) (N : Int) l) (fun x => N - x.1) (fun x => x.1 ≤ N ∧ TwoTo N f x.1 x.2.1 x.2.2) (fun _ => (leastV N (tableV (N : Int) l) s s.length, froV N (tableV (N : Int) l) s s.length)) ?_ (0, List.replicate N 0, List.replicate N 0) ⟨Nat.zero_le _, ⟨by simp, fun j hj => absurd hj (Nat.not_lt_zero _), fun j _ hj => by simp [rd, hj]⟩⟩
    rintro ⟨v, row, back⟩ ⟨hv, hT⟩ ihv
    simp only at hv hT ihv ⊢
    obtain ⟨l1, l2⟩ := hT.len
    by_cases g : v < N
    · have glt : (v : Int) < (N : Int) := by omega
      have g0 : (0 : Int) ≤ (v : Int) := by omega
      have g1 : (v : Int) < (row.length : Int) := by omega
      simp only [spec_l15Rows.l1, glt, g0, g1, if_true, Int.toNat_natCast]
      refine ev_ind (fun k (x : Nat × List Int × List Int) => spec_l15Rows.l2 k s (leastV N (tableV (N : Int) l) s i) (froV N (tableV (N : Int) l) s i) (i : Int) x.2.1 x.2.2 (v : Int) (x.1 : Int) (N : Int) l) (fun x => N - x.1) (fun x => x.1 ≤ N ∧ TwoAt N f v x.1 x.2.1 x.2.2) (fun _ => (leastV N (tableV (N : Int) l) s s.length, froV N (tableV (N : Int) l) s s.length)) ?_ (0, row.set v 99999, back) ⟨Nat.zero_le _, hT.at_ g⟩
      rintro ⟨m, row, back⟩ ⟨hm, hA⟩ ihm
      simp only at hm hA ihm ⊢
      obtain ⟨l1, l2⟩ := hA.len
      by_cases gm : m < N
      · have mlt : (m : Int) < (N : Int) := by omega
        have m0 : (0 : Int) ≤ (m : Int) := by omega
        have hD := distV_is hn (s := (m : Int)) (by omega)
        have g1 : (v : Int) < (row.length : Int) := by omega
        have g2 : (v : Int) < (back.length : Int) := by omega
        have g3 : (v : Int) < ((distV (N : Int) l (m : Int)).length : Int) := by have := hD.inv.len; omega
        have g4 : (m : Int) < ((lvV N (tableV (N : Int) l) s (i - 1)).length : Int) := by omega
        have g5 : (v : Int) < ((rd_L3 s (i : Int)).length : Int) := by omega
        have hrg := hS.row (i - 1) m (by omega) gm
        have g6 : rd (lvV N (tableV (N : Int) l) s (i - 1)) (m : Int) < 99999 := by omega
        have hd : rdR (tableV (N : Int) l) (m : Int) = distV (N : Int) l (m : Int) := tableV_at (N : Int) l m (by rw [Int.toNat_natCast]; exact gm)
        have now := hA.now g
        have sk := ihm (m + 1, row, back)
        have tk := ihm (m + 1, row.set v (f v m), back.set v (m : Int))
        simp only at sk tk
        have hfm := hfv m v
        unfold stV at hfm
        rw [hd, show i - 1 + 1 = i by omega] at hfm
        have e3 : rd_L3 s (i : Int) = rdR s (i : Int) := rfl
        simp only [spec_l15Rows.l2, mlt, if_true]
        refine Ev.bind hD.spec ?_
        have hm9 := minF_le99 (f v) m
        by_cases cd : rd (distV (N : Int) l (m : Int)) (v : Int) < 99999
        · rw [if_neg (by omega)] at hfm
          simp only [g0, g3, cd, hwi, q0, q1, q2, m0, g4, g6, q4, hlt, g5, g1, if_true, Int.toNat_natCast, wsucc gm (show N ≤ 9223372036854775807 by omega)]
          rw [e3, ← hfm, now.1]
          by_cases cf : f v m < minF (f v) m
          · simp only [cf, g2, if_true]
            exact tk ⟨by omega, hA.take g cf⟩ (by omega)
          · simp only [cf, if_false]
            exact sk ⟨by omega, hA.skip cf⟩ (by omega)
        · have hrng := (hD.inv.rng (v : Int) (by omega) (by omega)).2
          rw [if_pos (by omega)] at hfm
          simp only [g0, g3, cd, if_true, if_false, wsucc gm (show N ≤ 9223372036854775807 by omega)]
          exact sk ⟨by omega, hA.skip (by omega)⟩ (by omega)
      · have mlt : ¬ (m : Int) < (N : Int) := by omega
        simp only [spec_l15Rows.l2, mlt, if_false, wsucc g (show N ≤ 9223372036854775807 by omega)]
        have hmN : m = N := by omega
        rw [hmN] at hA
        exact ihv (v + 1, row, back) ⟨by simp only; omega, hA.to_ g⟩ (by simp only; omega)
    · have glt : ¬ (v : Int) < (N : Int) := by omega
      obtain ⟨e3, e4⟩ := hT.end_ (by omega)
      have b1 : (leastV N (tableV (N : Int) l) s i).length < 5864062014805 := by omega
      have b2 : (froV N (tableV (N : Int) l) s i).length < 5864062014805 := by omega
      simp only [spec_l15Rows.l1, glt, b1, b2, if_true, if_false, hwn]
      rw [nx1, nx2] at next
      subst hf
      rw [e3, e4]
      exact next
  · have hlt : ¬ (i : Int) < (s.length : Int) := by omega
    simp only [spec_l15Rows.l0, hlt, if_false]
    refine ev_now fun k => ?_
    rw [show i = s.length by omega]
/-- The first of the least is one. -/
theorem first_one {row : List Int} {c : Int} {a b : Nat} (ha : rd row (a : Int) = c) (ha' : ∀ i : Nat, i < a → rd row (i : Int) ≠ c) (hb : rd row (b : Int) = c) (hb' : ∀ i : Nat, i < b → rd row (i : Int) ≠ c) : a = b := by
  rcases Nat.lt_trichotomy a b with h | h | h
  · exact absurd ha (hb' a h)
  · exact h
  · exact absurd hb (ha' b h)
theorem fro_rd {N : Nat} {all s : List (List Int)} (m j v : Nat) (h : j + 1 < m) (hv : v < N) : rd (rdR (froV N all s m) ((j + 1 : Nat) : Int)) (v : Int) = (fromV N all s j v : Int) := by
  rw [froV_at N all s m (j + 1) h, if_neg (by omega), Nat.add_sub_cancel]
  simp [rd, hv]
theorem fro_len {N : Nat} {all s : List (List Int)} (m j : Nat) (h : j < m) : (rdR (froV N all s m) (j : Int)).length = N := by
  rw [froV_at N all s m j h]
  split
  · exact List.length_replicate
  · rw [List.length_map, List.length_range]
theorem set_drop {α : Type} (l : List α) (i : Nat) (x : α) (h : i < l.length) : (l.set i x).drop i = x :: l.drop (i + 1) := by
  rw [List.drop_eq_getElem_cons (by rw [List.length_set]; exact h), List.getElem_set_self]
  congr 1
  rw [List.drop_set_of_lt (by omega)]
theorem back_spec {n : Int} {l : List S58} (hn : Net1 n l) {s : List (List Int)} (hs : Sights n s) : Ev (fun k => spec_SeenBest.l1 k (leastV n.toNat (tableV n l) s s.length) (froV n.toNat (tableV n l) s s.length) ((s.length - 1 : Nat) : Int) (bestAt n.toNat (tableV n l) s : Int) (List.replicate s.length 0) ((s.length - 1 : Nat) : Int)) (bestN n l s, leastC n.toNat (tableV n l) s) := by
  have h1 := hs.lo
  have h6 := hs.hi
  have hlo := hn.lo
  have hS := sok hn hs
  obtain ⟨ba, bb, _⟩ := hS.at_
  have hll := leastV_length n.toNat (tableV n l) s s.length
  have hfl := froV_length n.toNat (tableV n l) s s.length
  have hlast : rd_L3 (leastV n.toNat (tableV n l) s s.length) ((s.length - 1 : Nat) : Int) = lvV n.toNat (tableV n l) s (s.length - 1) := leastV_at n.toNat (tableV n l) s s.length (s.length - 1) (by omega)
  have hlv := lvV_len hn hs (s.length - 1)
  have hbl := bestN_length (l := l) hs
  have key := ev_ind (fun k (x : Nat × Int × List Int) => spec_SeenBest.l1 k (leastV n.toNat (tableV n l) s s.length) (froV n.toNat (tableV n l) s s.length) ((s.length - 1 : Nat) : Int) x.2.1 x.2.2 ((x.1 : Int) - 1)) (fun x => x.1) (fun x => x.1 ≤ s.length ∧ x.2.2.length = s.length ∧ (x.1 = 0 → x.2.2 = bestN n l s) ∧ (∀ i : Nat, x.1 = i + 1 → ∃ v : Nat, x.2.1 = (v : Int) ∧ v < n.toNat ∧ bestN n l s = pathV n.toNat (tableV n l) s i v ++ x.2.2.drop (i + 1))) (fun _ => (bestN n l s, leastC n.toNat (tableV n l) s)) ?_ (s.length, (bestAt n.toNat (tableV n l) s : Int), List.replicate s.length 0) ⟨Nat.le_refl _, List.length_replicate, fun e => by simp only at e; omega, fun i e => ⟨bestAt n.toNat (tableV n l) s, rfl, ba, by simp only at e ⊢; rw [List.drop_of_length_le (by simp; omega), List.append_nil]; unfold bestN; rw [show s.length - 1 = i by omega]⟩⟩
  · have e : ((s.length : Nat) : Int) - 1 = ((s.length - 1 : Nat) : Int) := by omega
    simp only [e] at key
    exact key
  rintro ⟨c, at_, out⟩ ⟨hc, ho, hz, hi⟩ ih
  simp only at hc ho hz hi ih ⊢
  match c, hc, hz, hi, ih with
  | 0, _, hz, _, _ =>
    have hz := hz rfl
    subst hz
    have a1 : ¬ (((0 : Nat) : Int) - 1 ≥ 0) := by omega
    have a2 : (0 : Int) ≤ ((s.length - 1 : Nat) : Int) := by omega
    have a3 : ((s.length - 1 : Nat) : Int) < ((leastV n.toNat (tableV n l) s s.length).length : Int) := by omega
    have a4 : ((s.length - 1 : Nat) : Int) < ((bestN n l s).length : Int) := by omega
    have a5 : rd (bestN n l s) ((s.length - 1 : Nat) : Int) = (bestAt n.toNat (tableV n l) s : Int) := pathV_last _ _ _ _ _
    have a6 : (0 : Int) ≤ (bestAt n.toNat (tableV n l) s : Int) := by omega
    have a7 : (bestAt n.toNat (tableV n l) s : Int) < ((lvV n.toNat (tableV n l) s (s.length - 1)).length : Int) := by omega
    simp only [spec_SeenBest.l1, a1, a2, a3, a4, a5, a6, hlast, a7, bb, if_true, if_false]
    exact ev_now fun _ => rfl
  | i + 1, hc, _, hi, ih =>
    obtain ⟨v, rfl, hv, hp⟩ := hi i rfl
    have e : ((i + 1 : Nat) : Int) - 1 = (i : Int) := by omega
    have a1 : (i : Int) ≥ 0 := by omega
    have a2 : (0 : Int) ≤ (i : Int) := by omega
    have a3 : (i : Int) < (out.length : Int) := by omega
    have a4 : (i : Int) < ((froV n.toNat (tableV n l) s s.length).length : Int) := by omega
    have a5 : (0 : Int) ≤ (v : Int) := by omega
    have fl := fro_len (N := n.toNat) (all := tableV n l) (s := s) s.length i (by omega)
    have e2 : rd_L3 (froV n.toNat (tableV n l) s s.length) (i : Int) = rdR (froV n.toNat (tableV n l) s s.length) (i : Int) := rfl
    have a6 : (v : Int) < ((rd_L3 (froV n.toNat (tableV n l) s s.length) (i : Int)).length : Int) := by rw [e2, fl]; omega
    have wi : wrap64 ((i : Int) - 1) = (i : Int) - 1 := w_id (by omega) (by omega)
    simp only [e, spec_SeenBest.l1, a1, a2, a3, a4, a5, a6, if_true, wi, Int.toNat_natCast]
    refine ih (i, rd (rd_L3 (froV n.toNat (tableV n l) s s.length) (i : Int)) (v : Int), out.set i (v : Int)) ⟨by simp only; omega, by simp only [List.length_set]; exact ho, fun e => ?_, fun j e => ?_⟩ (by simp only; omega)
    · simp only at e ⊢
      subst e
      have := set_drop out 0 (v : Int) (by omega)
      rw [List.drop_zero] at this
      rw [this, hp]
      rfl
    · simp only at e ⊢
      subst e
      refine ⟨fromV n.toNat (tableV n l) s j v, ?_, (hS.from_ j v (by omega) hv).1, ?_⟩
      · rw [e2]; exact fro_rd s.length j v (by omega) hv
      · rw [set_drop out (j + 1) (v : Int) (by omega), hp]
        show pathV n.toNat (tableV n l) s j (fromV n.toNat (tableV n l) s j v) ++ [(v : Int)] ++ _ = _
        rw [List.append_assoc]
        rfl
theorem seenBest_spec {n : Int} {l : List S58} {s : List (List Int)} (hok : (netOkB n l && sightsB n s) = true) (hl : l.length ≤ 9223372036854775807) (hsl : s.length ≤ 9223372036854775807) (hr : ∀ x ∈ s, x.length ≤ 9223372036854775807) : Ev (fun k => spec_SeenBest.f k n l s) (bestN n l s, leastC n.toNat (tableV n l) s) := by
  obtain ⟨hn, hs⟩ := seen_ok hok
  have h1 := hs.lo
  have h6 := hs.hi
  have hlo := hn.lo
  have hhi := hn.hi
  have hS := sok hn hs
  obtain ⟨ba, bb, bc⟩ := hS.at_
  have o1 : netOkB n l = true := (Bool.and_eq_true _ _ ▸ hok).1
  have o2 : sightsB n s = true := (Bool.and_eq_true _ _ ▸ hok).2
  unfold spec_SeenBest.f
  refine Ev.bind (l1Ok_ev n l hl) ?_
  simp only [o1, if_true]
  refine Ev.bind (l15Ok_ev n l s hsl hr) ?_
  simp only [o2]
  refine ev_shift ?_
  have f0 : ¬ ((!true) = true) := by decide
  simp only [spec_SeenBest.j0, f0, if_false]
  have hr0 : (rd_L3 s 0).length ≤ 9223372036854775807 := by have := hs.len 0 h1; have e : rd_L3 s 0 = rd_L3 s ((0 : Nat) : Int) := rfl; rw [e]; omega
  refine Ev.bind (rows_ev hn hs hr0) ?_
  simp only
  have hw : wrap64 ((s.length : Int) - 1) = ((s.length - 1 : Nat) : Int) := wpred (by omega) (by omega)
  rw [hw]
  have hll := leastV_length n.toNat (tableV n l) s s.length
  have hlast : rd_L3 (leastV n.toNat (tableV n l) s s.length) ((s.length - 1 : Nat) : Int) = lvV n.toNat (tableV n l) s (s.length - 1) := leastV_at n.toNat (tableV n l) s s.length (s.length - 1) (by omega)
  have hlv := lvV_len hn hs (s.length - 1)
  unfold leastC at bb bc
  refine ev_ind (fun k (x : Nat × Nat) => spec_SeenBest.l0 k s (leastV n.toNat (tableV n l) s s.length) (froV n.toNat (tableV n l) s s.length) ((s.length - 1 : Nat) : Int) (x.2 : Int) (x.1 : Int) n l) (fun x => n.toNat - x.1) (fun x => 1 ≤ x.1 ∧ x.1 ≤ n.toNat ∧ x.2 < x.1 ∧ rd (lvV n.toNat (tableV n l) s (s.length - 1)) (x.2 : Int) = minK (lvV n.toNat (tableV n l) s (s.length - 1)) (x.1 - 1) ∧ ∀ i : Nat, i < x.2 → rd (lvV n.toNat (tableV n l) s (s.length - 1)) (i : Int) ≠ minK (lvV n.toNat (tableV n l) s (s.length - 1)) (x.1 - 1)) (fun _ => (bestN n l s, leastC n.toNat (tableV n l) s)) ?_ (1, 0) ⟨Nat.le_refl _, by simp only; omega, by simp only; omega, rfl, fun i hi => absurd hi (Nat.not_lt_zero _)⟩
  rintro ⟨c, a⟩ ⟨hc1, hc2, ha, hm, hf⟩ ih
  simp only at hc1 hc2 ha hm hf ih ⊢
  by_cases h : c < n.toNat
  · have hlt : (c : Int) < n := by omega
    have p0 : (0 : Int) ≤ ((s.length - 1 : Nat) : Int) := by omega
    have p1 : ((s.length - 1 : Nat) : Int) < ((leastV n.toNat (tableV n l) s s.length).length : Int) := by omega
    have p2 : (0 : Int) ≤ (c : Int) := by omega
    have p3 : (c : Int) < ((lvV n.toNat (tableV n l) s (s.length - 1)).length : Int) := by omega
    have p4 : (0 : Int) ≤ (a : Int) := by omega
    have p5 : (a : Int) < ((lvV n.toNat (tableV n l) s (s.length - 1)).length : Int) := by omega
    have mk := minK_at (lvV n.toNat (tableV n l) s (s.length - 1)) c hc1
    simp only [spec_SeenBest.l0, hlt, p0, p1, p2, hlast, p3, p4, p5, if_true, wsucc h (show n.toNat ≤ 9223372036854775807 by omega)]
    by_cases g : rd (lvV n.toNat (tableV n l) s (s.length - 1)) (c : Int) < rd (lvV n.toNat (tableV n l) s (s.length - 1)) (a : Int)
    · simp only [g, if_true]
      rw [hm] at g
      rw [if_pos g] at mk
      refine ih (c + 1, c) ⟨by simp only; omega, by simp only; omega, by simp only; omega, ?_, ?_⟩ (by simp only; omega)
      · simp only [Nat.add_sub_cancel]
        exact mk.symm
      · simp only [Nat.add_sub_cancel]
        intro i hi
        rw [mk]
        have := minK_le (lvV n.toNat (tableV n l) s (s.length - 1)) (c - 1) i (by omega)
        omega
    · simp only [g, if_false]
      rw [hm] at g
      rw [if_neg g] at mk
      refine ih (c + 1, a) ⟨by simp only; omega, by simp only; omega, by simp only; omega, ?_, ?_⟩ (by simp only; omega)
      · simp only [Nat.add_sub_cancel]
        rw [mk]; exact hm
      · simp only [Nat.add_sub_cancel]
        rw [mk]; exact hf
  · have hlt : ¬ (c : Int) < n := by omega
    have p0 : (0 : Int) ≤ (s.length : Int) := by omega
    have p1 : s.length ≤ 35184372088832 := by omega
    have hcn : c = n.toNat := by omega
    rw [hcn] at hm hf
    have hab := first_one hm hf bb bc
    simp only [spec_SeenBest.l0, hlt, p0, p1, if_true, if_false, Int.toNat_natCast, hab]
    exact back_spec hn hs
theorem seenBest_specNot {n : Int} {l : List S58} {s : List (List Int)} (hok : ¬ (netOkB n l && sightsB n s) = true) (hl : l.length ≤ 9223372036854775807) (hsl : s.length ≤ 9223372036854775807) (hr : ∀ x ∈ s, x.length ≤ 9223372036854775807) : Ev (fun k => spec_SeenBest.f k n l s) ([], -1) := by
  unfold spec_SeenBest.f
  refine Ev.bind (l1Ok_ev n l hl) ?_
  cases h1 : netOkB n l with
  | false =>
    refine ev_shift ?_
    simp only [spec_SeenBest.j0]
    exact ev_now fun _ => rfl
  | true =>
    simp only [if_true]
    refine Ev.bind (l15Ok_ev n l s hsl hr) ?_
    have h2 : sightsB n s = false := by
      cases h2 : sightsB n s with
      | false => rfl
      | true => rw [h1, h2] at hok; exact absurd rfl hok
    rw [h2]
    refine ev_shift ?_
    simp only [spec_SeenBest.j0]
    exact ev_now fun _ => rfl
/-! ### the laws' own helpers: what they copy is the same, what is the same is equal -/
theorem arc118_at (l : List S109) (i : Nat) (h : i < l.length) : rd_T109 l (i : Int) = l[i] := by simp [rd_T109, h]
def arcOf (x : S109) : S58 := ⟨x.f0, x.f1, x.f2, x.f3, x.f4⟩
theorem set_next {α : Type} (f : Nat → α) (m i : Nat) (l : List α) (hl : l.length = m) (hi : i < m) (h : ∀ j, j < i → l[j]? = some (f j)) : ∀ j, j < i + 1 → (l.set i (f i))[j]? = some (f j) := by
  intro j hj
  rw [List.getElem?_set]
  by_cases e : i = j
  · subst e; rw [if_pos rfl, if_pos (by omega)]
  · rw [if_neg e]; exact h j (by omega)
theorem toArcS_loop (l : List S109) (hl : l.length ≤ 9223372036854775807) (i : Nat) (acc : List S58) (hi : i ≤ l.length) (ha : acc.length = l.length) (hp : ∀ j, j < i → acc[j]? = (l.map arcOf)[j]?) :
    Ev (fun k => laws_toArcS.l0 k l acc (i : Int)) (l.map arcOf) := by
  refine ev_ind (fun k (s : Nat × List S58) => laws_toArcS.l0 k l s.2 (s.1 : Int)) (fun s => l.length - s.1) (fun s => s.1 ≤ l.length ∧ s.2.length = l.length ∧ ∀ j, j < s.1 → s.2[j]? = (l.map arcOf)[j]?) (fun _ => l.map arcOf) ?_ (i, acc) ⟨hi, ha, hp⟩
  rintro ⟨i, acc⟩ ⟨hi, ha, hp⟩ ih
  simp only at hi ha hp ih ⊢
  by_cases h : i < l.length
  · have hlt : (i : Int) < (l.length : Int) := by omega
    have hlt' : (i : Int) < (acc.length : Int) := by omega
    have h0 : (0 : Int) ≤ (i : Int) := by omega
    simp only [laws_toArcS.l0, hlt, hlt', h0, if_true, laws_toArc.f, Option.bind_some, arc118_at l i h, wsucc h hl, Int.toNat_natCast]
    refine ih (i + 1, acc.set i (arcOf l[i])) ⟨by simp; omega, by simp [ha], ?_⟩ (by simp; omega)
    intro j hj
    simp only at hj ⊢
    rw [List.getElem?_set]
    by_cases e : i = j
    · subst e
      rw [if_pos rfl, if_pos (by omega)]
      simp [h]
    · rw [if_neg e]; exact hp j (by omega)
  · have hlt : ¬ (i : Int) < (l.length : Int) := by omega
    simp only [laws_toArcS.l0, hlt, if_false]
    refine ev_now fun k => ?_
    congr 1
    apply List.ext_getElem?
    intro j
    by_cases hj : j < l.length
    · exact hp j (by omega)
    · rw [List.getElem?_eq_none (by omega), List.getElem?_eq_none (by simp; omega)]
theorem toNet_ev (n : Int) (l : List S109) (hl : l.length ≤ 1048576) : Ev (fun k => laws_toNet.f k n l) (n, l.map arcOf) := by
  unfold laws_toNet.f
  refine Ev.bind (a := l.map arcOf) ?_ (ev_now fun _ => rfl)
  unfold laws_toArcS.f
  have h0 : (0 : Int) ≤ (l.length : Int) := by omega
  have h1 : ((l.length : Int) : Int).toNat ≤ 7036874417766 := by omega
  simp only [h0, h1, if_true]
  exact toArcS_loop l (by omega) 0 _ (Nat.zero_le _) (by simp) (fun j hj => absurd hj (Nat.not_lt_zero _))
theorem szNet_eq (n : Int) (l : List S109) (hl : l.length ≤ 9223372036854775807) : laws_szNet.f n l 1048576 = some (if l.length ≤ 1048576 then 1048576 - (l.length : Int) else -1) := by
  unfold laws_szNet.f laws_szArcS.f
  rw [w_id (n := 1048576 - (l.length : Int)) (by omega) (by omega)]
  by_cases h : l.length ≤ 1048576
  · rw [if_neg (by omega)]
    simp only [Option.bind_some]
    rw [if_neg (by omega), if_pos h]
  · rw [if_pos (by omega)]
    simp only [Option.bind_some]
    rw [if_pos (by omega), if_neg h]
theorem eqArc_self (x : S58) : laws_eqArc.f x.f0 x.f1 x.f2 x.f3 x.f4 x.f0 x.f1 x.f2 x.f3 x.f4 = some true := by simp [laws_eqArc.f]
theorem eqArcS_self (l : List S58) (hl : l.length ≤ 9223372036854775807) : Ev (fun k => laws_eqArcS.f k l l) true := by
  unfold laws_eqArcS.f
  simp only [if_true]
  refine ev_ind (fun k (i : Nat) => laws_eqArcS.l0 k l l (i : Int)) (fun i => l.length - i) (fun i => i ≤ l.length) (fun _ => true) ?_ 0 (Nat.zero_le _)
  intro i hi ih
  by_cases h : i < l.length
  · have hlt : (i : Int) < (l.length : Int) := by omega
    have h0 : (0 : Int) ≤ (i : Int) := by omega
    simp only [laws_eqArcS.l0, hlt, h0, if_true, eqArc_self, Option.bind_some, wsucc h hl]
    exact ih (i + 1) (by omega) (by omega)
  · have hlt : ¬ (i : Int) < (l.length : Int) := by omega
    simp only [laws_eqArcS.l0, hlt, if_false]
    exact ev_now fun _ => rfl
theorem eqNet_self (n : Int) (l : List S58) (hl : l.length ≤ 9223372036854775807) : Ev (fun k => laws_eqNet.f k n l n l) true := by
  unfold laws_eqNet.f
  simp only [if_true]
  exact Ev.bind (eqArcS_self l hl) (ev_now fun _ => by simp)
/-! ### .. of numbers -/
theorem toIntS_ev (l : List Int) (hl : l.length ≤ 1048576) : Ev (fun k => laws_toIntS.f k l) l := by
  unfold laws_toIntS.f
  have h0 : (0 : Int) ≤ (l.length : Int) := by omega
  have h1 : ((l.length : Int) : Int).toNat ≤ 35184372088832 := by omega
  simp only [h0, h1, if_true]
  refine ev_ind (fun k (s : Nat × List Int) => laws_toIntS.l0 k l s.2 (s.1 : Int)) (fun s => l.length - s.1) (fun s => s.1 ≤ l.length ∧ s.2.length = l.length ∧ ∀ j, j < s.1 → s.2[j]? = l[j]?) (fun _ => l) ?_ (0, List.replicate l.length 0) ⟨Nat.zero_le _, by simp, fun j hj => absurd hj (Nat.not_lt_zero _)⟩
  rintro ⟨i, acc⟩ ⟨hi, ha, hp⟩ ih
  simp only at hi ha hp ih ⊢
  by_cases h : i < l.length
  · have hlt : (i : Int) < (l.length : Int) := by omega
    have hlt' : (i : Int) < (acc.length : Int) := by omega
    have h0 : (0 : Int) ≤ (i : Int) := by omega
    simp only [laws_toIntS.l0, hlt, hlt', h0, if_true, rd_at l i h, wsucc h (show l.length ≤ 9223372036854775807 by omega), Int.toNat_natCast]
    refine ih (i + 1, acc.set i l[i]) ⟨by simp; omega, by simp [ha], ?_⟩ (by simp; omega)
    intro j hj
    simp only at hj ⊢
    rw [List.getElem?_set]
    by_cases e : i = j
    · subst e
      rw [if_pos rfl, if_pos (by omega)]
      simp [h]
    · rw [if_neg e]; exact hp j (by omega)
  · have hlt : ¬ (i : Int) < (l.length : Int) := by omega
    simp only [laws_toIntS.l0, hlt, if_false]
    refine ev_now fun k => ?_
    congr 1
    apply List.ext_getElem?
    intro j
    by_cases hj : j < l.length
    · exact hp j (by omega)
    · rw [List.getElem?_eq_none (by omega), List.getElem?_eq_none (by omega)]
theorem eqIntS_self (l : List Int) (hl : l.length ≤ 9223372036854775807) : Ev (fun k => laws_eqIntS.f k l l) true := by
  unfold laws_eqIntS.f
  simp only [if_true]
  refine ev_ind (fun k (i : Nat) => laws_eqIntS.l0 k l l (i : Int)) (fun i => l.length - i) (fun i => i ≤ l.length) (fun _ => true) ?_ 0 (Nat.zero_le _)
  intro i hi ih
  by_cases h : i < l.length
  · have hlt : (i : Int) < (l.length : Int) := by omega
    have h0 : (0 : Int) ≤ (i : Int) := by omega
    simp only [laws_eqIntS.l0, hlt, h0, if_true, wsucc h hl]
    exact ih (i + 1) (by omega) (by omega)
  · have hlt : ¬ (i : Int) < (l.length : Int) := by omega
    simp only [laws_eqIntS.l0, hlt, if_false]
    exact ev_now fun _ => rfl
/-! ### the laws' own helpers on rows of rows -/
theorem rowS_at (s : List (List Int)) (i : Nat) (h : i < s.length) : rd_L3 s (i : Int) = s[i] := by simp [rd_L3, h]
theorem szIntSS_ex (s : List (List Int)) (a : Int) (hs : s.length ≤ 9223372036854775807) (hr : ∀ x ∈ s, x.length ≤ 9223372036854775807) (h0 : 0 ≤ a) (h1 : a ≤ 1048576) : ∃ v : Int, (0 ≤ v → s.length ≤ 1048576 ∧ ∀ x ∈ s, x.length ≤ 1048576) ∧ Ev (fun k => laws_szIntSS.f k s a) v := by
  unfold laws_szIntSS.f
  rw [w_id (n := a - (s.length : Int)) (by omega) (by omega)]
  by_cases h : a - (s.length : Int) < 0
  · simp only [h, if_true]
    exact ⟨-1, fun z => absurd z (by omega), ev_now fun _ => rfl⟩
  · simp only [h, if_false]
    refine ev_ex (fun k (x : Nat × Int) => laws_szIntSS.l0 k s x.2 (x.1 : Int)) (fun x => s.length - x.1) (fun x => x.1 ≤ s.length ∧ 0 ≤ x.2 ∧ x.2 ≤ 1048576 ∧ ∀ j : Nat, j < x.1 → ∀ hj : j < s.length, s[j].length ≤ 1048576) (fun v => 0 ≤ v → s.length ≤ 1048576 ∧ ∀ x ∈ s, x.length ≤ 1048576) ?_ (0, a - (s.length : Int)) ⟨Nat.zero_le _, by simp; omega, by simp; omega, fun j hj => absurd hj (Nat.not_lt_zero _)⟩
    rintro ⟨i, b⟩ ⟨hi, b0, b1, hj⟩ ih
    simp only at hi b0 b1 hj ih ⊢
    by_cases g : i < s.length
    · have hlt : (i : Int) < (s.length : Int) := by omega
      have p0 : (0 : Int) ≤ (i : Int) := by omega
      have hrl := hr s[i] (List.getElem_mem g)
      simp only [laws_szIntSS.l0, hlt, p0, if_true, rowS_at s i g, laws_szIntS.f, w_id (n := b - (s[i].length : Int)) (by omega) (by omega)]
      by_cases c : b - (s[i].length : Int) < 0
      · have c1 : (-1 : Int) < 0 := by omega
        simp only [c, c1, if_true, Option.bind_some]
        exact ⟨-1, fun z => absurd z (by omega), ev_now fun _ => rfl⟩
      · simp only [c, if_false, Option.bind_some, wsucc g (show s.length ≤ 9223372036854775807 by omega)]
        refine ih (i + 1, b - (s[i].length : Int)) ⟨by simp; omega, by simp; omega, by simp; omega, ?_⟩ (by simp; omega)
        intro j hji hjl
        simp only at hji
        by_cases e : j = i
        · subst e; omega
        · exact hj j (by omega) hjl
    · have hlt : ¬ (i : Int) < (s.length : Int) := by omega
      simp only [laws_szIntSS.l0, hlt, if_false]
      refine ⟨b, fun _ => ⟨by omega, fun x hx => ?_⟩, ev_now fun _ => rfl⟩
      obtain ⟨j, hjl, rfl⟩ := List.getElem_of_mem hx
      exact hj j (by omega) hjl
theorem toIntSS_ev (s : List (List Int)) (hs : s.length ≤ 1048576) (hr : ∀ x ∈ s, x.length ≤ 1048576) : Ev (fun k => laws_toIntSS.f k s) s := by
  unfold laws_toIntSS.f
  have h0 : (0 : Int) ≤ (s.length : Int) := by omega
  have h1 : s.length ≤ 11728124029610 := by omega
  simp only [h0, if_true, Int.toNat_natCast, h1]
  refine ev_ind (fun k (x : Nat × List (List Int)) => laws_toIntSS.l0 k s x.2 (x.1 : Int)) (fun x => s.length - x.1) (fun x => x.1 ≤ s.length ∧ x.2.length = s.length ∧ ∀ j, j < x.1 → x.2[j]? = s[j]?) (fun _ => s) ?_ (0, List.replicate s.length []) ⟨Nat.zero_le _, by simp, fun j hj => absurd hj (Nat.not_lt_zero _)⟩
  rintro ⟨i, acc⟩ ⟨hi, ha, hp⟩ ih
  simp only at hi ha hp ih ⊢
  by_cases h : i < s.length
  · have hlt : (i : Int) < (s.length : Int) := by omega
    have hlt' : (i : Int) < (acc.length : Int) := by omega
    have p0 : (0 : Int) ≤ (i : Int) := by omega
    simp only [laws_toIntSS.l0, hlt, hlt', p0, if_true, rowS_at s i h, wsucc h (show s.length ≤ 9223372036854775807 by omega), Int.toNat_natCast]
    refine Ev.bind (toIntS_ev s[i] (hr _ (List.getElem_mem h))) ?_
    refine ih (i + 1, acc.set i s[i]) ⟨by simp; omega, by simp [ha], ?_⟩ (by simp; omega)
    intro j hj
    simp only at hj ⊢
    rw [List.getElem?_set]
    by_cases e : i = j
    · subst e
      rw [if_pos rfl, if_pos (by omega)]
      simp [h]
    · rw [if_neg e]; exact hp j (by omega)
  · have hlt : ¬ (i : Int) < (s.length : Int) := by omega
    simp only [laws_toIntSS.l0, hlt, if_false]
    refine ev_now fun k => ?_
    congr 1
    apply List.ext_getElem?
    intro j
    by_cases hj : j < s.length
    · exact hp j (by omega)
    · rw [List.getElem?_eq_none (by omega), List.getElem?_eq_none (by omega)]
theorem eqIntSS_self (s : List (List Int)) (hs : s.length ≤ 9223372036854775807) (hr : ∀ x ∈ s, x.length ≤ 9223372036854775807) : Ev (fun k => laws_eqIntSS.f k s s) true := by
  unfold laws_eqIntSS.f
  simp only [if_true]
  refine ev_ind (fun k (i : Nat) => laws_eqIntSS.l0 k s s (i : Int)) (fun i => s.length - i) (fun i => i ≤ s.length) (fun _ => true) ?_ 0 (Nat.zero_le _)
  intro i hi ih
  by_cases h : i < s.length
  · have hlt : (i : Int) < (s.length : Int) := by omega
    have h0 : (0 : Int) ≤ (i : Int) := by omega
    simp only [laws_eqIntSS.l0, hlt, h0, if_true, wsucc h hs, rowS_at s i h]
    refine Ev.bind (eqIntS_self s[i] (hr _ (List.getElem_mem h))) ?_
    simp only [if_true]
    exact ih (i + 1) (by omega) (by omega)
  · have hlt : ¬ (i : Int) < (s.length : Int) := by omega
    simp only [laws_eqIntSS.l0, hlt, if_false]
    exact ev_now fun _ => rfl
/-! ### marks: what a law writes into memory, and looks for again -/
theorem arc_eta (x : S58) : (⟨x.f0, x.f1, x.f2, x.f3, x.f4⟩ : S58) = x := rfl
theorem rd_set (l : List S58) (i : Nat) (v : S58) (h : i < l.length) : rd_T58 (l.set i v) (i : Int) = v := by simp [rd_T58, h]
theorem take_set_next {α : Type} (l : List α) (i : Nat) (v : α) (h : i < l.length) : (l.set i v).take (i + 1) = l.take i ++ [v] := by
  rw [List.take_succ_eq_append_getElem (by simpa using h), List.getElem_set_self, List.take_set_of_le (Nat.le_refl _)]
def nx (a : Int) : Int := wrap64 (a + 1)
def markA (a : Int) : S58 := ⟨a, nx a, nx (nx a), nx (nx (nx a)), nx (nx (nx (nx a)))⟩
def endA : Nat → Int → Int
  | 0, a => a
  | n + 1, a => endA n (nx (nx (nx (nx (nx a)))))
def marksA : Nat → Int → List S58
  | 0, _ => []
  | n + 1, a => markA a :: marksA n (nx (nx (nx (nx (nx a)))))
theorem nx_small {a : Int} (h : 0 ≤ a) (h' : a ≤ 1000000000000) : nx a = a + 1 := by unfold nx wrap64; omega
theorem endA_pos (n : Nat) : ∀ a : Int, 0 ≤ a → a + 5 * (n : Int) ≤ 1000000000 → 0 ≤ endA n a ∧ endA n a = a + 5 * (n : Int) := by
  induction n with
  | zero => intro a h _; exact ⟨h, by simp [endA]⟩
  | succ n ih =>
    intro a h h'
    unfold endA
    rw [nx_small (a := a) (by omega) (by omega), nx_small (a := a + 1) (by omega) (by omega), nx_small (a := a + 1 + 1) (by omega) (by omega), nx_small (a := a + 1 + 1 + 1) (by omega) (by omega), nx_small (a := a + 1 + 1 + 1 + 1) (by omega) (by omega)]
    have := ih (a + 1 + 1 + 1 + 1 + 1) (by omega) (by omega)
    omega
theorem marksA_length (n : Nat) : ∀ a, (marksA n a).length = n := by
  induction n with
  | zero => intro a; rfl
  | succ n ih => intro a; simp [marksA, ih]
theorem markArcS_ev (l : List S58) (a : Int) (hl : l.length ≤ 9223372036854775807) : Ev (fun k => laws_markArcS.f k l a) (endA l.length a, marksA l.length a) := by
  unfold laws_markArcS.f
  have := ev_ind (fun k (s : Nat × List S58 × Int) => laws_markArcS.l0 k s.2.1 s.2.2 (s.1 : Int)) (fun s => l.length - s.1) (fun s => s.1 ≤ l.length ∧ s.2.1.length = l.length) (fun s => (endA (l.length - s.1) s.2.2, s.2.1.take s.1 ++ marksA (l.length - s.1) s.2.2)) ?_ (0, l, a) ⟨Nat.zero_le _, rfl⟩
  · simpa using this
  rintro ⟨i, x, a⟩ ⟨hi, hx⟩ ih
  simp only at hi hx ih ⊢
  by_cases h : i < l.length
  · have hlt : (i : Int) < (x.length : Int) := by omega
    have h0 : (0 : Int) ≤ (i : Int) := by omega
    have hix : i < x.length := by omega
    simp only [laws_markArcS.l0, hlt, h0, if_true, Option.bind_some, Int.toNat_natCast, rd_set, hix, List.length_set, List.set_set, wsucc h hl]
    refine ev_at (ih (i + 1, x.set i (markA a), nx (nx (nx (nx (nx a))))) ⟨by simp; omega, by simp [hx]⟩ (by simp; omega)) ?_
    obtain ⟨d, hd⟩ : ∃ d, l.length - i = d + 1 := ⟨l.length - i - 1, by omega⟩
    simp only [show l.length - (i + 1) = d by omega, hd, endA, marksA, take_set_next _ _ _ hix, List.append_assoc, List.singleton_append]
  · have hlt : ¬ (i : Int) < (x.length : Int) := by omega
    simp only [laws_markArcS.l0, hlt, if_false]
    refine ev_now fun k => ?_
    rw [show l.length - i = 0 by omega, List.take_of_length_le (by omega)]
    simp [endA, marksA]
theorem markNet_ev (n : Int) (l : List S58) (a : Int) (hl : l.length ≤ 9223372036854775807) : Ev (fun k => laws_markNet.f k n l a) (endA l.length a, marksA l.length a) := by
  unfold laws_markNet.f
  exact Ev.bind (markArcS_ev l a hl) (ev_now fun _ => rfl)
/-! ### marks of numbers -/
def endI : Nat → Int → Int
  | 0, a => a
  | n + 1, a => endI n (nx a)
def marksI : Nat → Int → List Int
  | 0, _ => []
  | n + 1, a => a :: marksI n (nx a)
theorem marksI_length (n : Nat) : ∀ a, (marksI n a).length = n := by
  induction n with
  | zero => intro a; rfl
  | succ n ih => intro a; simp [marksI, ih]
theorem endI_pos (n : Nat) : ∀ a : Int, 0 ≤ a → a + (n : Int) ≤ 1000000000 → 0 ≤ endI n a ∧ endI n a = a + (n : Int) := by
  induction n with
  | zero => intro a h _; exact ⟨h, by simp [endI]⟩
  | succ n ih =>
    intro a h h'
    unfold endI
    rw [nx_small (a := a) (by omega) (by omega)]
    have := ih (a + 1) (by omega) (by omega)
    omega
theorem markIntS_ev (l : List Int) (a : Int) (hl : l.length ≤ 9223372036854775807) : Ev (fun k => laws_markIntS.f k l a) (endI l.length a, marksI l.length a) := by
  unfold laws_markIntS.f
  have := ev_ind (fun k (s : Nat × List Int × Int) => laws_markIntS.l0 k s.2.1 s.2.2 (s.1 : Int)) (fun s => l.length - s.1) (fun s => s.1 ≤ l.length ∧ s.2.1.length = l.length) (fun s => (endI (l.length - s.1) s.2.2, s.2.1.take s.1 ++ marksI (l.length - s.1) s.2.2)) ?_ (0, l, a) ⟨Nat.zero_le _, rfl⟩
  · simpa using this
  rintro ⟨i, x, a⟩ ⟨hi, hx⟩ ih
  simp only at hi hx ih ⊢
  by_cases h : i < l.length
  · have hlt : (i : Int) < (x.length : Int) := by omega
    have h0 : (0 : Int) ≤ (i : Int) := by omega
    have hix : i < x.length := by omega
    simp only [laws_markIntS.l0, hlt, h0, if_true, Int.toNat_natCast, wsucc h hl]
    refine ev_at (ih (i + 1, x.set i a, nx a) ⟨by simp; omega, by simp [hx]⟩ (by simp; omega)) ?_
    obtain ⟨d, hd⟩ : ∃ d, l.length - i = d + 1 := ⟨l.length - i - 1, by omega⟩
    simp only [show l.length - (i + 1) = d by omega, hd, endI, marksI, take_set_next _ _ _ hix, List.append_assoc, List.singleton_append]
  · have hlt : ¬ (i : Int) < (x.length : Int) := by omega
    simp only [laws_markIntS.l0, hlt, if_false]
    refine ev_now fun k => ?_
    rw [show l.length - i = 0 by omega, List.take_of_length_le (by omega)]
    simp [endI, marksI]
theorem heldIntS_ev (n : Nat) (a : Int) (hl : n ≤ 9223372036854775807) : Ev (fun k => laws_heldIntS.f k (marksI n a) a) (endI n a) := by
  unfold laws_heldIntS.f
  have := ev_ind (fun k (s : Nat × Int) => laws_heldIntS.l0 k (marksI n a) s.2 (s.1 : Int)) (fun s => n - s.1) (fun s => s.1 ≤ n ∧ (marksI n a).drop s.1 = marksI (n - s.1) s.2) (fun s => endI (n - s.1) s.2) ?_ (0, a) ⟨Nat.zero_le _, by simp⟩
  · simpa using this
  rintro ⟨i, b⟩ ⟨hi, hx⟩ ih
  simp only at hi hx ih ⊢
  have hlen := marksI_length n a
  by_cases h : i < n
  · have hlt : (i : Int) < ((marksI n a).length : Int) := by omega
    have h0 : (0 : Int) ≤ (i : Int) := by omega
    obtain ⟨d, hd⟩ : ∃ d, n - i = d + 1 := ⟨n - i - 1, by omega⟩
    rw [hd, marksI, List.drop_eq_getElem_cons (by omega), List.cons.injEq] at hx
    have hr : rd (marksI n a) (i : Int) = b := by rw [rd_at _ _ (by omega)]; exact hx.1
    simp only [laws_heldIntS.l0, hlt, h0, if_true, hr, wsucc h hl]
    refine ev_at (g := fun k => laws_heldIntS.l0 k (marksI n a) (nx b) ((i + 1 : Nat) : Int)) (ih (i + 1, nx b) ⟨by simp; omega, ?_⟩ (by simp; omega)) ?_ |> fun z => by simpa [nx] using z
    · simp only
      rw [show n - (i + 1) = d by omega]
      exact hx.2
    · rw [show n - (i + 1) = d by omega, hd, endI]
  · have hlt : ¬ (i : Int) < ((marksI n a).length : Int) := by omega
    simp only [laws_heldIntS.l0, hlt, if_false]
    refine ev_now fun k => ?_
    rw [show n - i = 0 by omega, endI]
theorem mkI_val : ∀ (n : Nat) (a : Int), 0 ≤ a → a + n ≤ 4000000000000000000 → mkI n a = a + n
  | 0, a, _, _ => by simp [mkI]
  | n + 1, a, h0, h1 => by
    rw [mkI, mkI_val n a h0 (by omega), w_id (by omega) (by omega)]
    omega
theorem mkSS_pos : ∀ (l : List (List Int)) (a : Int), 0 ≤ a → (∀ x ∈ l, x.length ≤ 1048576) → a + 1048576 * (l.length : Int) ≤ 4000000000000000000 → 0 ≤ mkSS l a
  | [], a, h, _, _ => h
  | x :: l, a, h, hx, hb => by
    have h1 := hx x (by simp)
    rw [List.length_cons] at hb
    show 0 ≤ mkSS l (mkI x.length a)
    rw [mkI_val x.length a h (by omega)]
    exact mkSS_pos l _ (by omega) (fun y hy => hx y (by simp [hy])) (by omega)
theorem seenBest_ex (n : Int) (l : List S58) (s : List (List Int)) (hl : l.length ≤ 9223372036854775807) (hsl : s.length ≤ 1048576) (hr : ∀ x ∈ s, x.length ≤ 9223372036854775807) :
    ∃ V c, V.length ≤ 1048576 ∧ Ev (fun k => impl_SeenBest.f k n l s) (V, c) ∧ Ev (fun k => spec_SeenBest.f k n l s) (V, c) := by
  by_cases hok : (netOkB n l && sightsB n s) = true
  · obtain ⟨hn, hs⟩ := seen_ok hok
    have hb1 := bestN_length (l := l) hs
    exact ⟨_, _, by omega, seenBest_impl hok, seenBest_spec hok (by omega) (by omega) hr⟩
  · exact ⟨[], -1, by simp, seenBest_not hok, seenBest_specNot hok (by omega) (by omega) hr⟩
theorem FnExactSeenBest : laws_FnExactSeenBest.Pure := by
  intro n l s _ hl hs
  refine Ev.rounds ?_
  unfold laws_FnExactSeenBest.f
  simp only [szNet_eq n l hl.1, Option.bind_some]
  by_cases h3 : l.length ≤ 1048576
  · have h4 : ¬ (1048576 - (l.length : Int) < 0) := by omega
    simp only [h3, h4, if_true, if_false]
    have hlm : (l.map arcOf).length ≤ 9223372036854775807 := by rw [List.length_map]; omega
    have hsr : ∀ x ∈ s, x.length ≤ 9223372036854775807 := fun x hx => (hs.2 x hx).1
    obtain ⟨v, hv, e⟩ := szIntSS_ex s (1048576 - (l.length : Int)) hs.1 hsr (by omega) (by omega)
    refine Ev.bind e ?_
    by_cases hv0 : v < 0
    · simp only [hv0, if_true]
      exact ev_now fun _ => rfl
    · simp only [hv0, if_false]
      obtain ⟨s1, s2⟩ := hv (by omega)
      obtain ⟨V, c, hV, hi, hsp⟩ := seenBest_ex n (l.map arcOf) s hlm s1 hsr
      have hV2 : V.length ≤ 9223372036854775807 := by omega
      have hev := endI_pos V.length 1 (by omega) (by omega)
      have hex := endA_pos (l.map arcOf).length 1 (by omega) (by rw [List.length_map]; omega)
      have e2 : ¬ endI V.length 1 < 0 := by omega
      have hml : (l.map arcOf).length = l.length := List.length_map ..
      have em := mkSS_pos s (endA (l.map arcOf).length 1) (by omega) s2 (by omega)
      have e1 : ¬ mkSS s (endA (l.map arcOf).length 1) < 0 := by omega
      have hall : s.length ≤ 1048576 ∧ (s.all fun x => decide (x.length ≤ 1048576)) = true := ⟨s1, List.all_eq_true.2 fun x hx => decide_eq_true (s2 x hx)⟩
      refine Ev.bind (toNet_ev n l h3) ?_
      refine Ev.bind (toIntSS_ev s s1 s2) ?_
      refine Ev.bind hsp ?_
      refine Ev.bind (toNet_ev n l h3) ?_
      refine Ev.bind (toIntSS_ev s s1 s2) ?_
      refine Ev.bind hi ?_
      refine Ev.bind (eqIntS_self V hV2) ?_
      simp only [if_true, bne_self_eq_false]
      refine ev_shift ?_
      simp only [laws_FnExactSeenBest.j0, Bool.false_eq_true, if_false]
      refine Ev.bind (toNet_ev n l h3) ?_
      refine Ev.bind (eqNet_self _ _ hlm) ?_
      simp only [if_true]
      refine Ev.bind (toIntSS_ev s s1 s2) ?_
      refine Ev.bind (eqIntSS_self s hs.1 hsr) ?_
      simp only [if_true]
      refine Ev.bind (markNet_ev _ _ _ hlm) ?_
      simp only [laws_markIntSS.f, if_pos hall, Option.bind_some, e1, if_false]
      refine Ev.bind (eqIntS_self V hV2) ?_
      simp only [if_true, bne_self_eq_false]
      refine ev_shift ?_
      simp only [laws_FnExactSeenBest.j1, Bool.false_eq_true, if_false]
      refine Ev.bind (markIntS_ev V 1 hV2) ?_
      refine Ev.bind (heldIntS_ev _ _ hV2) ?_
      simp only [e2, if_false, if_true]
      refine Ev.bind (toNet_ev n l h3) ?_
      refine Ev.bind (toIntSS_ev s s1 s2) ?_
      refine Ev.bind hi ?_
      refine Ev.bind (eqIntS_self V hV2) ?_
      simp only [if_true, bne_self_eq_false]
      refine ev_shift ?_
      simp only [laws_FnExactSeenBest.j2, Bool.false_eq_true, if_false]
      refine Ev.bind (heldIntS_ev _ _ hV2) ?_
      simp only [e2, if_false, if_true]
      exact ev_now fun _ => rfl
  · have h4 : ((-1 : Int) < 0) := by omega
    simp only [h3, h4, if_true, if_false]
    exact ev_now fun _ => rfl
end Go.Proofs.Ytlgolgfcolnddaa.Pure
