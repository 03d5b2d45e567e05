import Derived.Test.YtbappbbljncdeaaPureBase
import Derived.Test.YtbappbbljncdeaaFKinds
import Derived.Test.YtbappbbljncdeaaFimplMeas
import Derived.Test.YtbappbbljncdeaaFimplNettoward
import Derived.Test.YtbappbbljncdeaaFtextcore
namespace Go.Proofs.Ytbappbbljncdeaa.Pure
open Go.RowKit Go.Proofs.Ytbappbbljncdeaa.F Go.Proofs.YtbappbbljncdeaaW.PrintWords
set_option linter.unusedVariables false
set_option linter.unusedSimpArgs false
/-! ### the least costs from all nodes to one -/
/-- What a valid net is. -/
structure Net1 (n : Int) (l : List S100) : Prop where
  lo : 1 ≤ n
  hi : n ≤ 8
  len : l.length ≤ 16
  ends : ∀ x ∈ l, 0 ≤ x.f0 ∧ x.f0 < n ∧ 0 ≤ x.f1 ∧ x.f1 < n ∧ x.f0 ≠ x.f1 ∧ 0 ≤ x.f2 ∧ x.f2 ≤ 99 ∧ 0 ≤ x.f3 ∧ x.f3 ≤ 99 ∧ 0 ≤ x.f4 ∧ x.f4 ≤ 9
theorem net1_of {n : Int} {l : List S100} (h : netOkB n l = true) : Net1 n l := by
  unfold netOkB at h
  simp only [Bool.and_eq_true, decide_eq_true_eq, inB_iff, Bool.not_eq_true'] at h
  obtain ⟨⟨h1, h2⟩, h3, h4⟩ := h
  refine ⟨h1, h2, h3, fun x hx => ?_⟩
  have h5 : arcBad n x = false := by
    cases h6 : arcBad n x with
    | false => rfl
    | true => rw [List.any_eq_true.2 ⟨x, hx, h6⟩] at h4; cases h4
  rw [arcBad_eq] at h5
  simp only [Bool.not_eq_false', Bool.and_eq_true, inB_iff, Bool.not_eq_true', beq_eq_false_iff_ne] at h5
  rw [w_id (n := n - 1) (by omega) (by omega)] at h5
  obtain ⟨a, b, c, d, e, f⟩ := h5
  exact ⟨a.1, by omega, b.1, by omega, c, d.1, d.2, e.1, e.2, f.1, f.2⟩
theorem ev_ex {σ β : Type} (g : Nat → σ → Option β) (μ : σ → Nat) (Inv : σ → Prop) (P : β → Prop)
    (h : ∀ s, Inv s → (∀ s', Inv s' → μ s' < μ s → ∃ r, P r ∧ Ev (fun k => g k s') r) → ∃ r, P r ∧ Ev (fun k => g (k + 1) s) r) : ∀ s, Inv s → ∃ r, P r ∧ Ev (fun k => g k s) r := by
  have key : ∀ n s, μ s ≤ n → Inv s → ∃ r, P r ∧ Ev (fun k => g k s) r := by
    intro n
    induction n with
    | zero => intro s hs hi; obtain ⟨r, hp, he⟩ := h s hi (fun s' _ hlt => absurd hlt (by omega)); exact ⟨r, hp, ev_shift he⟩
    | succ n ih => intro s hs hi; obtain ⟨r, hp, he⟩ := h s hi (fun s' hi' hlt => ih s' (by omega) hi'); exact ⟨r, hp, ev_shift he⟩
  exact fun s hi => key _ s (Nat.le_refl _) hi
theorem rdi_set (D : List Int) (i j : Int) (v : Int) (hi : 0 ≤ i) (hl : i < (D.length : Int)) (hj : 0 ≤ j) : rd (D.set i.toNat v) j = if i = j then v else rd D j := by
  unfold rd
  rw [List.getD_eq_getElem?_getD, List.getD_eq_getElem?_getD, List.getElem?_set]
  by_cases h : i = j
  · subst h; rw [if_pos rfl, if_pos rfl, if_pos (by omega)]; rfl
  · rw [if_neg h, if_neg (by omega)]
theorem rdm_set (D : List S144) (i j : Int) (v : S144) (hi : 0 ≤ i) (hl : i < (D.length : Int)) (hj : 0 ≤ j) : rd_T144 (D.set i.toNat v) j = if i = j then v else rd_T144 D j := by
  unfold rd_T144
  rw [List.getD_eq_getElem?_getD, List.getD_eq_getElem?_getD, List.getElem?_set]
  by_cases h : i = j
  · subst h; rw [if_pos rfl, if_pos rfl, if_pos (by omega)]; rfl
  · rw [if_neg h, if_neg (by omega)]
def sumI : List Int → Int
  | [] => 0
  | x :: xs => x + sumI xs
theorem sumI_set (L : List Int) : ∀ (i : Nat) (v : Int), i < L.length → sumI (L.set i v) = sumI L - L.getD i 0 + v := by
  induction L with
  | nil => intro i v h; exact absurd h (by simp)
  | cons x xs ih =>
    intro i v h
    cases i with
    | zero => simp [sumI]; omega
    | succ i => simp only [List.set_cons_succ, sumI, ih i v (by simpa using h), List.getD_cons_succ]; omega
theorem sumI_nonneg (L : List Int) (h : ∀ x ∈ L, 0 ≤ x) : 0 ≤ sumI L := by
  induction L with
  | nil => simp [sumI]
  | cons x xs ih => have := h x (by simp); have := ih fun y hy => h y (by simp [hy]); simp only [sumI]; omega
theorem sumI_le8 (L : List Int) (b : Int) (hb : 0 ≤ b) (hl : L.length ≤ 8) (h : ∀ x ∈ L, x ≤ b) : sumI L ≤ 8 * b := by
  have key : ∀ L : List Int, (∀ x ∈ L, x ≤ b) → sumI L ≤ (L.length : Int) * b := by
    intro L
    induction L with
    | nil => intro _; simp [sumI]
    | cons x xs ih =>
      intro h
      have h1 := h x (by simp)
      have h2 := ih fun y hy => h y (by simp [hy])
      simp only [sumI, List.length_cons, Int.natCast_add, Int.add_mul]
      omega
  have h1 := key L h
  have h2 : (L.length : Int) * b ≤ 8 * b := Int.mul_le_mul_of_nonneg_right (by omega) hb
  omega
/-- A list that has all numbers below k has so many. -/
theorem levels_len (k : Nat) : ∀ L : List Int, (∀ j : Nat, j < k → (j : Int) ∈ L) → k ≤ L.length := by
  induction k with
  | zero => intro L _; omega
  | succ k ih =>
    intro L h
    have h1 := h k (by omega)
    have h2 := ih (L.erase (k : Int)) fun j hj => (List.mem_erase_of_ne (by omega)).2 (h j (by omega))
    rw [List.length_erase_of_mem h1] at h2
    have : 0 < L.length := List.length_pos_of_mem h1
    omega
/-- A walk to node t, from a node: what it costs, and how many arcs. -/
inductive Way (l : List S100) (t : Int) : Int → Int → Nat → Prop
  | nil : Way l t t 0 0
  | cons {x : S100} {c : Int} {m : Nat} : x ∈ l → Way l t x.f1 c m → Way l t x.f0 (x.f2 + c) (m + 1)
theorem Way.node {n : Int} {l : List S100} (hn : Net1 n l) {t : Int} (ht : 0 ≤ t ∧ t < n) {v c : Int} {m : Nat} (h : Way l t v c m) : 0 ≤ v ∧ v < n := by
  cases h with
  | nil => exact ht
  | cons hx _ => have := hn.ends _ hx; exact ⟨this.1, this.2.1⟩
def cM (M : List S144) (v : Int) : Int := (rd_T144 M v).f0
def aM (M : List S144) (v : Int) : Int := (rd_T144 M v).f1
def sumC (M : List S144) : Int := sumI (M.map fun m => m.f0)
def sumA (M : List S144) : Int := sumI (M.map fun m => m.f1)
theorem cM_set (M : List S144) (i j a b : Int) (hi : 0 ≤ i) (hl : i < (M.length : Int)) (hj : 0 ≤ j) : cM (M.set i.toNat ⟨a, b⟩) j = if i = j then a else cM M j := by
  unfold cM; rw [rdm_set M i j _ hi hl hj]; split <;> rfl
theorem aM_set (M : List S144) (i j a b : Int) (hi : 0 ≤ i) (hl : i < (M.length : Int)) (hj : 0 ≤ j) : aM (M.set i.toNat ⟨a, b⟩) j = if i = j then b else aM M j := by
  unfold aM; rw [rdm_set M i j _ hi hl hj]; split <;> rfl
theorem cM_get (M : List S144) (i : Nat) (h : i < M.length) : cM M (i : Int) = M[i].f0 := by simp [cM, rd_T144, h]
theorem aM_get (M : List S144) (i : Nat) (h : i < M.length) : aM M (i : Int) = M[i].f1 := by simp [aM, rd_T144, h]
theorem sumC_set (M : List S144) (i a b : Int) (hi : 0 ≤ i) (hl : i < (M.length : Int)) : sumC (M.set i.toNat ⟨a, b⟩) = sumC M - cM M i + a := by
  obtain ⟨j, rfl⟩ : ∃ j : Nat, i = (j : Int) := ⟨i.toNat, by omega⟩
  unfold sumC
  rw [List.map_set, Int.toNat_natCast, sumI_set _ j _ (by rw [List.length_map]; omega), cM_get M j (by omega)]
  rw [List.getD_eq_getElem?_getD, List.getElem?_map, List.getElem?_eq_getElem (show j < M.length by omega)]
  rfl
theorem sumA_set (M : List S144) (i a b : Int) (hi : 0 ≤ i) (hl : i < (M.length : Int)) : sumA (M.set i.toNat ⟨a, b⟩) = sumA M - aM M i + b := by
  obtain ⟨j, rfl⟩ : ∃ j : Nat, i = (j : Int) := ⟨i.toNat, by omega⟩
  unfold sumA
  rw [List.map_set, Int.toNat_natCast, sumI_set _ j _ (by rw [List.length_map]; omega), aM_get M j (by omega)]
  rw [List.getD_eq_getElem?_getD, List.getElem?_map, List.getElem?_eq_getElem (show j < M.length by omega)]
  rfl
/-- What holds of the measures while they are made. -/
structure MInv (n : Int) (l : List S100) (t : Int) (M : List S144) : Prop where
  len : (M.length : Int) = n
  rng : ∀ v, 0 ≤ v → v < n → 0 ≤ cM M v ∧ cM M v ≤ 99999 ∧ 0 ≤ aM M v ∧ (cM M v = 99999 → aM M v = 0)
  tz : cM M t = 0 ∧ aM M t = 0
  way : ∀ v, 0 ≤ v → v < n → cM M v ≠ 99999 → Way l t v (cM M v) (aM M v).toNat
  par : ∀ v, 0 ≤ v → v < n → v ≠ t → cM M v ≠ 99999 → ∃ x ∈ l, x.f0 = v ∧ cM M x.f1 ≠ 99999 ∧ (cM M x.f1 + x.f2 < cM M v ∨ cM M x.f1 + x.f2 = cM M v ∧ aM M x.f1 + 1 ≤ aM M v)
  bnd : ∀ v, 0 ≤ v → v < n → aM M v + sumC M ≤ 799992
def pot (M : List S144) : Nat := (sumC M * 6399937 + sumA M).toNat
/-- An arc says that it can be nearer. -/
def Less (M : List S144) (x : S100) : Prop := cM M x.f1 + x.f2 < cM M x.f0 ∨ cM M x.f1 + x.f2 = cM M x.f0 ∧ aM M x.f1 + 1 < aM M x.f0
def Closed (l : List S100) (M : List S144) : Prop := ∀ x ∈ l, cM M x.f1 ≠ 99999 → ¬ Less M x
theorem MInv.sums {n : Int} {l : List S100} {t : Int} {M : List S144} (hn : Net1 n l) (h : MInv n l t M) : 0 ≤ sumC M ∧ 0 ≤ sumA M ∧ sumA M ≤ 6399936 := by
  have hl := h.len
  have hi := hn.hi
  have hc : ∀ x ∈ (M.map fun m => m.f0), 0 ≤ x := by
    intro x hx
    obtain ⟨m, hm, rfl⟩ := List.mem_map.1 hx
    obtain ⟨i, hi, rfl⟩ := List.getElem_of_mem hm
    have := h.rng i (by omega) (by omega)
    rw [cM_get M i hi] at this
    exact this.1
  have hC := sumI_nonneg _ hc
  have ha : ∀ x ∈ (M.map fun m => m.f1), 0 ≤ x ∧ x ≤ 799992 := by
    intro x hx
    obtain ⟨m, hm, rfl⟩ := List.mem_map.1 hx
    obtain ⟨i, hi, rfl⟩ := List.getElem_of_mem hm
    have h1 := h.rng i (by omega) (by omega)
    have h2 := h.bnd i (by omega) (by omega)
    rw [aM_get M i hi] at h1 h2
    unfold sumC at h2
    omega
  have h1 := sumI_nonneg _ fun x hx => (ha x hx).1
  have h2 := sumI_le8 _ 799992 (by omega) (by rw [List.length_map]; omega) fun x hx => (ha x hx).2
  exact ⟨hC, h1, by unfold sumA; omega⟩
set_option maxHeartbeats 4000000 in
theorem MInv.step {n : Int} {l : List S100} {t : Int} {M : List S144} (hn : Net1 n l) (h : MInv n l t M) {x : S100} (hx : x ∈ l) (hw : cM M x.f1 ≠ 99999) (hL : Less M x) :
    MInv n l t (M.set x.f0.toNat ⟨cM M x.f1 + x.f2, aM M x.f1 + 1⟩) ∧ pot (M.set x.f0.toNat ⟨cM M x.f1 + x.f2, aM M x.f1 + 1⟩) < pot M := by
  obtain ⟨e1, e2, e3, e4, e5, e6, e7, _⟩ := hn.ends x hx
  have hlen := h.len
  have hlt : x.f0 < (M.length : Int) := by omega
  have r0 := h.rng x.f0 e1 e2
  have r1 := h.rng x.f1 e3 e4
  have b0 := h.bnd x.f0 e1 e2
  have b1 := h.bnd x.f1 e3 e4
  have hc : ∀ j, 0 ≤ j → cM (M.set x.f0.toNat ⟨cM M x.f1 + x.f2, aM M x.f1 + 1⟩) j = if x.f0 = j then cM M x.f1 + x.f2 else cM M j := fun j hj => cM_set M x.f0 j _ _ e1 hlt hj
  have ha : ∀ j, 0 ≤ j → aM (M.set x.f0.toNat ⟨cM M x.f1 + x.f2, aM M x.f1 + 1⟩) j = if x.f0 = j then aM M x.f1 + 1 else aM M j := fun j hj => aM_set M x.f0 j _ _ e1 hlt hj
  have sC := sumC_set M x.f0 (cM M x.f1 + x.f2) (aM M x.f1 + 1) e1 hlt
  have sA := sumA_set M x.f0 (cM M x.f1 + x.f2) (aM M x.f1 + 1) e1 hlt
  obtain ⟨s1, s2, s3⟩ := h.sums hn
  unfold Less at hL
  have hz := h.tz
  have hut : x.f0 ≠ t := by
    intro e
    rw [e] at hL
    omega
  have hinv : MInv n l t (M.set x.f0.toNat ⟨cM M x.f1 + x.f2, aM M x.f1 + 1⟩) := by
    refine ⟨by rw [List.length_set]; exact hlen, ?_, ?_, ?_, ?_, ?_⟩
    · intro v v0 v1
      rw [hc v v0, ha v v0]
      have := h.rng v v0 v1
      split
      · omega
      · exact this
    · by_cases ht : 0 ≤ t
      · rw [hc t ht, ha t ht, if_neg hut, if_neg hut]; exact hz
      · have h1 : ∀ L : List S144, cM L t = cM L 0 ∧ aM L t = aM L 0 := by
          intro L
          have : t.toNat = (0 : Int).toNat := by omega
          unfold cM aM rd_T144
          rw [this]
          exact ⟨rfl, rfl⟩
        rw [(h1 _).1, (h1 _).2] at hz ⊢
        rw [hc 0 (by omega), ha 0 (by omega)]
        by_cases h2 : x.f0 = 0
        · rw [h2] at hL; omega
        · rw [if_neg h2, if_neg h2]; exact hz
    · intro v v0 v1
      rw [hc v v0, ha v v0]
      by_cases e : x.f0 = v
      · subst e
        rw [if_pos rfl, if_pos rfl]
        intro _
        have hw' := h.way x.f1 e3 e4 hw
        have hm : (aM M x.f1 + 1).toNat = (aM M x.f1).toNat + 1 := by omega
        rw [hm, Int.add_comm]
        exact Way.cons hx hw'
      · rw [if_neg e, if_neg e]; exact h.way v v0 v1
    · intro v v0 v1 vt
      rw [hc v v0, ha v v0]
      by_cases e : x.f0 = v
      · subst e
        rw [if_pos rfl, if_pos rfl]
        intro _
        refine ⟨x, hx, rfl, ?_, ?_⟩
        · rw [hc x.f1 e3, if_neg e5]; exact hw
        · rw [hc x.f1 e3, ha x.f1 e3, if_neg e5, if_neg e5]; omega
      · rw [if_neg e, if_neg e]
        intro hv
        obtain ⟨y, hy, y0, y1, y2⟩ := h.par v v0 v1 vt hv
        have ey := hn.ends y hy
        refine ⟨y, hy, y0, ?_, ?_⟩
        · rw [hc y.f1 ey.2.2.1]
          split
          · omega
          · exact y1
        · rw [hc y.f1 ey.2.2.1, ha y.f1 ey.2.2.1]
          by_cases e2 : x.f0 = y.f1
          · rw [if_pos e2, if_pos e2]; rw [← e2] at y2; omega
          · rw [if_neg e2, if_neg e2]; exact y2
    · intro v v0 v1
      rw [ha v v0, sC]
      have := h.bnd v v0 v1
      split <;> omega
  refine ⟨hinv, ?_⟩
  obtain ⟨t1, t2, t3⟩ := hinv.sums hn
  unfold pot
  rw [sC] at t1 ⊢
  rw [sA] at t2 t3 ⊢
  omega
/-- What the program's measures are at the end. -/
def Fin1 (n : Int) (l : List S100) (t : Int) (M : List S144) : Prop := MInv n l t M ∧ Closed l M
theorem less_eq (a b c d : Int) : impl_measure_less.f a b c d = some (decide (a < c ∨ a = c ∧ b < d)) := by
  unfold impl_measure_less.f
  by_cases h : a < c
  · rw [if_pos h]; simp [h]
  · by_cases h2 : a = c
    · subst h2; simp
    · rw [if_neg h, if_neg h2]; simp [h, h2]
set_option maxHeartbeats 4000000 in
theorem toward_loop {n : Int} {l : List S100} (hn : Net1 n l) {t : Int} : ∀ s : List S144 × Bool, (MInv n l t s.1 ∧ (s.2 = false → Closed l s.1)) → ∃ R, Fin1 n l t R ∧ Ev (fun k => impl_Net_toward.l0 k s.1 s.2 n l) R := by
  refine ev_ex (fun k (s : List S144 × Bool) => impl_Net_toward.l0 k s.1 s.2 n l) (fun s => pot s.1 * 2 + (if s.2 = true then 1 else 0)) (fun s => MInv n l t s.1 ∧ (s.2 = false → Closed l s.1)) (Fin1 n l t) ?_
  rintro ⟨M, b⟩ ⟨hM, hC⟩ ih
  simp only at hM hC ih ⊢
  have hll := hn.len
  cases b with
  | false => exact ⟨M, ⟨hM, hC rfl⟩, ev_now fun k => by simp [impl_Net_toward.l0]⟩
  | true =>
    simp only [impl_Net_toward.l0, if_true]
    have inner := ev_ex (fun k (s : Nat × List S144 × Bool) => impl_Net_toward.l1 k s.2.1 s.2.2 l (l.length : Int) (s.1 : Int) n l) (fun s => l.length - s.1)
      (fun s => s.1 ≤ l.length ∧ MInv n l t s.2.1 ∧ ((s.2.2 = false ∧ s.2.1 = M ∧ ∀ j, j < s.1 → ∀ hj : j < l.length, cM M l[j].f1 ≠ 99999 → ¬ Less M l[j]) ∨ (s.2.2 = true ∧ pot s.2.1 < pot M))) (Fin1 n l t) ?_ (0, M, false) ⟨Nat.zero_le _, hM, .inl ⟨rfl, rfl, fun j hj => absurd hj (Nat.not_lt_zero _)⟩⟩
    · exact inner
    rintro ⟨i, M1, b1⟩ ⟨hi, hM1, hb⟩ ih2
    simp only at hi hM1 hb ih2 ⊢
    by_cases h : i < l.length
    · have hlt : (i : Int) < (l.length : Int) := by omega
      have h0 : (0 : Int) ≤ (i : Int) := by omega
      have hxl : l[i] ∈ l := List.getElem_mem h
      obtain ⟨e1, e2, e3, e4, e5, e6, e7, _⟩ := hn.ends l[i] hxl
      have hlen := hM1.len
      have g1 : l[i].f1 < (M1.length : Int) := by omega
      have g0 : l[i].f0 < (M1.length : Int) := by omega
      simp only [impl_Net_toward.l1, hlt, h0, if_true, arc_at l i h, e1, e3, g0, g1, wsucc h (show l.length ≤ 9223372036854775807 by omega), less_eq, Option.bind_some]
      have r1 := hM1.rng l[i].f1 e3 e4
      have b1' := hM1.bnd l[i].f1 e3 e4
      have hs := hM1.sums hn
      by_cases hf : cM M1 l[i].f1 = 99999
      · have hf' : (rd_T144 M1 l[i].f1).f0 = 99999 := hf
        simp only [hf', if_true]
        refine ih2 (i + 1, M1, b1) ⟨by simp; omega, hM1, ?_⟩ (by simp; omega)
        rcases hb with ⟨q1, q2, q3⟩ | q
        · refine .inl ⟨q1, q2, fun j hj hjl hc => ?_⟩
          by_cases hji : j = i
          · subst hji; rw [← q2] at hc; exact absurd hf hc
          · exact q3 j (by simp at hj; omega) hjl hc
        · exact .inr q
      · have hf' : ¬ (rd_T144 M1 l[i].f1).f0 = 99999 := hf
        have w1 : wrap64 ((rd_T144 M1 l[i].f1).f0 + l[i].f2) = cM M1 l[i].f1 + l[i].f2 := by unfold cM at *; exact w_id (by omega) (by omega)
        have w2 : wrap64 ((rd_T144 M1 l[i].f1).f1 + 1) = aM M1 l[i].f1 + 1 := by unfold aM at *; exact w_id (by omega) (by omega)
        simp only [hf', if_false, w1, w2]
        by_cases hL : Less M1 l[i]
        · have hL' : (cM M1 l[i].f1 + l[i].f2 < (rd_T144 M1 l[i].f0).f0 ∨ cM M1 l[i].f1 + l[i].f2 = (rd_T144 M1 l[i].f0).f0 ∧ aM M1 l[i].f1 + 1 < (rd_T144 M1 l[i].f0).f1) := hL
          simp only [hL', decide_true, if_true]
          obtain ⟨hs1, hs2⟩ := hM1.step hn hxl hf hL
          refine ih2 (i + 1, _, true) ⟨by simp; omega, hs1, .inr ⟨rfl, ?_⟩⟩ (by simp; omega)
          rcases hb with ⟨_, q2, _⟩ | ⟨_, q⟩
          · rw [← q2]; exact hs2
          · exact Nat.lt_trans hs2 q
        · have hL' : ¬ (cM M1 l[i].f1 + l[i].f2 < (rd_T144 M1 l[i].f0).f0 ∨ cM M1 l[i].f1 + l[i].f2 = (rd_T144 M1 l[i].f0).f0 ∧ aM M1 l[i].f1 + 1 < (rd_T144 M1 l[i].f0).f1) := hL
          simp only [hL', decide_false, Bool.false_eq_true, if_false]
          refine ih2 (i + 1, M1, b1) ⟨by simp; omega, hM1, ?_⟩ (by simp; omega)
          rcases hb with ⟨q1, q2, q3⟩ | q
          · refine .inl ⟨q1, q2, fun j hj hjl hc => ?_⟩
            by_cases hji : j = i
            · subst hji; rw [← q2]; exact hL
            · exact q3 j (by simp at hj; omega) hjl hc
          · exact .inr q
    · have hlt : ¬ (i : Int) < (l.length : Int) := by omega
      simp only [impl_Net_toward.l1, hlt, if_false]
      rcases hb with ⟨q1, q2, q3⟩ | ⟨q1, q2⟩
      · subst q1
        refine ih (M1, false) ⟨hM1, fun _ x hx hc => ?_⟩ (by rw [q2]; simp)
        obtain ⟨j, hj, rfl⟩ := List.getElem_of_mem hx
        rw [q2] at hc ⊢
        exact q3 j (by omega) hj hc
      · subst q1
        exact ih (M1, true) ⟨hM1, fun h => by cases h⟩ (by simp; omega)
theorem minv_start {n : Int} {l : List S100} (hn : Net1 n l) {t : Int} (h0 : 0 ≤ t) (h1 : t < n) : MInv n l t ((List.replicate n.toNat (⟨99999, 0⟩ : S144)).set t.toNat ⟨0, 0⟩) := by
  have hlo := hn.lo
  have hhi := hn.hi
  have hll : ((List.replicate n.toNat (⟨99999, 0⟩ : S144)).length : Int) = n := by rw [List.length_replicate]; omega
  have hc : ∀ v, 0 ≤ v → v < n → cM ((List.replicate n.toNat (⟨99999, 0⟩ : S144)).set t.toNat ⟨0, 0⟩) v = if t = v then 0 else 99999 := by
    intro v v0 v1
    rw [cM_set _ t v _ _ h0 (by omega) v0]
    split
    · rfl
    · obtain ⟨j, rfl⟩ : ∃ j : Nat, v = (j : Int) := ⟨v.toNat, by omega⟩
      rw [cM_get _ j (by rw [List.length_replicate]; omega), List.getElem_replicate]
  have ha : ∀ v, 0 ≤ v → v < n → aM ((List.replicate n.toNat (⟨99999, 0⟩ : S144)).set t.toNat ⟨0, 0⟩) v = 0 := by
    intro v v0 v1
    rw [aM_set _ t v _ _ h0 (by omega) v0]
    split
    · rfl
    · obtain ⟨j, rfl⟩ : ∃ j : Nat, v = (j : Int) := ⟨v.toNat, by omega⟩
      rw [aM_get _ j (by rw [List.length_replicate]; omega), List.getElem_replicate]
  refine ⟨by rw [List.length_set]; exact hll, ?_, ?_, ?_, ?_, ?_⟩
  · intro v v0 v1
    rw [hc v v0 v1, ha v v0 v1]
    split <;> omega
  · rw [hc t h0 h1, ha t h0 h1, if_pos rfl]; exact ⟨rfl, rfl⟩
  · intro v v0 v1
    rw [hc v v0 v1, ha v v0 v1]
    split
    · rename_i e; subst e; intro _; exact Way.nil
    · intro h; exact absurd rfl h
  · intro v v0 v1 vt
    rw [hc v v0 v1, if_neg (Ne.symm vt)]
    intro h; exact absurd rfl h
  · intro v v0 v1
    rw [ha v v0 v1]
    have := sumI_le8 (((List.replicate n.toNat (⟨99999, 0⟩ : S144)).set t.toNat ⟨0, 0⟩).map fun m => m.f0) 99999 (by omega) (by rw [List.length_map, List.length_set, List.length_replicate]; omega) (by
      intro x hx
      obtain ⟨m, hm, rfl⟩ := List.mem_map.1 hx
      rcases List.mem_or_eq_of_mem_set hm with h | h
      · rw [List.eq_of_mem_replicate h]; exact Int.le_refl _
      · rw [h]; simp)
    unfold sumC
    omega
/-- No walk is nearer than the measures say. -/
theorem Fin1.low {n : Int} {l : List S100} (hn : Net1 n l) {t : Int} {M : List S144} (hM : Fin1 n l t M) {v c : Int} {m : Nat} (h : Way l t v c m) : cM M v < c ∨ (cM M v = c ∧ aM M v ≤ m) ∨ 99999 ≤ c := by
  induction h with
  | nil => rw [hM.1.tz.1, hM.1.tz.2]; exact .inr (.inl ⟨rfl, by omega⟩)
  | @cons x c m hx h ih =>
    obtain ⟨e1, e2, e3, e4, e5, e6, e7, _⟩ := hn.ends x hx
    have r0 := hM.1.rng x.f0 e1 e2
    by_cases hf : cM M x.f1 = 99999
    · rcases ih with ih | ih | ih <;> omega
    · have := hM.2 x hx hf
      unfold Less at this
      rcases ih with ih | ih | ih <;> omega
theorem Fin1.levels {n : Int} {l : List S100} (hn : Net1 n l) {t : Int} {M : List S144} (hM : Fin1 n l t M) (m : Nat) : ∀ v, 0 ≤ v → v < n → cM M v ≠ 99999 → aM M v = (m : Int) → ∀ j : Nat, j ≤ m → ∃ u, 0 ≤ u ∧ u < n ∧ aM M u = (j : Int) := by
  induction m with
  | zero => intro v v0 v1 _ hm j hj; exact ⟨v, v0, v1, by rw [hm]; omega⟩
  | succ m ih =>
    intro v v0 v1 hc hm j hj
    by_cases hj2 : j = m + 1
    · exact ⟨v, v0, v1, by rw [hm, hj2]⟩
    · have hvt : v ≠ t := by intro e; rw [e, hM.1.tz.2] at hm; omega
      obtain ⟨x, hx, x0, x1, x2⟩ := hM.1.par v v0 v1 hvt hc
      obtain ⟨e1, e2, e3, e4, e5, e6, e7, _⟩ := hn.ends x hx
      have := hM.2 x hx x1
      unfold Less at this
      rw [x0] at this
      exact ih x.f1 e3 e4 x1 (by omega) j (by omega)
theorem Fin1.few {n : Int} {l : List S100} (hn : Net1 n l) {t : Int} {M : List S144} (hM : Fin1 n l t M) {v : Int} (v0 : 0 ≤ v) (v1 : v < n) (hc : cM M v ≠ 99999) : aM M v + 1 ≤ n := by
  have hlen := hM.1.len
  have r := hM.1.rng v v0 v1
  have := levels_len ((aM M v).toNat + 1) (M.map fun m => m.f1) (by
    intro j hj
    obtain ⟨u, u0, u1, hu⟩ := hM.levels hn (aM M v).toNat v v0 v1 hc (by omega) j (by omega)
    obtain ⟨i, rfl⟩ : ∃ i : Nat, u = (i : Int) := ⟨u.toNat, by omega⟩
    rw [aM_get M i (by omega)] at hu
    rw [← hu]
    exact List.mem_map.2 ⟨M[i], List.getElem_mem _, rfl⟩)
  rw [List.length_map] at this
  omega
end Go.Proofs.Ytbappbbljncdeaa.Pure
