import Derived.Test.YtbappbbljncdeaaPureNear
import Derived.Test.YtbappbbljncdeaaFKinds
import Derived.Test.YtbappbbljncdeaaFimplMeas
import Derived.Test.YtbappbbljncdeaaFimplNear
import Derived.Test.YtbappbbljncdeaaFimplNetback
import Derived.Test.YtbappbbljncdeaaFimplNettoward
import Derived.Test.YtbappbbljncdeaaFspecl3All
namespace Go.Proofs.Ytbappbbljncdeaa.Pure
open Go.RowKit Go.Proofs.Ytbappbbljncdeaa.F Go.Proofs.YtbappbbljncdeaaW.PrintWords
set_option linter.unusedVariables false
set_option linter.unusedSimpArgs false
/-! ### the reference's least costs, and that both are the same -/
def revA (x : S100) : S100 := ⟨x.f1, x.f0, x.f2, x.f3, x.f4⟩
def backL (l : List S100) : List S100 := l.map revA
theorem backL_backL (l : List S100) : backL (backL l) = l := by
  unfold backL
  rw [List.map_map]
  have : revA ∘ revA = id := by funext x; rfl
  rw [this, List.map_id]
theorem backL_length (l : List S100) : (backL l).length = l.length := by unfold backL; rw [List.length_map]
theorem Net1.back {n : Int} {l : List S100} (hn : Net1 n l) : Net1 n (backL l) := by
  refine ⟨hn.lo, hn.hi, by rw [backL_length]; exact hn.len, fun x hx => ?_⟩
  obtain ⟨y, hy, rfl⟩ := List.mem_map.1 hx
  obtain ⟨a, b, c, d, e, f⟩ := hn.ends y hy
  exact ⟨c, d, a, b, fun z => e z.symm, f⟩
/-- What holds of the reference's costs while they are made. -/
structure SInv (n : Int) (l : List S100) (s : Int) (D : List Int) : Prop where
  len : (D.length : Int) = n
  rng : ∀ v, 0 ≤ v → v < n → 0 ≤ rd D v ∧ rd D v ≤ 99999
  sz : rd D s = 0
  way : ∀ v, 0 ≤ v → v < n → rd D v < 99999 → ∃ m, Way (backL l) s v (rd D v) m
def RInv (l : List S100) (s : Int) (D : List Int) (r : Nat) : Prop := ∀ v c m, Way (backL l) s v c m → m ≤ r → rd D v ≤ c
theorem SInv.step {n : Int} {l : List S100} {s : Int} {D : List Int} (hn : Net1 n l) (hs : 0 ≤ s ∧ s < n) (h : SInv n l s D) {y : S100} (hy : y ∈ l) (hf : rd D y.f0 < 99999) (hL : rd D y.f0 + y.f2 < rd D y.f1) :
    SInv n l s (D.set y.f1.toNat (rd D y.f0 + y.f2)) ∧ ∀ v, 0 ≤ v → v < n → rd (D.set y.f1.toNat (rd D y.f0 + y.f2)) v ≤ rd D v := by
  obtain ⟨e1, e2, e3, e4, e5, e6, e7, _⟩ := hn.ends y hy
  have hlen := h.len
  have hlt : y.f1 < (D.length : Int) := by omega
  have hc : ∀ j, 0 ≤ j → rd (D.set y.f1.toNat (rd D y.f0 + y.f2)) j = if y.f1 = j then rd D y.f0 + y.f2 else rd D j := fun j hj => rdi_set D y.f1 j _ e3 hlt hj
  have r0 := h.rng y.f0 e1 e2
  have r1 := h.rng y.f1 e3 e4
  have hys : y.f1 ≠ s := by intro e; rw [e, h.sz] at hL; omega
  refine ⟨⟨by rw [List.length_set]; exact hlen, ?_, ?_, ?_⟩, ?_⟩
  · intro v v0 v1
    rw [hc v v0]
    have := h.rng v v0 v1
    split <;> omega
  · rw [hc s hs.1, if_neg hys]; exact h.sz
  · intro v v0 v1
    rw [hc v v0]
    by_cases e : y.f1 = v
    · rw [if_pos e]
      intro _
      obtain ⟨m, hm⟩ := h.way y.f0 e1 e2 hf
      refine ⟨m + 1, ?_⟩
      have hx : revA y ∈ backL l := List.mem_map.2 ⟨y, hy, rfl⟩
      have := Way.cons (t := s) hx (show Way (backL l) s (revA y).f1 (rd D y.f0) m from hm)
      rw [Int.add_comm, ← e]
      exact this
    · rw [if_neg e]; exact h.way v v0 v1
  · intro v v0 v1
    rw [hc v v0]
    split
    · rename_i e; rw [← e]; omega
    · exact Int.le_refl _
theorem l3All_round {n : Int} {l : List S100} (hn : Net1 n l) {s : Int} (hs : 0 ≤ s ∧ s < n) (r : Nat) (D0 : List Int) (h0 : SInv n l s D0) (hR : RInv l s D0 r) (q : Int) (P : List Int → Prop)
    (next : ∀ D, SInv n l s D → RInv l s D (r + 1) → ∃ R, P R ∧ Ev (fun k => spec_l3All.l1 k D (wrap64 (q + 1)) n l) R) :
    ∃ R, P R ∧ Ev (fun k => spec_l3All.l2 k D0 q 0 n l) R := by
  have hll := hn.len
  refine ev_ex (fun k (x : Nat × List Int) => spec_l3All.l2 k x.2 q (x.1 : Int) n l) (fun x => l.length - x.1) (fun x => x.1 ≤ l.length ∧ SInv n l s x.2 ∧ (∀ v, 0 ≤ v → v < n → rd x.2 v ≤ rd D0 v) ∧ ∀ j, j < x.1 → ∀ hj : j < l.length, rd x.2 l[j].f1 ≤ rd D0 l[j].f0 + l[j].f2 ∨ 99999 ≤ rd D0 l[j].f0) P ?_ (0, D0) ⟨Nat.zero_le _, h0, fun _ _ _ => Int.le_refl _, fun j hj => absurd hj (Nat.not_lt_zero _)⟩
  rintro ⟨i, D⟩ ⟨hi, hD, hle, hj⟩ ih
  simp only at hi hD hle hj ih ⊢
  by_cases h : i < l.length
  · have hlt : (i : Int) < (l.length : Int) := by omega
    have h0' : (0 : Int) ≤ (i : Int) := by omega
    have hxl : l[i] ∈ l := List.getElem_mem h
    obtain ⟨e1, e2, e3, e4, e5, e6, e7, _⟩ := hn.ends l[i] hxl
    have hlen := hD.len
    have g0 : l[i].f0 < (D.length : Int) := by omega
    have g1 : l[i].f1 < (D.length : Int) := by omega
    have r0 := hD.rng l[i].f0 e1 e2
    have r1 := hD.rng l[i].f1 e3 e4
    have l0 := hle l[i].f0 e1 e2
    have l1 := hle l[i].f1 e3 e4
    have w1 : wrap64 (rd D l[i].f0 + l[i].f2) = rd D l[i].f0 + l[i].f2 := w_id (by omega) (by omega)
    simp only [spec_l3All.l2, hlt, h0', if_true, arc_at l i h, e1, e3, g0, g1, wsucc h (show l.length ≤ 9223372036854775807 by omega), w1]
    by_cases hf : rd D l[i].f0 < 99999
    · by_cases hL : rd D l[i].f0 + l[i].f2 < rd D l[i].f1
      · simp only [hf, hL, if_true]
        obtain ⟨s1, s2⟩ := hD.step hn hs hxl hf hL
        refine ih (i + 1, D.set l[i].f1.toNat (rd D l[i].f0 + l[i].f2)) ⟨by simp; omega, s1, fun v v0 v1 => Int.le_trans (s2 v v0 v1) (hle v v0 v1), ?_⟩ (by simp; omega)
        intro j hji hjl
        simp only at hji ⊢
        obtain ⟨_, _, j3, j4, _⟩ := hn.ends l[j] (List.getElem_mem hjl)
        by_cases hjj : j = i
        · subst hjj
          left
          rw [rdi_set D _ _ _ e3 g1 e3, if_pos rfl]
          omega
        · rcases hj j (by omega) hjl with z | z
          · exact .inl (Int.le_trans (s2 _ j3 j4) z)
          · exact .inr z
      · simp only [hf, hL, if_true, if_false]
        refine ih (i + 1, D) ⟨by simp; omega, hD, hle, ?_⟩ (by simp; omega)
        intro j hji hjl
        simp only at hji ⊢
        by_cases hjj : j = i
        · subst hjj; omega
        · exact hj j (by omega) hjl
    · simp only [hf, if_false]
      refine ih (i + 1, D) ⟨by simp; omega, hD, hle, ?_⟩ (by simp; omega)
      intro j hji hjl
      simp only at hji ⊢
      by_cases hjj : j = i
      · subst hjj; right; omega
      · exact hj j (by omega) hjl
  · have hlt : ¬ (i : Int) < (l.length : Int) := by omega
    simp only [spec_l3All.l2, hlt, if_false]
    refine next D hD ?_
    intro v c m hw hm
    cases hw with
    | nil => rw [hD.sz]; exact Int.le_refl _
    | @cons x c m hx hw =>
      obtain ⟨y, hy, rfl⟩ := List.mem_map.1 hx
      obtain ⟨j, hjl, rfl⟩ := List.getElem_of_mem hy
      have h1 := hR _ _ _ hw (by omega)
      obtain ⟨j1, j2, j3, j4, j5, j6, j7, _⟩ := hn.ends l[j] hy
      have r1 := hD.rng l[j].f1 j3 j4
      have h2 := hj j (by omega) hjl
      simp only [revA] at h1 ⊢
      omega
theorem l3All_fill {n : Int} {l : List S100} (hn : Net1 n l) {s : Int} (hs : 0 ≤ s ∧ s < n) (P : List Int → Prop)
    (next : ∀ D, SInv n l s D → RInv l s D 0 → ∃ R, P R ∧ Ev (fun k => spec_l3All.l1 k D 0 n l) R) : ∃ R, P R ∧ Ev (fun k => spec_l3All.f k n l s) R := by
  have hlo := hn.lo
  have hhi := hn.hi
  unfold spec_l3All.f
  have b1 : (0 : Int) ≤ n := by omega
  have b2 : n.toNat ≤ 35184372088832 := by omega
  simp only [b1, b2, if_true]
  refine ev_ex (fun k (x : Nat × List Int) => spec_l3All.l0 k s x.2 (x.1 : Int) n l) (fun x => n.toNat - x.1) (fun x => x.1 ≤ n.toNat ∧ (x.2.length : Int) = n ∧ ∀ j : Nat, j < x.1 → rd x.2 (j : Int) = 99999) P ?_ (0, List.replicate n.toNat 0) ⟨Nat.zero_le _, by rw [List.length_replicate]; omega, fun j hj => absurd hj (Nat.not_lt_zero _)⟩
  rintro ⟨i, D⟩ ⟨hi, hlen, hj⟩ ih
  simp only at hi hlen hj ih ⊢
  by_cases h : i < n.toNat
  · have hlt : (i : Int) < n := by omega
    have h0 : (0 : Int) ≤ (i : Int) := by omega
    have g : (i : Int) < (D.length : Int) := by omega
    simp only [spec_l3All.l0, hlt, h0, g, if_true, wsucc h (show n.toNat ≤ 9223372036854775807 by omega)]
    refine ih (i + 1, D.set (i : Int).toNat 99999) ⟨by simp; omega, by rw [List.length_set]; exact hlen, ?_⟩ (by simp; omega)
    intro j hji
    simp only at hji ⊢
    rw [rdi_set D _ _ _ h0 g (by omega)]
    by_cases e : (i : Int) = (j : Int)
    · rw [if_pos e]
    · rw [if_neg e]; exact hj j (by omega)
  · have hlt : ¬ (i : Int) < n := by omega
    have g : s < (D.length : Int) := by omega
    simp only [spec_l3All.l0, hlt, hs.1, g, if_false, if_true]
    have hc : ∀ j, 0 ≤ j → j < n → rd (D.set s.toNat 0) j = if s = j then 0 else 99999 := by
      intro j j0 j1
      rw [rdi_set D _ _ _ hs.1 g j0]
      split
      · rfl
      · obtain ⟨k, rfl⟩ : ∃ k : Nat, j = (k : Int) := ⟨j.toNat, by omega⟩
        exact hj k (by omega)
    refine next _ ⟨by rw [List.length_set]; exact hlen, ?_, ?_, ?_⟩ ?_
    · intro v v0 v1
      rw [hc v v0 v1]
      split <;> omega
    · rw [hc s hs.1 hs.2, if_pos rfl]
    · intro v v0 v1
      rw [hc v v0 v1]
      split
      · rename_i e; subst e; intro _; exact ⟨0, Way.nil⟩
      · intro h; omega
    · intro v c m hw hm
      cases hw with
      | nil => rw [hc s hs.1 hs.2, if_pos rfl]; exact Int.le_refl _
      | cons _ _ => omega
theorem l3All_ex {n : Int} {l : List S100} (hn : Net1 n l) {s : Int} (hs : 0 ≤ s ∧ s < n) : ∃ D, (SInv n l s D ∧ RInv l s D n.toNat) ∧ Ev (fun k => spec_l3All.f k n l s) D := by
  have hlo := hn.lo
  have hhi := hn.hi
  refine l3All_fill hn hs _ fun D hD hR => ?_
  refine ev_ex (fun k (x : Nat × List Int) => spec_l3All.l1 k x.2 (x.1 : Int) n l) (fun x => n.toNat - x.1) (fun x => x.1 ≤ n.toNat ∧ SInv n l s x.2 ∧ RInv l s x.2 x.1) _ ?_ (0, D) ⟨Nat.zero_le _, hD, hR⟩
  rintro ⟨r, D⟩ ⟨hr, hD, hR⟩ ih
  simp only at hr hD hR ih ⊢
  by_cases h : r < n.toNat
  · have hlt : (r : Int) < n := by omega
    simp only [spec_l3All.l1, hlt, if_true]
    refine l3All_round hn hs r D hD hR r _ fun D1 h1 h2 => ?_
    rw [wsucc h (show n.toNat ≤ 9223372036854775807 by omega)]
    exact ih (r + 1, D1) ⟨by simp; omega, h1, h2⟩ (by simp; omega)
  · have hlt : ¬ (r : Int) < n := by omega
    simp only [spec_l3All.l1, hlt, if_false]
    have : r = n.toNat := by omega
    rw [this] at hR
    exact ⟨D, ⟨hD, hR⟩, ev_now fun _ => rfl⟩
theorem costs_ev (M : List S144) (h : M.length ≤ 1000) : Ev (fun k => impl_costs.f k M) (M.map fun m => m.f0) := by
  unfold impl_costs.f
  have h1 : ((M.length : Int) : Int).toNat ≤ 35184372088832 := by omega
  simp only [h1, if_true]
  have := ev_ind (fun k (s : Nat × List Int) => impl_costs.l0 k s.2 M (M.length : Int) (s.1 : Int)) (fun s => M.length - s.1) (fun s => s.1 ≤ M.length ∧ s.2.length ≤ s.1) (fun s => s.2 ++ (M.drop s.1).map fun m => m.f0) ?_ (0, []) ⟨Nat.zero_le _, by simp⟩
  · simpa using this
  rintro ⟨i, x⟩ ⟨hi, hx⟩ ih
  simp only at hi hx ih ⊢
  by_cases h : i < M.length
  · have hlt : (i : Int) < (M.length : Int) := by omega
    have h0 : (0 : Int) ≤ (i : Int) := by omega
    have b1 : x.length < 17592186044416 := by omega
    simp only [impl_costs.l0, hlt, h0, b1, if_true, wsucc h (show M.length ≤ 9223372036854775807 by omega)]
    refine ev_at (ih (i + 1, x ++ [(rd_T144 M (i : Int)).f0]) ⟨by simp; omega, by simp; omega⟩ (by simp; omega)) ?_
    rw [List.drop_eq_getElem_cons h, List.map_cons, List.append_assoc]
    simp [rd_T144, h]
  · have hlt : ¬ (i : Int) < (M.length : Int) := by omega
    simp only [impl_costs.l0, hlt, if_false]
    refine ev_now fun k => ?_
    rw [List.drop_of_length_le (by omega)]
    simp
theorem back_ev (n : Int) (l : List S100) (hl : l.length ≤ 1000) : Ev (fun k => impl_Net_back.f k n l) (n, backL l) := by
  unfold impl_Net_back.f
  have h1 : ((l.length : Int) : Int).toNat ≤ 7036874417766 := by omega
  simp only [h1, if_true]
  have := ev_ind (fun k (s : Nat × List S100) => impl_Net_back.l0 k l (l.length : Int) (s.1 : Int) n s.2) (fun s => l.length - s.1) (fun s => s.1 ≤ l.length ∧ s.2.length ≤ s.1) (fun s => (n, s.2 ++ backL (l.drop s.1))) ?_ (0, []) ⟨Nat.zero_le _, by simp⟩
  · simpa using this
  rintro ⟨i, x⟩ ⟨hi, hx⟩ ih
  simp only at hi hx ih ⊢
  by_cases h : i < l.length
  · have hlt : (i : Int) < (l.length : Int) := by omega
    have h0 : (0 : Int) ≤ (i : Int) := by omega
    have b1 : x.length < 3518437208883 := by omega
    simp only [impl_Net_back.l0, hlt, h0, b1, if_true, wsucc h (show l.length ≤ 9223372036854775807 by omega), arc_at l i h]
    refine ev_at (ih (i + 1, x ++ [revA l[i]]) ⟨by simp; omega, by simp; omega⟩ (by simp; omega)) ?_
    rw [List.drop_eq_getElem_cons h, backL, backL, List.map_cons, List.append_assoc]
    rfl
  · have hlt : ¬ (i : Int) < (l.length : Int) := by omega
    simp only [impl_Net_back.l0, hlt, if_false]
    refine ev_now fun k => ?_
    rw [List.drop_of_length_le (by omega)]
    simp [backL]
/-- The least measures to a node: what the program makes. -/
theorem toward_ex {n : Int} {l : List S100} (hn : Net1 n l) {t : Int} (ht : 0 ≤ t ∧ t < n) : ∃ M, Fin1 n l t M ∧ Ev (fun k => impl_Net_toward.f k n l t) M := by
  have hlo := hn.lo
  have hhi := hn.hi
  unfold impl_Net_toward.f impl_measure.f
  have b : 0 ≤ n ∧ n ≤ 8 := by omega
  have g : t < ((n.toNat : Nat) : Int) := by omega
  simp only [b, and_self, if_true, Option.bind_some, ht.1, List.length_replicate, g]
  exact toward_loop hn ((List.replicate n.toNat (⟨99999, 0⟩ : S144)).set t.toNat ⟨0, 0⟩, true) ⟨minv_start hn ht.1 ht.2, fun h => by cases h⟩
/-- Both are the same: the costs of the program's measures on a net, and what the reference makes of the net turned round. -/
theorem near_same {n : Int} {l : List S100} (hn : Net1 n l) {t : Int} (ht : 0 ≤ t ∧ t < n) {M : List S144} (hM : Fin1 n l t M) {D : List Int} (hD : SInv n (backL l) t D) (hR : RInv (backL l) t D n.toNat) : (M.map fun m => m.f0) = D := by
  have hlo := hn.lo
  have l1 := hM.1.len
  have l2 := hD.len
  have key : ∀ v, 0 ≤ v → v < n → cM M v = rd D v := by
    intro v v0 v1
    have r1 := hM.1.rng v v0 v1
    have r2 := hD.rng v v0 v1
    have a1 : rd D v ≤ cM M v := by
      by_cases hf : cM M v = 99999
      · omega
      · have hw := hM.1.way v v0 v1 hf
        rw [← backL_backL l] at hw
        have := hM.few hn v0 v1 hf
        exact hR _ _ _ hw (by omega)
    have a2 : cM M v ≤ rd D v := by
      by_cases hf : rd D v < 99999
      · obtain ⟨m, hw⟩ := hD.way v v0 v1 hf
        rw [backL_backL] at hw
        have := hM.low hn hw
        omega
      · omega
    omega
  apply List.ext_getElem
  · rw [List.length_map]; omega
  · intro i h1 h2
    rw [List.length_map] at h1
    have := key i (by omega) (by omega)
    rw [cM_get M i h1, rd_at D i h2] at this
    rw [List.getElem_map]
    exact this
/-- What is true of the least costs from a node. -/
structure Dist (n : Int) (l : List S100) (s : Int) (D : List Int) : Prop where
  impl : Ev (fun k => impl_Net_from.f k n l s) D
  spec : Ev (fun k => spec_l3All.f k n l s) D
  inv : SInv n l s D
  low : ∀ v c m, Way (backL l) s v c m → rd D v ≤ c
theorem dist_ex {n : Int} {l : List S100} (hn : Net1 n l) {s : Int} (hs : 0 ≤ s ∧ s < n) : ∃ D, Dist n l s D := by
  obtain ⟨M, hM, he⟩ := toward_ex hn.back hs
  obtain ⟨D, ⟨hD, hR⟩, hd⟩ := l3All_ex hn hs
  have e : (M.map fun m => m.f0) = D := near_same hn.back hs hM (by rw [backL_backL]; exact hD) (by rw [backL_backL]; exact hR)
  have hlow : ∀ v c m, Way (backL l) s v c m → rd D v ≤ c := by
    intro v c m hw
    have hv := hw.node hn.back hs
    have h1 := hM.low hn.back hw
    have h2 := hM.1.rng v hv.1 hv.2
    have h3 : rd D v = cM M v := by
      have hl := hM.1.len
      obtain ⟨i, rfl⟩ : ∃ i : Nat, v = (i : Int) := ⟨v.toNat, by omega⟩
      rw [← e, cM_get M i (by omega), rd_at _ i (by rw [List.length_map]; omega), List.getElem_map]
    omega
  refine ⟨D, ?_, hd, hD, hlow⟩
  unfold impl_Net_from.f
  refine Ev.bind (back_ev n l (by have := hn.len; omega)) ?_
  refine Ev.bind he ?_
  refine Ev.bind (costs_ev M (by have := hM.1.len; have := hn.hi; omega)) (ev_now fun _ => by rw [e])

theorem Way.snoc {l : List S100} {t v c : Int} {m : Nat} (h : Way l t v c m) {x : S100} (hx : x ∈ l) (ht : x.f0 = t) : Way l x.f1 v (c + x.f2) (m + 1) := by
  induction h with
  | nil =>
    have := Way.cons (t := x.f1) hx (Way.nil (l := l))
    rw [ht] at this
    rw [Int.add_comm]
    exact this
  | @cons y c m hy _ ih =>
    have := Way.cons hy ih
    rw [show y.f2 + c + x.f2 = y.f2 + (c + x.f2) by omega]
    exact this
/-- A walk, gone the other way round. -/
theorem Way.rev {l : List S100} {t v c : Int} {m : Nat} (h : Way l t v c m) : Way (backL l) v t c m := by
  induction h with
  | nil => exact Way.nil
  | @cons x c m hx _ ih =>
    have hr : revA x ∈ backL l := List.mem_map.2 ⟨x, hx, rfl⟩
    have := ih.snoc hr rfl
    rw [Int.add_comm]
    exact this
theorem Dist.sym {n : Int} {l : List S100} {a b : Int} {D E : List Int} (ha : 0 ≤ a ∧ a < n) (hb : 0 ≤ b ∧ b < n) (hD : Dist n l a D) (hE : Dist n (backL l) b E) : rd D b = rd E a := by
  have r1 := hD.inv.rng b hb.1 hb.2
  have r2 := hE.inv.rng a ha.1 ha.2
  have h1 : rd E a ≤ rd D b := by
    by_cases h : rd D b < 99999
    · obtain ⟨m, hw⟩ := hD.inv.way b hb.1 hb.2 h
      exact hE.low _ _ _ hw.rev
    · omega
  have h2 : rd D b ≤ rd E a := by
    by_cases h : rd E a < 99999
    · obtain ⟨m, hw⟩ := hE.inv.way a ha.1 ha.2 h
      have := hw.rev
      rw [backL_backL] at this
      exact hD.low _ _ _ this
    · omega
  omega
open Classical in
/-- The least costs from a node, as a list. -/
noncomputable def distV (n : Int) (l : List S100) (s : Int) : List Int := if h : ∃ D, Dist n l s D then h.choose else []
theorem distV_is {n : Int} {l : List S100} (hn : Net1 n l) {s : Int} (hs : 0 ≤ s ∧ s < n) : Dist n l s (distV n l s) := by
  unfold distV
  rw [dif_pos (dist_ex hn hs)]
  exact (dist_ex hn hs).choose_spec
end Go.Proofs.Ytbappbbljncdeaa.Pure
