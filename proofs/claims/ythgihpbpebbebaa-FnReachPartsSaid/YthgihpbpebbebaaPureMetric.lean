import Derived.Test.YthgihpbpebbebaaPureDist
import Derived.Test.YthgihpbpebbebaaFKinds
import Derived.Test.YthgihpbpebbebaaFtextcore
namespace Go.Proofs.Ythgihpbpebbebaa.Pure
open Go.RowKit Go.Proofs.Ythgihpbpebbebaa.F Go.Proofs.YthgihpbpebbebaaW.PrintWords
set_option linter.unusedVariables false
set_option linter.unusedSimpArgs false
/-! ### what holds of least costs -/
theorem ev_one {α : Type} {g : Nat → Option α} {a b : α} (h : Ev g a) (h' : Ev g b) : a = b := by
  obtain ⟨K, h⟩ := h
  obtain ⟨K', h'⟩ := h'
  have h1 := h (max K K') (by omega)
  rw [h' (max K K') (by omega)] at h1
  exact (Option.some.inj h1).symm
theorem Way.trans {l : List S31} {t v u c c' : Int} {m m' : Nat} (h1 : Way l t v c m) (h2 : Way l v u c' m') : Way l t u (c' + c) (m' + m) := by
  induction h2 with
  | nil => simpa using h1
  | @cons x c' m' hx _ ih =>
    have := Way.cons hx ih
    rw [show x.f2 + c' + c = x.f2 + (c' + c) by omega, show m' + 1 + m = (m' + m) + 1 by omega]
    exact this
theorem Way.cost {n : Int} {l : List S31} (hn : Net1 n l) {t v c : Int} {m : Nat} (h : Way l t v c m) : 0 ≤ c ∧ c ≤ 99 * (m : Int) := by
  induction h with
  | nil => simp
  | @cons x c m hx _ ih =>
    obtain ⟨_, _, _, _, _, h1, h2, _⟩ := hn.ends _ hx
    omega
theorem Dist.meas {n : Int} {l : List S31} (hn : Net1 n l) {s : Int} (hs : 0 ≤ s ∧ s < n) {D : List Int} (hD : Dist n l s D) : ∃ M, Fin1 n (backL l) s M ∧ ∀ v, 0 ≤ v → v < n → cM M v = rd D v := by
  obtain ⟨M, hM, _⟩ := toward_ex hn.back hs
  obtain ⟨D', ⟨h1, h2⟩, hd⟩ := l3All_ex hn hs
  have e : (M.map fun m => m.f0) = D' := near_same hn.back hs hM (by rw [backL_backL]; exact h1) (by rw [backL_backL]; exact h2)
  have e2 : D' = D := ev_one hd hD.spec
  refine ⟨M, hM, fun v v0 v1 => ?_⟩
  have hl := hM.1.len
  obtain ⟨i, rfl⟩ : ∃ i : Nat, v = (i : Int) := ⟨v.toNat, by omega⟩
  rw [← e2, ← e, cM_get M i (by omega), rd_at _ i (by rw [List.length_map]; omega), List.getElem_map]
theorem Dist.small {n : Int} {l : List S31} (hn : Net1 n l) {s : Int} (hs : 0 ≤ s ∧ s < n) {D : List Int} (hD : Dist n l s D) {v : Int} (v0 : 0 ≤ v) (v1 : v < n) (h : rd D v < 99999) : rd D v ≤ 700 := by
  obtain ⟨M, hM, he⟩ := hD.meas hn hs
  have hhi := hn.hi
  have e := he v v0 v1
  have hc : cM M v ≠ 99999 := by omega
  have h1 := hM.few hn.back v0 v1 hc
  have h2 := (hM.1.way v v0 v1 hc).cost hn.back
  have h3 := hM.1.rng v v0 v1
  omega
theorem Dist.tri {n : Int} {l : List S31} {a k : Int} (hk : 0 ≤ k ∧ k < n) {A K : List Int} (hA : Dist n l a A) (hK : Dist n l k K) {v : Int} (v0 : 0 ≤ v) (v1 : v < n) (h1 : rd A k < 99999) (h2 : rd K v < 99999) : rd A v ≤ rd A k + rd K v := by
  obtain ⟨m1, w1⟩ := hA.inv.way k hk.1 hk.2 h1
  obtain ⟨m2, w2⟩ := hK.inv.way v v0 v1 h2
  have := hA.low _ _ _ (w1.trans w2)
  omega
theorem Dist.arc {n : Int} {l : List S31} (hn : Net1 n l) {a : Int} {D : List Int} (hD : Dist n l a D) {x : S31} (hx : x ∈ l) (h : rd D x.f0 < 99999) : rd D x.f1 ≤ rd D x.f0 + x.f2 := by
  obtain ⟨e1, e2, e3, e4, _⟩ := hn.ends x hx
  obtain ⟨m, hw⟩ := hD.inv.way x.f0 e1 e2 h
  have hx' : revA x ∈ backL l := List.mem_map.2 ⟨x, hx, rfl⟩
  have := hD.low _ _ _ (Way.cons (t := a) hx' (show Way (backL l) a (revA x).f1 (rd D x.f0) m from hw))
  simp only [revA] at this
  omega
theorem dist_one {n : Int} {l : List S31} {s : Int} {D E : List Int} (hD : Dist n l s D) (hE : Dist n l s E) : D = E := ev_one hD.spec hE.spec
theorem netOk_of {n : Int} {l : List S31} (hn : Net1 n l) : netOkB n l = true := by
  unfold netOkB
  have hlo := hn.lo
  have hhi := hn.hi
  have hl := hn.len
  simp only [Bool.and_eq_true, decide_eq_true_eq, inB_iff, Bool.not_eq_true']
  refine ⟨⟨hlo, hhi⟩, hl, ?_⟩
  rw [List.any_eq_false]
  intro x hx
  obtain ⟨h1, h2, h3, h4, h5, h6, h7, h8, h9, h10, h11⟩ := hn.ends x hx
  have : arcBad n x = false := by
    rw [arcBad_eq]
    simp only [Bool.not_eq_false', Bool.and_eq_true, inB_iff, Bool.not_eq_true', beq_eq_false_iff_ne]
    rw [w_id (n := n - 1) (by omega) (by omega)]
    exact ⟨⟨h1, by omega⟩, ⟨h3, by omega⟩, h5, ⟨h6, h7⟩, ⟨h8, h9⟩, h10, h11⟩
  rw [this]; exact Bool.false_ne_true
theorem inB_node {n : Int} {l : List S31} (hn : Net1 n l) {a : Int} (h : 0 ≤ a ∧ a < n) : inB a 0 (wrap64 (n - 1)) = true := by
  have := hn.lo
  have := hn.hi
  rw [inB_iff, w_id (n := n - 1) (by omega) (by omega)]
  omega
end Go.Proofs.Ythgihpbpebbebaa.Pure
