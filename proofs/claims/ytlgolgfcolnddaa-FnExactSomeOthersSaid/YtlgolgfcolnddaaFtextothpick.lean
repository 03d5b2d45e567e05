-- Printed by wip/px/px.py of this claim's repository (the kit's printer, extended there). Lean checks it.
import Derived.Test.YtlgolgfcolnddaaFKinds
namespace Go.Proofs.Ytlgolgfcolnddaa.F
open Go.RowKit Go.Proofs.YtlgolgfcolnddaaW.PrintWords Go.Proofs.YtlgolgfcolnddaaW.PrintLast Go.Proofs.YtlgolgfcolnddaaW.PrintMore
attribute [local go_sem] max2_int min2_int max_two min_two max_three min_three max_four min_four   -- for this text's walks alone
set_option linter.unusedVariables false
set_option linter.unusedSimpArgs false

/-! ### text othpick -/
/-- What an elder grid's cells are, and what they lead to. -/
structure Grid (W : World) (base : Nat) (v : Value) (xs : List (List Int)) (f : Nat → Nat) (enc : Nat → Value) : Prop where
  len : ∃ A c, v = .slice A xs.length c ∧ xs.length ≤ c
  at_ : ∀ (j : Nat) (x : List Int), xs[j]? = some x → (∃ g c, v = .slice (some ⟨g, 0, none⟩) xs.length c ∧ W.cell? ⟨g, j, none⟩ = some (enc j)) ∧ (Kd.slice 3 (Kd.int .i64)).M W base (fun k => k < W.heap.size ∧ f k = j) x [enc j]
theorem grid_open {W : World} {base : Nat} {v : Value} {xs : List (List Int)} (h : Kd.S (Kd.slice 3 (Kd.int .i64)) 33 W base (fun _ => True) v xs) : ∃ (f : Nat → Nat) (enc : Nat → Value), (∀ i, (enc i).oneCell' = true) ∧ Grid W base v xs f enc := by
  obtain ⟨A, c, rfl, hc, _⟩ := Kd.S_reads h
  obtain ⟨f, h0, inner, ho, hr⟩ := Kd.S_bound h
  have hl : inner.length = xs.length := by have := hr.1; rw [List.length_zipIdx] at this; rw [this]; show xs.length * 1 = _; omega
  have hM : ∀ (j : Nat) (x : List Int) (hj : j < inner.length), xs[j]? = some x → (Kd.slice 3 (Kd.int .i64)).M W base (fun k => k < W.heap.size ∧ f k = j) x [inner[j]] := fun j x hj hx => by
    have h1 := hr.2 j (x, j) (Kd.zip_at hx)
    have e1 : (inner.drop (j * 1)).take 1 = [inner[j]] := by rw [Nat.mul_one, List.drop_eq_getElem_cons hj]; rfl
    rw [show (Kd.tag f (Kd.slice 3 (Kd.int .i64))).sz = 1 from rfl, e1] at h1
    exact Kd.M_mono _ (fun k hk => ⟨hk.1.1.2.2.1, hk.2⟩) h1
  refine ⟨f, fun i => inner.getD i (.slice none 0 0), fun i => ?_, ⟨A, c, rfl, hc⟩, fun j x hx => ?_⟩
  · by_cases hi : i < inner.length
    · have h1 := hM i xs[i] hi (by simp [← hl, hi])
      have := Kd.K_one _ (Kd.K_of_M _ h1) inner[i] (by simp)
      simpa [List.getD_eq_getElem?_getD, hi] using this
    · simp [List.getD_eq_getElem?_getD, List.getElem?_eq_none (Nat.le_of_not_lt hi)]
      rfl
  · obtain ⟨hj, _⟩ := List.getElem?_eq_some_iff.1 hx
    have e1 : inner.getD j (.slice none 0 0) = inner[j] := by simp [List.getD_eq_getElem?_getD, hl, hj]
    rw [e1]
    refine ⟨?_, hM j x (by omega) hx⟩
    obtain ⟨g, cap, he, hb, hlt⟩ := ho.form (by rw [List.length_zipIdx]; omega)
    injection he with h1 h2 h3
    subst h1
    refine ⟨g, c, rfl, ?_⟩
    rw [List.length_zipIdx] at ho
    rw [ho.cellAt j (by show j < xs.length * 1; omega)]
    simp [hl, hj]
theorem Grid.below {W W1 : World} {base : Nat} {v : Value} {xs : List (List Int)} {f : Nat → Nat} {enc : Nat → Value} (h : Grid W base v xs f enc) (hb : Below W.heap.size W W1) : ∀ (j : Nat) (x : List Int), xs[j]? = some x → (∃ g c, v = .slice (some ⟨g, 0, none⟩) xs.length c ∧ W1.cell? ⟨g, j, none⟩ = some (enc j)) ∧ (Kd.slice 3 (Kd.int .i64)).M W1 base (fun k => k < W.heap.size ∧ f k = j) x [enc j] := fun j x hx => by
  obtain ⟨⟨g, c, e, hg⟩, hM⟩ := h.at_ j x hx
  exact ⟨⟨g, c, e, (hb.cell (World.block_lt_of_cell? W _ hg)).trans hg⟩, Kd.M_below hM hb⟩
/-- A row of such cells reads as a grid. -/
theorem Grid.picked {W W1 : World} {base b2 : Nat} {v : Value} {xs : List (List Int)} {f : Nat → Nat} {enc : Nat → Value} {h1 : ∀ i, (enc i).oneCell' = true} {ok : Nat → Prop} (h : Grid W base v xs f enc) (hb : Below W.heap.size W W1) {ids : List Nat} (hi : ∀ i ∈ ids, i < xs.length) {A : Option Addr} {n c : Nat} (ho : (Kd.scalar enc h1).R 33 W1 b2 ok (.slice A n c) ids) :
    Kd.C (Kd.slice 3 (Kd.int .i64)) W1 A ids.length (ids.map fun i => xs.getD i []) := by
  obtain ⟨hn, hc, hl, hm, hp⟩ := Kd.R_reads' ho
  refine ⟨by simp, hm, fun hpos => ?_⟩
  obtain ⟨ad, ea, hcell⟩ := hp hpos
  refine ⟨ad, ea, fun j p hj => ?_⟩
  rw [List.getElem?_map] at hj
  obtain ⟨i, hij, rfl⟩ := Option.map_eq_some_iff.1 hj
  obtain ⟨cs, hcl, hK, hcc⟩ := hcell j i hij
  have hil := hi i (List.mem_of_getElem? hij)
  obtain ⟨_, hM⟩ := h.below hb i xs[i] (by simp [hil])
  have e2 : cs = [enc i] := hK
  subst e2
  refine ⟨[enc i], rfl, ?_, hcc⟩
  have e3 : xs.getD i [] = xs[i] := by simp [hil]
  rw [e3]
  exact Kd.K_of_M _ hM
/-- A row of some of a grid's cells, each once, is a grid. -/
theorem Grid.pick {W W1 : World} {base : Nat} {v vo : Value} {xs : List (List Int)} {f : Nat → Nat} {enc : Nat → Value} {h1 : ∀ i, (enc i).oneCell' = true} (h : Grid W base v xs f enc) (hb : Below W.heap.size W W1) {ids : List Nat} (hi : ∀ i ∈ ids, i < xs.length) (hd : ids.Nodup) (ho : (Kd.scalar enc h1).R 33 W1 base (fun k => W.heap.size ≤ k) vo ids) :
    Kd.S (Kd.slice 3 (Kd.int .i64)) 33 W1 base (fun _ => True) vo (ids.map fun i => xs.getD i []) := by
  obtain ⟨h0, inner, ho, hr⟩ := ho
  refine ⟨fun k => ids.idxOf (f k), fun _ _ => trivial, inner, by rw [List.length_zipIdx, List.length_map]; exact ho, ?_, ?_⟩
  · rw [List.length_zipIdx, List.length_map]; exact hr.1
  · intro j p hj
    rw [List.getElem?_zipIdx, List.getElem?_map] at hj
    obtain ⟨x, hx, rfl⟩ := Option.map_eq_some_iff.1 hj
    obtain ⟨i, hij, rfl⟩ := Option.map_eq_some_iff.1 hx
    have hil := hi i (List.mem_of_getElem? hij)
    obtain ⟨_, hM⟩ := h.below hb i xs[i] (by simp [hil])
    have e3 : xs.getD i [] = xs[i] := by simp [hil]
    have e2 : (inner.drop (j * 1)).take 1 = [enc i] := hr.2 j i hij
    show (Kd.slice 3 (Kd.int .i64)).M W1 base _ (xs.getD i []) ((inner.drop (j * 1)).take 1)
    rw [e2, e3]
    obtain ⟨hjl, hje⟩ := List.getElem?_eq_some_iff.1 hij
    refine Kd.M_mono _ (fun k hk => ⟨⟨trivial, fun e => ?_⟩, ?_⟩) hM
    · have := h0 k e.symm
      omega
    · show ids.idxOf (f k) = 0 + j
      rw [hk.2, ← hje, Nat.zero_add]
      exact hd.idxOf_getElem j hjl

end Go.Proofs.Ytlgolgfcolnddaa.F
