-- Printed by wip/px/px.py of this claim's repository (the kit's printer, extended there). Lean checks it.
import Derived.Test.YtlgolgfcolnddaaFKinds
import Derived.Test.YtlgolgfcolnddaaFtextcore
import Derived.Test.YtlgolgfcolnddaaFtextseenok
import Derived.Test.YtlgolgfcolnddaaFimplNear
import Derived.Test.YtlgolgfcolnddaaFslicesIn
import Derived.Test.YtlgolgfcolnddaaFtextseenstep
import Derived.Test.YtlgolgfcolnddaaFtextminint
namespace Go.Proofs.Ytlgolgfcolnddaa.F
open Go.RowKit Go.Proofs.YtlgolgfcolnddaaW.PrintWords Go.Proofs.YtlgolgfcolnddaaW.PrintLast Go.Proofs.YtlgolgfcolnddaaW.PrintMore
attribute [local go_sem] max2_int min2_int max_two min_two max_three min_three max_four min_four   -- for this text's walks alone
set_option linter.unusedVariables false
set_option linter.unusedSimpArgs false

/-! ### text seenbest -/
/-- The least cost to come to v, the first so many nodes taken in. -/
def bestV (all least s : List (List Int)) (i v : Nat) : Nat → Int
  | 0 => 99999
  | u + 1 => if stepV all least s i u v < bestV all least s i v u then stepV all least s i u v else bestV all least s i v u
def rowV (N : Nat) (all least s : List (List Int)) (i : Nat) : List Int := (List.range N).map fun v => bestV all least s i v N
/-- The rows of the first so many sights. -/
def leastV (N : Nat) (all s : List (List Int)) : Nat → List (List Int)
  | 0 => []
  | i + 1 => if i = 0 then [rdR s 0] else leastV N all s i ++ [rowV N all (leastV N all s i) s i]
theorem leastV_length (N : Nat) (all s : List (List Int)) : ∀ i, (leastV N all s i).length = i
  | 0 => rfl
  | i + 1 => by
    unfold leastV
    split
    · rename_i h; rw [h]; rfl
    · rw [List.length_append, leastV_length N all s i]; rfl
def seekV (p : Nat → Bool) : Nat → Nat → Option Nat
  | 0, _ => none
  | c + 1, u => if p u = true then some u else seekV p c (u + 1)
def hitV (all least s : List (List Int)) (i v u : Nat) : Bool := stepV all least s i u v == rd (rdR least (i : Int)) (v : Int)
def backV (N : Nat) (all least s : List (List Int)) : Nat → Nat → List Int → Option (List Int)
  | 0, v, tl => some ((v : Int) :: tl)
  | i + 1, v, tl => (seekV (hitV all least s (i + 1) v) N 0).bind fun u => backV N all least s i u ((v : Int) :: tl)
def endV (k N : Nat) (all least s : List (List Int)) (row : List Int) : Option (List Int × Int) := (slices_Index_int_int.f k row (minK row (row.length - 1))).bind fun o => if 0 ≤ o ∧ o < (N : Int) then (backV N all least s (s.length - 1) o.toNat []).bind fun r => some (r, minK row (row.length - 1)) else none
def sbF (k : Nat) (n : Int) (l : List S58) (s : List (List Int)) : Option (List Int × Int) :=
  if seenOkB n l s = true then (impl_Net_table.f k n l).bind fun all => if all.length = n.toNat ∧ (all.all fun r => r.length == n.toNat) = true then endV k n.toNat all (leastV n.toNat all s s.length) s (rdR (leastV n.toNat all s s.length) ((s.length - 1 : Nat) : Int)) else none
  else some ([], -1)
theorem sights_seen {n : Int} {l : List S58} {s : List (List Int)} (h : seenOkB n l s = true) : 1 ≤ n ∧ n ≤ 8 ∧ 1 ≤ s.length ∧ s.length ≤ 6 ∧ ∀ i : Nat, i < s.length → ((rdR s (i : Int)).length : Int) = n := by
  unfold seenOkB netOkB inB at h
  simp only [Bool.and_eq_true, decide_eq_true_eq, Bool.not_eq_true'] at h
  obtain ⟨⟨⟨h1, h2⟩, _⟩, ⟨h3, h4⟩, h5⟩ := h
  refine ⟨h1, h2, by omega, by omega, fun i hi => ?_⟩
  have e : rdR s (i : Int) = s[i] := by simp [rdR, hi]
  rw [e]
  have hb : seenBad n s[i] = false := by
    cases hc : seenBad n s[i] with
    | false => rfl
    | true =>
      have : s.any (seenBad n) = true := List.any_eq_true.2 ⟨_, List.getElem_mem hi, hc⟩
      rw [this] at h5
      cases h5
  unfold seenBad at hb
  rw [Bool.or_eq_false_iff, decide_eq_false_iff_not, Decidable.not_not] at hb
  exact hb.1
theorem one_int {w : World} {b t : Nat} {x : Int} (h : w.heap[b]? = some (.cells #[.int .i64 x] t (0, 0))) : Kd.C (Kd.int .i64) w (some ⟨b, 0, none⟩) [x].length [x] := by
  refine Kd.C_of_reads (enc := Value.int .i64) (d := (0 : Int)) (h1 := fun _ => rfl) ⟨rfl, by simp, fun _ => ⟨_, rfl, fun j hj => ?_⟩⟩
  match j, hj with
  | 0, _ => exact (blk_cell h 0).trans rfl
/-- What holds while rows are made. -/
structure SI (w3 : World) (ga gl : Nat) (allv : Value) (W : World) (least : List (List Int)) : Prop where
  below : Below w3.heap.size w3 W
  all : W.heap[ga]? = some (.cells #[allv] 28 (0, 0))
  least : ∃ lv, W.heap[gl]? = some (.cells #[lv] 28 (0, 0)) ∧ Kd.R (Kd.slice 3 (Kd.int .i64)) 33 W w3.heap.size (fun k_ => k_ ≠ ga ∧ k_ ≠ gl) lv least
theorem SI.next {w3 : World} {ga gl : Nat} {allv : Value} {W W' : World} {least : List (List Int)} (h : SI w3 ga gl allv W least) (hb : Below W.heap.size W W') : SI w3 ga gl allv W' least := by
  obtain ⟨h1, h2, ⟨lv, h3, h4⟩⟩ := h
  exact ⟨h1.trans (hb.mono h1.size), (hb.block _ (blk_lt h2)).trans h2, ⟨lv, (hb.block _ (blk_lt h3)).trans h3, Kd.R_below h4 hb⟩⟩
/-- A row, the first v numbers made, of the next the first u nodes taken in. -/
structure RowAt (N : Nat) (all least s : List (List Int)) (i v u : Nat) (row : List Int) : Prop where
  len : row.length = N
  done : ∀ j : Nat, j < v → rd row (j : Int) = bestV all least s i j N
  now : v < N → rd row (v : Int) = bestV all least s i v u
  rest : ∀ j : Nat, v < j → j < N → rd row (j : Int) = 99999
theorem rd_set_at (row : List Int) (v j : Nat) (x : Int) (h : v < row.length) : rd (row.set v x) (j : Int) = if v = j then x else rd row (j : Int) := by
  unfold rd
  rw [Int.toNat_natCast, List.getD_eq_getElem?_getD, List.getElem?_set, List.getD_eq_getElem?_getD]
  by_cases e : v = j
  · subst e; simp [h]
  · simp [e]
theorem RowAt.start (N : Nat) (all least s : List (List Int)) (i : Nat) : RowAt N all least s i 0 0 (List.replicate N 99999) := by
  have h : ∀ j : Nat, j < N → rd (List.replicate N 99999) (j : Int) = 99999 := fun j hj => by simp [rd, hj]
  exact ⟨List.length_replicate, fun j hj => absurd hj (Nat.not_lt_zero _), fun h0 => h 0 h0, fun j _ hj => h j hj⟩
theorem RowAt.step {N : Nat} {all least s : List (List Int)} {i v u : Nat} {row : List Int} (h : RowAt N all least s i v u row) (hv : v < N) : RowAt N all least s i v (u + 1) (row.set v (if stepV all least s i u v < rd row (v : Int) then stepV all least s i u v else rd row (v : Int))) := by
  have hl : v < row.length := by rw [h.len]; exact hv
  refine ⟨by rw [List.length_set]; exact h.len, fun j hj => ?_, fun _ => ?_, fun j hj hn => ?_⟩
  · rw [rd_set_at row v j _ hl, if_neg (by omega)]; exact h.done j hj
  · rw [rd_set_at row v v _ hl, if_pos rfl, h.now hv]; rfl
  · rw [rd_set_at row v j _ hl, if_neg (by omega)]; exact h.rest j hj hn
theorem RowAt.next {N : Nat} {all least s : List (List Int)} {i v : Nat} {row : List Int} (h : RowAt N all least s i v N row) (hv : v < N) : RowAt N all least s i (v + 1) 0 row := by
  refine ⟨h.len, fun j hj => ?_, fun h1 => h.rest (v + 1) (by omega) h1, fun j hj hn => h.rest j (by omega) hn⟩
  by_cases e : j = v
  · subst e; exact h.now hv
  · exact h.done j (by omega)
theorem RowAt.end_ {N : Nat} {all least s : List (List Int)} {i v u : Nat} {row : List Int} (h : RowAt N all least s i v u row) (hv : N ≤ v) : row = rowV N all least s i := by
  apply List.ext_getElem
  · unfold rowV; rw [h.len, List.length_map, List.length_range]
  · intro j h1 h2
    have h3 := h.done j (by rw [h.len] at h1; omega)
    unfold rd at h3
    rw [Int.toNat_natCast] at h3
    have e : row.getD j 0 = row[j] := by simp [h1]
    rw [e] at h3
    have e2 : (rowV N all least s i)[j] = bestV all least s i j N := by simp [rowV]
    rw [e2]
    exact h3
theorem rowV_length (N : Nat) (all least s : List (List Int)) (i : Nat) : (rowV N all least s i).length = N := by unfold rowV; rw [List.length_map, List.length_range]
theorem rdR_nat (l : List (List Int)) (i : Nat) : rdR l (i : Int) = l.getD i [] := by unfold rdR; rw [Int.toNat_natCast]
theorem leastV_len {N : Nat} {all s : List (List Int)} (h0 : (rdR s 0).length = N) : ∀ i j : Nat, j < i → (rdR (leastV N all s i) (j : Int)).length = N
  | 0, _, h => absurd h (Nat.not_lt_zero _)
  | i + 1, j, h => by
    unfold leastV
    by_cases e : i = 0
    · rw [if_pos e]
      have : j = 0 := by omega
      subst this
      rw [rdR_nat]
      exact h0
    · rw [if_neg e, rdR_nat]
      by_cases hj : j < i
      · have := leastV_len (all := all) h0 i j hj
        rw [rdR_nat] at this
        rw [List.getD_eq_getElem?_getD, List.getElem?_append_left (by rw [leastV_length]; exact hj), ← List.getD_eq_getElem?_getD]
        exact this
      · have : j = i := by omega
        subst this
        rw [List.getD_eq_getElem?_getD, List.getElem?_append_right (by rw [leastV_length]; exact Nat.le_refl _), leastV_length, Nat.sub_self]
        exact rowV_length _ _ _ _ _
theorem R_one {w : World} {base : Nat} {okp : Nat → Prop} {v : Value} {row : List Int} (h : Kd.R (Kd.int .i64) 3 w base okp v row) (hb : base ≤ w.heap.size) : Kd.R (Kd.slice 3 (Kd.int .i64)) 33 (w.alloc (.cells #[v] 33)) base (fun k_ => k_ = w.heap.size ∨ okp k_) (.slice (some ⟨w.heap.size, 0, none⟩) 1 1) [row] := by
  refine ⟨fun k hk => ?_, OwnRow.lit (ps := [row]) (inner := [v]) w base ⟨rfl, fun j p hj => ?_⟩ hb (by simp)⟩
  · have : w.heap.size = k := by simpa [Value.ownBlock] using hk
    exact .inl this.symm
  · obtain ⟨hl, rfl⟩ := List.getElem?_eq_some_iff.1 hj
    have : j = 0 := by simp at hl; exact hl
    subst this
    refine Kd.M_row (Kd.R_mono (Kd.R_below (Kd.R_bound h) (below_alloc (Below.refl _ _) _)) (fun k_ hk => ⟨.inr hk.1, fun e => ?_⟩))
    have h1 : k_ = w.heap.size := by simpa [Value.ownBlock] using e
    have := hk.2.2.1
    omega
/-- How large all is. -/
structure Dims (N : Nat) (all s : List (List Int)) : Prop where
  n1 : 1 ≤ N
  n8 : N ≤ 8
  s0 : 1 ≤ s.length
  s6 : s.length ≤ 6
  alen : all.length = N
  row : ∀ u : Nat, u < N → (rdR all (u : Int)).length = N
  sight : ∀ i : Nat, i < s.length → (rdR s (i : Int)).length = N
theorem Dims.of {n : Int} {l : List S58} {s all : List (List Int)} (h : seenOkB n l s = true) (h1 : all.length = n.toNat) (h2 : (all.all fun r => r.length == n.toNat) = true) : Dims n.toNat all s := by
  obtain ⟨a, b, c, d, e⟩ := sights_seen h
  refine ⟨by omega, by omega, c, d, h1, fun u hu => ?_, fun i hi => by have := e i hi; omega⟩
  have e2 : rdR all (u : Int) = all[u] := by simp [rdR, show u < all.length by omega]
  rw [e2]
  exact beq_iff_eq.1 (List.all_eq_true.1 h2 _ (List.getElem_mem (by omega)))
theorem Dims.least {N : Nat} {all s : List (List Int)} (h : Dims N all s) {m j : Nat} (hj : j < m) : (rdR (leastV N all s m) (j : Int)).length = N := leastV_len (h.sight 0 h.s0) m j hj
theorem SI.step {w3 : World} {ga gl gs : Nat} {Aa As : Option Addr} {ca cs : Nat} {N : Nat} {all s : List (List Int)} {m : Nat} {W : World} (h : SI w3 ga gl (.slice Aa all.length ca) W (leastV N all s m)) (hD : Dims N all s) (hm : m ≤ s.length) (hA : Kd.C (Kd.slice 3 (Kd.int .i64)) w3 Aa all.length all) (hgs : gs < w3.heap.size) (hs : w3.heap[gs]? = some (.cells #[.slice As s.length cs] 28 (0, 0))) (hS : Kd.C (Kd.slice 3 (Kd.int .i64)) w3 As s.length s) (i u v : Nat) (h1 : 1 ≤ i) (h2 : i < s.length) (h3 : i ≤ m) (hu : u < N) (hv : v < N) :
    Calls Try.prog 82 #[.int .i64 (i : Int), .int .i64 (u : Int), .int .i64 (v : Int), .pointer (some ⟨ga, 0, none⟩), .pointer (some ⟨gl, 0, none⟩), .pointer (some ⟨gs, 0, none⟩)] W fun e w' => e = .returned (.int .i64 (stepV all (leastV N all s m) s i u v)) ∧ ∃ nd, w' = W.drewN nd := by
  obtain ⟨hb, g1, ⟨lv, g2, g3⟩⟩ := h
  obtain ⟨Al, cl, rfl, hcl, hCl⟩ := Kd.R_reads g3
  exact step_any all (leastV N all s m) s W ga gl gs Aa Al As ca cl cs ((blk_cell g1 0).trans rfl) ((blk_cell g2 0).trans rfl) ((blk_cell ((hb.block gs hgs).trans hs) 0).trans rfl) (Kd.C_below hA hb) hCl (Kd.C_below hS hb) i u v h1 h2 (by rw [leastV_length]; omega) (by rw [hD.alen]; exact hu) (by rw [hD.row u hu]; exact hv) (by rw [hD.least (show i - 1 < m by omega)]; exact hu) (by rw [hD.sight i h2]; exact hv)
theorem si_start {w3 w5 : World} {sl v5 : Value} {row : List Int} (hb5 : Below (w3.alloc (.cells #[sl] 28)).heap.size (w3.alloc (.cells #[sl] 28)) w5) (hr5 : Kd.R (Kd.int .i64) 3 w5 (w3.alloc (.cells #[sl] 28)).heap.size (fun _ => True) v5 row) :
    SI w3 w3.heap.size (w5.heap.size + 1) sl ((w5.alloc (.cells #[v5] 33)).alloc (.cells #[.slice (some ⟨w5.heap.size, 0, none⟩) 1 1] 28)) [row] := by
  have s4 : (w3.alloc (.cells #[sl] 28)).heap.size = w3.heap.size + 1 := by simp
  have s5 := hb5.size
  have s6 : (w5.alloc (.cells #[v5] 33)).heap.size = w5.heap.size + 1 := by simp
  have b3 : Below w3.heap.size w3 w5 := (below_alloc (Below.refl _ _) _).trans (hb5.mono (by omega))
  have g4 : (w3.alloc (.cells #[sl] 28)).heap[w3.heap.size]? = some (.cells #[sl] 28 (0, 0)) := blk_new w3 _
  have g5 := (hb5.block w3.heap.size (by omega)).trans g4
  have r1 := R_one hr5 (by omega)
  refine ⟨below_alloc (below_alloc b3 _) _, blk_alloc (blk_alloc g5 _) _, ⟨.slice (some ⟨w5.heap.size, 0, none⟩) 1 1, ?_, ?_⟩⟩
  · have := blk_new (w5.alloc (.cells #[v5] 33)) (.cells #[.slice (some ⟨w5.heap.size, 0, none⟩) 1 1] 28)
    rw [s6] at this
    exact this
  · refine Kd.R_alloc (Kd.R_lower (Kd.R_mono (Kd.R_bound r1) (fun k_ hk => ?_)) (by omega)) _
    have h1 := hk.2.1
    have h2 := hk.2.2.1
    omega
theorem backV_pos {N : Nat} {all least s : List (List Int)} {i v : Nat} {tl r : List Int} (h : 1 ≤ i) (hb : backV N all least s i v tl = some r) : ∃ u, seekV (hitV all least s i v) N 0 = some u ∧ backV N all least s (i - 1) u ((v : Int) :: tl) = some r := by
  obtain ⟨j, rfl⟩ : ∃ j, i = j + 1 := ⟨i - 1, by omega⟩
  rw [backV] at hb
  obtain ⟨u, h1, h2⟩ := Option.bind_eq_some_iff.mp hb
  exact ⟨u, h1, by rw [Nat.add_sub_cancel]; exact h2⟩
theorem seekV_pos {p : Nat → Bool} {N u u0 : Nat} (h : seekV p (N - u) u = some u0) : u < N ∧ (p u = true → u0 = u) ∧ (p u = false → seekV p (N - (u + 1)) (u + 1) = some u0) := by
  cases hc : N - u with
  | zero => rw [hc, seekV] at h; cases h
  | succ c =>
    rw [hc, seekV] at h
    refine ⟨by omega, fun hp => ?_, fun hp => ?_⟩
    · rw [if_pos hp] at h; exact (Option.some.inj h).symm
    · rw [hp, if_neg Bool.false_ne_true] at h
      rw [show N - (u + 1) = c by omega]
      exact h
/-- The answer while it is made: zeros, then what is there. -/
def outV (i : Nat) (x : Int) (tl : List Int) : List Int := List.replicate i 0 ++ (x :: tl)
theorem outV_start (n : Nat) (x : Int) (h : 1 ≤ n) : (List.replicate n (0 : Int)).set (n - 1) x = outV (n - 1) x [] := by
  obtain ⟨m, rfl⟩ : ∃ m, n = m + 1 := ⟨n - 1, by omega⟩
  unfold outV
  rw [Nat.add_sub_cancel, List.replicate_succ', List.set_append_right _ _ (by simp)]
  simp
theorem outV_step (i : Nat) (x : Int) (tl : List Int) (h : 1 ≤ i) : outV i x tl = outV (i - 1) ((0 : Nat) : Int) (x :: tl) := by
  obtain ⟨m, rfl⟩ : ∃ m, i = m + 1 := ⟨i - 1, by omega⟩
  unfold outV
  rw [Nat.add_sub_cancel, List.replicate_succ', List.append_assoc]
  rfl
theorem outV_set (i : Nat) (x y : Int) (tl : List Int) : (outV i x tl).set i y = outV i y tl := by
  unfold outV
  rw [List.set_append_right _ _ (by simp)]
  simp
theorem outV_at (i : Nat) (x : Int) (tl : List Int) : rdOf (0 : Int) (outV i x tl) (i : Int) = x := by
  unfold outV rdOf
  simp
theorem outV_next (i : Nat) (x y : Int) (tl : List Int) : rdOf (0 : Int) (outV i x (y :: tl)) ((i + 1 : Nat) : Int) = y := by
  unfold outV rdOf
  simp [List.getElem_append]

end Go.Proofs.Ytlgolgfcolnddaa.F
