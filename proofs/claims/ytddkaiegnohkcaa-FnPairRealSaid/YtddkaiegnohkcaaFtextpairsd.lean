-- Printed by wip/px/px.py of this claim's repository (the kit's printer, extended there). Lean checks it.
import Derived.Test.YtddkaiegnohkcaaFKinds
import Derived.Test.YtddkaiegnohkcaaFtextfrontw
import Derived.Test.YtddkaiegnohkcaaFimplPair71
namespace Go.Proofs.Ytddkaiegnohkcaa.F
open Go.RowKit Go.Proofs.YtddkaiegnohkcaaW.PrintWords Go.Proofs.YtddkaiegnohkcaaW.PrintLast Go.Proofs.YtddkaiegnohkcaaW.PrintMore
attribute [local go_sem] max2_int min2_int max_two min_two max_three min_three max_four min_four   -- for this text's walks alone
set_option linter.unusedVariables false
set_option linter.unusedSimpArgs false

/-! ### text pairsd -/
def rdP (xs : List (List S35)) (i : Int) : List S35 := xs.getD i.toNat []
/-- A pair, one arc on. -/
def shW (y : S33) (p : S35) : S35 := ⟨wrap64 (p.f0 + y.f2), wrap64 (p.f1 + y.f3)⟩
def relP (d : List (List S35)) (y : S33) : List S35 := frontP (rdP d y.f1 ++ (rdP d y.f0).map (shW y))
def arcOkP (d : List (List S35)) (y : S33) : Prop := (0 ≤ y.f0 ∧ y.f0 < (d.length : Int)) ∧ (0 ≤ y.f1 ∧ y.f1 < (d.length : Int)) ∧ (rdP d y.f1).length + (rdP d y.f0).length ≤ 1000000
instance arcOkDec (d : List (List S35)) (y : S33) : Decidable (arcOkP d y) := by unfold arcOkP; infer_instance
def arcF (k : Nat) (d : List (List S35)) (y : S33) (ch : Bool) : Option (List (List S35) × Bool) := if arcOkP d y then (impl_Pair_71.f k (relP d y) (rdP d y.f1)).bind fun b => some (if b = true then (d, ch) else (d.set y.f1.toNat (relP d y), true)) else none
def arcsF (k : Nat) : List S33 → List (List S35) × Bool → Option (List (List S35) × Bool)
  | [], s => some s
  | y :: r, s => (arcF k s.1 y s.2).bind (arcsF k r)
def roundsF (k : Nat) (l : List S33) : Nat → List (List S35) → Option (List (List S35))
  | 0, _ => none
  | q + 1, d => (arcsF k l (d, false)).bind fun s => if s.2 = true then roundsF k l q s.1 else some s.1
def startP (n a : Nat) : List (List S35) := (List.replicate n ([] : List S35)).set a [⟨0, 0⟩]
def pairsF (k : Nat) (n : Int) (l : List S33) (a b : Int) : Option (List S35) := if (1 ≤ n ∧ n ≤ 1000) ∧ (0 ≤ a ∧ a < n) ∧ (0 ≤ b ∧ b < n) then (roundsF k l k (startP n.toNat a.toNat)).bind fun d => if d.length = n.toNat then some (rdP d b) else none else none
theorem arcF_len {k : Nat} {d : List (List S35)} {y : S33} {ch : Bool} {s : List (List S35) × Bool} (h : arcF k d y ch = some s) : s.1.length = d.length := by
  unfold arcF at h
  split at h
  · obtain ⟨b, _, h2⟩ := Option.bind_eq_some_iff.mp h
    have h2 := Option.some.inj h2
    rw [← h2]
    split
    · rfl
    · rw [List.length_set]
  · cases h
theorem arcF_mono (k : Nat) (d : List (List S35)) (y : S33) (ch : Bool) : LeO (arcF k d y ch) (arcF (k + 1) d y ch) := by
  unfold arcF
  exact LeO.ite (LeO.bind (impl_Pair_71.mono _ _ k) fun _ => LeO.refl _) (LeO.none _)
theorem arcsF_mono (k : Nat) : ∀ (l : List S33) (s : List (List S35) × Bool), LeO (arcsF k l s) (arcsF (k + 1) l s)
  | [], _ => LeO.refl _
  | y :: r, s => LeO.bind (arcF_mono k s.1 y s.2) fun s2 => arcsF_mono k r s2
theorem roundsF_mono (k : Nat) (l : List S33) : ∀ (q : Nat) (d : List (List S35)), LeO (roundsF k l q d) (roundsF (k + 1) l (q + 1) d)
  | 0, d => LeO.none _
  | q + 1, d => by
    rw [roundsF, roundsF.eq_def (k + 1) l (q + 1 + 1)]
    exact LeO.bind (arcsF_mono k l (d, false)) fun s => LeO.ite (roundsF_mono k l q s.1) (LeO.refl _)
theorem pairsF_mono (k : Nat) (n : Int) (l : List S33) (a b : Int) : LeO (pairsF k n l a b) (pairsF (k + 1) n l a b) := by
  unfold pairsF
  exact LeO.ite (LeO.bind (roundsF_mono k l k _) fun _ => LeO.refl _) (LeO.none _)
/-- A row of rows: one row is put. -/
theorem put_row {W : World} {base g N cap i : Nat} {d : List (List S35)} {v : Value} {J : List S35} {okp : Nat → Prop} (h : Kd.R (Kd.slice 35 k35) 30 W base (fun _ => True) (.slice (some ⟨g, 0, none⟩) N cap) d) (hi : i < N) (hv : Kd.R k35 35 W base okp v J) (hne : ∀ k, okp k → k ≠ g) :
    Kd.R (Kd.slice 35 k35) 30 (W.setCell ⟨g, i, none⟩ v) base (fun _ => True) (.slice (some ⟨g, 0, none⟩) N cap) (d.set i J) := by
  obtain ⟨c, hcl, _, hcc, _⟩ := Kd.R_elem h ([] : List S35) (i : Int) (Int.natCast_nonneg _) (by omega)
  have hc1 : c.length = 1 := hcl
  have e : c.take 0 ++ [v] ++ c.drop (0 + [v].length) = [v] := by
    rw [List.drop_of_length_le (by simp; omega)]
    rfl
  have := (Kd.R_seg h (i : Int) (Int.natCast_nonneg _) (by omega) (seg := [v]) (j := 0) hcl hcc (show 1 ≤ 1 from by decide) (x' := J) (okp := okp) (by rw [e]; exact Kd.M_row hv) (fun k hk => ⟨trivial, hne k hk⟩)).1
  rw [Int.toNat_natCast] at this
  have e2 : i * (Kd.slice 35 k35).sz + 0 = i := by show i * 1 + 0 = i; omega
  rw [e2] at this
  exact this
/-- .. one row is read. -/
theorem get_row {W : World} {base g N cap i : Nat} {d : List (List S35)} (h : Kd.R (Kd.slice 35 k35) 30 W base (fun _ => True) (.slice (some ⟨g, 0, none⟩) N cap) d) (hi : i < N) : ∃ A c, W.cell? ⟨g, i, none⟩ = some (.slice A (rdP d (i : Int)).length c) ∧ W.frozen? ⟨g, i, none⟩ = false ∧ (rdP d (i : Int)).length ≤ c ∧ Kd.R k35 35 W base (fun k => k ≠ g) (.slice A (rdP d (i : Int)).length c) (rdP d (i : Int)) := by
  obtain ⟨c, hcl, hM, hcc, hfr⟩ := Kd.R_elem h ([] : List S35) (i : Int) (Int.natCast_nonneg _) (by omega)
  obtain ⟨v, rfl, hR⟩ := hM
  have hR' : Kd.R k35 35 W base (fun k => k ≠ g) v (rdP d (i : Int)) := Kd.R_mono hR (fun _ hk => hk.2)
  obtain ⟨A, c1, rfl, hl, _⟩ := Kd.R_reads hR'
  have e2 : i * (Kd.slice 35 k35).sz + 0 = i := by show i * 1 + 0 = i; omega
  have h1 := hcc 0 _ rfl
  have h2 := hfr 0
  rw [Int.toNat_natCast, e2] at h1 h2
  exact ⟨A, c1, h1, h2, hl, hR'⟩
theorem R_pair (w : World) (base : Nat) (hb : base ≤ w.heap.size) : Kd.R k35 35 (w.alloc (.cells #[.int .i64 0, .int .i64 0] 35)) base (fun k_ => k_ = w.heap.size) (.slice (some ⟨w.heap.size, 0, none⟩) 1 1) [⟨0, 0⟩] := by
  refine ⟨fun k hk => ?_, OwnRow.lit (ps := [(⟨0, 0⟩ : S35)]) (inner := [.int .i64 0, .int .i64 0]) w base ⟨rfl, fun j p hj => ?_⟩ hb (by simp)⟩
  · have : w.heap.size = k := by simpa [Value.ownBlock] using hk
    exact this.symm
  · obtain ⟨h, rfl⟩ := List.getElem?_eq_some_iff.1 hj
    have : j = 0 := by simp at h; exact h
    subst this
    exact k35_mkM _ _ _ _

end Go.Proofs.Ytddkaiegnohkcaa.F
