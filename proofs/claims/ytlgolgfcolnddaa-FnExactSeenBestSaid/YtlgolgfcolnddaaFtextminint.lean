-- Printed by wip/px/px.py of this claim's repository (the kit's printer, extended there). Lean checks it.
import Derived.Test.YtlgolgfcolnddaaFKinds
namespace Go.Proofs.Ytlgolgfcolnddaa.F
open Go.RowKit Go.Proofs.YtlgolgfcolnddaaW.PrintWords Go.Proofs.YtlgolgfcolnddaaW.PrintLast Go.Proofs.YtlgolgfcolnddaaW.PrintMore
attribute [local go_sem] max2_int min2_int max_two min_two max_three min_three max_four min_four   -- for this text's walks alone
set_option linter.unusedVariables false
set_option linter.unusedSimpArgs false

/-! ### text minint -/
/-- The least of the first k + 1 numbers. -/
def minK (l : List Int) : Nat → Int
  | 0 => rd l 0
  | k + 1 => if rd l ((k + 1 : Nat) : Int) < minK l k then rd l ((k + 1 : Nat) : Int) else minK l k
theorem minK_at (l : List Int) (j : Nat) (h : 1 ≤ j) : minK l j = if rd l (j : Int) < minK l (j - 1) then rd l (j : Int) else minK l (j - 1) := by
  obtain ⟨i, rfl⟩ : ∃ i, j = i + 1 := ⟨j - 1, by omega⟩
  rfl
set_option maxHeartbeats 2000000 in
set_option maxRecDepth 100000 in
theorem minI_any (A0 : Option Addr) (c0 : Nat) (l0 : List Int) (w : World) (hp : 1 ≤ l0.length) (hr0 : Kd.C (Kd.int .i64) w A0 l0.length l0) :
    Calls Try.prog 84 #[.slice A0 l0.length c0] w fun e w' => e = .returned (.int .i64 (minK l0 (l0.length - 1))) ∧ Below w.heap.size w w' := by
  have HR0 := Aside0.mk hr0
  have hbig : l0.length ≤ 9223372036854775807 := by
    have := hr0.2.1
    omega
  clear hr0
  have d1 : decide ((l0.length : Int) < 1) = false := decide_eq_false (by omega)
  have p0 : (0 : Int) < (l0.length : Int) := by omega
  obtain ⟨ad, ea, h0⟩ := Kd.at_int HR0.out 0 (by omega) (by omega)
  cases ea
  replace h0 : w.cell? ad = some (.int .i64 (rd l0 0)) := h0
  go_enter Try.func84, Try.ntmps84
  go_wp2
  go_loopg [3, 4] l0.length (fun gg s3 s4 wr => ∃ jj : Nat, 1 ≤ jj ∧ jj ≤ l0.length ∧ l0.length - jj ≤ gg ∧ s3 = .int .i64 (minK l0 (jj - 1)) ∧ s4 = .int .i64 (jj : Int) ∧ Aside0 (Below w.heap.size w wr))
  case atStart => exact ⟨1, Nat.le_refl _, hp, by omega, rfl, rfl, ⟨Below.refl _ w⟩⟩
  case round =>
    clear h0
    obtain ⟨jj, hj1, hjl, hg, rfl, rfl, BW⟩ := hrel
    by_cases hlt : jj < l0.length
    · have hltz : (jj : Int) < (l0.length : Int) := by omega
      obtain ⟨ad, ea, h0⟩ := Kd.at_int HR0.out (jj : Int) (by omega) (by omega)
      cases ea
      simp only [Int.toNat_natCast] at h0
      replace h0 := (BW.out.cell (World.block_lt_of_cell? w _ h0)).trans h0
      have E1 := Lib.hid (minK_at l0 jj hj1)
      go_wp2
      all_goals
        go_roundg (l0.length - (jj + 1))
        case measure => omega
        case rel => exact ⟨jj + 1, by omega, by omega, by omega, by first | (rw [Nat.add_sub_cancel, E1.out, if_pos (by omega)]) | (rw [Nat.add_sub_cancel, E1.out, if_neg (by omega)]), by go_num, BW⟩
    · have hltz : ¬ (jj : Int) < (l0.length : Int) := by omega
      have hk : jj = l0.length := by omega
      go_wp2
      go_ret
      exact ⟨by first | rfl | (rw [hk]; rfl), BW.out⟩

end Go.Proofs.Ytlgolgfcolnddaa.F
