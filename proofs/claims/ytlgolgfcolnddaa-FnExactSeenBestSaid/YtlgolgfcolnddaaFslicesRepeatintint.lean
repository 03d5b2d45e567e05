-- Printed by wip/px/px.py of this claim's repository (the kit's printer, extended there). Lean checks it.
import Derived.Test.YtlgolgfcolnddaaFKinds
import Derived.Test.YtlgolgfcolnddaaFtextrepeatint
namespace Go.Proofs.Ytlgolgfcolnddaa.F
open Go.RowKit Go.Proofs.YtlgolgfcolnddaaW.PrintWords Go.Proofs.YtlgolgfcolnddaaW.PrintLast Go.Proofs.YtlgolgfcolnddaaW.PrintMore
attribute [local go_sem] max2_int min2_int max_two min_two max_three min_three max_four min_four   -- for this text's walks alone
set_option linter.unusedVariables false
set_option linter.unusedSimpArgs false

/-! ### slices_Repeat_int_int: function 83 -/
def slices_Repeat_int_int.f (l0 : List (Int)) (a1 : Int) : Option (List (Int)) :=
 match l0 with
 | [x] => if 0 ≤ a1 ∧ a1 ≤ 8 then some (List.replicate a1.toNat x) else none
 | _ => none
theorem slices_Repeat_int_int.calls (A0 : Option Addr) (c0 : Nat) (l0 : List (Int)) (a1 : Int) (r : List (Int)) (w : World) (hr0 : Kd.C (Kd.int .i64) w A0 l0.length l0) (hc0 : l0.length ≤ c0) (h : slices_Repeat_int_int.f l0 a1 = some r) :
  Calls Try.prog 83 #[.slice A0 l0.length c0, .int .i64 a1] w fun e w' => ∃ v0_ : Value, e = .returned (v0_) ∧ Kd.R (Kd.int .i64) 3 w' w.heap.size (fun _ => True) v0_ r ∧ Below w.heap.size w w' := by
 match l0, hr0, h with
 | [x], hr0, h =>
  unfold slices_Repeat_int_int.f at h
  simp only at h
  by_cases ha : 0 ≤ a1 ∧ a1 ≤ 8
  rotate_left
  ·rw [if_neg ha] at h
   cases h
  rw [if_pos ha] at h
  obtain rfl := Option.some.inj h
  obtain ⟨m, rfl⟩ := Int.eq_ofNat_of_zero_le ha.1
  rw [Int.toNat_natCast]
  exact repeat_anyI x A0 c0 m (by omega) w hr0
 | [], _, h => cases h
 | _ :: _ :: _, _, h => cases h

end Go.Proofs.Ytlgolgfcolnddaa.F
