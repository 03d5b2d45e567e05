-- Printed by wip/px/px.py of this claim's repository (the kit's printer, extended there). Lean checks it.
import Derived.Test.YtbcedkcjodokkaaFKinds
import Derived.Test.YtbcedkcjodokkaaFtextdelete
namespace Go.Proofs.Ytbcedkcjodokkaa.F
open Go.RowKit Go.Proofs.YtbcedkcjodokkaaW.PrintWords Go.Proofs.YtbcedkcjodokkaaW.PrintLast Go.Proofs.YtbcedkcjodokkaaW.PrintMore
attribute [local go_sem] max2_int min2_int max_two min_two max_three min_three max_four min_four   -- for this text's walks alone
set_option linter.unusedVariables false
set_option linter.unusedSimpArgs false

/-! ### impl_News_28: function 28 -/
def impl_News_28.f (l0 : List (S30)) (a1 : Int) (a2 : Int) : Option (List (S30)) := if 0 ≤ a1 ∧ a1 < (l0.length : Int) ∧ a2 = a1 + 1 then some (l0.take a1.toNat ++ l0.drop (a1.toNat + 1)) else none
theorem impl_News_28.calls (P0_ : Nat → Prop) (u9000_ : Value) (l0 : List (S30)) (a1 : Int) (a2 : Int) (r : List (S30)) (w0 w : World) (hB : Below w0.heap.size w0 w) (ho0 : Kd.R k30 30 w w0.heap.size P0_ u9000_ l0) (h : impl_News_28.f l0 a1 a2 = some r) :
  Calls Try.prog 28 #[u9000_, .int .i64 a1, .int .i64 a2] w fun e w' => ∃ v0_ : Value, e = .returned (v0_) ∧ Kd.R k30 30 w' w0.heap.size (fun k_ => (P0_ k_ ∨ w.heap.size ≤ k_)) v0_ r ∧ Below w0.heap.size w0 w' ∧ Kept w w' (fun k_ => P0_ k_) := by
 unfold impl_News_28.f at h
 by_cases hok : 0 ≤ a1 ∧ a1 < (l0.length : Int) ∧ a2 = a1 + 1
 rotate_left
 ·rw [if_neg hok] at h
  cases h
 rw [if_pos hok] at h
 obtain rfl := Option.some.inj h
 obtain ⟨h0, h1, rfl⟩ := hok
 obtain ⟨i, rfl⟩ := Int.eq_ofNat_of_zero_le h0
 rw [Int.toNat_natCast]
 exact delete_any P0_ u9000_ l0 i w0 w hB ho0 (by omega)

end Go.Proofs.Ytbcedkcjodokkaa.F
