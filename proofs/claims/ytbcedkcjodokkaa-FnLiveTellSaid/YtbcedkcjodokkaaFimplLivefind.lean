-- Printed by wip/px/px.py of this claim's repository (the kit's printer, extended there). Lean checks it.
import Derived.Test.YtbcedkcjodokkaaFKinds
import Derived.Test.YtbcedkcjodokkaaFtextfind
namespace Go.Proofs.Ytbcedkcjodokkaa.F
open Go.RowKit Go.Proofs.YtbcedkcjodokkaaW.PrintWords Go.Proofs.YtbcedkcjodokkaaW.PrintLast Go.Proofs.YtbcedkcjodokkaaW.PrintMore
attribute [local go_sem] max2_int min2_int max_two min_two max_three min_three max_four min_four   -- for this text's walks alone
set_option linter.unusedVariables false
set_option linter.unusedSimpArgs false

/-! ### impl_Live_find: function 18 -/
def impl_Live_find.f (a0_0 : Int) (l0_1 : List (S65)) (l0_2 : List (S30)) (a1 : Int) : Option (Int × Bool) := if upB l0_2 = true ∧ l0_2.length ≤ 1000 then some ((findP a1 l0_2 : Nat), thereB a1 l0_2) else none
theorem impl_Live_find.calls (a0_0 : Int) (A0_1 : Option Addr) (c0_1 : Nat) (l0_1 : List (S65)) (A0_2 : Option Addr) (c0_2 : Nat) (l0_2 : List (S30)) (a1 : Int) (r1 : Int) (r2 : Bool) (w : World) (hr0_1 : Kd.C k65 w A0_1 l0_1.length l0_1) (hc0_1 : l0_1.length ≤ c0_1) (hr0_2 : Kd.C k30 w A0_2 l0_2.length l0_2) (hc0_2 : l0_2.length ≤ c0_2) (h : impl_Live_find.f a0_0 l0_1 l0_2 a1 = some (r1, r2)) :
  Calls Try.prog 18 #[.agg #[.int .i64 a0_0, .slice A0_1 l0_1.length c0_1, .slice A0_2 l0_2.length c0_2], .int .i64 a1] w fun e w' => e = .returned (.tuple #[.int .i64 r1, .bool r2]) ∧ Below w.heap.size w w' := by
 unfold impl_Live_find.f at h
 by_cases hok : upB l0_2 = true ∧ l0_2.length ≤ 1000
 rotate_left
 ·rw [if_neg hok] at h
  cases h
 rw [if_pos hok] at h
 injection h with h
 injection h with h1 h2
 subst h1 h2
 exact find_any a0_0 A0_1 l0_1.length c0_1 A0_2 c0_2 l0_2 a1 w hr0_2 hok.1 hok.2

end Go.Proofs.Ytbcedkcjodokkaa.F
