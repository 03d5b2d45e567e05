-- Printed by wip/px/px.py of this claim's repository (the kit's printer, extended there). Lean checks it.
import Derived.Test.YtlgolgfcolnddaaFKinds
import Derived.Test.YtlgolgfcolnddaaFtextmarkss
namespace Go.Proofs.Ytlgolgfcolnddaa.F
open Go.RowKit Go.Proofs.YtlgolgfcolnddaaW.PrintWords Go.Proofs.YtlgolgfcolnddaaW.PrintLast Go.Proofs.YtlgolgfcolnddaaW.PrintMore
attribute [local go_sem] max2_int min2_int max_two min_two max_three min_three max_four min_four   -- for this text's walks alone
set_option linter.unusedVariables false
set_option linter.unusedSimpArgs false

/-! ### laws_markIntSS: function 24 -/
def laws_markIntSS.f (l0 : List (List Int)) (a1 : Int) : Option (Int) := if l0.length ≤ 1048576 ∧ (l0.all fun x => decide (x.length ≤ 1048576)) = true then some (mkSS l0 a1) else none
theorem laws_markIntSS.calls (P0_ : Nat → Prop) (u9000_ : Value) (l0 : List (List Int)) (a1 : Int) (r : Int) (w0 w : World) (hB : Below w0.heap.size w0 w) (ho0 : Kd.R (Kd.slice 3 (Kd.int .i64)) 33 w w0.heap.size P0_ u9000_ l0) (h : laws_markIntSS.f l0 a1 = some r) :
  Calls Try.prog 24 #[u9000_, .int .i64 a1] w fun e w' => e = .returned (.int .i64 r) ∧ Below w0.heap.size w0 w' ∧ Kept w w' (fun k_ => P0_ k_) := by
 unfold laws_markIntSS.f at h
 by_cases hok : l0.length ≤ 1048576 ∧ (l0.all fun x => decide (x.length ≤ 1048576)) = true
 rotate_left
 ·rw [if_neg hok] at h
  cases h
 rw [if_pos hok] at h
 obtain rfl := Option.some.inj h
 exact markSS_any P0_ u9000_ l0 a1 w0 w hB ho0 hok.1 (fun x hx => of_decide_eq_true (List.all_eq_true.1 hok.2 x hx))

end Go.Proofs.Ytlgolgfcolnddaa.F
