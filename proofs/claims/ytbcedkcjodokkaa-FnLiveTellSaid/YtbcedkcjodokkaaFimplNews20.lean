-- Printed by wip/px/px.py of this claim's repository (the kit's printer, extended there). Lean checks it.
import Derived.Test.YtbcedkcjodokkaaFKinds
import Derived.Test.YtbcedkcjodokkaaFtextinsert
namespace Go.Proofs.Ytbcedkcjodokkaa.F
open Go.RowKit Go.Proofs.YtbcedkcjodokkaaW.PrintWords Go.Proofs.YtbcedkcjodokkaaW.PrintLast Go.Proofs.YtbcedkcjodokkaaW.PrintMore
attribute [local go_sem] max2_int min2_int max_two min_two max_three min_three max_four min_four   -- for this text's walks alone
set_option linter.unusedVariables false
set_option linter.unusedSimpArgs false

/-! ### impl_News_20: function 20 -/
def impl_News_20.f (l0 : List (S30)) (a1 : Int) (l2 : List (S30)) : Option (List (S30)) :=
 match l2 with
 | [x] => if 0 ≤ a1 ∧ a1 ≤ (l0.length : Int) ∧ l0.length ≤ 1000 then some (l0.take a1.toNat ++ x :: l0.drop a1.toNat) else none
 | _ => none
theorem impl_News_20.calls (P0_ : Nat → Prop) (u9000_ : Value) (l0 : List (S30)) (a1 : Int) (P2_ : Nat → Prop) (u9001_ : Value) (l2 : List (S30)) (r : List (S30)) (w0 w : World) (hB : Below w0.heap.size w0 w) (ho0 : Kd.R k30 30 w w0.heap.size P0_ u9000_ l0) (hp0_2 : ∀ k_, P0_ k_ → ¬ P2_ k_) (ho2 : Kd.R k30 30 w w0.heap.size P2_ u9001_ l2) (hp2_0 : ∀ k_, P2_ k_ → ¬ P0_ k_) (h : impl_News_20.f l0 a1 l2 = some r) :
  Calls Try.prog 20 #[u9000_, .int .i64 a1, u9001_] w fun e w' => ∃ v0_ : Value, e = .returned (v0_) ∧ Kd.R k30 30 w' w0.heap.size (fun k_ => ((P0_ k_ ∨ P2_ k_) ∨ w.heap.size ≤ k_)) v0_ r ∧ Below w0.heap.size w0 w' ∧ Kept w w' (fun k_ => P0_ k_ ∨ P2_ k_) := by
 match l2, ho2, h with
 | [x], ho2, h =>
  unfold impl_News_20.f at h
  simp only at h
  by_cases hok : 0 ≤ a1 ∧ a1 ≤ (l0.length : Int) ∧ l0.length ≤ 1000
  rotate_left
  ·rw [if_neg hok] at h
   cases h
  rw [if_pos hok] at h
  obtain rfl := Option.some.inj h
  obtain ⟨h0, h1, h6⟩ := hok
  obtain ⟨i, rfl⟩ := Int.eq_ofNat_of_zero_le h0
  rw [Int.toNat_natCast]
  exact insert_any P0_ P2_ u9000_ u9001_ l0 x i (by omega) h6 w0 w hB ho0 hp0_2 ho2
 | [], _, h => cases h
 | _ :: _ :: _, _, h => cases h

end Go.Proofs.Ytbcedkcjodokkaa.F
