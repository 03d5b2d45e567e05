import Derived.Test.YthgihpbpebbebaaPureBase
import Derived.Test.YthgihpbpebbebaaFKinds
import Derived.Test.YthgihpbpebbebaaFwkNet
namespace Go.Proofs.Ythgihpbpebbebaa.Pure
open Go.RowKit Go.Proofs.Ythgihpbpebbebaa.F Go.Proofs.YthgihpbpebbebaaW.PrintWords
set_option linter.unusedVariables false
set_option linter.unusedSimpArgs false
/-! ### the laws' own tests of what is the same -/
theorem wkNet_self (n : Int) (l : List S31) (hl : l.length ≤ 9223372036854775807) : Ev (fun k => laws_wkNet.f k n l n l) true := by
  unfold laws_wkNet.f
  simp only [if_true]
  refine ev_shift ?_
  have e : (((l.length : Int) != (l.length : Int)) = true) = False := by simp
  simp only [laws_wkNet.j0, e, if_false]
  refine ev_ind (fun k (i : Nat) => laws_wkNet.l0 k (i : Int) n l n l) (fun i => l.length - i) (fun i => i ≤ l.length) (fun _ => true) ?_ 0 (Nat.zero_le _)
  intro i hi ih
  by_cases h : i < l.length
  · have hlt : (i : Int) < (l.length : Int) := by omega
    have h0 : (0 : Int) ≤ (i : Int) := by omega
    simp only [laws_wkNet.l0, hlt, h0, if_true, beq_self_eq_true, Bool.not_true, Bool.or_self, Bool.false_eq_true, if_false, wsucc h hl]
    exact ih (i + 1) (by omega) (by omega)
  · have hlt : ¬ (i : Int) < (l.length : Int) := by omega
    simp only [laws_wkNet.l0, hlt, if_false]
    exact ev_now fun _ => rfl
end Go.Proofs.Ythgihpbpebbebaa.Pure
