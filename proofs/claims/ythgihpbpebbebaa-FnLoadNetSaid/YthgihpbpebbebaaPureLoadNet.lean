import Derived.Test.YthgihpbpebbebaaPureLoad
import Derived.Test.YthgihpbpebbebaaFKinds
import Derived.Test.YthgihpbpebbebaaFimplLoadNet
import Derived.Test.YthgihpbpebbebaaFimplloadOk
import Derived.Test.YthgihpbpebbebaaFspecLoadNet
import Derived.Test.YthgihpbpebbebaaFtextcore
namespace Go.Proofs.Ythgihpbpebbebaa.Pure
open Go.RowKit Go.Proofs.Ythgihpbpebbebaa.F Go.Proofs.YthgihpbpebbebaaW.PrintWords
set_option linter.unusedVariables false
set_option linter.unusedSimpArgs false
/-! ### LoadNet -/
/-- What LoadNet tells. -/
def loadNetV (n : Int) (l : List S31) (a : Int) : Int × List S31 := if (netOkB n l && inB a 0 9) = true then (n, loadL l a) else (0, [])
theorem loadNetV_len (n : Int) (l : List S31) (a : Int) : (loadNetV n l a).2.length ≤ 16 := by
  unfold loadNetV
  split
  · rename_i h
    rw [Bool.and_eq_true] at h
    exact Nat.le_trans (loadL_length l a) (netOk_len h.1)
  · simp
theorem loadOk_eq (a : Int) : impl_loadOk.f a = some (inB a 0 9) := by unfold impl_loadOk.f; rw [within_eq]; rfl
theorem implLoadNet_ev (n : Int) (l : List S31) (a : Int) : Ev (fun k => impl_LoadNet.f k n l a) (loadNetV n l a) := by
  unfold impl_LoadNet.f loadNetV
  simp only [netOk_eq, Option.bind_some, loadOk_eq]
  cases h : netOkB n l with
  | false => exact ev_now fun k => by simp
  | true =>
    cases h2 : inB a 0 9 with
    | false => exact ev_now fun k => by simp
    | true =>
      simp only [if_true, Bool.and_self]
      exact Ev.bind (loaded_ev n l a (by have := netOk_len h; omega)) (ev_now fun _ => rfl)
theorem specLoadNet_ev (n : Int) (l : List S31) (a : Int) (hl : l.length ≤ 9223372036854775807) : Ev (fun k => spec_LoadNet.f k n l a) (loadNetV n l a) := by
  unfold spec_LoadNet.f loadNetV
  refine Ev.bind (l1Ok_ev n l hl) ?_
  simp only [l1In_eq, Option.bind_some]
  cases h : netOkB n l with
  | false => exact ev_now fun k => by simp
  | true =>
    cases h2 : inB a 0 9 with
    | false => exact ev_now fun k => by simp
    | true =>
      simp only [if_true, Bool.and_self]
      exact Ev.bind (l18For_ev n l a (by have := netOk_len h; omega)) (ev_now fun _ => rfl)
end Go.Proofs.Ythgihpbpebbebaa.Pure
