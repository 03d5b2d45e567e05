-- Printed by wip/px/px.py of this claim's repository (the kit's printer, extended there). Lean checks it.
import Derived.Test.YtgickejeakmenaaFKinds
namespace Go.Proofs.Ytgickejeakmenaa.F
open Go.RowKit Go.Proofs.YtgickejeakmenaaW.PrintWords Go.Proofs.YtgickejeakmenaaW.PrintLast Go.Proofs.YtgickejeakmenaaW.PrintMore
attribute [local go_sem] max2_int min2_int max_two min_two max_three min_three max_four min_four   -- for this text's walks alone
set_option linter.unusedVariables false
set_option linter.unusedSimpArgs false

/-! ### impl_Arc_110: function 110 -/
def impl_Arc_110.f (l0 : List (S41)) : Option ((List (S41))) := some (l0)
set_option maxHeartbeats 8000000 in
set_option maxRecDepth 100000 in
theorem impl_Arc_110.calls (P0_ : Nat → Prop) (u9000_ : Value) (l0 : List (S41)) (r : List (S41)) (w0 w : World) (hB : Below w0.heap.size w0 w) (ho0 : Kd.R k41 41 w w0.heap.size P0_ u9000_ l0) (h : impl_Arc_110.f l0 = some r) :
  Calls Try.prog 110 #[u9000_] w fun e w' => ∃ v0_ : Value, e = .returned (v0_) ∧ Kd.R k41 41 w' w0.heap.size (fun k_ => (P0_ k_ ∨ w.heap.size ≤ k_)) v0_ r ∧ Below w0.heap.size w0 w' ∧ Kept w w' (fun k_ => P0_ k_) := by
 have HO0 := ak (show Kd.R k41 41 w w0.heap.size (fun k_ => (P0_ k_ ∨ w.heap.size ≤ k_)) u9000_ l0 from Kd.R_mono ho0 (fun k_ hk => (.inl hk)))
 have HK := ak (Kept.refl w (fun k_ => P0_ k_))
 have HW0 := ak hB.size
 have HB := ak hB
 clear hB
 have H : (some (l0)) = some r := h
 clear h
 obtain ⟨y394, hy394⟩ : ∃ y_ : List (S41), y_ = (l0) := ⟨_, rfl⟩
 replace H : (some y394) = some r := by (rw [hy394]; with_reducible exact H)
 have Ny394 := ak hy394
 clear hy394
 obtain rfl := Option.some.inj H
 obtain ⟨Ao2, co2, eo2⟩ := Kd.R_slice HO0.out
 subst eo2
 obtain ⟨i03, hi03, _, hsz3, _⟩ := info_parts info41
 have hr3 := Kd.R_clip HO0.out
 rw [← Ny394.out] at hr3
 have hcut3 : ∀ W : World, (Instr.slice 23 (.slice Ao2 l0.length co2) none (some (.int .i64 (l0.length : Int))) (some (.int .i64 (l0.length : Int)))).run Try.prog W = .ok (.slice Ao2 y394.length y394.length) W := by rw [Ny394.out]; exact cut_clip 23 41 Try.underlying23 hi03 Ao2 l0.length co2 (Kd.R_reads' HO0.out).2.1
 clear hi03 hsz3 HO0
 have HO396 := ak hr3
 clear hr3
 go_enter Try.func110, Try.ntmps110
 go_wp2
 go_ret
 exact ⟨_, by rfl, rk HO396, bl HB, by repeat ((with_reducible exact HK.out))⟩

end Go.Proofs.Ytgickejeakmenaa.F
