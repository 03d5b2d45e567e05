-- Printed by wip/px/px.py of this claim's repository (the kit's printer, extended there). Lean checks it.
import Derived.Test.YtddkaiegnohkcaaFKinds
namespace Go.Proofs.Ytddkaiegnohkcaa.F
open Go.RowKit Go.Proofs.YtddkaiegnohkcaaW.PrintWords Go.Proofs.YtddkaiegnohkcaaW.PrintLast Go.Proofs.YtddkaiegnohkcaaW.PrintMore
attribute [local go_sem] max2_int min2_int max_two min_two max_three min_three max_four min_four   -- for this text's walks alone
set_option linter.unusedVariables false
set_option linter.unusedSimpArgs false

/-! ### impl_Arc_90: function 90 -/
def impl_Arc_90.f (l0 : List (S33)) : Option ((List (S33))) := some (l0)
set_option maxHeartbeats 8000000 in
set_option maxRecDepth 100000 in
theorem impl_Arc_90.calls (P0_ : Nat → Prop) (u9000_ : Value) (l0 : List (S33)) (r : List (S33)) (w0 w : World) (hB : Below w0.heap.size w0 w) (ho0 : Kd.R k33 33 w w0.heap.size P0_ u9000_ l0) (h : impl_Arc_90.f l0 = some r) :
  Calls Try.prog 90 #[u9000_] w fun e w' => ∃ v0_ : Value, e = .returned (v0_) ∧ Kd.R k33 33 w' w0.heap.size (fun k_ => (P0_ k_ ∨ w.heap.size ≤ k_)) v0_ r ∧ Below w0.heap.size w0 w' ∧ Kept w w' (fun k_ => P0_ k_) := by
 have HO0 := ak (show Kd.R k33 33 w w0.heap.size (fun k_ => (P0_ k_ ∨ w.heap.size ≤ k_)) u9000_ l0 from Kd.R_mono ho0 (fun k_ hk => (.inl hk)))
 have HK := ak (Kept.refl w (fun k_ => P0_ k_))
 have HW0 := ak hB.size
 have HB := ak hB
 clear hB
 have H : (some (l0)) = some r := h
 clear h
 obtain ⟨y587, hy587⟩ : ∃ y_ : List (S33), y_ = (l0) := ⟨_, rfl⟩
 replace H : (some y587) = some r := by (rw [hy587]; with_reducible exact H)
 have Ny587 := ak hy587
 clear hy587
 obtain rfl := Option.some.inj H
 obtain ⟨Ao2, co2, eo2⟩ := Kd.R_slice HO0.out
 subst eo2
 obtain ⟨i03, hi03, _, hsz3, _⟩ := info_parts info33
 have hr3 := Kd.R_clip HO0.out
 rw [← Ny587.out] at hr3
 have hcut3 : ∀ W : World, (Instr.slice 23 (.slice Ao2 l0.length co2) none (some (.int .i64 (l0.length : Int))) (some (.int .i64 (l0.length : Int)))).run Try.prog W = .ok (.slice Ao2 y587.length y587.length) W := by rw [Ny587.out]; exact cut_clip 23 33 Try.underlying23 hi03 Ao2 l0.length co2 (Kd.R_reads' HO0.out).2.1
 clear hi03 hsz3 HO0
 have HO589 := ak hr3
 clear hr3
 go_enter Try.func90, Try.ntmps90
 go_wp2
 go_ret
 exact ⟨_, by rfl, rk HO589, bl HB, by repeat ((with_reducible exact HK.out))⟩

end Go.Proofs.Ytddkaiegnohkcaa.F
