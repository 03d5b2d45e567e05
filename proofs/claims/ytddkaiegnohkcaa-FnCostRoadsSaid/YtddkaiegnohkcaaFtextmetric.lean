-- Printed by wip/px/px.py of this claim's repository (the kit's printer, extended there). Lean checks it.
import Derived.Test.YtddkaiegnohkcaaFKinds
import Derived.Test.YtddkaiegnohkcaaFtextcore
namespace Go.Proofs.Ytddkaiegnohkcaa.F
open Go.RowKit Go.Proofs.YtddkaiegnohkcaaW.PrintWords Go.Proofs.YtddkaiegnohkcaaW.PrintLast Go.Proofs.YtddkaiegnohkcaaW.PrintMore
attribute [local go_sem] max2_int min2_int max_two min_two max_three min_three max_four min_four   -- for this text's walks alone
set_option linter.unusedVariables false
set_option linter.unusedSimpArgs false

/-! ### text metric -/
/-- Are numbers a metric of a valid net. -/
def metricB (n : Int) (l : List S33) (ns : List Int) : Bool := netOkB n l && (decide (ns.length = l.length) && !(ns.any fun v => !(inB v 0 99)))
set_option maxHeartbeats 1000000 in
theorem metric1_any (w : World) : ∀ (W : World) (x : Int), Below w.heap.size w W → Calls Try.prog 89 (#[.int .i64 x] ++ #[]) W fun e w' => e = .returned (.bool (!(inB x 0 99))) ∧ Below w.heap.size w w' := by
  intro W x hB
  have hcall := costOk_any x W
  generalize inB x 0 99 = r at hcall ⊢
  show Calls Try.prog 89 #[.int .i64 x] W _
  go_enter Try.func89, Try.ntmps89
  go_wp2_with (go_at_call 63; refine hcall.mono ?_; rintro e w' ⟨rfl, rfl⟩)
  go_ret
  exact ⟨rfl, hB⟩
set_option maxHeartbeats 4000000 in
set_option maxRecDepth 100000 in
theorem metricOk_any (n : Int) (A0 : Option Addr) (c0 : Nat) (l0 : List S33) (A1 : Option Addr) (c1 : Nat) (l1 : List Int) (w : World) (hr0 : Kd.C k33 w A0 l0.length l0) (hr1 : Kd.C (Kd.int .i64) w A1 l1.length l1) :
    Calls Try.prog 64 #[.agg #[.int .i64 n, .slice A0 l0.length c0], .slice A1 l1.length c1] w fun e w' => e = .returned (.bool (metricB n l0 l1)) ∧ Below w.heap.size w w' := by
  have hu := Try.underlying25
  have eg : ∀ args w, (callFunc 89 args).run Try.prog w = .ok (.enter 89 args) w := enters_of Try.func89 (by kernel_rfl) rfl
  have hB1 : Below w.heap.size w (w.alloc (.cells #[.int .i64 n, .slice A0 l0.length c0] 25)) := below_alloc (Below.refl _ w) _
  have hno := netOk_any n A0 c0 l0 (w.alloc (.cells #[.int .i64 n, .slice A0 l0.length c0] 25)) (Kd.C_below hr0 hB1)
  have hco : ∀ W, Below w.heap.size w W → Calls Try.prog 87 #[.slice A1 l1.length c1, .func (.func 89) #[] #[]] W fun e w' => e = .returned (.bool (l1.any fun v => !(inB v 0 99))) ∧ Below W.heap.size W w' := fun W hB => containsFunc_int (fun v => !(inB v 0 99)) 89 #[] eg A1 c1 l1 W (metric1_any W) (Kd.C_below hr1 hB)
  have q1 : (w.alloc (.cells #[.int .i64 n, .slice A0 l0.length c0] 25)).cell? ⟨w.heap.size, 1, none⟩ = some (.slice A0 l0.length c0) := (blk_cell (heap_alloc_new w _) 1).trans rfl
  have HB1 := Aside0.mk hB1
  have HCO := Aside0.mk hco
  have hb0 : l0.length ≤ 9223372036854775807 := by have := hr0.2.1; omega
  have hb1 : l1.length ≤ 9223372036854775807 := by have := hr1.2.1; omega
  clear hr0 hr1 eg hB1 hco
  unfold metricB
  cases e1 : netOkB n l0 with
  | false =>
    rw [e1] at hno
    clear e1
    go_enter Try.func64, Try.ntmps64
    go_wp2_with (go_at_call 35; refine hno.mono ?_; rintro e w' ⟨rfl, hb'⟩)
    go_ret
    exact ⟨rfl, HB1.out.trans (hb'.mono HB1.out.size)⟩
  | true =>
    rw [e1] at hno
    clear e1
    by_cases e2 : l1.length = l0.length
    · have f2 : ((l1.length : Int) == (l0.length : Int)) = true := by rw [e2]; exact beq_self_eq_true _
      have f2' : decide (l1.length = l0.length) = true := decide_eq_true e2
      clear e2
      go_enter Try.func64, Try.ntmps64
      go_wp2_with fail
      refine hno.mono ?_; rintro e w' ⟨rfl, hb'⟩; have k1 := (hb'.cell (World.block_lt_of_cell? _ _ q1)).trans q1; have HF := Aside0.mk (HB1.out.trans (hb'.mono HB1.out.size)); clear q1 hb' hno
      go_wp2_with fail
      refine (HCO.out _ HF.out).mono ?_; rintro e w2 ⟨rfl, hb2⟩
      have HF2 := Aside0.mk (HF.out.trans (hb2.mono HF.out.size))
      clear hb2
      go_wp2_with fail
      go_ret
      exact ⟨by simp [f2'], HF2.out⟩
    · have f2 : ((l1.length : Int) == (l0.length : Int)) = false := by rw [beq_eq_false_iff_ne]; omega
      have f2' : decide (l1.length = l0.length) = false := decide_eq_false e2
      clear e2
      go_enter Try.func64, Try.ntmps64
      go_wp2_with fail
      refine hno.mono ?_; rintro e w' ⟨rfl, hb'⟩; have k1 := (hb'.cell (World.block_lt_of_cell? _ _ q1)).trans q1; have HF := Aside0.mk (HB1.out.trans (hb'.mono HB1.out.size)); clear q1 hb' hno
      go_wp2_with fail
      go_ret
      exact ⟨by simp [f2'], HF.out⟩

end Go.Proofs.Ytddkaiegnohkcaa.F
