-- Printed by wip/px/px.py of this claim's repository (the kit's printer, extended there). Lean checks it.
import Derived.Test.YtddkaiegnohkcaaFKinds
import Derived.Sort.Grow
import Derived.StillTailTactics
namespace Go.Proofs.Ytddkaiegnohkcaa.F
open Go.RowKit Go.Proofs.YtddkaiegnohkcaaW.PrintWords Go.Proofs.YtddkaiegnohkcaaW.PrintLast Go.Proofs.YtddkaiegnohkcaaW.PrintMore
attribute [local go_sem] max2_int min2_int max_two min_two max_three min_three max_four min_four   -- for this text's walks alone
set_option linter.unusedVariables false
set_option linter.unusedSimpArgs false

/-! ### text front -/
theorem isNaNP_any (x : Int) (w : World) : Calls Try.prog 97 #[.int .i64 x] w fun e w' => e = .returned (.bool false) ∧ w' = w := by
  go_enter Try.func97, Try.ntmps97
  go_wp2
  go_ret
  simp
/-- As cmp.Compare says it. -/
def cmpP (x y : Int) : Int := if x < y then -1 else if y < x then 1 else 0
set_option maxHeartbeats 2000000 in
set_option maxRecDepth 100000 in
theorem compareP_any (x y : Int) (w : World) : Calls Try.prog 81 #[.int .i64 x, .int .i64 y] w fun e w' => e = .returned (.int .i64 (cmpP x y)) ∧ w' = w := by
  have HX := Aside0.mk (isNaNP_any x w)
  have HY := Aside0.mk (isNaNP_any y w)
  unfold cmpP
  by_cases h1 : x < y
  · rw [if_pos h1]
    go_enter Try.func81, Try.ntmps81
    go_wp2_with (first | (go_at_call 97; refine HX.out.mono ?_; rintro e w' ⟨rfl, rfl⟩) | (go_at_call 97; refine HY.out.mono ?_; rintro e w' ⟨rfl, rfl⟩))
    go_ret
    exact ⟨rfl, rfl⟩
  · by_cases h2 : y < x
    · rw [if_neg h1, if_pos h2]
      go_enter Try.func81, Try.ntmps81
      go_wp2_with (first | (go_at_call 97; refine HX.out.mono ?_; rintro e w' ⟨rfl, rfl⟩) | (go_at_call 97; refine HY.out.mono ?_; rintro e w' ⟨rfl, rfl⟩))
      go_ret
      exact ⟨rfl, rfl⟩
    · rw [if_neg h1, if_neg h2]
      go_enter Try.func81, Try.ntmps81
      go_wp2_with (first | (go_at_call 97; refine HX.out.mono ?_; rintro e w' ⟨rfl, rfl⟩) | (go_at_call 97; refine HY.out.mono ?_; rintro e w' ⟨rfl, rfl⟩))
      go_ret
      exact ⟨rfl, rfl⟩
/-- The first of two that is not zero. -/
def orP (a b : Int) : Int := if a = 0 then b else a
set_option maxHeartbeats 2000000 in
set_option maxRecDepth 100000 in
theorem orP_any (a b : Int) (g : Nat) (w : World) (h0 : w.cell? ⟨g, 0, none⟩ = some (.int .i64 a)) (h1 : w.cell? ⟨g, 1, none⟩ = some (.int .i64 b)) : Calls Try.prog 80 #[.slice (some ⟨g, 0, none⟩) 2 2] w fun e w' => e = .returned (.int .i64 (orP a b)) ∧ w' = w := by
  have H0 := Aside0.mk h0
  have H1 := Aside0.mk h1
  clear h0 h1
  go_enter Try.func80, Try.ntmps80
  go_wp2
  go_loopg [5, 8] 2 (fun kx _ s8 wr => wr = w ∧ ((s8 = .int .i64 0 ∧ 2 ≤ kx) ∨ (s8 = .int .i64 1 ∧ 1 ≤ kx ∧ a = 0) ∨ (s8 = .int .i64 2 ∧ a = 0 ∧ b = 0)))
  case atStart => exact ⟨rfl, .inl ⟨rfl, Nat.le_refl _⟩⟩
  case round =>
    obtain ⟨rfl, ⟨rfl, hk⟩ | ⟨rfl, hk, ha⟩ | ⟨rfl, ha, hb⟩⟩ := hrel
    · have h0 := H0.out
      by_cases ha : a = 0
      · have h2 : (a != 0) = false := by rw [ha]; rfl
        go_wp2
        go_roundg 1
        case measure => omega
        case rel => exact ⟨rfl, .inr (.inl ⟨by go_num, Nat.le_refl _, ha⟩)⟩
      · have h2 : (a != 0) = true := bne_iff_ne.2 ha
        go_wp2
        go_ret
        exact ⟨by unfold orP; rw [if_neg ha]; rfl, rfl⟩
    · have h1 := H1.out
      by_cases hb : b = 0
      · have h2 : (b != 0) = false := by rw [hb]; rfl
        go_wp2
        go_roundg 0
        case measure => omega
        case rel => exact ⟨rfl, .inr (.inr ⟨by go_num, ha, hb⟩)⟩
      · have h2 : (b != 0) = true := bne_iff_ne.2 hb
        go_wp2
        go_ret
        exact ⟨by unfold orP; rw [if_pos ha]; rfl, rfl⟩
    · go_wp2
      go_ret
      exact ⟨by unfold orP; rw [if_pos ha, hb]; rfl, rfl⟩
/-- By cost, then by toll. -/
def cmpPair (x y : S35) : Int := orP (cmpP x.f0 y.f0) (cmpP x.f1 y.f1)
def encPair (x : S35) : List Value := [.int .i64 x.f0, .int .i64 x.f1]
set_option maxHeartbeats 2000000 in
set_option maxRecDepth 100000 in
theorem closeP_any (x y : S35) (W : World) : Calls Try.prog 93 #[.agg #[.int .i64 x.f0, .int .i64 x.f1], .agg #[.int .i64 y.f0, .int .i64 y.f1]] W fun e w' => e = .returned (.int .i64 (cmpPair x y)) ∧ ∃ q os', w' = Go.Sort.grow (W.drewN q) os' := by
  have CC := Aside0.mk (fun (a b : Int) (W : World) => compareP_any a b W)
  have OO := Aside0.mk (fun (a b : Int) (g : Nat) (W : World) (h : W.heap[g]? = some (.cells #[.int .i64 a, .int .i64 b] 3 (0, 0))) => orP_any a b g W ((blk_cell h 0).trans rfl) ((blk_cell h 1).trans rfl))
  unfold cmpPair
  obtain ⟨w2, hw2⟩ : ∃ w2, w2 = ((W.alloc (.cells #[.int .i64 x.f0, .int .i64 x.f1] 35)).alloc (.cells #[.int .i64 y.f0, .int .i64 y.f1] 35)).drew := ⟨_, rfl⟩
  have b1 : ((W.alloc (.cells #[.int .i64 x.f0, .int .i64 x.f1] 35)).alloc (.cells #[.int .i64 y.f0, .int .i64 y.f1] 35)).heap[W.heap.size]? = some (.cells #[.int .i64 x.f0, .int .i64 x.f1] 35 (0, 0)) := blk_alloc (blk_new W _) _
  have b2 : ((W.alloc (.cells #[.int .i64 x.f0, .int .i64 x.f1] 35)).alloc (.cells #[.int .i64 y.f0, .int .i64 y.f1] 35)).heap[W.heap.size + 1]? = some (.cells #[.int .i64 y.f0, .int .i64 y.f1] 35 (0, 0)) := by have := blk_new (W.alloc (.cells #[.int .i64 x.f0, .int .i64 x.f1] 35)) (.cells #[.int .i64 y.f0, .int .i64 y.f1] 35); simpa using this
  have c1 : w2.cell? ⟨W.heap.size, 0, none⟩ = some (.int .i64 x.f0) := by rw [hw2]; exact (blk_cell b1 0).trans rfl
  have c2 : w2.cell? ⟨W.heap.size, 1, none⟩ = some (.int .i64 x.f1) := by rw [hw2]; exact (blk_cell b1 1).trans rfl
  have c3 : w2.cell? ⟨W.heap.size + 1, 0, none⟩ = some (.int .i64 y.f0) := by rw [hw2]; exact (blk_cell b2 0).trans rfl
  have c4 : w2.cell? ⟨W.heap.size + 1, 1, none⟩ = some (.int .i64 y.f1) := by rw [hw2]; exact (blk_cell b2 1).trans rfl
  have OR := Aside0.mk (OO.out (cmpP x.f0 y.f0) (cmpP x.f1 y.f1) w2.heap.size (w2.alloc (.cells #[.int .i64 (cmpP x.f0 y.f0), .int .i64 (cmpP x.f1 y.f1)] 3)) (blk_new w2 _))
  clear b1 b2 OO
  go_enter Try.func93, Try.ntmps93
  go_wp2
  refine wp_region_still_tail 10 (by kernel_rfl) (by kernel_rfl) ?_
  simp only [List.take_succ_cons, List.take_zero, List.drop_succ_cons, List.drop_zero]
  show wpStill _ _ (World.drew _) (fun a' => wpList _ _ _ _ a' (World.drew _)) _ _
  rw [← hw2]
  have HW2 := Aside0.mk hw2
  clear hw2
  iterate 4 still_step
  still_call (CC.out _ _ _)
  iterate 4 still_step
  still_call (CC.out _ _ _)
  refine wpStill_nil ?_
  clear CC c1 c2 c3 c4
  go_wp2_with (go_at_call 80; refine OR.out.mono ?_; rintro e w' ⟨rfl, rfl⟩)
  go_ret
  refine ⟨rfl, 1, #[.cells #[.int .i64 x.f0, .int .i64 x.f1] 35, .cells #[.int .i64 y.f0, .int .i64 y.f1] 35, .cells #[.int .i64 (cmpP x.f0 y.f0), .int .i64 (cmpP x.f1 y.f1)] 3], ?_⟩
  rw [HW2.out]
  simp only [Go.Sort.alloc_eq_grow, Go.Sort.grow_grow, Go.Sort.drew_grow]
  rfl

end Go.Proofs.Ytddkaiegnohkcaa.F
