-- Printed by wip/px/px.py of this claim's repository (the kit's printer, extended there). Lean checks it.
import Derived.Test.YtlgolgfcolnddaaFKinds
namespace Go.Proofs.Ytlgolgfcolnddaa.F
open Go.RowKit Go.Proofs.YtlgolgfcolnddaaW.PrintWords Go.Proofs.YtlgolgfcolnddaaW.PrintLast Go.Proofs.YtlgolgfcolnddaaW.PrintMore
attribute [local go_sem] max2_int min2_int max_two min_two max_three min_three max_four min_four   -- for this text's walks alone
set_option linter.unusedVariables false
set_option linter.unusedSimpArgs false

/-! ### text core -/

/-- The first place at which p holds, or -1. -/
def idxP {α : Type} (p : α → Bool) (l : List α) : Int := match l.findIdx? p with | some i => (i : Int) | none => -1
theorem idxP_hit {α : Type} (p : α → Bool) (l : List α) (d : α) (kk : Nat) (hk : kk < l.length) (h : p (l.getD kk d) = true) (hb : ∀ j, j < kk → p (l.getD j d) = false) : idxP p l = kk := by
 unfold idxP
 have : l.findIdx? p = some kk := by
  rw [List.findIdx?_eq_some_iff_getElem]
  refine ⟨hk, by simpa [List.getD_eq_getElem?_getD, hk] using h, fun j hj => ?_⟩
  have h2 := hb j hj
  rw [List.getD_eq_getElem?_getD, List.getElem?_eq_getElem (by omega)] at h2
  simpa using h2
 rw [this]
theorem idxP_miss {α : Type} (p : α → Bool) (l : List α) (d : α) (hb : ∀ j, j < l.length → p (l.getD j d) = false) : idxP p l = -1 := by
 unfold idxP
 have : l.findIdx? p = none := by
  rw [List.findIdx?_eq_none_iff]
  intro x hx
  obtain ⟨j, hj, rfl⟩ := List.mem_iff_getElem.1 hx
  have h2 := hb j hj
  rw [List.getD_eq_getElem?_getD, List.getElem?_eq_getElem hj] at h2
  simpa using h2
 rw [this]
theorem idxP_any {α : Type} (p : α → Bool) (l : List α) : decide (0 ≤ idxP p l) = l.any p := by
 unfold idxP
 cases h : l.findIdx? p with
 | none =>
  rw [List.findIdx?_eq_none_iff] at h
  have : l.any p = false := by simpa using h
  simp [this]
 | some i =>
  rw [List.findIdx?_eq_some_iff_getElem] at h
  obtain ⟨hi, hp, _⟩ := h
  have : l.any p = true := by rw [List.any_eq_true]; exact ⟨_, List.getElem_mem hi, hp⟩
  rw [this]
  simp

set_option maxHeartbeats 2000000 in
set_option maxRecDepth 100000 in
theorem indexFunc_arc (p : S58 → Bool) (g : Nat) (lb : Array Value) (eg : ∀ args w, (callFunc g args).run Try.prog w = .ok (.enter g args) w) (A0 : Option Addr) (c0 : Nat) (l0 : List S58) (w : World)
  (hp : ∀ (W : World) (x : S58), Below w.heap.size w W → Calls Try.prog g (#[.agg #[.int .i64 x.f0, .int .i64 x.f1, .int .i64 x.f2, .int .i64 x.f3, .int .i64 x.f4]] ++ lb) W fun e w' => e = .returned (.bool (p x)) ∧ Below w.heap.size w w')
  (hr0 : Kd.C k58 w A0 l0.length l0) :
  Calls Try.prog 103 #[.slice A0 l0.length c0, .func (.func g) #[] lb] w fun e w' => e = .returned (.int .i64 (idxP p l0)) ∧ Below w.heap.size w w' := by
 have HR0 := ak hr0
 have hbig : l0.length ≤ 9223372036854775807 := by
  have := hr0.2.1
  omega
 clear hr0
 go_enter Try.func103, Try.ntmps103
 go_wp2
 go_loopg [5, 8] l0.length (fun gg _ s8 wr => ∃ kk : Nat, kk ≤ l0.length ∧ l0.length - kk ≤ gg ∧ s8 = .int .i64 kk ∧ Aside0 (Below w.heap.size w wr) ∧ Aside0 (∀ j, j < kk → p (l0.getD j z58) = false))
 case atStart => exact ⟨0, Nat.zero_le _, by omega, rfl, ⟨Below.refl _ w⟩, ⟨fun j hj => absurd hj (Nat.not_lt_zero _)⟩⟩
 case round =>
  obtain ⟨kk, hkk, hg, rfl, BW, HA⟩ := hrel
  by_cases hlt : kk < l0.length
  ·have hltz : (kk : Int) < (l0.length : Int) := by omega
   obtain ⟨ad, ea, h0, h1, h2, h3, h4⟩ := at_T58 HR0.out (kk : Int) (by omega) (by omega)
   have hcall := hp wr (rd_T58 l0 kk) BW.out
   have HE : Hid (l0.getD kk z58 = rd_T58 l0 kk) := Lib.hid (by unfold rd_T58; rw [Int.toNat_natCast])
   clear hp
   cases ea
   simp only [Int.toNat_natCast] at h0 h1 h2 h3 h4
   replace h0 := (BW.out.cell (World.block_lt_of_cell? w _ h0)).trans h0
   replace h1 := (BW.out.cell (World.block_lt_of_cell? w _ h1)).trans h1
   replace h2 := (BW.out.cell (World.block_lt_of_cell? w _ h2)).trans h2
   replace h3 := (BW.out.cell (World.block_lt_of_cell? w _ h3)).trans h3
   replace h4 := (BW.out.cell (World.block_lt_of_cell? w _ h4)).trans h4
   generalize rd_T58 l0 kk = y at *
   cases hq : p y with
   | true =>
    rw [hq] at hcall
    have HQ := Lib.hid hq
    clear hq
    go_wp2_with (go_at_fn g; refine hcall.mono ?_; rintro e w' ⟨rfl, hb'⟩)
    go_ret
    refine ⟨?_, hb'⟩
    rw [idxP_hit p l0 z58 kk hlt (by rw [HE.out]; exact HQ.out) HA.out]
    rfl
   | false =>
    rw [hq] at hcall
    have HQ := Lib.hid hq
    clear hq
    go_wp2_with (go_at_fn g; refine hcall.mono ?_; rintro e w' ⟨rfl, hb'⟩)
    go_roundg (l0.length - (kk + 1))
    case measure => omega
    case rel =>
     refine ⟨kk + 1, by omega, by omega, by go_num, ⟨hb'⟩, ⟨fun j hj => ?_⟩⟩
     by_cases e : j = kk
     ·subst e
      rw [HE.out]; exact HQ.out
     ·exact HA.out j (by omega)
  ·have hltz : ¬ (kk : Int) < (l0.length : Int) := by omega
   have hk : kk = l0.length := by omega
   go_wp2
   go_ret
   refine ⟨?_, BW.out⟩
   rw [idxP_miss p l0 z58 (by rw [← hk]; exact HA.out)]
   rfl

set_option maxHeartbeats 1000000 in
set_option maxRecDepth 100000 in
theorem containsFunc_arc (p : S58 → Bool) (g : Nat) (lb : Array Value) (eg : ∀ args w, (callFunc g args).run Try.prog w = .ok (.enter g args) w) (A0 : Option Addr) (c0 : Nat) (l0 : List S58) (w : World)
  (hp : ∀ (W : World) (x : S58), Below w.heap.size w W → Calls Try.prog g (#[.agg #[.int .i64 x.f0, .int .i64 x.f1, .int .i64 x.f2, .int .i64 x.f3, .int .i64 x.f4]] ++ lb) W fun e w' => e = .returned (.bool (p x)) ∧ Below w.heap.size w w')
  (hr0 : Kd.C k58 w A0 l0.length l0) :
  Calls Try.prog 68 #[.slice A0 l0.length c0, .func (.func g) #[] lb] w fun e w' => e = .returned (.bool (l0.any p)) ∧ Below w.heap.size w w' := by
 rw [← idxP_any]
 have hcall := indexFunc_arc p g lb eg A0 c0 l0 w hp hr0
 clear hp hr0
 generalize idxP p l0 = r at hcall ⊢
 go_enter Try.func68, Try.ntmps68
 go_wp2_with (go_at_call 103; refine hcall.mono ?_; rintro e w' ⟨rfl, hb'⟩)
 go_ret
 exact ⟨rfl, hb'⟩

set_option maxHeartbeats 2000000 in
set_option maxRecDepth 100000 in
theorem indexFunc_int (p : Int → Bool) (g : Nat) (lb : Array Value) (eg : ∀ args w, (callFunc g args).run Try.prog w = .ok (.enter g args) w) (A0 : Option Addr) (c0 : Nat) (l0 : List Int) (w : World)
  (hp : ∀ (W : World) (x : Int), Below w.heap.size w W → Calls Try.prog g (#[.int .i64 x] ++ lb) W fun e w' => e = .returned (.bool (p x)) ∧ Below w.heap.size w w')
  (hr0 : Kd.C (Kd.int .i64) w A0 l0.length l0) :
  Calls Try.prog 121 #[.slice A0 l0.length c0, .func (.func g) #[] lb] w fun e w' => e = .returned (.int .i64 (idxP p l0)) ∧ Below w.heap.size w w' := by
 have HR0 := ak hr0
 have hbig : l0.length ≤ 9223372036854775807 := by
  have := hr0.2.1
  omega
 clear hr0
 go_enter Try.func121, Try.ntmps121
 go_wp2
 go_loopg [5, 8] l0.length (fun gg _ s8 wr => ∃ kk : Nat, kk ≤ l0.length ∧ l0.length - kk ≤ gg ∧ s8 = .int .i64 kk ∧ Aside0 (Below w.heap.size w wr) ∧ Aside0 (∀ j, j < kk → p (l0.getD j 0) = false))
 case atStart => exact ⟨0, Nat.zero_le _, by omega, rfl, ⟨Below.refl _ w⟩, ⟨fun j hj => absurd hj (Nat.not_lt_zero _)⟩⟩
 case round =>
  obtain ⟨kk, hkk, hg, rfl, BW, HA⟩ := hrel
  by_cases hlt : kk < l0.length
  ·have hltz : (kk : Int) < (l0.length : Int) := by omega
   obtain ⟨ad, ea, h0⟩ := Kd.at_int HR0.out (kk : Int) (by omega) (by omega)
   have hcall := hp wr (rd l0 kk) BW.out
   have HE : Hid (l0.getD kk 0 = rd l0 kk) := Lib.hid (by unfold rd; rw [Int.toNat_natCast])
   clear hp
   cases ea
   simp only [Int.toNat_natCast] at h0
   replace h0 := (BW.out.cell (World.block_lt_of_cell? w _ h0)).trans h0
   generalize rd l0 kk = y at *
   cases hq : p y with
   | true =>
    rw [hq] at hcall
    have HQ := Lib.hid hq
    clear hq
    go_wp2_with (go_at_fn g; refine hcall.mono ?_; rintro e w' ⟨rfl, hb'⟩)
    go_ret
    refine ⟨?_, hb'⟩
    rw [idxP_hit p l0 0 kk hlt (by rw [HE.out]; exact HQ.out) HA.out]
    rfl
   | false =>
    rw [hq] at hcall
    have HQ := Lib.hid hq
    clear hq
    go_wp2_with (go_at_fn g; refine hcall.mono ?_; rintro e w' ⟨rfl, hb'⟩)
    go_roundg (l0.length - (kk + 1))
    case measure => omega
    case rel =>
     refine ⟨kk + 1, by omega, by omega, by go_num, ⟨hb'⟩, ⟨fun j hj => ?_⟩⟩
     by_cases e : j = kk
     ·subst e
      rw [HE.out]; exact HQ.out
     ·exact HA.out j (by omega)
  ·have hltz : ¬ (kk : Int) < (l0.length : Int) := by omega
   have hk : kk = l0.length := by omega
   go_wp2
   go_ret
   refine ⟨?_, BW.out⟩
   rw [idxP_miss p l0 0 (by rw [← hk]; exact HA.out)]
   rfl
set_option maxHeartbeats 1000000 in
set_option maxRecDepth 100000 in
theorem containsFunc_int (p : Int → Bool) (g : Nat) (lb : Array Value) (eg : ∀ args w, (callFunc g args).run Try.prog w = .ok (.enter g args) w) (A0 : Option Addr) (c0 : Nat) (l0 : List Int) (w : World)
  (hp : ∀ (W : World) (x : Int), Below w.heap.size w W → Calls Try.prog g (#[.int .i64 x] ++ lb) W fun e w' => e = .returned (.bool (p x)) ∧ Below w.heap.size w w')
  (hr0 : Kd.C (Kd.int .i64) w A0 l0.length l0) :
  Calls Try.prog 104 #[.slice A0 l0.length c0, .func (.func g) #[] lb] w fun e w' => e = .returned (.bool (l0.any p)) ∧ Below w.heap.size w w' := by
 rw [← idxP_any]
 have hcall := indexFunc_int p g lb eg A0 c0 l0 w hp hr0
 clear hp hr0
 generalize idxP p l0 = r at hcall ⊢
 go_enter Try.func104, Try.ntmps104
 go_wp2_with (go_at_call 121; refine hcall.mono ?_; rintro e w' ⟨rfl, hb'⟩)
 go_ret
 exact ⟨rfl, hb'⟩

def inB (n low high : Int) : Bool := decide (low ≤ n) && decide (n ≤ high)
set_option maxHeartbeats 400000 in
theorem within_any (n low high : Int) (w : World) : Calls Try.prog 48 #[.int .i64 n, .int .i64 low, .int .i64 high] w fun e w' => e = .returned (.bool (inB n low high)) ∧ w = w' := by
 by_cases h1 : low ≤ n
 ·have c1 : decide (low ≤ n) = true := decide_eq_true h1
  by_cases h2 : n ≤ high
  ·have c2 : decide (n ≤ high) = true := decide_eq_true h2
   go_enter Try.func48, Try.ntmps48
   go_wp2
   go_ret
   exact ⟨by simp [inB, h1, h2], rfl⟩
  ·have c2 : decide (n ≤ high) = false := decide_eq_false h2
   go_enter Try.func48, Try.ntmps48
   go_wp2
   go_ret
   exact ⟨by simp [inB, h1, h2], rfl⟩
 ·have c1 : decide (low ≤ n) = false := decide_eq_false h1
  go_enter Try.func48, Try.ntmps48
  go_wp2
  go_ret
  exact ⟨by simp [inB]; omega, rfl⟩
def hasB (n : Int) (l : List Int) : Bool := !(l.any fun v => !(inB v 0 (wrap64 (n - 1))))
set_option maxHeartbeats 1000000 in
theorem has1_any (n : Int) (s : Value) (B : Nat) (w : World) (hb : w.heap[B]? = some (.cells #[.int .i64 n, s] 25 (0, 0))) :
  ∀ (W : World) (x : Int), Below w.heap.size w W → Calls Try.prog 105 (#[.int .i64 x] ++ #[.pointer (some ⟨B, 0, none⟩)]) W fun e w' => e = .returned (.bool (!(inB x 0 (wrap64 (n - 1))))) ∧ Below w.heap.size w w' := by
 intro W x hB
 have h0 : W.cell? ⟨B, 0, none⟩ = some (.int .i64 n) := by
  have h1 : w.cell? ⟨B, 0, none⟩ = some (.int .i64 n) := (blk_cell hb 0).trans rfl
  exact (hB.cell (World.block_lt_of_cell? w _ h1)).trans h1
 clear hb
 show Calls Try.prog 105 #[.int .i64 x, .pointer (some ⟨B, 0, none⟩)] W _
 go_enter Try.func105, Try.ntmps105
 go_wp2_with (go_at_call 48; refine (within_any _ _ _ _).mono ?_; rintro e w' ⟨rfl, rfl⟩)
 go_ret
 exact ⟨by simp [IntKind.wrap_i64, wrap64], hB⟩
set_option maxHeartbeats 1000000 in
theorem has_any (n : Int) (A0 : Option Addr) (c0 m0 : Nat) (A1 : Option Addr) (c1 : Nat) (l1 : List Int) (w : World) (hr1 : Kd.C (Kd.int .i64) w A1 l1.length l1) :
  Calls Try.prog 70 #[.agg #[.int .i64 n, .slice A0 m0 c0], .slice A1 l1.length c1] w fun e w' => e = .returned (.bool (hasB n l1)) ∧ Below w.heap.size w w' := by
 have hu := Try.underlying25
 have eg : ∀ args w, (callFunc 105 args).run Try.prog w = .ok (.enter 105 args) w := enters_of Try.func105 (by kernel_rfl) rfl
 have hcall := containsFunc_int (fun v => !(inB v 0 (wrap64 (n - 1)))) 105 #[.pointer (some ⟨w.heap.size, 0, none⟩)] eg A1 c1 l1 (w.alloc (.cells #[.int .i64 n, .slice A0 m0 c0] 25)) (has1_any n (.slice A0 m0 c0) w.heap.size _ (heap_alloc_new w _)) (Kd.C_below hr1 (below_alloc (Below.refl _ _) _))
 unfold hasB
 generalize l1.any (fun v => !(inB v 0 (wrap64 (n - 1)))) = r at hcall ⊢
 clear hr1 eg
 go_enter Try.func70, Try.ntmps70
 go_wp2_with (go_at_call 104; refine hcall.mono ?_; rintro e w' ⟨rfl, hb'⟩)
 go_ret
 exact ⟨rfl, (below_alloc (Below.refl _ w) _).trans (hb'.mono (by simp))⟩
theorem two_ints {w : World} {b t : Nat} {x y : Int} (h : w.heap[b]? = some (.cells #[.int .i64 x, .int .i64 y] t (0, 0))) : Kd.C (Kd.int .i64) w (some ⟨b, 0, none⟩) [x, y].length [x, y] := by
 refine Kd.C_of_reads (enc := Value.int .i64) (d := (0 : Int)) (h1 := fun _ => rfl) ⟨rfl, by simp, fun _ => ⟨_, rfl, fun j hj => ?_⟩⟩
 match j, hj with
 | 0, _ => exact (blk_cell h 0).trans rfl
 | 1, _ => exact (blk_cell h 1).trans rfl
/-- What NetOk finds wrong with an arc. -/
def arcBad (n : Int) (x : S58) : Bool := !hasB n [x.f0, x.f1] || ((x.f0 == x.f1) || (!inB x.f2 0 99 || (!inB x.f3 0 99 || !inB x.f4 0 9)))
theorem costOk_any (n : Int) (w : World) : Calls Try.prog 71 #[.int .i64 n] w fun e w' => e = .returned (.bool (inB n 0 99)) ∧ w = w' := by
 have hcall := within_any n 0 99 w
 generalize inB n 0 99 = r at hcall ⊢
 go_enter Try.func71, Try.ntmps71
 go_wp2_with (go_at_call 48; refine hcall.mono ?_; rintro e w' ⟨rfl, rfl⟩)
 go_ret
 exact ⟨rfl, rfl⟩
set_option maxHeartbeats 4000000 in
set_option maxRecDepth 100000 in
theorem netOk1_any (n : Int) (A0 : Option Addr) (c0 m0 : Nat) (B : Nat) (w : World) (hb : w.heap[B]? = some (.cells #[.int .i64 n, .slice A0 m0 c0] 25 (0, 0))) :
  ∀ (W : World) (x : S58), Below w.heap.size w W → Calls Try.prog 69 (#[.agg #[.int .i64 x.f0, .int .i64 x.f1, .int .i64 x.f2, .int .i64 x.f3, .int .i64 x.f4]] ++ #[.pointer (some ⟨B, 0, none⟩)]) W fun e w' => e = .returned (.bool (arcBad n x)) ∧ Below w.heap.size w w' := by
 intro W x hB
 have h0 : W.cell? ⟨B, 0, none⟩ = some (.int .i64 n) := by
  have h1 : w.cell? ⟨B, 0, none⟩ = some (.int .i64 n) := (blk_cell hb 0).trans rfl
  exact (hB.cell (World.block_lt_of_cell? w _ h1)).trans h1
 have h1 : W.cell? ⟨B, 1, none⟩ = some (.slice A0 m0 c0) := by
  have h1 : w.cell? ⟨B, 1, none⟩ = some (.slice A0 m0 c0) := (blk_cell hb 1).trans rfl
  exact (hB.cell (World.block_lt_of_cell? w _ h1)).trans h1
 have hBW : B < W.heap.size := World.block_lt_of_cell? W _ h0
 have hne : B ≠ W.heap.size := by omega
 have hne' : B ≠ W.heap.size + 1 := by omega
 clear hb
 obtain ⟨x0, x1, x2, x3, x4⟩ := x
 show Calls Try.prog 69 #[.agg #[.int .i64 x0, .int .i64 x1, .int .i64 x2, .int .i64 x3, .int .i64 x4], .pointer (some ⟨B, 0, none⟩)] W _
 have HBB := ak hB
 clear hB
 have hu := Try.underlying25
 have hcall := has_any n A0 c0 m0 (some ⟨W.heap.size + 1, 0, none⟩) 2 [x0, x1] ((W.alloc (.cells #[.int .i64 x0, .int .i64 x1, .int .i64 x2, .int .i64 x3, .int .i64 x4] 58)).alloc (.cells #[.int .i64 x0, .int .i64 x1] 3))
  (two_ints (t := 3) (by have := heap_alloc_new (W.alloc (.cells #[.int .i64 x0, .int .i64 x1, .int .i64 x2, .int .i64 x3, .int .i64 x4] 58)) (.cells #[.int .i64 x0, .int .i64 x1] 3); simpa using this))
 unfold arcBad
 simp only
 cases e1 : hasB n [x0, x1] with
 | false =>
  rw [e1] at hcall
  clear e1
  go_enter Try.func69, Try.ntmps69
  go_wp2_with (go_at_call 70; refine hcall.mono ?_; rintro e w' ⟨rfl, hb'⟩)
  go_ret
  refine ⟨rfl, ?_⟩
  exact (((HBB.out.alloc HBB.out.size _).alloc (by simp; exact Nat.le_succ_of_le HBB.out.size) _)).trans (hb'.mono (by simp; exact Nat.le_succ_of_le (Nat.le_succ_of_le HBB.out.size)))
 | true =>
  rw [e1] at hcall
  clear e1
  have q : ∀ i v, #[Value.int .i64 x0, .int .i64 x1, .int .i64 x2, .int .i64 x3, .int .i64 x4][i]? = some v → ((W.alloc (.cells #[.int .i64 x0, .int .i64 x1, .int .i64 x2, .int .i64 x3, .int .i64 x4] 58)).alloc (.cells #[.int .i64 x0, .int .i64 x1] 3)).cell? ⟨W.heap.size, i, none⟩ = some v := by
   intro i v hv
   have h2 : ((W.alloc (.cells #[.int .i64 x0, .int .i64 x1, .int .i64 x2, .int .i64 x3, .int .i64 x4] 58)).alloc (.cells #[.int .i64 x0, .int .i64 x1] 3)).heap[W.heap.size]? = some (.cells #[.int .i64 x0, .int .i64 x1, .int .i64 x2, .int .i64 x3, .int .i64 x4] 58 (0, 0)) := blk_alloc (heap_alloc_new W _) _
   exact (blk_cell h2 i).trans hv
  have q0 := q 0 _ rfl
  have q1 := q 1 _ rfl
  have q2 := q 2 _ rfl
  have q3 := q 3 _ rfl
  have q4 := q 4 _ rfl
  clear q
  have fin : ∀ (w' : World), Below ((W.alloc (.cells #[.int .i64 x0, .int .i64 x1, .int .i64 x2, .int .i64 x3, .int .i64 x4] 58)).alloc (.cells #[.int .i64 x0, .int .i64 x1] 3)).heap.size ((W.alloc (.cells #[.int .i64 x0, .int .i64 x1, .int .i64 x2, .int .i64 x3, .int .i64 x4] 58)).alloc (.cells #[.int .i64 x0, .int .i64 x1] 3)) w' → Below w.heap.size w w' := fun w' hb' =>
   (((HBB.out.alloc HBB.out.size _).alloc (by simp; exact Nat.le_succ_of_le HBB.out.size) _)).trans (hb'.mono (by simp; exact Nat.le_succ_of_le (Nat.le_succ_of_le HBB.out.size)))
  have FIN := ak fin
  clear fin
  by_cases e2 : x0 = x1
  ·have f2 : (x0 == x1) = true := beq_iff_eq.2 e2
   have E2 := Lib.hid e2
   clear e2
   go_enter Try.func69, Try.ntmps69
   go_wp2_with (go_at_call 70; refine hcall.mono ?_; rintro e w' ⟨rfl, hb'⟩; have k0 := (hb'.cell (World.block_lt_of_cell? _ _ q0)).trans q0; have k1 := (hb'.cell (World.block_lt_of_cell? _ _ q1)).trans q1; have k2 := (hb'.cell (World.block_lt_of_cell? _ _ q2)).trans q2; have k3 := (hb'.cell (World.block_lt_of_cell? _ _ q3)).trans q3; have k4 := (hb'.cell (World.block_lt_of_cell? _ _ q4)).trans q4; have HF := ak (FIN.out _ hb'); clear q0 q1 q2 q3 q4 hb')
   go_ret
   exact ⟨by simp [f2], HF.out⟩
  ·have f2 : (x0 == x1) = false := beq_eq_false_iff_ne.2 e2
   clear e2
   cases e3 : inB x2 0 99 with
   | false =>
    have hc3 := fun w => costOk_any x2 w
    rw [e3] at hc3
    clear e3
    go_enter Try.func69, Try.ntmps69
    go_wp2_with (first
     | (go_at_call 70; refine hcall.mono ?_; rintro e w' ⟨rfl, hb'⟩; have k0 := (hb'.cell (World.block_lt_of_cell? _ _ q0)).trans q0; have k1 := (hb'.cell (World.block_lt_of_cell? _ _ q1)).trans q1; have k2 := (hb'.cell (World.block_lt_of_cell? _ _ q2)).trans q2; have k3 := (hb'.cell (World.block_lt_of_cell? _ _ q3)).trans q3; have k4 := (hb'.cell (World.block_lt_of_cell? _ _ q4)).trans q4; have HF := ak (FIN.out _ hb'); clear q0 q1 q2 q3 q4 hb')
     | (go_at_call 71; refine (hc3 _).mono ?_; rintro e w' ⟨rfl, rfl⟩))
    go_ret
    exact ⟨by simp [f2], HF.out⟩
   | true =>
    have hc3 := fun w => costOk_any x2 w
    rw [e3] at hc3
    clear e3
    have hc4 := fun w => costOk_any x3 w
    have hc5 := fun w => within_any x4 0 9 w
    generalize inB x3 0 99 = r4 at hc4 ⊢
    generalize inB x4 0 9 = r5 at hc5 ⊢
    cases r4 with
    | false =>
     go_enter Try.func69, Try.ntmps69
     go_wp2_with fail
     refine hcall.mono ?_; rintro e w' ⟨rfl, hb'⟩; have k0 := (hb'.cell (World.block_lt_of_cell? _ _ q0)).trans q0; have k1 := (hb'.cell (World.block_lt_of_cell? _ _ q1)).trans q1; have k2 := (hb'.cell (World.block_lt_of_cell? _ _ q2)).trans q2; have k3 := (hb'.cell (World.block_lt_of_cell? _ _ q3)).trans q3; have k4 := (hb'.cell (World.block_lt_of_cell? _ _ q4)).trans q4; have HF := ak (FIN.out _ hb'); clear q0 q1 q2 q3 q4 hb'
     go_wp2_with fail
     refine (hc3 _).mono ?_; rintro e w' ⟨rfl, rfl⟩
     go_wp2_with fail
     refine (hc4 _).mono ?_; rintro e w' ⟨rfl, rfl⟩
     go_wp2_with fail
     go_ret
     exact ⟨by simp [f2], HF.out⟩
    | true =>
     go_enter Try.func69, Try.ntmps69
     go_wp2_with fail
     refine hcall.mono ?_; rintro e w' ⟨rfl, hb'⟩; have k0 := (hb'.cell (World.block_lt_of_cell? _ _ q0)).trans q0; have k1 := (hb'.cell (World.block_lt_of_cell? _ _ q1)).trans q1; have k2 := (hb'.cell (World.block_lt_of_cell? _ _ q2)).trans q2; have k3 := (hb'.cell (World.block_lt_of_cell? _ _ q3)).trans q3; have k4 := (hb'.cell (World.block_lt_of_cell? _ _ q4)).trans q4; have HF := ak (FIN.out _ hb'); clear q0 q1 q2 q3 q4 hb'
     go_wp2_with fail
     refine (hc3 _).mono ?_; rintro e w' ⟨rfl, rfl⟩
     go_wp2_with fail
     refine (hc4 _).mono ?_; rintro e w' ⟨rfl, rfl⟩
     go_wp2_with fail
     refine (hc5 _).mono ?_; rintro e w' ⟨rfl, rfl⟩
     go_wp2_with fail
     go_ret
     exact ⟨by simp [f2], HF.out⟩
/-- Is a net valid. -/
def netOkB (n : Int) (l : List S58) : Bool := inB n 1 8 && (decide (l.length ≤ 16) && !(l.any (arcBad n)))
set_option maxHeartbeats 4000000 in
set_option maxRecDepth 100000 in
theorem netOk_any (n : Int) (A0 : Option Addr) (c0 : Nat) (l0 : List S58) (w : World) (hr0 : Kd.C k58 w A0 l0.length l0) :
  Calls Try.prog 32 #[.agg #[.int .i64 n, .slice A0 l0.length c0]] w fun e w' => e = .returned (.bool (netOkB n l0)) ∧ Below w.heap.size w w' := by
 have hu := Try.underlying25
 have eg : ∀ args w, (callFunc 69 args).run Try.prog w = .ok (.enter 69 args) w := enters_of Try.func69 (by kernel_rfl) rfl
 have hcall := containsFunc_arc (arcBad n) 69 #[.pointer (some ⟨w.heap.size, 0, none⟩)] eg A0 c0 l0 (w.alloc (.cells #[.int .i64 n, .slice A0 l0.length c0] 25)) (netOk1_any n A0 c0 l0.length w.heap.size _ (heap_alloc_new w _)) (Kd.C_below hr0 (below_alloc (Below.refl _ _) _))
 have hw := fun w => within_any n 1 8 w
 have hbig : l0.length ≤ 9223372036854775807 := by
  have := hr0.2.1
  omega
 unfold netOkB
 generalize l0.any (arcBad n) = r at hcall ⊢
 clear hr0 eg
 cases e1 : inB n 1 8 with
 | false =>
  rw [e1] at hw
  clear e1
  go_enter Try.func32, Try.ntmps32
  go_wp2_with (go_at_call 48; refine (hw _).mono ?_; rintro e w' ⟨rfl, rfl⟩)
  go_ret
  exact ⟨by simp, below_alloc (Below.refl _ w) _⟩
 | true =>
  rw [e1] at hw
  clear e1
  by_cases e2 : l0.length ≤ 16
  ·have f2 : decide ((l0.length : Int) ≤ 16) = true := decide_eq_true (by omega)
   have f2' : decide (l0.length ≤ 16) = true := decide_eq_true e2
   go_enter Try.func32, Try.ntmps32
   go_wp2_with (first
    | (go_at_call 48; refine (hw _).mono ?_; rintro e w' ⟨rfl, rfl⟩)
    | (go_at_call 68; refine hcall.mono ?_; rintro e w' ⟨rfl, hb'⟩))
   go_ret
   exact ⟨by simp [f2'], (below_alloc (Below.refl _ w) _).trans (hb'.mono (by simp))⟩
  ·have f2 : decide ((l0.length : Int) ≤ 16) = false := decide_eq_false (by omega)
   have f2' : decide (l0.length ≤ 16) = false := decide_eq_false e2
   go_enter Try.func32, Try.ntmps32
   go_wp2_with (go_at_call 48; refine (hw _).mono ?_; rintro e w' ⟨rfl, rfl⟩)
   go_ret
   exact ⟨by simp [f2'], below_alloc (Below.refl _ w) _⟩

end Go.Proofs.Ytlgolgfcolnddaa.F
