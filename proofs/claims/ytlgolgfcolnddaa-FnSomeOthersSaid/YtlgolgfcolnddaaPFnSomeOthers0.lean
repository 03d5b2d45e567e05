-- Printed by this claim's repository's tools (px.py, pgo.py, pack.py), one text behind the other. Lean checks it.
import Derived.Test.YtlgolgfcolnddaaFKindsPFnSomeOthers
namespace Go.Proofs.Ytlgolgfcolnddaa.F
open Go.RowKit Go.Proofs.YtlgolgfcolnddaaW.PrintWords Go.Proofs.YtlgolgfcolnddaaW.PrintLast Go.Proofs.YtlgolgfcolnddaaW.PrintMore
attribute [local go_sem] qQe qQd qQi qQh qZk qZl qQc qQb
set_option linter.unusedVariables false
set_option linter.unusedSimpArgs false
/-! ### impl_within: function 48 -/
def impl_within.f (a0 : Int) (a1 : Int) (a2 : Int) : Option (Bool) := if a0 ≥ a1 then (some (decide (a0 ≤ a2))) else (some false)
set_option maxHeartbeats 8000000 in
set_option maxRecDepth 100000 in
theorem impl_within.calls (a0 : Int) (a1 : Int) (a2 : Int) (r : Bool) (w : World) (h : impl_within.f a0 a1 a2 = some r) :
  Calls Try.prog 48 #[.int .i64 a0, .int .i64 a1, .int .i64 a2] w fun e w' => e = .returned (.bool r) ∧ Drawn0 w w' := by
 have H : (if a0 ≥ a1 then (some (decide (a0 ≤ a2))) else (some false)) = some r := h
 clear h
 by_cases c4 : a0 ≥ a1
 ·rw [if_pos c4] at H
  have c4b0 : decide (a1 ≤ a0) = true := decide_eq_true c4
  clear c4
  obtain rfl := Option.some.inj H
  go_enter Try.func48, Try.ntmps48
  go_wp2
  go_ret
  exact ⟨by rfl, by repeat (exact Drawn0.refl _)⟩
 rw [if_neg c4] at H
 have c4b0 : decide (a1 ≤ a0) = false := decide_eq_false c4
 clear c4
 obtain rfl := Option.some.inj H
 go_enter Try.func48, Try.ntmps48
 go_wp2
 go_ret
 exact ⟨by rfl, by repeat (exact Drawn0.refl _)⟩
/-! ### text core -/

/-- The first place at which p holds, or -1. -/
def idxP {α : Type} (p : α → Bool) (l : List α) : Int := match l.findIdx? p with | some i => (i : Int) | none => -1
theorem qYo {α : Type} (p : α → Bool) (l : List α) (d : α) (kk : Nat) (hk : kk < l.length) (h : p (l.getD kk d) = true) (hb : ∀ j, j < kk → p (l.getD j d) = false) : idxP p l = kk := by
 unfold idxP
 have : l.findIdx? p = some kk := by
  rw [List.findIdx?_eq_some_iff_getElem]
  refine ⟨hk, by simpa [List.getD_eq_getElem?_getD, hk] using h, fun j hj => ?_⟩
  have h2 := hb j hj
  rw [List.getD_eq_getElem?_getD, List.getElem?_eq_getElem (by omega)] at h2
  simpa using h2
 rw [this]
theorem qWe {α : Type} (p : α → Bool) (l : List α) (d : α) (hb : ∀ j, j < l.length → p (l.getD j d) = false) : idxP p l = -1 := by
 unfold idxP
 have : l.findIdx? p = none := by
  rw [List.findIdx?_eq_none_iff]
  intro x hx
  obtain ⟨j, hj, rfl⟩ := List.mem_iff_getElem.1 hx
  have h2 := hb j hj
  rw [List.getD_eq_getElem?_getD, List.getElem?_eq_getElem hj] at h2
  simpa using h2
 rw [this]
theorem jZa {α : Type} (p : α → Bool) (l : List α) : decide (0 ≤ idxP p l) = l.any p := by
 unfold idxP
 cases h : l.findIdx? p with
 | none =>
  rw [List.findIdx?_eq_none_iff] at h
  have : l.any p = false := by simpa using h
  simp [this]
 | some i =>
  rw [List.findIdx?_eq_some_iff_getElem] at h
  obtain ⟨hi, hp, _⟩ := h
  have : l.any p = true := by rw [List.any_eq_true]; exact ⟨_, List.getElem_mem hi, hp⟩
  rw [this]
  simp

set_option maxHeartbeats 2000000 in
set_option maxRecDepth 100000 in
theorem indexFunc_arc (p : S58 → Bool) (g : Nat) (lb : Array Value) (eg : ∀ args w, (callFunc g args).run Try.prog w = .ok (.enter g args) w) (A0 : Option Addr) (c0 : Nat) (l0 : List S58) (w : World)
  (hp : ∀ (W : World) (x : S58), Below w.heap.size w W → Calls Try.prog g (#[.agg #[.int .i64 x.f0, .int .i64 x.f1, .int .i64 x.f2, .int .i64 x.f3, .int .i64 x.f4]] ++ lb) W fun e w' => e = .returned (.bool (p x)) ∧ Below w.heap.size w w')
  (hr0 : Kd.C k58 w A0 l0.length l0) :
  Calls Try.prog 103 #[.slice A0 l0.length c0, .func (.func g) #[] lb] w fun e w' => e = .returned (.int .i64 (idxP p l0)) ∧ Below w.heap.size w w' := by
 have HR0 := ak hr0
 have hbig : l0.length ≤ 9223372036854775807 := by
  have := hr0.2.1
  omega
 clear hr0
 go_enter Try.func103, Try.ntmps103
 go_wp2
 go_loopg [5, 8] l0.length (fun gg _ s8 wr => ∃ kk : Nat, kk ≤ l0.length ∧ l0.length - kk ≤ gg ∧ s8 = .int .i64 kk ∧ Aside0 (Below w.heap.size w wr) ∧ Aside0 (∀ j, j < kk → p (l0.getD j z58) = false))
 case atStart => exact ⟨0, Nat.zero_le _, by omega, rfl, ⟨Below.refl _ w⟩, ⟨fun j hj => absurd hj (Nat.not_lt_zero _)⟩⟩
 case round =>
  obtain ⟨kk, hkk, hg, rfl, BW, HA⟩ := hrel
  by_cases hlt : kk < l0.length
  ·have hltz : (kk : Int) < (l0.length : Int) := by omega
   obtain ⟨ad, ea, h0, h1, h2, h3, h4⟩ := qJk HR0.out (kk : Int) (by omega) (by omega)
   have hcall := hp wr (qZa l0 kk) BW.out
   have HE : Hid (l0.getD kk z58 = qZa l0 kk) := Lib.hid (by unfold qZa; rw [Int.toNat_natCast])
   clear hp
   cases ea
   simp only [Int.toNat_natCast] at h0 h1 h2 h3 h4
   replace h0 := (BW.out.cell (World.block_lt_of_cell? w _ h0)).trans h0
   replace h1 := (BW.out.cell (World.block_lt_of_cell? w _ h1)).trans h1
   replace h2 := (BW.out.cell (World.block_lt_of_cell? w _ h2)).trans h2
   replace h3 := (BW.out.cell (World.block_lt_of_cell? w _ h3)).trans h3
   replace h4 := (BW.out.cell (World.block_lt_of_cell? w _ h4)).trans h4
   generalize qZa l0 kk = y at *
   cases hq : p y with
   | true =>
    rw [hq] at hcall
    have HQ := Lib.hid hq
    clear hq
    go_wp2_with (go_at_fn g; refine hcall.mono ?_; rintro e w' ⟨rfl, hb'⟩)
    go_ret
    refine ⟨?_, hb'⟩
    rw [qYo p l0 z58 kk hlt (by rw [HE.out]; exact HQ.out) HA.out]
    rfl
   | false =>
    rw [hq] at hcall
    have HQ := Lib.hid hq
    clear hq
    go_wp2_with (go_at_fn g; refine hcall.mono ?_; rintro e w' ⟨rfl, hb'⟩)
    go_roundg (l0.length - (kk + 1))
    case measure => omega
    case rel =>
     refine ⟨kk + 1, by omega, by omega, by go_num, ⟨hb'⟩, ⟨fun j hj => ?_⟩⟩
     by_cases e : j = kk
     ·subst e
      rw [HE.out]; exact HQ.out
     ·exact HA.out j (by omega)
  ·have hltz : ¬ (kk : Int) < (l0.length : Int) := by omega
   have hk : kk = l0.length := by omega
   go_wp2
   go_ret
   refine ⟨?_, BW.out⟩
   rw [qWe p l0 z58 (by rw [← hk]; exact HA.out)]
   rfl

set_option maxHeartbeats 1000000 in
set_option maxRecDepth 100000 in
theorem containsFunc_arc (p : S58 → Bool) (g : Nat) (lb : Array Value) (eg : ∀ args w, (callFunc g args).run Try.prog w = .ok (.enter g args) w) (A0 : Option Addr) (c0 : Nat) (l0 : List S58) (w : World)
  (hp : ∀ (W : World) (x : S58), Below w.heap.size w W → Calls Try.prog g (#[.agg #[.int .i64 x.f0, .int .i64 x.f1, .int .i64 x.f2, .int .i64 x.f3, .int .i64 x.f4]] ++ lb) W fun e w' => e = .returned (.bool (p x)) ∧ Below w.heap.size w w')
  (hr0 : Kd.C k58 w A0 l0.length l0) :
  Calls Try.prog 68 #[.slice A0 l0.length c0, .func (.func g) #[] lb] w fun e w' => e = .returned (.bool (l0.any p)) ∧ Below w.heap.size w w' := by
 rw [← jZa]
 have hcall := indexFunc_arc p g lb eg A0 c0 l0 w hp hr0
 clear hp hr0
 generalize idxP p l0 = r at hcall ⊢
 go_enter Try.func68, Try.ntmps68
 go_wp2_with (go_at_call 103; refine hcall.mono ?_; rintro e w' ⟨rfl, hb'⟩)
 go_ret
 exact ⟨rfl, hb'⟩

set_option maxHeartbeats 2000000 in
set_option maxRecDepth 100000 in
theorem indexFunc_int (p : Int → Bool) (g : Nat) (lb : Array Value) (eg : ∀ args w, (callFunc g args).run Try.prog w = .ok (.enter g args) w) (A0 : Option Addr) (c0 : Nat) (l0 : List Int) (w : World)
  (hp : ∀ (W : World) (x : Int), Below w.heap.size w W → Calls Try.prog g (#[.int .i64 x] ++ lb) W fun e w' => e = .returned (.bool (p x)) ∧ Below w.heap.size w w')
  (hr0 : Kd.C (Kd.int .i64) w A0 l0.length l0) :
  Calls Try.prog 121 #[.slice A0 l0.length c0, .func (.func g) #[] lb] w fun e w' => e = .returned (.int .i64 (idxP p l0)) ∧ Below w.heap.size w w' := by
 have HR0 := ak hr0
 have hbig : l0.length ≤ 9223372036854775807 := by
  have := hr0.2.1
  omega
 clear hr0
 go_enter Try.func121, Try.ntmps121
 go_wp2
 go_loopg [5, 8] l0.length (fun gg _ s8 wr => ∃ kk : Nat, kk ≤ l0.length ∧ l0.length - kk ≤ gg ∧ s8 = .int .i64 kk ∧ Aside0 (Below w.heap.size w wr) ∧ Aside0 (∀ j, j < kk → p (l0.getD j 0) = false))
 case atStart => exact ⟨0, Nat.zero_le _, by omega, rfl, ⟨Below.refl _ w⟩, ⟨fun j hj => absurd hj (Nat.not_lt_zero _)⟩⟩
 case round =>
  obtain ⟨kk, hkk, hg, rfl, BW, HA⟩ := hrel
  by_cases hlt : kk < l0.length
  ·have hltz : (kk : Int) < (l0.length : Int) := by omega
   obtain ⟨ad, ea, h0⟩ := Kd.at_int HR0.out (kk : Int) (by omega) (by omega)
   have hcall := hp wr (rd l0 kk) BW.out
   have HE : Hid (l0.getD kk 0 = rd l0 kk) := Lib.hid (by unfold rd; rw [Int.toNat_natCast])
   clear hp
   cases ea
   simp only [Int.toNat_natCast] at h0
   replace h0 := (BW.out.cell (World.block_lt_of_cell? w _ h0)).trans h0
   generalize rd l0 kk = y at *
   cases hq : p y with
   | true =>
    rw [hq] at hcall
    have HQ := Lib.hid hq
    clear hq
    go_wp2_with (go_at_fn g; refine hcall.mono ?_; rintro e w' ⟨rfl, hb'⟩)
    go_ret
    refine ⟨?_, hb'⟩
    rw [qYo p l0 0 kk hlt (by rw [HE.out]; exact HQ.out) HA.out]
    rfl
   | false =>
    rw [hq] at hcall
    have HQ := Lib.hid hq
    clear hq
    go_wp2_with (go_at_fn g; refine hcall.mono ?_; rintro e w' ⟨rfl, hb'⟩)
    go_roundg (l0.length - (kk + 1))
    case measure => omega
    case rel =>
     refine ⟨kk + 1, by omega, by omega, by go_num, ⟨hb'⟩, ⟨fun j hj => ?_⟩⟩
     by_cases e : j = kk
     ·subst e
      rw [HE.out]; exact HQ.out
     ·exact HA.out j (by omega)
  ·have hltz : ¬ (kk : Int) < (l0.length : Int) := by omega
   have hk : kk = l0.length := by omega
   go_wp2
   go_ret
   refine ⟨?_, BW.out⟩
   rw [qWe p l0 0 (by rw [← hk]; exact HA.out)]
   rfl
set_option maxHeartbeats 1000000 in
set_option maxRecDepth 100000 in
theorem containsFunc_int (p : Int → Bool) (g : Nat) (lb : Array Value) (eg : ∀ args w, (callFunc g args).run Try.prog w = .ok (.enter g args) w) (A0 : Option Addr) (c0 : Nat) (l0 : List Int) (w : World)
  (hp : ∀ (W : World) (x : Int), Below w.heap.size w W → Calls Try.prog g (#[.int .i64 x] ++ lb) W fun e w' => e = .returned (.bool (p x)) ∧ Below w.heap.size w w')
  (hr0 : Kd.C (Kd.int .i64) w A0 l0.length l0) :
  Calls Try.prog 104 #[.slice A0 l0.length c0, .func (.func g) #[] lb] w fun e w' => e = .returned (.bool (l0.any p)) ∧ Below w.heap.size w w' := by
 rw [← jZa]
 have hcall := indexFunc_int p g lb eg A0 c0 l0 w hp hr0
 clear hp hr0
 generalize idxP p l0 = r at hcall ⊢
 go_enter Try.func104, Try.ntmps104
 go_wp2_with (go_at_call 121; refine hcall.mono ?_; rintro e w' ⟨rfl, hb'⟩)
 go_ret
 exact ⟨rfl, hb'⟩

def inB (n low high : Int) : Bool := decide (low ≤ n) && decide (n ≤ high)
set_option maxHeartbeats 400000 in
theorem qKf (n low high : Int) (w : World) : Calls Try.prog 48 #[.int .i64 n, .int .i64 low, .int .i64 high] w fun e w' => e = .returned (.bool (inB n low high)) ∧ w = w' := by
 by_cases h1 : low ≤ n
 ·have c1 : decide (low ≤ n) = true := decide_eq_true h1
  by_cases h2 : n ≤ high
  ·have c2 : decide (n ≤ high) = true := decide_eq_true h2
   go_enter Try.func48, Try.ntmps48
   go_wp2
   go_ret
   exact ⟨by simp [inB, h1, h2], rfl⟩
  ·have c2 : decide (n ≤ high) = false := decide_eq_false h2
   go_enter Try.func48, Try.ntmps48
   go_wp2
   go_ret
   exact ⟨by simp [inB, h1, h2], rfl⟩
 ·have c1 : decide (low ≤ n) = false := decide_eq_false h1
  go_enter Try.func48, Try.ntmps48
  go_wp2
  go_ret
  exact ⟨by simp [inB]; omega, rfl⟩
def hasB (n : Int) (l : List Int) : Bool := !(l.any fun v => !(inB v 0 (wrap64 (n - 1))))
set_option maxHeartbeats 1000000 in
theorem has1_any (n : Int) (s : Value) (B : Nat) (w : World) (hb : w.heap[B]? = some (.cells #[.int .i64 n, s] 25 (0, 0))) :
  ∀ (W : World) (x : Int), Below w.heap.size w W → Calls Try.prog 105 (#[.int .i64 x] ++ #[.pointer (some ⟨B, 0, none⟩)]) W fun e w' => e = .returned (.bool (!(inB x 0 (wrap64 (n - 1))))) ∧ Below w.heap.size w w' := by
 intro W x hB
 have h0 : W.cell? ⟨B, 0, none⟩ = some (.int .i64 n) := by
  have h1 : w.cell? ⟨B, 0, none⟩ = some (.int .i64 n) := (qZb hb 0).trans rfl
  exact (hB.cell (World.block_lt_of_cell? w _ h1)).trans h1
 clear hb
 show Calls Try.prog 105 #[.int .i64 x, .pointer (some ⟨B, 0, none⟩)] W _
 go_enter Try.func105, Try.ntmps105
 go_wp2_with (go_at_call 48; refine (qKf _ _ _ _).mono ?_; rintro e w' ⟨rfl, rfl⟩)
 go_ret
 exact ⟨by simp [IntKind.wrap_i64, wrap64], hB⟩
set_option maxHeartbeats 1000000 in
theorem has_any (n : Int) (A0 : Option Addr) (c0 m0 : Nat) (A1 : Option Addr) (c1 : Nat) (l1 : List Int) (w : World) (hr1 : Kd.C (Kd.int .i64) w A1 l1.length l1) :
  Calls Try.prog 70 #[.agg #[.int .i64 n, .slice A0 m0 c0], .slice A1 l1.length c1] w fun e w' => e = .returned (.bool (hasB n l1)) ∧ Below w.heap.size w w' := by
 have hu := Try.underlying25
 have eg : ∀ args w, (callFunc 105 args).run Try.prog w = .ok (.enter 105 args) w := enters_of Try.func105 (by kernel_rfl) rfl
 have hcall := containsFunc_int (fun v => !(inB v 0 (wrap64 (n - 1)))) 105 #[.pointer (some ⟨w.heap.size, 0, none⟩)] eg A1 c1 l1 (w.alloc (.cells #[.int .i64 n, .slice A0 m0 c0] 25)) (has1_any n (.slice A0 m0 c0) w.heap.size _ (heap_alloc_new w _)) (Kd.C_below hr1 (qZn (Below.refl _ _) _))
 unfold hasB
 generalize l1.any (fun v => !(inB v 0 (wrap64 (n - 1)))) = r at hcall ⊢
 clear hr1 eg
 go_enter Try.func70, Try.ntmps70
 go_wp2_with (go_at_call 104; refine hcall.mono ?_; rintro e w' ⟨rfl, hb'⟩)
 go_ret
 exact ⟨rfl, (qZn (Below.refl _ w) _).trans (hb'.mono (by simp))⟩
theorem two_ints {w : World} {b t : Nat} {x y : Int} (h : w.heap[b]? = some (.cells #[.int .i64 x, .int .i64 y] t (0, 0))) : Kd.C (Kd.int .i64) w (some ⟨b, 0, none⟩) [x, y].length [x, y] := by
 refine Kd.C_of_reads (enc := Value.int .i64) (d := (0 : Int)) (h1 := fun _ => rfl) ⟨rfl, by simp, fun _ => ⟨_, rfl, fun j hj => ?_⟩⟩
 match j, hj with
 | 0, _ => exact (qZb h 0).trans rfl
 | 1, _ => exact (qZb h 1).trans rfl
/-- What NetOk finds wrong with an arc. -/
def arcBad (n : Int) (x : S58) : Bool := !hasB n [x.f0, x.f1] || ((x.f0 == x.f1) || (!inB x.f2 0 99 || (!inB x.f3 0 99 || !inB x.f4 0 9)))
theorem qYg (n : Int) (w : World) : Calls Try.prog 71 #[.int .i64 n] w fun e w' => e = .returned (.bool (inB n 0 99)) ∧ w = w' := by
 have hcall := qKf n 0 99 w
 generalize inB n 0 99 = r at hcall ⊢
 go_enter Try.func71, Try.ntmps71
 go_wp2_with (go_at_call 48; refine hcall.mono ?_; rintro e w' ⟨rfl, rfl⟩)
 go_ret
 exact ⟨rfl, rfl⟩
set_option maxHeartbeats 4000000 in
set_option maxRecDepth 100000 in
theorem netOk1_any (n : Int) (A0 : Option Addr) (c0 m0 : Nat) (B : Nat) (w : World) (hb : w.heap[B]? = some (.cells #[.int .i64 n, .slice A0 m0 c0] 25 (0, 0))) :
  ∀ (W : World) (x : S58), Below w.heap.size w W → Calls Try.prog 69 (#[.agg #[.int .i64 x.f0, .int .i64 x.f1, .int .i64 x.f2, .int .i64 x.f3, .int .i64 x.f4]] ++ #[.pointer (some ⟨B, 0, none⟩)]) W fun e w' => e = .returned (.bool (arcBad n x)) ∧ Below w.heap.size w w' := by
 intro W x hB
 have h0 : W.cell? ⟨B, 0, none⟩ = some (.int .i64 n) := by
  have h1 : w.cell? ⟨B, 0, none⟩ = some (.int .i64 n) := (qZb hb 0).trans rfl
  exact (hB.cell (World.block_lt_of_cell? w _ h1)).trans h1
 have h1 : W.cell? ⟨B, 1, none⟩ = some (.slice A0 m0 c0) := by
  have h1 : w.cell? ⟨B, 1, none⟩ = some (.slice A0 m0 c0) := (qZb hb 1).trans rfl
  exact (hB.cell (World.block_lt_of_cell? w _ h1)).trans h1
 have hBW : B < W.heap.size := World.block_lt_of_cell? W _ h0
 have hne : B ≠ W.heap.size := by omega
 have hne' : B ≠ W.heap.size + 1 := by omega
 clear hb
 obtain ⟨x0, x1, x2, x3, x4⟩ := x
 show Calls Try.prog 69 #[.agg #[.int .i64 x0, .int .i64 x1, .int .i64 x2, .int .i64 x3, .int .i64 x4], .pointer (some ⟨B, 0, none⟩)] W _
 have HBB := ak hB
 clear hB
 have hu := Try.underlying25
 have hcall := has_any n A0 c0 m0 (some ⟨W.heap.size + 1, 0, none⟩) 2 [x0, x1] ((W.alloc (.cells #[.int .i64 x0, .int .i64 x1, .int .i64 x2, .int .i64 x3, .int .i64 x4] 58)).alloc (.cells #[.int .i64 x0, .int .i64 x1] 3))
  (two_ints (t := 3) (by have := heap_alloc_new (W.alloc (.cells #[.int .i64 x0, .int .i64 x1, .int .i64 x2, .int .i64 x3, .int .i64 x4] 58)) (.cells #[.int .i64 x0, .int .i64 x1] 3); simpa using this))
 unfold arcBad
 simp only
 cases e1 : hasB n [x0, x1] with
 | false =>
  rw [e1] at hcall
  clear e1
  go_enter Try.func69, Try.ntmps69
  go_wp2_with (go_at_call 70; refine hcall.mono ?_; rintro e w' ⟨rfl, hb'⟩)
  go_ret
  refine ⟨rfl, ?_⟩
  exact (((HBB.out.alloc HBB.out.size _).alloc (by simp; exact Nat.le_succ_of_le HBB.out.size) _)).trans (hb'.mono (by simp; exact Nat.le_succ_of_le (Nat.le_succ_of_le HBB.out.size)))
 | true =>
  rw [e1] at hcall
  clear e1
  have q : ∀ i v, #[Value.int .i64 x0, .int .i64 x1, .int .i64 x2, .int .i64 x3, .int .i64 x4][i]? = some v → ((W.alloc (.cells #[.int .i64 x0, .int .i64 x1, .int .i64 x2, .int .i64 x3, .int .i64 x4] 58)).alloc (.cells #[.int .i64 x0, .int .i64 x1] 3)).cell? ⟨W.heap.size, i, none⟩ = some v := by
   intro i v hv
   have h2 : ((W.alloc (.cells #[.int .i64 x0, .int .i64 x1, .int .i64 x2, .int .i64 x3, .int .i64 x4] 58)).alloc (.cells #[.int .i64 x0, .int .i64 x1] 3)).heap[W.heap.size]? = some (.cells #[.int .i64 x0, .int .i64 x1, .int .i64 x2, .int .i64 x3, .int .i64 x4] 58 (0, 0)) := qQn (heap_alloc_new W _) _
   exact (qZb h2 i).trans hv
  have q0 := q 0 _ rfl
  have q1 := q 1 _ rfl
  have q2 := q 2 _ rfl
  have q3 := q 3 _ rfl
  have q4 := q 4 _ rfl
  clear q
  have fin : ∀ (w' : World), Below ((W.alloc (.cells #[.int .i64 x0, .int .i64 x1, .int .i64 x2, .int .i64 x3, .int .i64 x4] 58)).alloc (.cells #[.int .i64 x0, .int .i64 x1] 3)).heap.size ((W.alloc (.cells #[.int .i64 x0, .int .i64 x1, .int .i64 x2, .int .i64 x3, .int .i64 x4] 58)).alloc (.cells #[.int .i64 x0, .int .i64 x1] 3)) w' → Below w.heap.size w w' := fun w' hb' =>
   (((HBB.out.alloc HBB.out.size _).alloc (by simp; exact Nat.le_succ_of_le HBB.out.size) _)).trans (hb'.mono (by simp; exact Nat.le_succ_of_le (Nat.le_succ_of_le HBB.out.size)))
  have FIN := ak fin
  clear fin
  by_cases e2 : x0 = x1
  ·have f2 : (x0 == x1) = true := beq_iff_eq.2 e2
   have E2 := Lib.hid e2
   clear e2
   go_enter Try.func69, Try.ntmps69
   go_wp2_with (go_at_call 70; refine hcall.mono ?_; rintro e w' ⟨rfl, hb'⟩; have k0 := (hb'.cell (World.block_lt_of_cell? _ _ q0)).trans q0; have k1 := (hb'.cell (World.block_lt_of_cell? _ _ q1)).trans q1; have k2 := (hb'.cell (World.block_lt_of_cell? _ _ q2)).trans q2; have k3 := (hb'.cell (World.block_lt_of_cell? _ _ q3)).trans q3; have k4 := (hb'.cell (World.block_lt_of_cell? _ _ q4)).trans q4; have HF := ak (FIN.out _ hb'); clear q0 q1 q2 q3 q4 hb')
   go_ret
   exact ⟨by simp [f2], HF.out⟩
  ·have f2 : (x0 == x1) = false := beq_eq_false_iff_ne.2 e2
   clear e2
   cases e3 : inB x2 0 99 with
   | false =>
    have hc3 := fun w => qYg x2 w
    rw [e3] at hc3
    clear e3
    go_enter Try.func69, Try.ntmps69
    go_wp2_with (first | (go_at_call 70; refine hcall.mono ?_; rintro e w' ⟨rfl, hb'⟩; have k0 := (hb'.cell (World.block_lt_of_cell? _ _ q0)).trans q0; have k1 := (hb'.cell (World.block_lt_of_cell? _ _ q1)).trans q1; have k2 := (hb'.cell (World.block_lt_of_cell? _ _ q2)).trans q2; have k3 := (hb'.cell (World.block_lt_of_cell? _ _ q3)).trans q3; have k4 := (hb'.cell (World.block_lt_of_cell? _ _ q4)).trans q4; have HF := ak (FIN.out _ hb'); clear q0 q1 q2 q3 q4 hb') | (go_at_call 71; refine (hc3 _).mono ?_; rintro e w' ⟨rfl, rfl⟩))
    go_ret
    exact ⟨by simp [f2], HF.out⟩
   | true =>
    have hc3 := fun w => qYg x2 w
    rw [e3] at hc3
    clear e3
    have hc4 := fun w => qYg x3 w
    have hc5 := fun w => qKf x4 0 9 w
    generalize inB x3 0 99 = r4 at hc4 ⊢
    generalize inB x4 0 9 = r5 at hc5 ⊢
    cases r4 with
    | false =>
     go_enter Try.func69, Try.ntmps69
     go_wp2_with fail
     refine hcall.mono ?_; rintro e w' ⟨rfl, hb'⟩; have k0 := (hb'.cell (World.block_lt_of_cell? _ _ q0)).trans q0; have k1 := (hb'.cell (World.block_lt_of_cell? _ _ q1)).trans q1; have k2 := (hb'.cell (World.block_lt_of_cell? _ _ q2)).trans q2; have k3 := (hb'.cell (World.block_lt_of_cell? _ _ q3)).trans q3; have k4 := (hb'.cell (World.block_lt_of_cell? _ _ q4)).trans q4; have HF := ak (FIN.out _ hb'); clear q0 q1 q2 q3 q4 hb'
     go_wp2_with fail
     refine (hc3 _).mono ?_; rintro e w' ⟨rfl, rfl⟩
     go_wp2_with fail
     refine (hc4 _).mono ?_; rintro e w' ⟨rfl, rfl⟩
     go_wp2_with fail
     go_ret
     exact ⟨by simp [f2], HF.out⟩
    | true =>
     go_enter Try.func69, Try.ntmps69
     go_wp2_with fail
     refine hcall.mono ?_; rintro e w' ⟨rfl, hb'⟩; have k0 := (hb'.cell (World.block_lt_of_cell? _ _ q0)).trans q0; have k1 := (hb'.cell (World.block_lt_of_cell? _ _ q1)).trans q1; have k2 := (hb'.cell (World.block_lt_of_cell? _ _ q2)).trans q2; have k3 := (hb'.cell (World.block_lt_of_cell? _ _ q3)).trans q3; have k4 := (hb'.cell (World.block_lt_of_cell? _ _ q4)).trans q4; have HF := ak (FIN.out _ hb'); clear q0 q1 q2 q3 q4 hb'
     go_wp2_with fail
     refine (hc3 _).mono ?_; rintro e w' ⟨rfl, rfl⟩
     go_wp2_with fail
     refine (hc4 _).mono ?_; rintro e w' ⟨rfl, rfl⟩
     go_wp2_with fail
     refine (hc5 _).mono ?_; rintro e w' ⟨rfl, rfl⟩
     go_wp2_with fail
     go_ret
     exact ⟨by simp [f2], HF.out⟩
/-- Is a net valid. -/
def netOkB (n : Int) (l : List S58) : Bool := inB n 1 8 && (decide (l.length ≤ 16) && !(l.any (arcBad n)))
set_option maxHeartbeats 4000000 in
set_option maxRecDepth 100000 in
theorem netOk_any (n : Int) (A0 : Option Addr) (c0 : Nat) (l0 : List S58) (w : World) (hr0 : Kd.C k58 w A0 l0.length l0) :
  Calls Try.prog 32 #[.agg #[.int .i64 n, .slice A0 l0.length c0]] w fun e w' => e = .returned (.bool (netOkB n l0)) ∧ Below w.heap.size w w' := by
 have hu := Try.underlying25
 have eg : ∀ args w, (callFunc 69 args).run Try.prog w = .ok (.enter 69 args) w := enters_of Try.func69 (by kernel_rfl) rfl
 have hcall := containsFunc_arc (arcBad n) 69 #[.pointer (some ⟨w.heap.size, 0, none⟩)] eg A0 c0 l0 (w.alloc (.cells #[.int .i64 n, .slice A0 l0.length c0] 25)) (netOk1_any n A0 c0 l0.length w.heap.size _ (heap_alloc_new w _)) (Kd.C_below hr0 (qZn (Below.refl _ _) _))
 have hw := fun w => qKf n 1 8 w
 have hbig : l0.length ≤ 9223372036854775807 := by
  have := hr0.2.1
  omega
 unfold netOkB
 generalize l0.any (arcBad n) = r at hcall ⊢
 clear hr0 eg
 cases e1 : inB n 1 8 with
 | false =>
  rw [e1] at hw
  clear e1
  go_enter Try.func32, Try.ntmps32
  go_wp2_with (go_at_call 48; refine (hw _).mono ?_; rintro e w' ⟨rfl, rfl⟩)
  go_ret
  exact ⟨by simp, qZn (Below.refl _ w) _⟩
 | true =>
  rw [e1] at hw
  clear e1
  by_cases e2 : l0.length ≤ 16
  ·have f2 : decide ((l0.length : Int) ≤ 16) = true := decide_eq_true (by omega)
   have f2' : decide (l0.length ≤ 16) = true := decide_eq_true e2
   go_enter Try.func32, Try.ntmps32
   go_wp2_with (first | (go_at_call 48; refine (hw _).mono ?_; rintro e w' ⟨rfl, rfl⟩) | (go_at_call 68; refine hcall.mono ?_; rintro e w' ⟨rfl, hb'⟩))
   go_ret
   exact ⟨by simp [f2'], (qZn (Below.refl _ w) _).trans (hb'.mono (by simp))⟩
  ·have f2 : decide ((l0.length : Int) ≤ 16) = false := decide_eq_false (by omega)
   have f2' : decide (l0.length ≤ 16) = false := decide_eq_false e2
   go_enter Try.func32, Try.ntmps32
   go_wp2_with (go_at_call 48; refine (hw _).mono ?_; rintro e w' ⟨rfl, rfl⟩)
   go_ret
   exact ⟨by simp [f2'], qZn (Below.refl _ w) _⟩
/-! ### impl_NetOk: function 32 -/
def impl_NetOk.f (ab : Int) (aa : List (S58)) : Option (Bool) := some (netOkB ab aa)
theorem impl_NetOk.calls (ab : Int) (ac : Option Addr) (ad : Nat) (aa : List (S58)) (r : Bool) (w : World) (ae : Kd.C k58 w ac aa.length aa) (af : aa.length ≤ ad) (h : impl_NetOk.f ab aa = some r) :
  Calls Try.prog 32 #[.agg #[.int .i64 ab, .slice ac aa.length ad]] w fun e w' => e = .returned (.bool r) ∧ Below w.heap.size w w' := by
 obtain rfl := Option.some.inj h
 exact netOk_any ab ac ad aa w ae
/-! ### impl_Net_has: function 70 -/
def impl_Net_has.f (ab : Int) (aa : List (S58)) (l1 : List Int) : Option (Bool) := some (hasB ab l1)
theorem impl_Net_has.calls (ab : Int) (ac : Option Addr) (ad : Nat) (aa : List (S58)) (A1 : Option Addr) (c1 : Nat) (l1 : List Int) (r : Bool) (w : World) (ae : Kd.C k58 w ac aa.length aa) (af : aa.length ≤ ad) (hr1 : Kd.C (Kd.int .i64) w A1 l1.length l1) (hc1 : l1.length ≤ c1) (h : impl_Net_has.f ab aa l1 = some r) :
  Calls Try.prog 70 #[.agg #[.int .i64 ab, .slice ac aa.length ad], .slice A1 l1.length c1] w fun e w' => e = .returned (.bool r) ∧ Below w.heap.size w w' := by
 obtain rfl := Option.some.inj h
 exact has_any ab ac ad aa.length A1 c1 l1 w hr1
/-! ### impl_nodesIn: function 58 -/
def impl_nodesIn.f (ac : Int) (ab : List (S58)) (l1 : List Int) : Option (Bool) := (impl_NetOk.f ac ab).bind fun ah => (if ah = true then ((impl_Net_has.f ac ab l1).bind fun ai => (some ai)) else (some false))
set_option maxHeartbeats 8000000 in
set_option maxRecDepth 100000 in
theorem impl_nodesIn.calls (ac : Int) (ae : Option Addr) (af : Nat) (ab : List (S58)) (A1 : Option Addr) (c1 : Nat) (l1 : List Int) (r : Bool) (w : World) (am : Kd.C k58 w ae ab.length ab) (an : ab.length ≤ af) (hr1 : Kd.C (Kd.int .i64) w A1 l1.length l1) (hc1 : l1.length ≤ c1) (h : impl_nodesIn.f ac ab l1 = some r) :
  Calls Try.prog 58 #[.agg #[.int .i64 ac, .slice ae ab.length af], .slice A1 l1.length c1] w fun e w' => e = .returned (.bool r) ∧ Below w.heap.size w w' := by
 have aD := Try.underlying25
 have aj := ak am
 have al := ak an
 clear am an
 have HR1 := ak hr1
 have HC1 := ak hc1
 clear hr1 hc1
 have HB := ak (Below.refl w.heap.size w)
 have H : ((impl_NetOk.f ac ab).bind fun ah => (if ah = true then ((impl_Net_has.f ac ab l1).bind fun ai => (some ai)) else (some false))) = some r := h
 clear h
 replace H := Option.bind_eq_some_iff.mp H
 obtain ⟨ah, A30, H⟩ := H
 have A3 := ak A30
 clear A30
 by_cases c4 : ah = true
 rotate_left
 ·replace c4 := Bool.eq_false_iff.mpr c4
  subst c4
  rw [if_neg (show ¬ (false = true) by decide)] at H
  obtain rfl := Option.some.inj H
  go_enter Try.func58, Try.ntmps58
  go_wp2_with (first | ((with_reducible refine gate_dst (N := 2) rfl ?_); refine qZj ?hg (N := 2) ?hd (cs := #[.int .i64 ac, .slice ae ab.length af]) (t := 25) ?hr ?_; (case hd => rfl); (case hg => rfl); (case hr => (go_simp; done)); intro ag hg w11 hbox hb; have aa := ak (hbox); have ao := ak ((by rw [hg]; exact (qZc (bl HB)) : w.heap.size ≤ ag)); have ad := ak ((by rw [hg]; exact (qZc (bl HB)) : w.heap.size ≤ ag)); replace HB := ak (qZd (bl HB) hb); clear hb hbox hg; have ap := bc w11 aa 0 (.int .i64 ac) rfl; have aq := bc w11 aa 1 (.slice ae ab.length af) rfl; have ar := fz aa 0; have au := fz aa 1) | ((with_reducible refine gate_callee (f := 32) rfl ?_); refine qQj (some 6) rfl rfl Try.func32 (by kernel_rfl) rfl #[.agg #[.int .i64 ac, .slice ae ab.length af]] rfl (by (try simp only [List.map_toArray, List.map_cons, List.map_nil]); rfl) ?_; (with_reducible refine (impl_NetOk.calls ac _ _ ab false _ ?side1 ?side2 A3.out).mono ?_); (case side1 => repeat (exact (Kd.C_below aj.out HB.out))); (case side2 => exact al.out); rintro e w13 ⟨rfl, hb⟩; refine ⟨_, rfl, ?_⟩; replace aa := ak (qZe (bk aa) hb); replace HB := ak (qZd (bl1 HB ad) hb); (try clear hb); (try clear hb2); (try clear hk); (try clear hi)))
  go_ret
  exact ⟨by rfl, bl1 HB ad⟩
 subst c4
 rw [if_pos rfl] at H
 replace H := Option.bind_eq_some_iff.mp H
 obtain ⟨ai, A50, H⟩ := H
 have A5 := ak A50
 clear A50
 obtain rfl := Option.some.inj H
 go_enter Try.func58, Try.ntmps58
 go_wp2_with (first | ((with_reducible refine gate_dst (N := 2) rfl ?_); refine qZj ?hg (N := 2) ?hd (cs := #[.int .i64 ac, .slice ae ab.length af]) (t := 25) ?hr ?_; (case hd => rfl); (case hg => rfl); (case hr => (go_simp; done)); intro ag hg w6 hbox hb; have aa := ak (hbox); have ao := ak ((by rw [hg]; exact (qZc (bl HB)) : w.heap.size ≤ ag)); have ad := ak ((by rw [hg]; exact (qZc (bl HB)) : w.heap.size ≤ ag)); replace HB := ak (qZd (bl HB) hb); clear hb hbox hg; have av := bc w6 aa 0 (.int .i64 ac) rfl; have aw := bc w6 aa 1 (.slice ae ab.length af) rfl; have ax := fz aa 0; have ay := fz aa 1) | ((with_reducible refine gate_callee (f := 32) rfl ?_); refine qQj (some 6) rfl rfl Try.func32 (by kernel_rfl) rfl #[.agg #[.int .i64 ac, .slice ae ab.length af]] rfl (by (try simp only [List.map_toArray, List.map_cons, List.map_nil]); rfl) ?_; (with_reducible refine (impl_NetOk.calls ac _ _ ab true _ ?side1 ?side2 A3.out).mono ?_); (case side1 => repeat (exact (Kd.C_below aj.out HB.out))); (case side2 => exact al.out); rintro e w8 ⟨rfl, hb⟩; refine ⟨_, rfl, ?_⟩; replace aa := ak (qZe (bk aa) hb); replace HB := ak (qZd (bl1 HB ad) hb); (try clear hb); (try clear hb2); (try clear hk); (try clear hi); have az := bc w8 aa 0 (.int .i64 ac) rfl; have aA := bc w8 aa 1 (.slice ae ab.length af) rfl; have aB := fz aa 0; have aC := fz aa 1) | (go_at_call 70; (with_reducible refine (impl_Net_has.calls ac _ _ ab _ _ l1 ai _ ?side1 ?side2 ?side3 ?side4 A5.out).mono ?_); (case side1 => repeat (exact (Kd.C_below aj.out HB.out))); (case side2 => exact al.out); (case side3 => repeat (exact (Kd.C_below HR1.out HB.out))); (case side4 => exact HC1.out); rintro e w10 ⟨rfl, hb⟩; have n0_ := ak (qZe (bk aa) hb); have n1_ := ak (qZd (bl1 HB ad) hb); clear aa; clear HB; have aa := n0_; have HB := n1_; clear n0_ n1_; (try clear hb); (try clear hb2); (try clear hk); (try clear hi)))
 go_ret
 exact ⟨by rfl, bl1 HB ad⟩
/-! ### laws_wkInts: function 18 -/
def laws_wkInts.l0 : Nat → List Int → List Int → Int → Option (Bool)
 | 0, _, _, _ => none
 | k + 1, x0, x1, x5 => if x5 < (x0.length : Int) then (if 0 ≤ x5 then (if x5 < (x1.length : Int) then (if (rd x0 x5) = (rd x1 x5) then (laws_wkInts.l0 k x0 x1 (wrap64 (x5 + 1))) else (some false)) else (none)) else (none)) else (some true)
def laws_wkInts.f (k : Nat) (l0 : List Int) (l1 : List Int) : Option (Bool) := if (l0.length : Int) = (l1.length : Int) then (laws_wkInts.l0 k l0 l1 0) else (some false)
theorem laws_wkInts.mono_l : ∀ k, (∀ y0 y1 y2, LeO (laws_wkInts.l0 k y0 y1 y2) (laws_wkInts.l0 (k + 1) y0 y1 y2))
 | 0 => fun _ _ _ r h => by simp [laws_wkInts.l0] at h
 | k + 1 => by
  have ih0 := laws_wkInts.mono_l k
  ·intro y0 y1 y2
   unfold laws_wkInts.l0
   repeat' first | (with_reducible exact ih0 _ _ _) | (with_reducible exact LeO.refl _) | (with_reducible refine LeO.ite ?_ ?_)
theorem laws_wkInts.mono : ∀ a0 a1 k, LeO (laws_wkInts.f k a0 a1) (laws_wkInts.f (k + 1) a0 a1) := by
 intro a0 a1 k
 have ih0 := laws_wkInts.mono_l k
 unfold laws_wkInts.f
 repeat' first | (with_reducible exact ih0 _ _ _) | (with_reducible exact LeO.refl _) | (with_reducible refine LeO.ite ?_ ?_)
set_option maxHeartbeats 8000000 in
set_option maxRecDepth 100000 in
theorem laws_wkInts.calls (k : Nat) (A0 : Option Addr) (c0 : Nat) (l0 : List Int) (A1 : Option Addr) (c1 : Nat) (l1 : List Int) (r : Bool) (w : World) (hr0 : Kd.C (Kd.int .i64) w A0 l0.length l0) (hc0 : l0.length ≤ c0) (hr1 : Kd.C (Kd.int .i64) w A1 l1.length l1) (hc1 : l1.length ≤ c1) (h : laws_wkInts.f k l0 l1 = some r) :
  Calls Try.prog 18 #[.slice A0 l0.length c0, .slice A1 l1.length c1] w fun e w' => e = .returned (.bool r) ∧ Drawn0 w w' := by
 have HR0 := ak hr0
 have HC0 := ak hc0
 clear hr0 hc0
 have HR1 := ak hr1
 have HC1 := ak hc1
 clear hr1 hc1
 have H : (if (l0.length : Int) = (l1.length : Int) then (laws_wkInts.l0 k l0 l1 0) else (some false)) = some r := h
 clear h
 by_cases c3 : (l0.length : Int) = (l1.length : Int)
 rotate_left
 ·rw [if_neg c3] at H
  have c3b0 : ((l0.length : Int) == (l1.length : Int)) = false := beq_eq_false_iff_ne.mpr c3
  have c3b1 : ((l0.length : Int) != (l1.length : Int)) = true := bne_iff_ne.mpr c3
  have c3b2 : (l0.length == l1.length) = false := by (simp at c3 ⊢; omega)
  obtain rfl := Option.some.inj H
  go_enter Try.func18, Try.ntmps18
  go_wp2
  repeat (go_quiet (fail); try go_wp2)
  go_ret
  exact ⟨by rfl, by repeat (exact Drawn0.refl _)⟩
 rw [if_pos c3] at H
 have c3b0 : ((l0.length : Int) == (l1.length : Int)) = true := beq_iff_eq.mpr c3
 have c3b1 : ((l0.length : Int) != (l1.length : Int)) = false := bne_eq_false_iff_eq.mpr c3
 have c3b2 : (l0.length == l1.length) = true := by (simp at c3 ⊢; omega)
 clear c3
 have H' := ak H
 clear H
 go_enter Try.func18, Try.ntmps18
 go_wp2
 repeat (go_quiet (fail); try go_wp2)
 go_loopg [5] k (fun kq v5 w' => ∃ (aa : Int), v5 = .int .i64 aa ∧ Aside0 (laws_wkInts.l0 kq l0 l1 aa = some r) ∧ Aside0 (kq ≤ k) ∧ Drawn0 w w')
 case atStart => exact ⟨(0), (by rfl), H', ⟨Nat.le_refl _⟩, by repeat (exact Drawn0.refl _)⟩
 clear H'
 try clear c1
 try clear p2
 try clear c3
 try clear c3b0
 try clear c3b1
 try clear c3b2
 obtain ⟨aa, rfl, HA, HK1, ⟨m1, rfl⟩⟩ := hrel
 cases gk with
 | zero => exact absurd HA.out (by simp [laws_wkInts.l0])
 | succ k1 =>
  have H := HA.out
  clear HA
  simp only [laws_wkInts.l0] at H
  by_cases c4 : aa < (l0.length : Int)
  rotate_left
  ·rw [if_neg c4] at H
   have c4b0 : decide (aa < (l0.length : Int)) = false := decide_eq_false c4
   clear c4
   obtain rfl := Option.some.inj H
   go_wp2
   repeat (go_quiet (fail); try go_wp2)
   go_ret
   exact ⟨by rfl, by repeat (first | exact Drawn0.refl _ | apply Drawn0.step)⟩
  rw [if_pos c4] at H
  have c4b0 : decide (aa < (l0.length : Int)) = true := decide_eq_true c4
  clear c4
  by_cases c5 : 0 ≤ aa
  rotate_left
  ·rw [if_neg c5] at H
   exact absurd H (by simp)
  rw [if_pos c5] at H
  have c5b0 : decide (0 ≤ aa) = true := decide_eq_true c5
  clear c5
  by_cases c6 : aa < (l1.length : Int)
  rotate_left
  ·rw [if_neg c6] at H
   exact absurd H (by simp)
  rw [if_pos c6] at H
  have c6b0 : decide (aa < (l1.length : Int)) = true := decide_eq_true c6
  clear c6
  by_cases c7 : (rd l0 aa) = (rd l1 aa)
  rotate_left
  ·rw [if_neg c7] at H
   have c7b0 : ((rd l0 aa) == (rd l1 aa)) = false := beq_eq_false_iff_ne.mpr c7
   have c7b1 : ((rd l0 aa) != (rd l1 aa)) = true := bne_iff_ne.mpr c7
   obtain rfl := Option.some.inj H
   have ab : 0 ≤ (aa : Int) := oT (by (with_reducible assumption))
   have ac : aa < (l0.length : Int) := oT (by (with_reducible assumption))
   obtain ⟨aj, ah, af⟩ := Kd.at_int HR0.out aa ab ac
   cases ah
   replace ab := eq_true ab
   replace ac := eq_true ac
   have ad : 0 ≤ (aa : Int) := oT (by (with_reducible assumption))
   have ae : aa < (l1.length : Int) := oT (by (with_reducible assumption))
   obtain ⟨al, ai, ag⟩ := Kd.at_int HR1.out aa ad ae
   cases ai
   replace ad := eq_true ad
   replace ae := eq_true ae
   go_wp2
   repeat (go_quiet (fail); try go_wp2)
   go_ret
   exact ⟨by rfl, by repeat (first | exact Drawn0.refl _ | apply Drawn0.step)⟩
  rw [if_pos c7] at H
  have c7b0 : ((rd l0 aa) == (rd l1 aa)) = true := beq_iff_eq.mpr c7
  have c7b1 : ((rd l0 aa) != (rd l1 aa)) = false := bne_eq_false_iff_eq.mpr c7
  clear c7
  have H' := ak H
  clear H
  have ab : 0 ≤ (aa : Int) := oT (by (with_reducible assumption))
  have ac : aa < (l0.length : Int) := oT (by (with_reducible assumption))
  obtain ⟨aj, ah, af⟩ := Kd.at_int HR0.out aa ab ac
  cases ah
  replace ab := eq_true ab
  replace ac := eq_true ac
  have ad : 0 ≤ (aa : Int) := oT (by (with_reducible assumption))
  have ae : aa < (l1.length : Int) := oT (by (with_reducible assumption))
  obtain ⟨al, ai, ag⟩ := Kd.at_int HR1.out aa ad ae
  cases ai
  replace ad := eq_true ad
  replace ae := eq_true ae
  go_wp2
  repeat (go_quiet (fail); try go_wp2)
  go_roundg k1
  case measure => have := HK1.out; omega
  case rel => exact ⟨(wrap64 (aa + 1)), (by rfl), H', ⟨by have := HK1.out; omega⟩, by repeat (first | exact Drawn0.refl _ | apply Drawn0.step)⟩
/-! ### laws_wkGrid: function 13 -/
def laws_wkGrid.l0 : Nat → List (List Int) → List (List Int) → Int → Option (Bool)
 | 0, _, _, _ => none
 | k + 1, x0, x1, x5 => if x5 < (x0.length : Int) then (if 0 ≤ x5 then (if x5 < (x1.length : Int) then ((laws_wkInts.f k (qQf x0 x5) (qQf x1 x5)).bind fun aq => (if aq = true then (laws_wkGrid.l0 k x0 x1 (wrap64 (x5 + 1))) else (some false))) else (none)) else (none)) else (some true)
def laws_wkGrid.f (k : Nat) (l0 : List (List Int)) (l1 : List (List Int)) : Option (Bool) := if (l0.length : Int) = (l1.length : Int) then (laws_wkGrid.l0 k l0 l1 0) else (some false)
theorem laws_wkGrid.mono_l : ∀ k, (∀ y0 y1 y2, LeO (laws_wkGrid.l0 k y0 y1 y2) (laws_wkGrid.l0 (k + 1) y0 y1 y2))
 | 0 => fun _ _ _ r h => by simp [laws_wkGrid.l0] at h
 | k + 1 => by
  have ih0 := laws_wkGrid.mono_l k
  ·intro y0 y1 y2
   unfold laws_wkGrid.l0
   repeat' first | (with_reducible exact ih0 _ _ _) | (with_reducible exact laws_wkInts.mono _ _ _) | (with_reducible exact LeO.refl _) | (with_reducible refine LeO.ite ?_ ?_) | (with_reducible refine LeO.bind ?_ (fun _ => ?_))
theorem laws_wkGrid.mono : ∀ a0 a1 k, LeO (laws_wkGrid.f k a0 a1) (laws_wkGrid.f (k + 1) a0 a1) := by
 intro a0 a1 k
 have ih0 := laws_wkGrid.mono_l k
 unfold laws_wkGrid.f
 repeat' first | (with_reducible exact ih0 _ _ _) | (with_reducible exact LeO.refl _) | (with_reducible refine LeO.ite ?_ ?_)
set_option maxHeartbeats 8000000 in
set_option maxRecDepth 100000 in
theorem laws_wkGrid.calls (k : Nat) (A0 : Option Addr) (c0 : Nat) (l0 : List (List Int)) (A1 : Option Addr) (c1 : Nat) (l1 : List (List Int)) (r : Bool) (w : World) (hr0 : Kd.C (Kd.slice 3 (Kd.int .i64)) w A0 l0.length l0) (hc0 : l0.length ≤ c0) (hr1 : Kd.C (Kd.slice 3 (Kd.int .i64)) w A1 l1.length l1) (hc1 : l1.length ≤ c1) (h : laws_wkGrid.f k l0 l1 = some r) :
  Calls Try.prog 13 #[.slice A0 l0.length c0, .slice A1 l1.length c1] w fun e w' => e = .returned (.bool r) ∧ Drawn0 w w' := by
 have HR0 := ak hr0
 have HC0 := ak hc0
 clear hr0 hc0
 have HR1 := ak hr1
 have HC1 := ak hc1
 clear hr1 hc1
 have H : (if (l0.length : Int) = (l1.length : Int) then (laws_wkGrid.l0 k l0 l1 0) else (some false)) = some r := h
 clear h
 by_cases c3 : (l0.length : Int) = (l1.length : Int)
 rotate_left
 ·rw [if_neg c3] at H
  have c3b0 : ((l0.length : Int) == (l1.length : Int)) = false := beq_eq_false_iff_ne.mpr c3
  have c3b1 : ((l0.length : Int) != (l1.length : Int)) = true := bne_iff_ne.mpr c3
  have c3b2 : (l0.length == l1.length) = false := by (simp at c3 ⊢; omega)
  obtain rfl := Option.some.inj H
  go_enter Try.func13, Try.ntmps13
  go_wp2
  repeat (go_quiet (fail); try go_wp2)
  go_ret
  exact ⟨by rfl, by repeat (exact Drawn0.refl _)⟩
 rw [if_pos c3] at H
 have c3b0 : ((l0.length : Int) == (l1.length : Int)) = true := beq_iff_eq.mpr c3
 have c3b1 : ((l0.length : Int) != (l1.length : Int)) = false := bne_eq_false_iff_eq.mpr c3
 have c3b2 : (l0.length == l1.length) = true := by (simp at c3 ⊢; omega)
 clear c3
 have H' := ak H
 clear H
 go_enter Try.func13, Try.ntmps13
 go_wp2
 repeat (go_quiet (fail); try go_wp2)
 go_loopg [5] k (fun kq v5 w' => ∃ (aa : Int), v5 = .int .i64 aa ∧ Aside0 (laws_wkGrid.l0 kq l0 l1 aa = some r) ∧ Aside0 (kq ≤ k) ∧ Drawn0 w w')
 case atStart => exact ⟨(0), (by rfl), H', ⟨Nat.le_refl _⟩, by repeat (exact Drawn0.refl _)⟩
 clear H'
 try clear c1
 try clear p2
 try clear c3
 try clear c3b0
 try clear c3b1
 try clear c3b2
 obtain ⟨aa, rfl, HA, HK1, ⟨m1, rfl⟩⟩ := hrel
 cases gk with
 | zero => exact absurd HA.out (by simp [laws_wkGrid.l0])
 | succ k1 =>
  have H := HA.out
  clear HA
  simp only [laws_wkGrid.l0] at H
  by_cases c4 : aa < (l0.length : Int)
  rotate_left
  ·rw [if_neg c4] at H
   have c4b0 : decide (aa < (l0.length : Int)) = false := decide_eq_false c4
   clear c4
   obtain rfl := Option.some.inj H
   go_wp2
   repeat (go_quiet (fail); try go_wp2)
   go_ret
   exact ⟨by rfl, by repeat (first | exact Drawn0.refl _ | apply Drawn0.step)⟩
  rw [if_pos c4] at H
  have c4b0 : decide (aa < (l0.length : Int)) = true := decide_eq_true c4
  clear c4
  by_cases c5 : 0 ≤ aa
  rotate_left
  ·rw [if_neg c5] at H
   exact absurd H (by simp)
  rw [if_pos c5] at H
  have c5b0 : decide (0 ≤ aa) = true := decide_eq_true c5
  clear c5
  by_cases c6 : aa < (l1.length : Int)
  rotate_left
  ·rw [if_neg c6] at H
   exact absurd H (by simp)
  rw [if_pos c6] at H
  have c6b0 : decide (aa < (l1.length : Int)) = true := decide_eq_true c6
  clear c6
  replace H := Option.bind_eq_some_iff.mp H
  obtain ⟨aq, A70, H⟩ := H
  have A7 := ak A70
  clear A70
  by_cases c8 : aq = true
  rotate_left
  ·replace c8 := Bool.eq_false_iff.mpr c8
   subst c8
   rw [if_neg (show ¬ (false = true) by decide)] at H
   obtain rfl := Option.some.inj H
   have aj : 0 ≤ (aa : Int) := oT (by (with_reducible assumption))
   have al : aa < (l0.length : Int) := oT (by (with_reducible assumption))
   obtain ⟨az, ar, au, av, ao, ab, ac⟩ := qKb HR0.out aa aj al
   cases av
   have af := ak ac
   have ag := ak ab
   clear ac ab
   replace aj := eq_true aj
   replace al := eq_true al
   have am : 0 ≤ (aa : Int) := oT (by (with_reducible assumption))
   have an : aa < (l1.length : Int) := oT (by (with_reducible assumption))
   obtain ⟨aA, aw, ax, ay, ap, ad, ae⟩ := qKb HR1.out aa am an
   cases ay
   have ah := ak ae
   have ai := ak ad
   clear ae ad
   replace am := eq_true am
   replace an := eq_true an
   go_wp2_with (fail)
   repeat (go_quiet ((go_at_call 18; (with_reducible refine (laws_wkInts.calls k1 _ _ (qQf l0 aa) _ _ (qQf l1 aa) false _ ?side1 ?side2 ?side3 ?side4 A7.out).mono ?_); (case side1 => repeat (exact af.out)); (case side2 => exact ag.out); (case side3 => repeat (exact ah.out)); (case side4 => exact ai.out); rintro e w' ⟨rfl, ⟨nd, rfl⟩⟩; (try exact ⟨rfl, _, Eq.trans (World.drewN_drewN _ _ _) (congrArg (World.drewN _) (Nat.add_assoc _ _ _))⟩))); try go_wp2_with (fail))
   go_ret
   exact ⟨by rfl, by repeat (first | exact Drawn0.refl _ | apply Drawn0.step)⟩
  subst c8
  rw [if_pos rfl] at H
  have H' := ak H
  clear H
  have aj : 0 ≤ (aa : Int) := oT (by (with_reducible assumption))
  have al : aa < (l0.length : Int) := oT (by (with_reducible assumption))
  obtain ⟨az, ar, au, av, ao, ab, ac⟩ := qKb HR0.out aa aj al
  cases av
  have af := ak ac
  have ag := ak ab
  clear ac ab
  replace aj := eq_true aj
  replace al := eq_true al
  have am : 0 ≤ (aa : Int) := oT (by (with_reducible assumption))
  have an : aa < (l1.length : Int) := oT (by (with_reducible assumption))
  obtain ⟨aA, aw, ax, ay, ap, ad, ae⟩ := qKb HR1.out aa am an
  cases ay
  have ah := ak ae
  have ai := ak ad
  clear ae ad
  replace am := eq_true am
  replace an := eq_true an
  go_wp2_with (fail)
  repeat (go_quiet ((go_at_call 18; (with_reducible refine (laws_wkInts.calls k1 _ _ (qQf l0 aa) _ _ (qQf l1 aa) true _ ?side1 ?side2 ?side3 ?side4 A7.out).mono ?_); (case side1 => repeat (exact af.out)); (case side2 => exact ag.out); (case side3 => repeat (exact ah.out)); (case side4 => exact ai.out); rintro e w' ⟨rfl, ⟨nd, rfl⟩⟩; (try exact ⟨rfl, _, Eq.trans (World.drewN_drewN _ _ _) (congrArg (World.drewN _) (Nat.add_assoc _ _ _))⟩))); try go_wp2_with (fail))
  go_roundg k1
  case measure => have := HK1.out; omega
  case rel => exact ⟨(wrap64 (aa + 1)), (by rfl), H', ⟨by have := HK1.out; omega⟩, by repeat (first | exact Drawn0.refl _ | apply Drawn0.step)⟩
end Go.Proofs.Ytlgolgfcolnddaa.F
