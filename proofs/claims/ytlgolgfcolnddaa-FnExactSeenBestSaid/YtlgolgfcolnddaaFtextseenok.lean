-- Printed by wip/px/px.py of this claim's repository (the kit's printer, extended there). Lean checks it.
import Derived.Test.YtlgolgfcolnddaaFKinds
import Derived.Test.YtlgolgfcolnddaaFtextcore
namespace Go.Proofs.Ytlgolgfcolnddaa.F
open Go.RowKit Go.Proofs.YtlgolgfcolnddaaW.PrintWords Go.Proofs.YtlgolgfcolnddaaW.PrintLast Go.Proofs.YtlgolgfcolnddaaW.PrintMore
attribute [local go_sem] max2_int min2_int max_two min_two max_three min_three max_four min_four   -- for this text's walks alone
set_option linter.unusedVariables false
set_option linter.unusedSimpArgs false

/-! ### text seenok -/
def rdR (xs : List (List Int)) (i : Int) : List Int := xs.getD i.toNat []
theorem at_R {w : World} {A : Option Addr} {n : Nat} {xs : List (List Int)} (h : Kd.C (Kd.slice 3 (Kd.int .i64)) w A n xs) (i : Int) (h0 : 0 ≤ i) (h1 : i < n) : ∃ ad A0 c0, A = some ad ∧ w.cell? (ad.add i.toNat) = some (.slice A0 (rdR xs i).length c0) ∧ (rdR xs i).length ≤ c0 ∧ (Kd.int .i64).C w A0 (rdR xs i).length (rdR xs i) := by
 obtain ⟨ad, c, e, _, hK, hc0⟩ := Kd.C_get h ([] : List Int) i h0 h1
 have hc : ∀ j u, c[j]? = some u → w.cell? (ad.add (i.toNat * 1 + j)) = some u := hc0
 obtain ⟨A0, c0, rfl, l0, g0⟩ := hK
 exact ⟨ad, A0, c0, e, by have hq := hc 0 _ rfl; rwa [Nat.mul_one, Nat.add_zero] at hq, l0, g0⟩

set_option maxHeartbeats 2000000 in
set_option maxRecDepth 100000 in
theorem indexFunc_row (p : List Int → Bool) (g : Nat) (lb : Array Value) (eg : ∀ args w, (callFunc g args).run Try.prog w = .ok (.enter g args) w) (A0 : Option Addr) (c0 : Nat) (l0 : List (List Int)) (w : World)
    (hp : ∀ (W : World) (A : Option Addr) (c : Nat) (x : List Int), Below w.heap.size w W → Kd.C (Kd.int .i64) W A x.length x → x.length ≤ c → Calls Try.prog g (#[.slice A x.length c] ++ lb) W fun e w' => e = .returned (.bool (p x)) ∧ Below w.heap.size w w')
    (hr0 : Kd.C (Kd.slice 3 (Kd.int .i64)) w A0 l0.length l0) :
    Calls Try.prog 89 #[.slice A0 l0.length c0, .func (.func g) #[] lb] w fun e w' => e = .returned (.int .i64 (idxP p l0)) ∧ Below w.heap.size w w' := by
  have HR0 := Aside0.mk hr0
  have hbig : l0.length ≤ 9223372036854775807 := by
    have := hr0.2.1
    omega
  clear hr0
  go_enter Try.func89, Try.ntmps89
  go_wp2
  go_loopg [5, 8] l0.length (fun gg _ s8 wr => ∃ kk : Nat, kk ≤ l0.length ∧ l0.length - kk ≤ gg ∧ s8 = .int .i64 kk ∧ Aside0 (Below w.heap.size w wr) ∧ Aside0 (∀ j, j < kk → p (l0.getD j []) = false))
  case atStart => exact ⟨0, Nat.zero_le _, by omega, rfl, ⟨Below.refl _ w⟩, ⟨fun j hj => absurd hj (Nat.not_lt_zero _)⟩⟩
  case round =>
    obtain ⟨kk, hkk, hg, rfl, BW, HA⟩ := hrel
    by_cases hlt : kk < l0.length
    · have hltz : (kk : Int) < (l0.length : Int) := by omega
      obtain ⟨ad, A1, c1, ea, h0, hc1, hC1⟩ := at_R HR0.out (kk : Int) (by omega) (by omega)
      have hcall := hp wr A1 c1 (rdR l0 kk) BW.out (Kd.C_below hC1 BW.out) hc1
      clear hC1
      have HE : Hid (l0.getD kk [] = rdR l0 kk) := Lib.hid (by unfold rdR; rw [Int.toNat_natCast])
      clear hp
      cases ea
      simp only [Int.toNat_natCast] at h0
      replace h0 := (BW.out.cell (World.block_lt_of_cell? w _ h0)).trans h0
      generalize rdR l0 kk = y at *
      cases hq : p y with
      | true =>
        rw [hq] at hcall
        have HQ := Lib.hid hq
        clear hq
        go_wp2_with (go_at_fn g; refine hcall.mono ?_; rintro e w' ⟨rfl, hb'⟩)
        go_ret
        refine ⟨?_, hb'⟩
        rw [idxP_hit p l0 [] kk hlt (by rw [HE.out]; exact HQ.out) HA.out]
        rfl
      | false =>
        rw [hq] at hcall
        have HQ := Lib.hid hq
        clear hq
        go_wp2_with (go_at_fn g; refine hcall.mono ?_; rintro e w' ⟨rfl, hb'⟩)
        go_roundg (l0.length - (kk + 1))
        case measure => omega
        case rel =>
          refine ⟨kk + 1, by omega, by omega, by go_num, ⟨hb'⟩, ⟨fun j hj => ?_⟩⟩
          by_cases e : j = kk
          · subst e
            rw [HE.out]; exact HQ.out
          · exact HA.out j (by omega)
    · have hltz : ¬ (kk : Int) < (l0.length : Int) := by omega
      have hk : kk = l0.length := by omega
      go_wp2
      go_ret
      refine ⟨?_, BW.out⟩
      rw [idxP_miss p l0 [] (by rw [← hk]; exact HA.out)]
      rfl
set_option maxHeartbeats 1000000 in
set_option maxRecDepth 100000 in
theorem containsFunc_row (p : List Int → Bool) (g : Nat) (lb : Array Value) (eg : ∀ args w, (callFunc g args).run Try.prog w = .ok (.enter g args) w) (A0 : Option Addr) (c0 : Nat) (l0 : List (List Int)) (w : World)
    (hp : ∀ (W : World) (A : Option Addr) (c : Nat) (x : List Int), Below w.heap.size w W → Kd.C (Kd.int .i64) W A x.length x → x.length ≤ c → Calls Try.prog g (#[.slice A x.length c] ++ lb) W fun e w' => e = .returned (.bool (p x)) ∧ Below w.heap.size w w')
    (hr0 : Kd.C (Kd.slice 3 (Kd.int .i64)) w A0 l0.length l0) :
    Calls Try.prog 52 #[.slice A0 l0.length c0, .func (.func g) #[] lb] w fun e w' => e = .returned (.bool (l0.any p)) ∧ Below w.heap.size w w' := by
  rw [← idxP_any]
  have hcall := indexFunc_row p g lb eg A0 c0 l0 w hp hr0
  clear hp hr0
  generalize idxP p l0 = r at hcall ⊢
  go_enter Try.func52, Try.ntmps52
  go_wp2_with (go_at_call 89; refine hcall.mono ?_; rintro e w' ⟨rfl, hb'⟩)
  go_ret
  exact ⟨rfl, hb'⟩
/-- What is wrong with a sight. -/
def seenBad (n : Int) (row : List Int) : Bool := (decide ((row.length : Int) ≠ n)) || row.any fun c => !(inB c 0 99)
set_option maxHeartbeats 1000000 in
theorem seen11_any (w : World) : ∀ (W : World) (x : Int), Below w.heap.size w W → Calls Try.prog 111 (#[.int .i64 x] ++ #[]) W fun e w' => e = .returned (.bool (!(inB x 0 99))) ∧ Below w.heap.size w w' := by
  intro W x hB
  show Calls Try.prog 111 #[.int .i64 x] W _
  have hcall := costOk_any x W
  generalize inB x 0 99 = r at hcall ⊢
  go_enter Try.func111, Try.ntmps111
  go_wp2_with (go_at_call 71; refine hcall.mono ?_; rintro e w' ⟨rfl, rfl⟩)
  go_ret
  exact ⟨rfl, hB⟩
set_option maxHeartbeats 2000000 in
theorem seen1_any (n : Int) (s : Value) (B : Nat) (w : World) (hb : w.heap[B]? = some (.cells #[.int .i64 n, s] 25 (0, 0))) :
    ∀ (W : World) (A : Option Addr) (c : Nat) (x : List Int), Below w.heap.size w W → Kd.C (Kd.int .i64) W A x.length x → x.length ≤ c → Calls Try.prog 110 (#[.slice A x.length c] ++ #[.pointer (some ⟨B, 0, none⟩)]) W fun e w' => e = .returned (.bool (seenBad n x)) ∧ Below w.heap.size w w' := by
  intro W A c x hB hC hc
  have h0 : W.cell? ⟨B, 0, none⟩ = some (.int .i64 n) := by
    have h1 : w.cell? ⟨B, 0, none⟩ = some (.int .i64 n) := (blk_cell hb 0).trans rfl
    exact (hB.cell (World.block_lt_of_cell? w _ h1)).trans h1
  clear hb
  have eg : ∀ args w, (callFunc 111 args).run Try.prog w = .ok (.enter 111 args) w := enters_of Try.func111 (by kernel_rfl) rfl
  have hcall := containsFunc_int (fun c => !(inB c 0 99)) 111 #[] eg A c x W (seen11_any W) hC
  show Calls Try.prog 110 #[.slice A x.length c, .pointer (some ⟨B, 0, none⟩)] W _
  unfold seenBad
  generalize x.any (fun c => !(inB c 0 99)) = r at hcall ⊢
  have HB := Aside0.mk hB
  clear hC eg hB
  by_cases hn : (x.length : Int) ≠ n
  · have c1 : ((x.length : Int) != n) = true := bne_iff_ne.2 hn
    go_enter Try.func110, Try.ntmps110
    go_wp2
    go_ret
    exact ⟨by simp [hn], HB.out⟩
  · have c1 : ((x.length : Int) != n) = false := bne_eq_false_iff_eq.2 (Decidable.not_not.1 hn)
    go_enter Try.func110, Try.ntmps110
    go_wp2_with (go_at_call 104; refine hcall.mono ?_; rintro e w' ⟨rfl, hb'⟩)
    go_ret
    exact ⟨by simp [hn], HB.out.trans (hb'.mono HB.out.size)⟩
/-- Are sights those of a valid net. -/
def seenOkB (n : Int) (l : List S58) (s : List (List Int)) : Bool := netOkB n l && (inB (s.length : Int) 1 6 && !(s.any (seenBad n)))
set_option maxHeartbeats 4000000 in
set_option maxRecDepth 100000 in
theorem seenOk_any (n : Int) (A0 : Option Addr) (c0 : Nat) (l0 : List S58) (A1 : Option Addr) (c1 : Nat) (l1 : List (List Int)) (w : World) (hr0 : Kd.C k58 w A0 l0.length l0) (hr1 : Kd.C (Kd.slice 3 (Kd.int .i64)) w A1 l1.length l1) :
    Calls Try.prog 79 #[.agg #[.int .i64 n, .slice A0 l0.length c0], .slice A1 l1.length c1] w fun e w' => e = .returned (.bool (seenOkB n l0 l1)) ∧ Below w.heap.size w w' := by
  have hu := Try.underlying25
  have eg : ∀ args w, (callFunc 110 args).run Try.prog w = .ok (.enter 110 args) w := enters_of Try.func110 (by kernel_rfl) rfl
  have fb : (w.alloc (.cells #[.int .i64 n, .slice A0 l0.length c0] 25)).heap[w.heap.size]? = some (.cells #[.int .i64 n, .slice A0 l0.length c0] 25 (0, 0)) := heap_alloc_new w _
  have hB0 : Below w.heap.size w (w.alloc (.cells #[.int .i64 n, .slice A0 l0.length c0] 25)) := below_alloc (Below.refl _ _) _
  have hnet := netOk_any n A0 c0 l0 (w.alloc (.cells #[.int .i64 n, .slice A0 l0.length c0] 25)) (Kd.C_below hr0 hB0)
  have CF := Aside0.mk (fun (W : World) (hb : Below (w.alloc (.cells #[.int .i64 n, .slice A0 l0.length c0] 25)).heap.size (w.alloc (.cells #[.int .i64 n, .slice A0 l0.length c0] 25)) W) => containsFunc_row (seenBad n) 110 #[.pointer (some ⟨w.heap.size, 0, none⟩)] eg A1 c1 l1 W (seen1_any n (.slice A0 l0.length c0) w.heap.size _ ((hb.block _ (blk_lt fb)).trans fb)) (Kd.C_below hr1 (hB0.trans (hb.mono hB0.size))))
  have HB0 := Aside0.mk hB0
  have hw := fun w => within_any (l1.length : Int) 1 6 w
  have hbig : l1.length ≤ 9223372036854775807 := by
    have := hr1.2.1
    omega
  unfold seenOkB
  generalize l1.any (seenBad n) = r at CF ⊢
  generalize netOkB n l0 = q at hnet ⊢
  generalize inB (l1.length : Int) 1 6 = q2 at hw ⊢
  clear hr0 hr1 eg fb hB0
  cases q with
  | false =>
    go_enter Try.func79, Try.ntmps79
    go_wp2_with (go_at_call 32; refine hnet.mono ?_; rintro e w' ⟨rfl, hb'⟩)
    go_ret
    exact ⟨by simp, HB0.out.trans (hb'.mono HB0.out.size)⟩
  | true =>
    cases q2 with
    | false =>
      go_enter Try.func79, Try.ntmps79
      go_wp2_with (first
        | (go_at_call 32; refine hnet.mono ?_; rintro e w' ⟨rfl, hb'⟩)
        | (go_at_call 48; refine (hw _).mono ?_; rintro e w' ⟨rfl, rfl⟩))
      go_ret
      exact ⟨by simp, HB0.out.trans (hb'.mono HB0.out.size)⟩
    | true =>
      go_enter Try.func79, Try.ntmps79
      go_wp2_with (first
        | (go_at_call 32; refine hnet.mono ?_; rintro e w1 ⟨rfl, hb1⟩; have HB1 := Aside0.mk hb1; have C1 := Aside0.mk (CF.out w1 hb1); clear hb1)
        | (go_at_call 48; refine (hw _).mono ?_; rintro e w' ⟨rfl, rfl⟩)
        | (go_at_call 52; refine C1.out.mono ?_; rintro e w' ⟨rfl, hb'⟩))
      go_ret
      exact ⟨by simp, HB0.out.trans ((HB1.out.trans (hb'.mono HB1.out.size)).mono HB0.out.size)⟩

end Go.Proofs.Ytlgolgfcolnddaa.F
