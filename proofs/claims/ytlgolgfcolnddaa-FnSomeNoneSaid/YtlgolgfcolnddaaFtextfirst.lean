-- Printed by wip/px/px.py of this claim's repository (the kit's printer, extended there). Lean checks it.
import Derived.Test.YtlgolgfcolnddaaFKinds
import Derived.Test.YtlgolgfcolnddaaFtextcore
namespace Go.Proofs.Ytlgolgfcolnddaa.F
open Go.RowKit Go.Proofs.YtlgolgfcolnddaaW.PrintWords Go.Proofs.YtlgolgfcolnddaaW.PrintLast Go.Proofs.YtlgolgfcolnddaaW.PrintMore
attribute [local go_sem] max2_int min2_int max_two min_two max_three min_three max_four min_four   -- for this text's walks alone
set_option linter.unusedVariables false
set_option linter.unusedSimpArgs false

/-! ### text first -/
/-- Does an arc begin a best way on from a node. -/
def goodM (M : List S114) (v : Int) (x : S58) : Bool := (x.f0 == v) && (!((rd_T114 M x.f1).f0 == 99999) && ((wrap64 ((rd_T114 M x.f1).f0 + x.f2) == (rd_T114 M v).f0) && (wrap64 ((rd_T114 M x.f1).f1 + 1) == (rd_T114 M v).f1)))
set_option maxHeartbeats 4000000 in
set_option maxRecDepth 100000 in
theorem firstArc1_any (M : List S114) (A0 : Option Addr) (c0 : Nat) (v c a : Int) (B1 B2 B3 : Nat) (w : World) (hM : Kd.C k114 w A0 M.length M)
    (hb1 : w.heap[B1]? = some (.cells #[.slice A0 M.length c0] 111 (0, 0))) (hb2 : w.heap[B2]? = some (.cells #[.int .i64 v] 3 (0, 0))) (hb3 : w.heap[B3]? = some (.cells #[.int .i64 c, .int .i64 a] 114 (0, 0))) :
    ∀ (W : World) (x : S58), 0 ≤ x.f1 → x.f1 < (M.length : Int) → Below w.heap.size w W → Calls Try.prog 120 (#[.agg #[.int .i64 x.f0, .int .i64 x.f1, .int .i64 x.f2, .int .i64 x.f3, .int .i64 x.f4]] ++ #[.pointer (some ⟨B1, 0, none⟩), .pointer (some ⟨B2, 0, none⟩), .pointer (some ⟨B3, 0, none⟩)]) W fun e w' => e = .returned (.bool ((x.f0 == v) && (!((rd_T114 M x.f1).f0 == 99999) && ((wrap64 ((rd_T114 M x.f1).f0 + x.f2) == c) && (wrap64 ((rd_T114 M x.f1).f1 + 1) == a))))) ∧ Below w.heap.size w w' := by
  intro W x x0 x1 hB
  have k1 : W.cell? ⟨B1, 0, none⟩ = some (.slice A0 M.length c0) := by
    have h1 : w.cell? ⟨B1, 0, none⟩ = some (.slice A0 M.length c0) := (blk_cell hb1 0).trans rfl
    exact (hB.cell (World.block_lt_of_cell? w _ h1)).trans h1
  have k2 : W.cell? ⟨B2, 0, none⟩ = some (.int .i64 v) := by
    have h1 : w.cell? ⟨B2, 0, none⟩ = some (.int .i64 v) := (blk_cell hb2 0).trans rfl
    exact (hB.cell (World.block_lt_of_cell? w _ h1)).trans h1
  have k3 : W.cell? ⟨B3, 0, none⟩ = some (.int .i64 c) := by
    have h1 : w.cell? ⟨B3, 0, none⟩ = some (.int .i64 c) := (blk_cell hb3 0).trans rfl
    exact (hB.cell (World.block_lt_of_cell? w _ h1)).trans h1
  have k4 : W.cell? ⟨B3, 1, none⟩ = some (.int .i64 a) := by
    have h1 : w.cell? ⟨B3, 1, none⟩ = some (.int .i64 a) := (blk_cell hb3 1).trans rfl
    exact (hB.cell (World.block_lt_of_cell? w _ h1)).trans h1
  obtain ⟨ad, ea, m0, m1⟩ := at_T114 hM x.f1 x0 x1
  replace m0 := (hB.cell (World.block_lt_of_cell? w _ m0)).trans m0
  replace m1 := (hB.cell (World.block_lt_of_cell? w _ m1)).trans m1
  cases ea
  have b1 : B1 < W.heap.size := World.block_lt_of_cell? W _ k1
  have b2 : B2 < W.heap.size := World.block_lt_of_cell? W _ k2
  have b3 : B3 < W.heap.size := World.block_lt_of_cell? W _ k3
  have b4 := World.block_lt_of_cell? W _ m0
  have n1 : B1 ≠ W.heap.size := by omega
  have n2 : B2 ≠ W.heap.size := by omega
  have n3 : B3 ≠ W.heap.size := by omega
  have n1' : B1 ≠ W.heap.size + 1 := by omega
  have n2' : B2 ≠ W.heap.size + 1 := by omega
  have n3' : B3 ≠ W.heap.size + 1 := by omega
  have HBB := Aside0.mk hB
  clear hB hb1 hb2 hb3 hM
  obtain ⟨y0, y1, y2, y3, y4⟩ := x
  simp only at x0 x1 m0 m1 ⊢
  generalize (rd_T114 M y1).f0 = p at *
  generalize (rd_T114 M y1).f1 = q at *
  show Calls Try.prog 120 #[.agg #[.int .i64 y0, .int .i64 y1, .int .i64 y2, .int .i64 y3, .int .i64 y4], .pointer (some ⟨B1, 0, none⟩), .pointer (some ⟨B2, 0, none⟩), .pointer (some ⟨B3, 0, none⟩)] W _
  have hsz : w.heap.size ≤ W.heap.size := HBB.out.size
  by_cases e1 : y0 = v
  · have f1 : (y0 == v) = true := beq_iff_eq.2 e1
    by_cases e2 : p = 99999
    · have f2 : (p == 99999) = true := beq_iff_eq.2 e2
      have f2' : (p != 99999) = false := by rw [bne, f2]; rfl
      go_enter Try.func120, Try.ntmps120
      go_wp2
      go_ret
      exact ⟨by simp [f1, f2], by repeat (first | exact HBB.out | apply below_alloc | refine below_set ?_ (by simp; omega))⟩
    · have f2 : (p == 99999) = false := beq_eq_false_iff_ne.2 e2
      have f2' : (p != 99999) = true := by rw [bne, f2]; rfl
      by_cases e3 : wrap64 (p + y2) = c
      · by_cases e4 : wrap64 (q + 1) = a
        · go_enter Try.func120, Try.ntmps120
          go_wp2
          go_ret
          exact ⟨by simp [f1, f2, e3, e4], by repeat (first | exact HBB.out | apply below_alloc | refine below_set ?_ (by simp; omega))⟩
        · go_enter Try.func120, Try.ntmps120
          go_wp2
          go_ret
          exact ⟨by simp [f1, f2, e3, e4], by repeat (first | exact HBB.out | apply below_alloc | refine below_set ?_ (by simp; omega))⟩
      · go_enter Try.func120, Try.ntmps120
        go_wp2
        go_ret
        exact ⟨by simp [f1, f2, e3], by repeat (first | exact HBB.out | apply below_alloc | refine below_set ?_ (by simp; omega))⟩
  · have f1 : (y0 == v) = false := beq_eq_false_iff_ne.2 e1
    go_enter Try.func120, Try.ntmps120
    go_wp2
    go_ret
    exact ⟨by simp [f1], by repeat (first | exact HBB.out | apply below_alloc | refine below_set ?_ (by simp; omega))⟩
set_option maxHeartbeats 2000000 in
set_option maxRecDepth 100000 in
theorem indexFunc_arcM (p : S58 → Bool) (g : Nat) (lb : Array Value) (eg : ∀ args w, (callFunc g args).run Try.prog w = .ok (.enter g args) w) (A0 : Option Addr) (c0 : Nat) (l0 : List S58) (w : World)
    (hp : ∀ (W : World) (x : S58), x ∈ l0 → Below w.heap.size w W → Calls Try.prog g (#[.agg #[.int .i64 x.f0, .int .i64 x.f1, .int .i64 x.f2, .int .i64 x.f3, .int .i64 x.f4]] ++ lb) W fun e w' => e = .returned (.bool (p x)) ∧ Below w.heap.size w w')
    (hr0 : Kd.C k58 w A0 l0.length l0) :
    Calls Try.prog 103 #[.slice A0 l0.length c0, .func (.func g) #[] lb] w fun e w' => e = .returned (.int .i64 (idxP p l0)) ∧ Below w.heap.size w w' := by
  have HR0 := Aside0.mk hr0
  have hbig : l0.length ≤ 9223372036854775807 := by
    have := hr0.2.1
    omega
  clear hr0
  go_enter Try.func103, Try.ntmps103
  go_wp2
  go_loopg [5, 8] l0.length (fun gg _ s8 wr => ∃ kk : Nat, kk ≤ l0.length ∧ l0.length - kk ≤ gg ∧ s8 = .int .i64 kk ∧ Aside0 (Below w.heap.size w wr) ∧ Aside0 (∀ j, j < kk → p (l0.getD j z58) = false))
  case atStart => exact ⟨0, Nat.zero_le _, by omega, rfl, ⟨Below.refl _ w⟩, ⟨fun j hj => absurd hj (Nat.not_lt_zero _)⟩⟩
  case round =>
    obtain ⟨kk, hkk, hg, rfl, BW, HA⟩ := hrel
    by_cases hlt : kk < l0.length
    · have hltz : (kk : Int) < (l0.length : Int) := by omega
      obtain ⟨ad, ea, h0, h1, h2, h3, h4⟩ := at_T58 HR0.out (kk : Int) (by omega) (by omega)
      have hmem : rd_T58 l0 kk ∈ l0 := by
        unfold rd_T58
        rw [Int.toNat_natCast, List.getD_eq_getElem?_getD, List.getElem?_eq_getElem hlt]
        exact List.getElem_mem hlt
      have hcall := hp wr (rd_T58 l0 kk) hmem BW.out
      have HE : Hid (l0.getD kk z58 = rd_T58 l0 kk) := Lib.hid (by unfold rd_T58; rw [Int.toNat_natCast])
      clear hp hmem
      cases ea
      simp only [Int.toNat_natCast] at h0 h1 h2 h3 h4
      replace h0 := (BW.out.cell (World.block_lt_of_cell? w _ h0)).trans h0
      replace h1 := (BW.out.cell (World.block_lt_of_cell? w _ h1)).trans h1
      replace h2 := (BW.out.cell (World.block_lt_of_cell? w _ h2)).trans h2
      replace h3 := (BW.out.cell (World.block_lt_of_cell? w _ h3)).trans h3
      replace h4 := (BW.out.cell (World.block_lt_of_cell? w _ h4)).trans h4
      generalize rd_T58 l0 kk = y at *
      cases hq : p y with
      | true =>
        rw [hq] at hcall
        have HQ := Lib.hid hq
        clear hq
        go_wp2_with (go_at_fn g; refine hcall.mono ?_; rintro e w' ⟨rfl, hb'⟩)
        go_ret
        refine ⟨?_, hb'⟩
        rw [idxP_hit p l0 z58 kk hlt (by rw [HE.out]; exact HQ.out) HA.out]
        rfl
      | false =>
        rw [hq] at hcall
        have HQ := Lib.hid hq
        clear hq
        go_wp2_with (go_at_fn g; refine hcall.mono ?_; rintro e w' ⟨rfl, hb'⟩)
        go_roundg (l0.length - (kk + 1))
        case measure => omega
        case rel =>
          refine ⟨kk + 1, by omega, by omega, by go_num, ⟨hb'⟩, ⟨fun j hj => ?_⟩⟩
          by_cases e : j = kk
          · subst e
            rw [HE.out]; exact HQ.out
          · exact HA.out j (by omega)
    · have hltz : ¬ (kk : Int) < (l0.length : Int) := by omega
      have hk : kk = l0.length := by omega
      go_wp2
      go_ret
      refine ⟨?_, BW.out⟩
      rw [idxP_miss p l0 z58 (by rw [← hk]; exact HA.out)]
      rfl
/-- Does firstArc stay in its rows. -/
def firstOk (l : List S58) (M : List S114) (v : Int) : Bool := (decide (0 ≤ v) && decide (v < (M.length : Int))) && l.all fun x => decide (0 ≤ x.f1) && decide (x.f1 < (M.length : Int))
set_option maxHeartbeats 4000000 in
set_option maxRecDepth 100000 in
theorem firstArc_any (n : Int) (A0 : Option Addr) (c0 : Nat) (l0 : List S58) (A1 : Option Addr) (c1 : Nat) (M : List S114) (v : Int) (w : World) (hr0 : Kd.C k58 w A0 l0.length l0) (hr1 : Kd.C k114 w A1 M.length M) (hok : firstOk l0 M v = true) :
    Calls Try.prog 102 #[.agg #[.int .i64 n, .slice A0 l0.length c0], .slice A1 M.length c1, .int .i64 v] w fun e w' => e = .returned (.int .i64 (idxP (goodM M v) l0)) ∧ Below w.heap.size w w' := by
  have hu := Try.underlying25
  unfold firstOk at hok
  simp only [Bool.and_eq_true, decide_eq_true_eq, List.all_eq_true] at hok
  obtain ⟨⟨v0, v1⟩, hin⟩ := hok
  have eg : ∀ args w, (callFunc 120 args).run Try.prog w = .ok (.enter 120 args) w := enters_of Try.func120 (by kernel_rfl) rfl
  obtain ⟨ad, ea, m0, m1⟩ := at_T114 hr1 v v0 v1
  have key : ∀ W : World, Below w.heap.size w W → W.heap[w.heap.size + 1]? = some (.cells #[.slice A1 M.length c1] 111 (0, 0)) → W.heap[w.heap.size + 2]? = some (.cells #[.int .i64 v] 3 (0, 0)) → W.heap[w.heap.size + 3]? = some (.cells #[.int .i64 (rd_T114 M v).f0, .int .i64 (rd_T114 M v).f1] 114 (0, 0)) →
      Calls Try.prog 103 #[.slice A0 l0.length c0, .func (.func 120) #[] #[.pointer (some ⟨w.heap.size + 1, 0, none⟩), .pointer (some ⟨w.heap.size + 2, 0, none⟩), .pointer (some ⟨w.heap.size + 3, 0, none⟩)]] W fun e w' => e = .returned (.int .i64 (idxP (goodM M v) l0)) ∧ Below W.heap.size W w' := by
    intro W hB hb1 hb2 hb3
    have hM := Kd.C_below hr1 hB
    exact indexFunc_arcM (goodM M v) 120 _ eg A0 c0 l0 W (fun W' x hx hB' => firstArc1_any M A1 c1 v _ _ _ _ _ W hM hb1 hb2 hb3 W' x (hin x hx).1 (hin x hx).2 hB') (Kd.C_below hr0 hB)
  have KEY := Aside0.mk key
  clear key eg hin hr0 hr1
  cases ea
  have b4 := World.block_lt_of_cell? w _ m0
  have b5 : (ad.add (v.toNat * 2)).block < w.heap.size + 1 := by omega
  have b6 : (ad.add (v.toNat * 2)).block < w.heap.size + 1 + 1 := by omega
  have b7 : (ad.add (v.toNat * 2)).block < w.heap.size + 2 := by omega
  have d4 : (ad.add (v.toNat * 2)).block ≠ w.heap.size := by omega
  have d5 : (ad.add (v.toNat * 2)).block ≠ w.heap.size + 1 := by omega
  have d7 : (ad.add (v.toNat * 2)).block ≠ w.heap.size + 2 := by omega
  generalize (rd_T114 M v).f0 = p at *
  generalize (rd_T114 M v).f1 = q at *
  generalize idxP (goodM M v) l0 = r at *
  go_enter Try.func102, Try.ntmps102
  have W4 : Below w.heap.size w ((((w.alloc (.cells #[.int .i64 n, .slice A0 l0.length c0] 25)).alloc (.cells #[.slice (some ad) M.length c1] 111)).alloc (.cells #[.int .i64 v] 3)).alloc (.cells #[.int .i64 p, .int .i64 q] 114)) := below_alloc (below_alloc (below_alloc (below_alloc (Below.refl _ _) _) _) _) _
  have H4 := Aside0.mk W4
  clear W4
  go_wp2_with (go_at_call 103; refine (KEY.out _ H4.out (blk_alloc (blk_alloc (by have := heap_alloc_new (w.alloc (.cells #[.int .i64 n, .slice A0 l0.length c0] 25)) (.cells #[.slice (some ad) M.length c1] 111); simpa using this) _) _) (blk_alloc (by have := heap_alloc_new ((w.alloc (.cells #[.int .i64 n, .slice A0 l0.length c0] 25)).alloc (.cells #[.slice (some ad) M.length c1] 111)) (.cells #[.int .i64 v] 3); simpa using this) _) (by have := heap_alloc_new (((w.alloc (.cells #[.int .i64 n, .slice A0 l0.length c0] 25)).alloc (.cells #[.slice (some ad) M.length c1] 111)).alloc (.cells #[.int .i64 v] 3)) (.cells #[.int .i64 p, .int .i64 q] 114); simpa using this)).mono ?_; rintro e w' ⟨rfl, hb'⟩)
  go_ret
  exact ⟨rfl, H4.out.trans (hb'.mono (by simp; omega))⟩

end Go.Proofs.Ytlgolgfcolnddaa.F
