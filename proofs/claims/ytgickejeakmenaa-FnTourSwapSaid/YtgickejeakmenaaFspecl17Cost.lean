-- Printed by wip/px/px.py of this claim's repository (the kit's printer, extended there). Lean checks it.
import Derived.Test.YtgickejeakmenaaFKinds
import Derived.Test.YtgickejeakmenaaFspecl3All
namespace Go.Proofs.Ytgickejeakmenaa.F
open Go.RowKit Go.Proofs.YtgickejeakmenaaW.PrintWords Go.Proofs.YtgickejeakmenaaW.PrintLast Go.Proofs.YtgickejeakmenaaW.PrintMore
attribute [local go_sem] max2_int min2_int max_two min_two max_three min_three max_four min_four   -- for this text's walks alone
set_option linter.unusedVariables false
set_option linter.unusedSimpArgs false

/-! ### spec_l17Cost: function 57 -/
def spec_l17Cost.l0 : Nat → List Int → Int → Int → Int → List (S41) → Option (Int)
 | 0, _, _, _, _, _ => none
 | k + 1, x1, x5, x6, x313000, x313001 => if x6 < (x1.length : Int) then (if 0 ≤ x6 then ((spec_l3All.f k x313000 x313001 (rd x1 x6)).bind fun t314 => (if (x1.length : Int) = 0 then (none) else (if 0 ≤ (Int.tmod (wrap64 (x6 + 1)) (x1.length : Int)) then (if (Int.tmod (wrap64 (x6 + 1)) (x1.length : Int)) < (x1.length : Int) then (if 0 ≤ (rd x1 (Int.tmod (wrap64 (x6 + 1)) (x1.length : Int))) then (if (rd x1 (Int.tmod (wrap64 (x6 + 1)) (x1.length : Int))) < (t314.length : Int) then (if (rd t314 (rd x1 (Int.tmod (wrap64 (x6 + 1)) (x1.length : Int)))) ≥ 99999 then (some 99999) else (spec_l17Cost.l0 k x1 (wrap64 (x5 + (rd t314 (rd x1 (Int.tmod (wrap64 (x6 + 1)) (x1.length : Int)))))) (wrap64 (x6 + 1)) x313000 x313001)) else (none)) else (none)) else (none)) else (none)))) else (none)) else (some x5)
def spec_l17Cost.f (k : Nat) (a0_0 : Int) (l0_1 : List (S41)) (l1 : List Int) : Option (Int) := spec_l17Cost.l0 k l1 0 0 a0_0 l0_1
theorem spec_l17Cost.mono_l : ∀ k, (∀ y0 y1 y2 y3 y4, LeO (spec_l17Cost.l0 k y0 y1 y2 y3 y4) (spec_l17Cost.l0 (k + 1) y0 y1 y2 y3 y4))
 | 0 => fun _ _ _ _ _ r h => by simp [spec_l17Cost.l0] at h
 | k + 1 => by
  have ih0 := spec_l17Cost.mono_l k
  ·intro y0 y1 y2 y3 y4
   unfold spec_l17Cost.l0
   repeat' first | (with_reducible exact ih0 _ _ _ _ _) | (with_reducible exact spec_l3All.mono _ _ _ _) | (with_reducible exact LeO.refl _) | (with_reducible refine LeO.ite ?_ ?_) | (with_reducible refine LeO.bind ?_ (fun _ => ?_))
theorem spec_l17Cost.mono : ∀ a0 a1 a2 k, LeO (spec_l17Cost.f k a0 a1 a2) (spec_l17Cost.f (k + 1) a0 a1 a2) := by
 intro a0 a1 a2 k
 have ih0 := spec_l17Cost.mono_l k
 unfold spec_l17Cost.f
 repeat' (with_reducible exact ih0 _ _ _ _ _)
def spec_l17Cost.T5 : Bool × List (List Nat × List Nat) := (true, [([], []), ([], []), ([], []), ([1, 2], [1, 2]), ([3], [3]), ([0, 4], [0, 4]), ([], []), ([], []), ([7], [7]), ([], []), ([9], [9]), ([8, 10], [8, 10]), ([6, 11], [6, 11]), ([12], [12]), ([5, 13], [5, 13]), ([14], [14]), ([15, 5, 0, 1, 2, 3, 4, 5, 6, 7, 8, 9, 10, 11, 12, 13, 14, 15], [15])])
def spec_l17Cost.B5 : List Nat := [0, 0, 0, 6, 14, 31, 0, 0, 128, 0, 512, 1920, 4032, 8128, 16383, 32767, 65535]
theorem spec_l17Cost.tab5 : rtab .any (opsOf Try.f57 5) = spec_l17Cost.T5 := by kernel_rfl
theorem spec_l17Cost.bits5 : waitsOk spec_l17Cost.T5.2 spec_l17Cost.B5 = true := by kernel_rfl
theorem spec_l17Cost.restart {P : Program} {md : Region.Mode} {ops : Array Oper} {Q : Exit → Act → World → Prop} {S S' : World → Prop} (h : ∀ w, S' w → S w) : ∀ {fuel : Nat} {l : Array Bool} {a : Act} {w : World}, S' w → (S' w → wpAnyLast P md ops Q S' [] fuel l a w) → wpAnyLast P md ops Q S [] fuel l a w := by
 have key : ∀ (fuel : Nat) (l : Array Bool) (a : Act) (w : World), S' w → wpAnyLast P md ops Q S' [] fuel l a w → wpAnyLast P md ops Q S [] fuel l a w := by
  intro fuel
  induction fuel with
  | zero => intro l a w _ hk; exact hk
  | succ n ih =>
   intro l a w hS hk
   refine ⟨hk.1, fun i hi => wpOp_mono (fun a' w' h' => ?_) (hk.2 i hi)⟩
   have h1 := h'.1 (by simp) hS
   exact ⟨fun _ _ => h _ h1, ih _ _ _ h1 h'.2⟩
 intro fuel l a w hS hk
 exact key fuel l a w hS (hk hS)
set_option maxHeartbeats 8000000 in
set_option maxRecDepth 100000 in
theorem spec_l17Cost.calls (k : Nat) (a0_0 : Int) (A0_1 : Option Addr) (c0_1 : Nat) (l0_1 : List (S41)) (A1 : Option Addr) (c1 : Nat) (l1 : List Int) (r : Int) (w : World) (hr0_1 : Kd.C k41 w A0_1 l0_1.length l0_1) (hc0_1 : l0_1.length ≤ c0_1) (hr1 : Kd.C (Kd.int .i64) w A1 l1.length l1) (hc1 : l1.length ≤ c1) (h : spec_l17Cost.f k a0_0 l0_1 l1 = some r) :
  Calls Try.prog 57 #[.agg #[.int .i64 a0_0, .slice A0_1 l0_1.length c0_1], .slice A1 l1.length c1] w fun e w' => e = .returned (.int .i64 r) ∧ Below w.heap.size w w' := by
 have hu25 := Try.underlying25
 have HR0_1 := ak hr0_1
 have HC0_1 := ak hc0_1
 clear hr0_1 hc0_1
 have HR1 := ak hr1
 have HC1 := ak hc1
 clear hr1 hc1
 have HB := ak (Below.refl w.heap.size w)
 have H : (spec_l17Cost.l0 k l1 0 0 a0_0 l0_1) = some r := h
 clear h
 have H' := ak H
 clear H
 go_enter Try.func57, Try.ntmps57
 go_wp2_with (((with_reducible refine gate_dst (N := 2) rfl ?_); refine box_event ?hg (N := 2) ?hd (cs := #[.int .i64 a0_0, .slice A0_1 l0_1.length c0_1]) (t := 25) ?hr ?_; (case hd => rfl); (case hg => rfl); (case hr => (go_simp; done)); intro gb312 hg w3 hbox hb; have BK312 := ak (hbox); have GW312 := ak ((by rw [hg]; exact (below_size (bl HB)) : w.heap.size ≤ gb312)); have GE312 := ak ((by rw [hg]; exact (below_size (bl HB)) : w.heap.size ≤ gb312)); replace HB := ak (below_step (bl HB) hb); clear hb hbox hg))
 go_loopg [5, 6] k (fun kq v5 v6 w' => ∃ (x5_1 : Int) (x6_1 : Int), v5 = .int .i64 x5_1 ∧ v6 = .int .i64 x6_1 ∧ Aside0 (spec_l17Cost.l0 kq l1 x5_1 x6_1 a0_0 l0_1 = some r) ∧ Aside0 (kq ≤ k) ∧ Aside0 (w'.heap[gb312]? = some (.cells #[.int .i64 a0_0, (.slice A0_1 l0_1.length c0_1)] 25 (0, 0))) ∧ Aside0 (Below w.heap.size w w'))
 case atStart => exact ⟨(0), (0), (by rfl), (by rfl), H', ⟨Nat.le_refl _⟩, ⟨bk BK312⟩, ⟨bl1 HB GE312⟩⟩
 clear H'
 try clear c1
 try clear p2
 obtain ⟨x5_1, x6_1, rfl, rfl, HA, HK1, BK312, HB⟩ := hrel
 cases gk with
 | zero => exact absurd HA.out (by simp [spec_l17Cost.l0])
 | succ k1 =>
  have H := HA.out
  clear HA
  simp only [spec_l17Cost.l0] at H
  by_cases c4 : x6_1 < (l1.length : Int)
  rotate_left
  ·rw [if_neg c4] at H
   have c4b0 : decide (x6_1 < (l1.length : Int)) = false := decide_eq_false c4
   clear c4
   obtain rfl := Option.some.inj H
   go_wp2
   go_ret
   exact ⟨by rfl, bl1 HB GE312⟩
  rw [if_pos c4] at H
  have c4b0 : decide (x6_1 < (l1.length : Int)) = true := decide_eq_true c4
  clear c4
  by_cases c5 : 0 ≤ x6_1
  rotate_left
  ·rw [if_neg c5] at H
   exact absurd H (by simp)
  rw [if_pos c5] at H
  have c5b0 : decide (0 ≤ x6_1) = true := decide_eq_true c5
  clear c5
  replace H := Option.bind_eq_some_iff.mp H
  obtain ⟨t314, A60, H⟩ := H
  have A6 := ak A60
  clear A60
  by_cases c7 : (l1.length : Int) = 0
  ·rw [if_pos c7] at H
   exact absurd H (by simp)
  rw [if_neg c7] at H
  have c7b0 : ((l1.length : Int) == 0) = false := beq_eq_false_iff_ne.mpr c7
  have c7b1 : ((l1.length : Int) != 0) = true := bne_iff_ne.mpr c7
  have c7b2 : ¬ (l1 = []) := fun h_ => c7 (by rw [h_]; rfl)
  obtain ⟨ji8, hji8⟩ : ∃ j_ : Int, (Int.tmod (wrap64 (x6_1 + 1)) (l1.length : Int)) = j_ := ⟨_, rfl⟩
  replace H : (if 0 ≤ (ji8) then (if (ji8) < (l1.length : Int) then (if 0 ≤ (rd l1 (ji8)) then (if (rd l1 (ji8)) < (t314.length : Int) then (if (rd t314 (rd l1 (ji8))) ≥ 99999 then (some 99999) else (spec_l17Cost.l0 k1 l1 (wrap64 (x5_1 + (rd t314 (rd l1 (ji8))))) (wrap64 (x6_1 + 1)) a0_0 l0_1)) else (none)) else (none)) else (none)) else (none)) = some r := by (rw [hji8] at H; exact H)
  (try rw [hji8] at A6)
  by_cases c9 : 0 ≤ (ji8)
  rotate_left
  ·rw [if_neg c9] at H
   exact absurd H (by simp)
  rw [if_pos c9] at H
  have c9b0 : decide (0 ≤ (ji8)) = true := decide_eq_true c9
  clear c9
  by_cases c10 : (ji8) < (l1.length : Int)
  rotate_left
  ·rw [if_neg c10] at H
   exact absurd H (by simp)
  rw [if_pos c10] at H
  have c10b0 : decide ((ji8) < (l1.length : Int)) = true := decide_eq_true c10
  clear c10
  by_cases c11 : 0 ≤ (rd l1 (ji8))
  rotate_left
  ·rw [if_neg c11] at H
   exact absurd H (by simp)
  rw [if_pos c11] at H
  have c11b0 : decide (0 ≤ (rd l1 (ji8))) = true := decide_eq_true c11
  clear c11
  by_cases c12 : (rd l1 (ji8)) < (t314.length : Int)
  rotate_left
  ·rw [if_neg c12] at H
   exact absurd H (by simp)
  rw [if_pos c12] at H
  have c12b0 : decide ((rd l1 (ji8)) < (t314.length : Int)) = true := decide_eq_true c12
  clear c12
  by_cases c13 : (rd t314 (rd l1 (ji8))) ≥ 99999
  ·rw [if_pos c13] at H
   have c13b0 : decide (99999 ≤ (rd t314 (rd l1 (ji8)))) = true := decide_eq_true c13
   clear c13
   obtain rfl := Option.some.inj H
   try go_wp2
   replace BK312 := ak (blk_drew BK312.out)
   replace HB := ak (below_drew1 HB.out)
   have p313 : 0 ≤ (x6_1 : Int) := oT (by (with_reducible assumption))
   have q313 : x6_1 < (l1.length : Int) := oT (by (with_reducible assumption))
   obtain ⟨ad313, e313, hx313_0⟩ := Kd.at_int HR1.out x6_1 p313 q313
   have hw313_0 := hx313_0
   cases e313
   replace hx313_0 := hcb HB.out hx313_0
   replace p313 := eq_true p313
   replace q313 := eq_true q313
   have p317 : 0 ≤ ((ji8) : Int) := oT (by (with_reducible assumption))
   have q317 : (ji8) < (l1.length : Int) := oT (by (with_reducible assumption))
   obtain ⟨ad317, e317, hx317_0⟩ := Kd.at_int HR1.out (ji8) p317 q317
   have hw317_0 := hx317_0
   obtain rfl : ad313 = ad317 := (by injection e317)
   replace hx317_0 := hcb HB.out hx317_0
   replace p317 := eq_true p317
   replace q317 := eq_true q317
   refine start_ (n := 17) (S := fun w' => w'.cell? ⟨gb312, 0, none⟩ = some (.int .i64 a0_0) ∧ w'.cell? ⟨gb312, 1, none⟩ = some (.slice A0_1 l0_1.length c0_1) ∧ w'.cell? (ad313.add (x6_1).toNat) = some (.int .i64 (rd l1 x6_1)) ∧ w'.cell? (ad313.add ((ji8)).toNat) = some (.int .i64 (rd l1 (ji8)))) (ds := []) (ms 17 0) (by kernel_rfl) rfl (by kernel_rfl) ⟨(blk_cell BK312.out 0).trans rfl, (blk_cell BK312.out 1).trans rfl, ((HB.out.cell (World.block_lt_of_cell? w _ hw313_0)).trans hw313_0), ((HB.out.cell (World.block_lt_of_cell? w _ hw317_0)).trans hw317_0)⟩ (fun hHeld => ?_); refine with_tabW spec_l17Cost.tab5 spec_l17Cost.bits5 (fun HT_ HW_ => ?_)
   generalize wr.drew = w14 at BK312 HB hx313_0 hx317_0 hHeld ⊢
   refine pu 1 15 ?_ (ms 17 2) rfl rfl HT_ (by kernel_rfl) (fun _ _ _ h => h) (by rfl) ?_ ?_ ?_ ?_
   rotate_left
   ·intro w'
    go_simp
    with_reducible rfl
   rotate_left
   ·simp only [SX]
    rfl
   refine pu 2 16 ?_ (ms 17 6) rfl rfl HT_ (by kernel_rfl) (fun _ _ _ h => h) (by rfl) ?_ ?_ ?_ ?_
   rotate_left
   ·intro w'
    go_simp
    with_reducible rfl
   rotate_left
   ·simp only [SX]
    rfl
   refine pu 3 17 ?_ (ms 17 14) rfl rfl HT_ (by kernel_rfl) (fun _ _ _ h => h) (by rfl) ?_ ?_ ?_ ?_
   rotate_left
   ·intro w'
    go_simp
    with_reducible rfl
   rotate_left
   ·simp only [SX]
    rfl
   refine pu 6 20 ?_ (ms 17 78) rfl rfl HT_ (by kernel_rfl) (fun _ _ _ h => h) (by rfl) ?_ ?_ ?_ ?_
   rotate_left
   ·intro w'
    go_simp
    with_reducible rfl
   rotate_left
   ·simp only [SX]
    rfl
   refine pu 7 21 ?_ (ms 17 206) rfl rfl HT_ (by kernel_rfl) (fun _ _ _ h => h) (by rfl) ?_ ?_ ?_ ?_
   rotate_left
   ·intro w'
    go_simp
    with_reducible rfl
   rotate_left
   ·simp only [SX]
    rfl
   refine pu 8 22 ?_ (ms 17 462) rfl rfl HT_ (by kernel_rfl) (fun _ _ _ h => h) (by rfl) ?_ ?_ ?_ ?_
   rotate_left
   ·intro w'
    go_simp
    with_reducible rfl
   rotate_left
   ·simp only [SX]
    rfl
   refine pu 9 23 ?_ (ms 17 974) rfl rfl HT_ (by kernel_rfl) (fun _ _ _ h => h) (by rfl) ?_ ?_ ?_ ?_
   rotate_left
   ·intro w'
    go_simp
    with_reducible rfl
   rotate_left
   ·simp only [SX]
    rfl
   refine pu 10 24 ?_ (ms 17 1998) rfl rfl HT_ (by kernel_rfl) (fun _ _ _ h => h) (by rfl) ?_ ?_ ?_ ?_
   rotate_left
   ·intro w'
    go_simp
    with_reducible rfl
   rotate_left
   ·simp only [SX]
    rfl
   refine pu 11 25 ?_ (ms 17 4046) rfl rfl HT_ (by kernel_rfl) (fun _ _ _ h => h) (by rfl) ?_ ?_ ?_ ?_
   rotate_left
   ·intro w'
    go_simp
    with_reducible rfl
   rotate_left
   ·simp only [SX]
    rfl
   refine pu 12 26 ?_ (ms 17 8142) rfl rfl HT_ (by kernel_rfl) (fun _ _ _ h => h) (by rfl) ?_ ?_ ?_ ?_
   rotate_left
   ·intro w'
    go_simp
    with_reducible rfl
   rotate_left
   ·simp only [SX]
    rfl
   refine tk 0 14 ?_ (ms 17 8143) rfl rfl HT_ HW_ (by kernel_rfl) (fun _ _ _ h => h) (by rfl) ?_ hHeld ?_ ?_ ?_
   rotate_left
   ·rintro w' ⟨s0, s1, s2, s3⟩
    go_simp
    with_reducible rfl
   rotate_left
   ·simp only [SX]
    rfl
   refine tk 4 18 ?_ (ms 17 8159) rfl rfl HT_ HW_ (by kernel_rfl) (fun _ _ _ h => h) (by rfl) ?_ hHeld ?_ ?_ ?_
   rotate_left
   ·rintro w' ⟨s0, s1, s2, s3⟩
    go_simp
    with_reducible rfl
   rotate_left
   ·simp only [SX]
    rfl
   refine tk 13 27 ?_ (ms 17 16351) rfl rfl HT_ HW_ (by kernel_rfl) (fun _ _ _ h => h) (by rfl) ?_ hHeld ?_ ?_ ?_
   rotate_left
   ·rintro w' ⟨s0, s1, s2, s3⟩
    go_simp
    with_reducible rfl
   rotate_left
   ·simp only [SX]
    rfl
   refine one_ (i := 5) (N := some 19) (ms 17 16383) rfl rfl (one_of HT_.out (by kernel_rfl)) (by decide) (fun K hK => ?_)
   refine goes_ Try.func76 (by kernel_rfl) rfl #[.agg #[.int .i64 a0_0, .slice A0_1 l0_1.length c0_1], .int .i64 (rd l1 x6_1)] (by rfl) rfl rfl (by (try simp only [List.map_toArray, List.map_cons, List.map_nil]); rfl) ?_
   with_reducible refine (spec_l3All.calls k1 a0_0 _ _ l0_1 (rd l1 x6_1) t314 _ ?side1 ?side2 A6.out).mono ?_
   (case side1 => repeat (exact (Kd.C_below HR0_1.out HB.out)))
   (case side2 => exact HC0_1.out)
   rintro e w15 ⟨v315, rfl, ho0, hb⟩
   refine ⟨_, rfl, ?_⟩
   have HO316 := ak (Kd.R_lower ho0 (below_size (bl1 HB GE312)))
   replace BK312 := ak (blk_below (bk BK312) hb)
   replace HB := ak (below_step (bl1 HB GE312) hb)
   (try clear hb)
   (try clear hb2)
   (try clear hk)
   (try clear hi)
   (try clear ho0)
   obtain ⟨Ao16, co16, eo16⟩ := Kd.R_slice HO316.out
   (subst eo16)
   have p318 : 0 ≤ ((rd l1 (ji8)) : Int) := oT (by (with_reducible assumption))
   have q318 : (rd l1 (ji8)) < (t314.length : Int) := oT (by (with_reducible assumption))
   obtain ⟨ad318, e318, hx318_0⟩ := Kd.at_int (Kd.R_reads' HO316.out).2.2 (rd l1 (ji8)) p318 q318
   cases e318
   replace p318 := eq_true p318
   replace q318 := eq_true q318
   refine hK.out _ _ ⟨(blk_cell BK312.out 0).trans rfl, (blk_cell BK312.out 1).trans rfl, ((HB.out.cell (World.block_lt_of_cell? w _ hw313_0)).trans hw313_0), ((HB.out.cell (World.block_lt_of_cell? w _ hw317_0)).trans hw317_0)⟩ (fun hHeld => ?_)
   refine spec_l17Cost.restart (S' := fun w' => w'.cell? ⟨gb312, 0, none⟩ = some (.int .i64 a0_0) ∧ w'.cell? ⟨gb312, 1, none⟩ = some (.slice A0_1 l0_1.length c0_1) ∧ w'.cell? (ad313.add (x6_1).toNat) = some (.int .i64 (rd l1 x6_1)) ∧ w'.cell? (ad313.add ((ji8)).toNat) = some (.int .i64 (rd l1 (ji8))) ∧ w'.cell? (ad318.add ((rd l1 (ji8))).toNat) = some (.int .i64 (rd t314 (rd l1 (ji8))))) (fun w' h_ => ⟨h_.1, h_.2.1, h_.2.2.1, h_.2.2.2.1⟩) ⟨hHeld.1, hHeld.2.1, hHeld.2.2.1, hHeld.2.2.2, hx318_0⟩ (fun hHeld => ?_)
   clear hK K
   refine norm_ (a' := ?_) ?_ ?_
   rotate_left
   ·show Act.put _ (some 19) _ = _
    simp only [SX]
    rfl
   refine pu 14 28 ?_ (ms 17 32767) rfl rfl HT_ (by kernel_rfl) (fun _ _ _ h => h) (by rfl) ?_ ?_ ?_ ?_
   rotate_left
   ·intro w'
    go_simp
    with_reducible rfl
   rotate_left
   ·simp only [SX]
    rfl
   refine tk 15 29 ?_ (ms 17 65535) rfl rfl HT_ HW_ (by kernel_rfl) (fun _ _ _ h => h) (by rfl) ?_ hHeld ?_ ?_ ?_
   rotate_left
   ·rintro w' ⟨s0, s1, s2, s3, s4⟩
    go_simp
    with_reducible rfl
   rotate_left
   ·simp only [SX]
    rfl
   refine pu 16 7 ?_ (ms 17 131071) rfl rfl HT_ (by kernel_rfl) (fun _ _ _ h => h) (by rfl) ?_ ?_ ?_ ?_
   rotate_left
   ·intro w'
    go_simp
    with_reducible rfl
   rotate_left
   ·simp only [SX]
    rfl
   refine done_ (done_of HT_.out (by kernel_rfl)) ?_
   try go_wp2
   go_ret
   exact ⟨by rfl, bl1 HB GE312⟩
  rw [if_neg c13] at H
  have c13b0 : decide (99999 ≤ (rd t314 (rd l1 (ji8)))) = false := decide_eq_false c13
  clear c13
  have H' := ak H
  clear H
  try go_wp2
  replace BK312 := ak (blk_drew BK312.out)
  replace HB := ak (below_drew1 HB.out)
  have p313 : 0 ≤ (x6_1 : Int) := oT (by (with_reducible assumption))
  have q313 : x6_1 < (l1.length : Int) := oT (by (with_reducible assumption))
  obtain ⟨ad313, e313, hx313_0⟩ := Kd.at_int HR1.out x6_1 p313 q313
  have hw313_0 := hx313_0
  cases e313
  replace hx313_0 := hcb HB.out hx313_0
  replace p313 := eq_true p313
  replace q313 := eq_true q313
  have p317 : 0 ≤ ((ji8) : Int) := oT (by (with_reducible assumption))
  have q317 : (ji8) < (l1.length : Int) := oT (by (with_reducible assumption))
  obtain ⟨ad317, e317, hx317_0⟩ := Kd.at_int HR1.out (ji8) p317 q317
  have hw317_0 := hx317_0
  obtain rfl : ad313 = ad317 := (by injection e317)
  replace hx317_0 := hcb HB.out hx317_0
  replace p317 := eq_true p317
  replace q317 := eq_true q317
  refine start_ (n := 17) (S := fun w' => w'.cell? ⟨gb312, 0, none⟩ = some (.int .i64 a0_0) ∧ w'.cell? ⟨gb312, 1, none⟩ = some (.slice A0_1 l0_1.length c0_1) ∧ w'.cell? (ad313.add (x6_1).toNat) = some (.int .i64 (rd l1 x6_1)) ∧ w'.cell? (ad313.add ((ji8)).toNat) = some (.int .i64 (rd l1 (ji8)))) (ds := []) (ms 17 0) (by kernel_rfl) rfl (by kernel_rfl) ⟨(blk_cell BK312.out 0).trans rfl, (blk_cell BK312.out 1).trans rfl, ((HB.out.cell (World.block_lt_of_cell? w _ hw313_0)).trans hw313_0), ((HB.out.cell (World.block_lt_of_cell? w _ hw317_0)).trans hw317_0)⟩ (fun hHeld => ?_); refine with_tabW spec_l17Cost.tab5 spec_l17Cost.bits5 (fun HT_ HW_ => ?_)
  generalize wr.drew = w17 at BK312 HB hx313_0 hx317_0 hHeld ⊢
  refine pu 1 15 ?_ (ms 17 2) rfl rfl HT_ (by kernel_rfl) (fun _ _ _ h => h) (by rfl) ?_ ?_ ?_ ?_
  rotate_left
  ·intro w'
   go_simp
   with_reducible rfl
  rotate_left
  ·simp only [SX]
   rfl
  refine pu 2 16 ?_ (ms 17 6) rfl rfl HT_ (by kernel_rfl) (fun _ _ _ h => h) (by rfl) ?_ ?_ ?_ ?_
  rotate_left
  ·intro w'
   go_simp
   with_reducible rfl
  rotate_left
  ·simp only [SX]
   rfl
  refine pu 3 17 ?_ (ms 17 14) rfl rfl HT_ (by kernel_rfl) (fun _ _ _ h => h) (by rfl) ?_ ?_ ?_ ?_
  rotate_left
  ·intro w'
   go_simp
   with_reducible rfl
  rotate_left
  ·simp only [SX]
   rfl
  refine pu 6 20 ?_ (ms 17 78) rfl rfl HT_ (by kernel_rfl) (fun _ _ _ h => h) (by rfl) ?_ ?_ ?_ ?_
  rotate_left
  ·intro w'
   go_simp
   with_reducible rfl
  rotate_left
  ·simp only [SX]
   rfl
  refine pu 7 21 ?_ (ms 17 206) rfl rfl HT_ (by kernel_rfl) (fun _ _ _ h => h) (by rfl) ?_ ?_ ?_ ?_
  rotate_left
  ·intro w'
   go_simp
   with_reducible rfl
  rotate_left
  ·simp only [SX]
   rfl
  refine pu 8 22 ?_ (ms 17 462) rfl rfl HT_ (by kernel_rfl) (fun _ _ _ h => h) (by rfl) ?_ ?_ ?_ ?_
  rotate_left
  ·intro w'
   go_simp
   with_reducible rfl
  rotate_left
  ·simp only [SX]
   rfl
  refine pu 9 23 ?_ (ms 17 974) rfl rfl HT_ (by kernel_rfl) (fun _ _ _ h => h) (by rfl) ?_ ?_ ?_ ?_
  rotate_left
  ·intro w'
   go_simp
   with_reducible rfl
  rotate_left
  ·simp only [SX]
   rfl
  refine pu 10 24 ?_ (ms 17 1998) rfl rfl HT_ (by kernel_rfl) (fun _ _ _ h => h) (by rfl) ?_ ?_ ?_ ?_
  rotate_left
  ·intro w'
   go_simp
   with_reducible rfl
  rotate_left
  ·simp only [SX]
   rfl
  refine pu 11 25 ?_ (ms 17 4046) rfl rfl HT_ (by kernel_rfl) (fun _ _ _ h => h) (by rfl) ?_ ?_ ?_ ?_
  rotate_left
  ·intro w'
   go_simp
   with_reducible rfl
  rotate_left
  ·simp only [SX]
   rfl
  refine pu 12 26 ?_ (ms 17 8142) rfl rfl HT_ (by kernel_rfl) (fun _ _ _ h => h) (by rfl) ?_ ?_ ?_ ?_
  rotate_left
  ·intro w'
   go_simp
   with_reducible rfl
  rotate_left
  ·simp only [SX]
   rfl
  refine tk 0 14 ?_ (ms 17 8143) rfl rfl HT_ HW_ (by kernel_rfl) (fun _ _ _ h => h) (by rfl) ?_ hHeld ?_ ?_ ?_
  rotate_left
  ·rintro w' ⟨s0, s1, s2, s3⟩
   go_simp
   with_reducible rfl
  rotate_left
  ·simp only [SX]
   rfl
  refine tk 4 18 ?_ (ms 17 8159) rfl rfl HT_ HW_ (by kernel_rfl) (fun _ _ _ h => h) (by rfl) ?_ hHeld ?_ ?_ ?_
  rotate_left
  ·rintro w' ⟨s0, s1, s2, s3⟩
   go_simp
   with_reducible rfl
  rotate_left
  ·simp only [SX]
   rfl
  refine tk 13 27 ?_ (ms 17 16351) rfl rfl HT_ HW_ (by kernel_rfl) (fun _ _ _ h => h) (by rfl) ?_ hHeld ?_ ?_ ?_
  rotate_left
  ·rintro w' ⟨s0, s1, s2, s3⟩
   go_simp
   with_reducible rfl
  rotate_left
  ·simp only [SX]
   rfl
  refine one_ (i := 5) (N := some 19) (ms 17 16383) rfl rfl (one_of HT_.out (by kernel_rfl)) (by decide) (fun K hK => ?_)
  refine goes_ Try.func76 (by kernel_rfl) rfl #[.agg #[.int .i64 a0_0, .slice A0_1 l0_1.length c0_1], .int .i64 (rd l1 x6_1)] (by rfl) rfl rfl (by (try simp only [List.map_toArray, List.map_cons, List.map_nil]); rfl) ?_
  with_reducible refine (spec_l3All.calls k1 a0_0 _ _ l0_1 (rd l1 x6_1) t314 _ ?side1 ?side2 A6.out).mono ?_
  (case side1 => repeat (exact (Kd.C_below HR0_1.out HB.out)))
  (case side2 => exact HC0_1.out)
  rintro e w18 ⟨v315, rfl, ho0, hb⟩
  refine ⟨_, rfl, ?_⟩
  have HO316 := ak (Kd.R_lower ho0 (below_size (bl1 HB GE312)))
  replace BK312 := ak (blk_below (bk BK312) hb)
  replace HB := ak (below_step (bl1 HB GE312) hb)
  (try clear hb)
  (try clear hb2)
  (try clear hk)
  (try clear hi)
  (try clear ho0)
  obtain ⟨Ao19, co19, eo19⟩ := Kd.R_slice HO316.out
  (subst eo19)
  have p318 : 0 ≤ ((rd l1 (ji8)) : Int) := oT (by (with_reducible assumption))
  have q318 : (rd l1 (ji8)) < (t314.length : Int) := oT (by (with_reducible assumption))
  obtain ⟨ad318, e318, hx318_0⟩ := Kd.at_int (Kd.R_reads' HO316.out).2.2 (rd l1 (ji8)) p318 q318
  cases e318
  replace p318 := eq_true p318
  replace q318 := eq_true q318
  refine hK.out _ _ ⟨(blk_cell BK312.out 0).trans rfl, (blk_cell BK312.out 1).trans rfl, ((HB.out.cell (World.block_lt_of_cell? w _ hw313_0)).trans hw313_0), ((HB.out.cell (World.block_lt_of_cell? w _ hw317_0)).trans hw317_0)⟩ (fun hHeld => ?_)
  refine spec_l17Cost.restart (S' := fun w' => w'.cell? ⟨gb312, 0, none⟩ = some (.int .i64 a0_0) ∧ w'.cell? ⟨gb312, 1, none⟩ = some (.slice A0_1 l0_1.length c0_1) ∧ w'.cell? (ad313.add (x6_1).toNat) = some (.int .i64 (rd l1 x6_1)) ∧ w'.cell? (ad313.add ((ji8)).toNat) = some (.int .i64 (rd l1 (ji8))) ∧ w'.cell? (ad318.add ((rd l1 (ji8))).toNat) = some (.int .i64 (rd t314 (rd l1 (ji8))))) (fun w' h_ => ⟨h_.1, h_.2.1, h_.2.2.1, h_.2.2.2.1⟩) ⟨hHeld.1, hHeld.2.1, hHeld.2.2.1, hHeld.2.2.2, hx318_0⟩ (fun hHeld => ?_)
  clear hK K
  refine norm_ (a' := ?_) ?_ ?_
  rotate_left
  ·show Act.put _ (some 19) _ = _
   simp only [SX]
   rfl
  refine pu 14 28 ?_ (ms 17 32767) rfl rfl HT_ (by kernel_rfl) (fun _ _ _ h => h) (by rfl) ?_ ?_ ?_ ?_
  rotate_left
  ·intro w'
   go_simp
   with_reducible rfl
  rotate_left
  ·simp only [SX]
   rfl
  refine tk 15 29 ?_ (ms 17 65535) rfl rfl HT_ HW_ (by kernel_rfl) (fun _ _ _ h => h) (by rfl) ?_ hHeld ?_ ?_ ?_
  rotate_left
  ·rintro w' ⟨s0, s1, s2, s3, s4⟩
   go_simp
   with_reducible rfl
  rotate_left
  ·simp only [SX]
   rfl
  refine pu 16 7 ?_ (ms 17 131071) rfl rfl HT_ (by kernel_rfl) (fun _ _ _ h => h) (by rfl) ?_ ?_ ?_ ?_
  rotate_left
  ·intro w'
   go_simp
   with_reducible rfl
  rotate_left
  ·simp only [SX]
   rfl
  refine done_ (done_of HT_.out (by kernel_rfl)) ?_
  try go_wp2
  go_roundg k1
  case measure => have := HK1.out; omega
  case rel => exact ⟨(wrap64 (x5_1 + (rd t314 (rd l1 (ji8))))), (wrap64 (x6_1 + 1)), (by rfl), (by rfl), H', ⟨by have := HK1.out; omega⟩, ⟨bk BK312⟩, ⟨bl1 HB GE312⟩⟩

end Go.Proofs.Ytgickejeakmenaa.F
