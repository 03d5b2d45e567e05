-- Printed by wip/px/px.py of this claim's repository (the kit's printer, extended there). Lean checks it.
import Derived.Test.YtbappbbljncdeaaFKinds
import Derived.Test.YtbappbbljncdeaaFspecl1In
namespace Go.Proofs.Ytbappbbljncdeaa.F
open Go.RowKit Go.Proofs.YtbappbbljncdeaaW.PrintWords Go.Proofs.YtbappbbljncdeaaW.PrintLast Go.Proofs.YtbappbbljncdeaaW.PrintMore
attribute [local go_sem] max2_int min2_int max_two min_two max_three min_three max_four min_four   -- for this text's walks alone
set_option linter.unusedVariables false
set_option linter.unusedSimpArgs false

/-! ### spec_l15Ok: function 94 -/
mutual
def spec_l15Ok.l0 : Nat → List (List Int) → Int → Int → List (S100) → Option (Bool)
 | 0, _, _, _, _ => none
 | k + 1, x1, x5, x889000, x889001 => if x5 < (x1.length : Int) then (spec_l15Ok.l1 k x1 x5 0 x889000 x889001) else ((spec_l1In.f (x1.length : Int) 1 6).bind fun t889 => (some t889))
def spec_l15Ok.l1 : Nat → List (List Int) → Int → Int → Int → List (S100) → Option (Bool)
 | 0, _, _, _, _, _ => none
 | k + 1, x1, x5, x6, x889000, x889001 => if 0 ≤ x5 then (if x5 < (x1.length : Int) then (if x6 < ((rd_L4 x1 x5).length : Int) then (if 0 ≤ x6 then ((spec_l1In.f (rd (rd_L4 x1 x5) x6) 0 99).bind fun t893 => (if t893 = true then (spec_l15Ok.l1 k x1 x5 (wrap64 (x6 + 1)) x889000 x889001) else (some false))) else (none)) else (if ((rd_L4 x1 x5).length : Int) = x889000 then (spec_l15Ok.l0 k x1 (wrap64 (x5 + 1)) x889000 x889001) else (some false))) else (none)) else (none)
end
def spec_l15Ok.f (k : Nat) (a0_0 : Int) (l0_1 : List (S100)) (l1 : List (List Int)) : Option (Bool) := spec_l15Ok.l0 k l1 0 a0_0 l0_1
theorem spec_l15Ok.mono_l : ∀ k, (∀ y0 y1 y2 y3, LeO (spec_l15Ok.l0 k y0 y1 y2 y3) (spec_l15Ok.l0 (k + 1) y0 y1 y2 y3)) ∧ (∀ y0 y1 y2 y3 y4, LeO (spec_l15Ok.l1 k y0 y1 y2 y3 y4) (spec_l15Ok.l1 (k + 1) y0 y1 y2 y3 y4))
 | 0 => ⟨fun _ _ _ _ r h => by simp [spec_l15Ok.l0] at h, fun _ _ _ _ _ r h => by simp [spec_l15Ok.l1] at h⟩
 | k + 1 => by
  obtain ⟨ih0, ih1⟩ := spec_l15Ok.mono_l k
  refine ⟨?_, ?_⟩
  ·intro y0 y1 y2 y3
   unfold spec_l15Ok.l0
   repeat' first | (with_reducible exact ih1 _ _ _ _ _) | (with_reducible exact LeO.refl _) | (with_reducible refine LeO.ite ?_ ?_)
  ·intro y0 y1 y2 y3 y4
   unfold spec_l15Ok.l1
   repeat' first | (with_reducible exact ih0 _ _ _ _) | (with_reducible exact ih1 _ _ _ _ _) | (with_reducible exact LeO.refl _) | (with_reducible refine LeO.ite ?_ ?_) | (with_reducible refine LeO.bind ?_ (fun _ => ?_))
theorem spec_l15Ok.mono : ∀ a0 a1 a2 k, LeO (spec_l15Ok.f k a0 a1 a2) (spec_l15Ok.f (k + 1) a0 a1 a2) := by
 intro a0 a1 a2 k
 obtain ⟨ih0, ih1⟩ := spec_l15Ok.mono_l k
 unfold spec_l15Ok.f
 repeat' (with_reducible exact ih0 _ _ _ _)
set_option maxHeartbeats 8000000 in
set_option maxRecDepth 100000 in
theorem spec_l15Ok.calls (k : Nat) (a0_0 : Int) (A0_1 : Option Addr) (c0_1 : Nat) (l0_1 : List (S100)) (A1 : Option Addr) (c1 : Nat) (l1 : List (List Int)) (r : Bool) (w : World) (hr0_1 : Kd.C k100 w A0_1 l0_1.length l0_1) (hc0_1 : l0_1.length ≤ c0_1) (hr1 : Kd.C (Kd.slice 3 (Kd.int .i64)) w A1 l1.length l1) (hc1 : l1.length ≤ c1) (h : spec_l15Ok.f k a0_0 l0_1 l1 = some r) :
  Calls Try.prog 94 #[.agg #[.int .i64 a0_0, .slice A0_1 l0_1.length c0_1], .slice A1 l1.length c1] w fun e w' => e = .returned (.bool r) ∧ Below w.heap.size w w' := by
 have hu30 := Try.underlying30
 have HR0_1 := ak hr0_1
 have HC0_1 := ak hc0_1
 clear hr0_1 hc0_1
 have HR1 := ak hr1
 have HC1 := ak hc1
 clear hr1 hc1
 have HB := ak (Below.refl w.heap.size w)
 have H : (spec_l15Ok.l0 k l1 0 a0_0 l0_1) = some r := h
 clear h
 have H' := ak H
 clear H
 go_enter Try.func94, Try.ntmps94
 go_wp2_with (((with_reducible refine gate_dst (N := 2) rfl ?_); refine box_event ?hg (N := 2) ?hd (cs := #[.int .i64 a0_0, .slice A0_1 l0_1.length c0_1]) (t := 30) ?hr ?_; (case hd => rfl); (case hg => rfl); (case hr => (go_simp; done)); intro gb888 hg w3 hbox hb; have BK888 := ak (hbox); have GW888 := ak ((by rw [hg]; exact (below_size (bl HB)) : w.heap.size ≤ gb888)); have GE888 := ak ((by rw [hg]; exact (below_size (bl HB)) : w.heap.size ≤ gb888)); replace HB := ak (below_step (bl HB) hb); clear hb hbox hg))
 go_loopg [5] k (fun kq v5 w' => ∃ (x5_1 : Int), v5 = .int .i64 x5_1 ∧ Aside0 (spec_l15Ok.l0 kq l1 x5_1 a0_0 l0_1 = some r) ∧ Aside0 (kq ≤ k) ∧ Aside0 (w'.heap[gb888]? = some (.cells #[.int .i64 a0_0, (.slice A0_1 l0_1.length c0_1)] 30 (0, 0))) ∧ Aside0 (Below w.heap.size w w'))
 case atStart => exact ⟨(0), (by rfl), H', ⟨Nat.le_refl _⟩, ⟨bk BK888⟩, ⟨bl1 HB GE888⟩⟩
 clear H'
 try clear c1
 try clear p2
 obtain ⟨x5_1, rfl, HA, HK1, BK888, HB⟩ := hrel
 cases gk with
 | zero => exact absurd HA.out (by simp [spec_l15Ok.l0])
 | succ k1 =>
  have H := HA.out
  clear HA
  simp only [spec_l15Ok.l0] at H
  by_cases c4 : x5_1 < (l1.length : Int)
  rotate_left
  ·rw [if_neg c4] at H
   have c4b0 : decide (x5_1 < (l1.length : Int)) = false := decide_eq_false c4
   clear c4
   replace H := Option.bind_eq_some_iff.mp H
   obtain ⟨t889, A140, H⟩ := H
   have A14 := ak A140
   clear A140
   obtain rfl := Option.some.inj H
   go_wp2_with (first | (go_at_call 70; (with_reducible refine (spec_l1In.calls (l1.length : Int) 1 6 t889 _ A14.out).mono ?_); rintro e w' ⟨rfl, ⟨nd, rfl⟩⟩; (try fail)) | go_step)
   go_ret
   exact ⟨by rfl, bl1 HB GE888⟩
  rw [if_pos c4] at H
  have c4b0 : decide (x5_1 < (l1.length : Int)) = true := decide_eq_true c4
  clear c4
  have H' := ak H
  clear H
  go_wp2
  repeat (go_quiet (fail); try go_wp2)
  go_loopg [6] k1 (fun kq v6 w' => ∃ (x6_2 : Int), v6 = .int .i64 x6_2 ∧ Aside0 (spec_l15Ok.l1 kq l1 x5_1 x6_2 a0_0 l0_1 = some r) ∧ Aside0 (kq ≤ k1) ∧ Aside0 (w'.heap[gb888]? = some (.cells #[.int .i64 a0_0, (.slice A0_1 l0_1.length c0_1)] 30 (0, 0))) ∧ Aside0 (Below w.heap.size w w'))
  case atStart => exact ⟨(0), (by rfl), H', ⟨Nat.le_refl _⟩, ⟨bk BK888⟩, ⟨bl1 HB GE888⟩⟩
  clear H'
  try clear c1
  try clear p2
  try clear c4
  try clear c4b0
  try clear p2
  obtain ⟨x6_2, rfl, HA, HK2, BK888, HB⟩ := hrel
  cases gk with
  | zero => exact absurd HA.out (by simp [spec_l15Ok.l1])
  | succ k2 =>
   have H := HA.out
   clear HA
   simp only [spec_l15Ok.l1] at H
   by_cases c5 : 0 ≤ x5_1
   rotate_left
   ·rw [if_neg c5] at H
    exact absurd H (by simp)
   rw [if_pos c5] at H
   have c5b0 : decide (0 ≤ x5_1) = true := decide_eq_true c5
   clear c5
   by_cases c6 : x5_1 < (l1.length : Int)
   rotate_left
   ·rw [if_neg c6] at H
    exact absurd H (by simp)
   rw [if_pos c6] at H
   have c6b0 : decide (x5_1 < (l1.length : Int)) = true := decide_eq_true c6
   clear c6
   by_cases c7 : x6_2 < ((rd_L4 l1 x5_1).length : Int)
   rotate_left
   ·rw [if_neg c7] at H
    have c7b0 : decide (x6_2 < ((rd_L4 l1 x5_1).length : Int)) = false := decide_eq_false c7
    clear c7
    by_cases c11 : ((rd_L4 l1 x5_1).length : Int) = a0_0
    rotate_left
    ·rw [if_neg c11] at H
     have c11b0 : (((rd_L4 l1 x5_1).length : Int) == a0_0) = false := beq_eq_false_iff_ne.mpr c11
     have c11b1 : (((rd_L4 l1 x5_1).length : Int) != a0_0) = true := bne_iff_ne.mpr c11
     obtain rfl := Option.some.inj H
     have p890 : 0 ≤ (x5_1 : Int) := oT (by (with_reducible assumption))
     have q890 : x5_1 < (l1.length : Int) := oT (by (with_reducible assumption))
     obtain ⟨ad890, A890_0, c890_0, e890, hx890_0, hl890_0, hi890_0⟩ := at_L4 HR1.out x5_1 p890 q890
     cases e890
     replace hx890_0 := hcb HB.out hx890_0
     have HR890_0 := ak hi890_0
     have HC890_0 := ak hl890_0
     clear hi890_0 hl890_0
     replace p890 := eq_true p890
     replace q890 := eq_true q890
     have p894 : 0 ≤ (x5_1 : Int) := oT (by (with_reducible assumption))
     have q894 : x5_1 < (l1.length : Int) := oT (by (with_reducible assumption))
     obtain ⟨ad894, A894_0, c894_0, e894, hx894_0, hl894_0, hi894_0⟩ := at_L4 HR1.out x5_1 p894 q894
     obtain rfl : ad890 = ad894 := (by injection e894)
     replace hx894_0 := hcb HB.out hx894_0
     have HR894_0 := ak hi894_0
     have HC894_0 := ak hl894_0
     clear hi894_0 hl894_0
     replace p894 := eq_true p894
     replace q894 := eq_true q894
     have ea_ := Option.some.inj (hx890_0.symm.trans hx894_0)
     injection ea_ with ea_ en_ ec_
     subst ea_
     subst ec_
     clear en_
     have hcz13_0 := bc wr BK888 0 (.int .i64 a0_0) rfl
     have hcz13_1 := bc wr BK888 1 (.slice A0_1 l0_1.length c0_1) rfl
     have hfz13_0 := fz BK888 0
     have hfz13_1 := fz BK888 1
     go_wp2
     repeat (go_quiet (fail); try go_wp2)
     go_ret
     exact ⟨by rfl, bl1 HB GE888⟩
    rw [if_pos c11] at H
    have c11b0 : (((rd_L4 l1 x5_1).length : Int) == a0_0) = true := beq_iff_eq.mpr c11
    have c11b1 : (((rd_L4 l1 x5_1).length : Int) != a0_0) = false := bne_eq_false_iff_eq.mpr c11
    clear c11
    have H' := ak H
    clear H
    have p890 : 0 ≤ (x5_1 : Int) := oT (by (with_reducible assumption))
    have q890 : x5_1 < (l1.length : Int) := oT (by (with_reducible assumption))
    obtain ⟨ad890, A890_0, c890_0, e890, hx890_0, hl890_0, hi890_0⟩ := at_L4 HR1.out x5_1 p890 q890
    cases e890
    replace hx890_0 := hcb HB.out hx890_0
    have HR890_0 := ak hi890_0
    have HC890_0 := ak hl890_0
    clear hi890_0 hl890_0
    replace p890 := eq_true p890
    replace q890 := eq_true q890
    have p894 : 0 ≤ (x5_1 : Int) := oT (by (with_reducible assumption))
    have q894 : x5_1 < (l1.length : Int) := oT (by (with_reducible assumption))
    obtain ⟨ad894, A894_0, c894_0, e894, hx894_0, hl894_0, hi894_0⟩ := at_L4 HR1.out x5_1 p894 q894
    obtain rfl : ad890 = ad894 := (by injection e894)
    replace hx894_0 := hcb HB.out hx894_0
    have HR894_0 := ak hi894_0
    have HC894_0 := ak hl894_0
    clear hi894_0 hl894_0
    replace p894 := eq_true p894
    replace q894 := eq_true q894
    have ea_ := Option.some.inj (hx890_0.symm.trans hx894_0)
    injection ea_ with ea_ en_ ec_
    subst ea_
    subst ec_
    clear en_
    have hcz12_0 := bc wr BK888 0 (.int .i64 a0_0) rfl
    have hcz12_1 := bc wr BK888 1 (.slice A0_1 l0_1.length c0_1) rfl
    have hfz12_0 := fz BK888 0
    have hfz12_1 := fz BK888 1
    go_wp2
    repeat (go_quiet (fail); try go_wp2)
    go_roundg k2
    case measure => have := HK1.out; have := HK2.out; omega
    case rel => exact ⟨(wrap64 (x5_1 + 1)), (by rfl), H', ⟨by have := HK1.out; have := HK2.out; omega⟩, ⟨bk BK888⟩, ⟨bl1 HB GE888⟩⟩
   rw [if_pos c7] at H
   have c7b0 : decide (x6_2 < ((rd_L4 l1 x5_1).length : Int)) = true := decide_eq_true c7
   clear c7
   by_cases c8 : 0 ≤ x6_2
   rotate_left
   ·rw [if_neg c8] at H
    exact absurd H (by simp)
   rw [if_pos c8] at H
   have c8b0 : decide (0 ≤ x6_2) = true := decide_eq_true c8
   clear c8
   replace H := Option.bind_eq_some_iff.mp H
   obtain ⟨t893, A90, H⟩ := H
   have A9 := ak A90
   clear A90
   by_cases c10 : t893 = true
   rotate_left
   ·replace c10 := Bool.eq_false_iff.mpr c10
    subst c10
    rw [if_neg (show ¬ (false = true) by decide)] at H
    obtain rfl := Option.some.inj H
    have p890 : 0 ≤ (x5_1 : Int) := oT (by (with_reducible assumption))
    have q890 : x5_1 < (l1.length : Int) := oT (by (with_reducible assumption))
    obtain ⟨ad890, A890_0, c890_0, e890, hx890_0, hl890_0, hi890_0⟩ := at_L4 HR1.out x5_1 p890 q890
    cases e890
    replace hx890_0 := hcb HB.out hx890_0
    have HR890_0 := ak hi890_0
    have HC890_0 := ak hl890_0
    clear hi890_0 hl890_0
    replace p890 := eq_true p890
    replace q890 := eq_true q890
    have p891 : 0 ≤ (x5_1 : Int) := oT (by (with_reducible assumption))
    have q891 : x5_1 < (l1.length : Int) := oT (by (with_reducible assumption))
    obtain ⟨ad891, A891_0, c891_0, e891, hx891_0, hl891_0, hi891_0⟩ := at_L4 HR1.out x5_1 p891 q891
    obtain rfl : ad890 = ad891 := (by injection e891)
    replace hx891_0 := hcb HB.out hx891_0
    have HR891_0 := ak hi891_0
    have HC891_0 := ak hl891_0
    clear hi891_0 hl891_0
    replace p891 := eq_true p891
    replace q891 := eq_true q891
    have ea_ := Option.some.inj (hx890_0.symm.trans hx891_0)
    injection ea_ with ea_ en_ ec_
    subst ea_
    subst ec_
    clear en_
    have p892 : 0 ≤ (x6_2 : Int) := oT (by (with_reducible assumption))
    have q892 : x6_2 < ((rd_L4 l1 x5_1).length : Int) := oT (by (with_reducible assumption))
    obtain ⟨ad892, e892, hx892_0⟩ := Kd.at_int HR891_0.out x6_2 p892 q892
    cases e892
    replace hx892_0 := hcb HB.out hx892_0
    replace p892 := eq_true p892
    replace q892 := eq_true q892
    go_wp2_with (first | (go_at_call 70; (with_reducible refine (spec_l1In.calls (rd (rd_L4 l1 x5_1) x6_2) 0 99 false _ A9.out).mono ?_); rintro e w' ⟨rfl, ⟨nd, rfl⟩⟩; (try fail)) | go_step)
    go_ret
    exact ⟨by rfl, bl1 HB GE888⟩
   subst c10
   rw [if_pos rfl] at H
   have H' := ak H
   clear H
   have p890 : 0 ≤ (x5_1 : Int) := oT (by (with_reducible assumption))
   have q890 : x5_1 < (l1.length : Int) := oT (by (with_reducible assumption))
   obtain ⟨ad890, A890_0, c890_0, e890, hx890_0, hl890_0, hi890_0⟩ := at_L4 HR1.out x5_1 p890 q890
   cases e890
   replace hx890_0 := hcb HB.out hx890_0
   have HR890_0 := ak hi890_0
   have HC890_0 := ak hl890_0
   clear hi890_0 hl890_0
   replace p890 := eq_true p890
   replace q890 := eq_true q890
   have p891 : 0 ≤ (x5_1 : Int) := oT (by (with_reducible assumption))
   have q891 : x5_1 < (l1.length : Int) := oT (by (with_reducible assumption))
   obtain ⟨ad891, A891_0, c891_0, e891, hx891_0, hl891_0, hi891_0⟩ := at_L4 HR1.out x5_1 p891 q891
   obtain rfl : ad890 = ad891 := (by injection e891)
   replace hx891_0 := hcb HB.out hx891_0
   have HR891_0 := ak hi891_0
   have HC891_0 := ak hl891_0
   clear hi891_0 hl891_0
   replace p891 := eq_true p891
   replace q891 := eq_true q891
   have ea_ := Option.some.inj (hx890_0.symm.trans hx891_0)
   injection ea_ with ea_ en_ ec_
   subst ea_
   subst ec_
   clear en_
   have p892 : 0 ≤ (x6_2 : Int) := oT (by (with_reducible assumption))
   have q892 : x6_2 < ((rd_L4 l1 x5_1).length : Int) := oT (by (with_reducible assumption))
   obtain ⟨ad892, e892, hx892_0⟩ := Kd.at_int HR891_0.out x6_2 p892 q892
   cases e892
   replace hx892_0 := hcb HB.out hx892_0
   replace p892 := eq_true p892
   replace q892 := eq_true q892
   go_wp2_with (first | (go_at_call 70; (with_reducible refine (spec_l1In.calls (rd (rd_L4 l1 x5_1) x6_2) 0 99 true _ A9.out).mono ?_); rintro e w' ⟨rfl, ⟨nd, rfl⟩⟩; (try fail)) | go_step)
   go_roundg k2
   case measure => have := HK1.out; have := HK2.out; omega
   case rel => exact ⟨(wrap64 (x6_2 + 1)), (by rfl), H', ⟨by have := HK1.out; have := HK2.out; omega⟩, ⟨bk BK888⟩, ⟨bl1 HB GE888⟩⟩

end Go.Proofs.Ytbappbbljncdeaa.F
