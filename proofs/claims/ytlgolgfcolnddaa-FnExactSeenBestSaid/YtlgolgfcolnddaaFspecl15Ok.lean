-- Printed by wip/px/px.py of this claim's repository (the kit's printer, extended there). Lean checks it.
import Derived.Test.YtlgolgfcolnddaaFKinds
import Derived.Test.YtlgolgfcolnddaaFspecl1In
namespace Go.Proofs.Ytlgolgfcolnddaa.F
open Go.RowKit Go.Proofs.YtlgolgfcolnddaaW.PrintWords Go.Proofs.YtlgolgfcolnddaaW.PrintLast Go.Proofs.YtlgolgfcolnddaaW.PrintMore
attribute [local go_sem] max2_int min2_int max_two min_two max_three min_three max_four min_four   -- for this text's walks alone
set_option linter.unusedVariables false
set_option linter.unusedSimpArgs false

/-! ### spec_l15Ok: function 76 -/
mutual
def spec_l15Ok.l0 : Nat → List (List Int) → Int → Int → List (S58) → Option (Bool)
 | 0, _, _, _, _ => none
 | k + 1, x1, x5, x156000, x156001 => if x5 < (x1.length : Int) then (spec_l15Ok.l1 k x1 x5 0 x156000 x156001) else ((spec_l1In.f (x1.length : Int) 1 6).bind fun t156 => (some t156))
def spec_l15Ok.l1 : Nat → List (List Int) → Int → Int → Int → List (S58) → Option (Bool)
 | 0, _, _, _, _, _ => none
 | k + 1, x1, x5, x6, x156000, x156001 => if 0 ≤ x5 then (if x5 < (x1.length : Int) then (if x6 < ((rd_L3 x1 x5).length : Int) then (if 0 ≤ x6 then ((spec_l1In.f (rd (rd_L3 x1 x5) x6) 0 99).bind fun t160 => (if t160 = true then (spec_l15Ok.l1 k x1 x5 (wrap64 (x6 + 1)) x156000 x156001) else (some false))) else (none)) else (if ((rd_L3 x1 x5).length : Int) = x156000 then (spec_l15Ok.l0 k x1 (wrap64 (x5 + 1)) x156000 x156001) else (some false))) else (none)) else (none)
end
def spec_l15Ok.f (k : Nat) (a0_0 : Int) (l0_1 : List (S58)) (l1 : List (List Int)) : Option (Bool) := spec_l15Ok.l0 k l1 0 a0_0 l0_1
theorem spec_l15Ok.mono_l : ∀ k, (∀ y0 y1 y2 y3, LeO (spec_l15Ok.l0 k y0 y1 y2 y3) (spec_l15Ok.l0 (k + 1) y0 y1 y2 y3)) ∧ (∀ y0 y1 y2 y3 y4, LeO (spec_l15Ok.l1 k y0 y1 y2 y3 y4) (spec_l15Ok.l1 (k + 1) y0 y1 y2 y3 y4))
 | 0 => ⟨fun _ _ _ _ r h => by simp [spec_l15Ok.l0] at h, fun _ _ _ _ _ r h => by simp [spec_l15Ok.l1] at h⟩
 | k + 1 => by
  obtain ⟨ih0, ih1⟩ := spec_l15Ok.mono_l k
  refine ⟨?_, ?_⟩
  ·intro y0 y1 y2 y3
   unfold spec_l15Ok.l0
   repeat' first
   | (with_reducible exact ih0 _ _ _ _)
   | (with_reducible exact ih1 _ _ _ _ _)
   | (with_reducible exact LeO.refl _)
   | (with_reducible exact LeO.none _)
   | (with_reducible refine LeO.ite ?_ ?_)
   | (with_reducible refine LeO.bind ?_ (fun _ => ?_))
   | exact ih0 _ _ _ _
   | exact ih1 _ _ _ _ _
   | exact LeO.none _
   | refine LeO.ite ?_ ?_
   | refine LeO.bind ?_ (fun _ => ?_)
  ·intro y0 y1 y2 y3 y4
   unfold spec_l15Ok.l1
   repeat' first
   | (with_reducible exact ih0 _ _ _ _)
   | (with_reducible exact ih1 _ _ _ _ _)
   | (with_reducible exact LeO.refl _)
   | (with_reducible exact LeO.none _)
   | (with_reducible refine LeO.ite ?_ ?_)
   | (with_reducible refine LeO.bind ?_ (fun _ => ?_))
   | exact ih0 _ _ _ _
   | exact ih1 _ _ _ _ _
   | exact LeO.none _
   | refine LeO.ite ?_ ?_
   | refine LeO.bind ?_ (fun _ => ?_)
theorem spec_l15Ok.mono : ∀ a0 a1 a2 k, LeO (spec_l15Ok.f k a0 a1 a2) (spec_l15Ok.f (k + 1) a0 a1 a2) := by
 intro a0 a1 a2 k
 obtain ⟨ih0, ih1⟩ := spec_l15Ok.mono_l k
 unfold spec_l15Ok.f
 repeat' first
   | (with_reducible exact ih0 _ _ _ _)
   | (with_reducible exact ih1 _ _ _ _ _)
   | (with_reducible exact LeO.refl _)
   | (with_reducible exact LeO.none _)
   | (with_reducible refine LeO.ite ?_ ?_)
   | (with_reducible refine LeO.bind ?_ (fun _ => ?_))
   | exact ih0 _ _ _ _
   | exact ih1 _ _ _ _ _
   | exact LeO.none _
   | refine LeO.ite ?_ ?_
   | refine LeO.bind ?_ (fun _ => ?_)
set_option maxHeartbeats 8000000 in
set_option maxRecDepth 100000 in
theorem spec_l15Ok.calls (k : Nat) (a0_0 : Int) (A0_1 : Option Addr) (c0_1 : Nat) (l0_1 : List (S58)) (A1 : Option Addr) (c1 : Nat) (l1 : List (List Int)) (r : Bool) (w : World) (hr0_1 : Kd.C k58 w A0_1 l0_1.length l0_1) (hc0_1 : l0_1.length ≤ c0_1) (hr1 : Kd.C (Kd.slice 3 (Kd.int .i64)) w A1 l1.length l1) (hc1 : l1.length ≤ c1) (h : spec_l15Ok.f k a0_0 l0_1 l1 = some r) :
  Calls Try.prog 76 #[.agg #[.int .i64 a0_0, .slice A0_1 l0_1.length c0_1], .slice A1 l1.length c1] w fun e w' => e = .returned (.bool r) ∧ Below w.heap.size w w' := by
 have hu25 := Try.underlying25
 have HR0_1 := ak hr0_1
 have HC0_1 := ak hc0_1
 clear hr0_1 hc0_1
 have HR1 := ak hr1
 have HC1 := ak hc1
 clear hr1 hc1
 have HB := ak (Below.refl w.heap.size w)
 have H : (spec_l15Ok.l0 k l1 0 a0_0 l0_1) = some r := h
 clear h
 have H' := ak H
 clear H
 go_enter Try.func76, Try.ntmps76
 go_wp2_with (first | ((with_reducible refine gate_dst (N := 2) rfl ?_); refine box_event ?hg (N := 2) ?hd (cs := #[.int .i64 a0_0, .slice A0_1 l0_1.length c0_1]) (t := 25) ?hr ?_; (case hd => rfl); (case hg => rfl); (case hr => first | (go_simp; done) | (go_simp; rfl)); intro gb155 hg w3 hbox hb; have BK155 := ak (hbox); have GW155 := ak ((by rw [hg]; exact (below_size (bl HB)) : w.heap.size ≤ gb155)); have GE155 := ak ((by rw [hg]; exact (below_size (bl HB)) : w.heap.size ≤ gb155)); replace HB := ak (below_step (bl HB) hb); clear hb hbox hg) | go_values | go_skip | go_guarded | go_step | go_upon | go_back | go_quiet (first | ((with_reducible refine gate_dst (N := 2) rfl ?_); refine box_event ?hg (N := 2) ?hd (cs := #[.int .i64 a0_0, .slice A0_1 l0_1.length c0_1]) (t := 25) ?hr ?_; (case hd => rfl); (case hg => rfl); (case hr => first | (go_simp; done) | (go_simp; rfl)); intro gb155 hg w3 hbox hb; have BK155 := ak (hbox); have GW155 := ak ((by rw [hg]; exact (below_size (bl HB)) : w.heap.size ≤ gb155)); have GE155 := ak ((by rw [hg]; exact (below_size (bl HB)) : w.heap.size ≤ gb155)); replace HB := ak (below_step (bl HB) hb); clear hb hbox hg)))
 go_loopg [5] k (fun kq v5 w' => ∃ (x5_1 : Int), v5 = .int .i64 x5_1 ∧ Aside0 (spec_l15Ok.l0 kq l1 x5_1 a0_0 l0_1 = some r) ∧ Aside0 (kq ≤ k) ∧ Aside0 (w'.heap[gb155]? = some (.cells #[.int .i64 a0_0, (.slice A0_1 l0_1.length c0_1)] 25 (0, 0))) ∧ Aside0 (Below w.heap.size w w'))
 case atStart => exact ⟨(0), (by first | rfl | (simp; done) | (simp [*]; done)), H', ⟨Nat.le_refl _⟩, ⟨bk BK155⟩, ⟨bl1 HB GE155⟩⟩
 clear H'
 try clear c1
 try clear p2
 obtain ⟨x5_1, rfl, HA, HK1, BK155, HB⟩ := hrel
 cases gk with
 | zero => exact absurd HA.out (by simp [spec_l15Ok.l0])
 | succ k1 =>
  have H := HA.out
  clear HA
  simp only [spec_l15Ok.l0] at H
  by_cases c4 : x5_1 < (l1.length : Int)
  rotate_left
  ·rw [if_neg c4] at H
   have c4b0 : decide (x5_1 < (l1.length : Int)) = false := decide_eq_false c4
   clear c4
   replace H := Option.bind_eq_some_iff.mp H
   obtain ⟨t156, A140, H⟩ := H
   have A14 := ak A140
   clear A140
   obtain rfl := Option.some.inj H
   go_wp2_with (first | (go_at_call 54; (with_reducible refine (spec_l1In.calls (l1.length : Int) 1 6 t156 _ A14.out).mono ?_); rintro e w' ⟨rfl, ⟨nd, rfl⟩⟩; (try first | exact ⟨rfl, _, World.drewN_drewN _ _ _⟩ | exact ⟨rfl, _, Eq.trans (World.drewN_drewN _ _ _) (congrArg (World.drewN _) (Nat.add_assoc _ _ _))⟩)) | go_values | go_skip | go_guarded | go_step | go_upon | go_back | go_quiet (first | (go_at_call 54; (with_reducible refine (spec_l1In.calls (l1.length : Int) 1 6 t156 _ A14.out).mono ?_); rintro e w' ⟨rfl, ⟨nd, rfl⟩⟩; (try first | exact ⟨rfl, _, World.drewN_drewN _ _ _⟩ | exact ⟨rfl, _, Eq.trans (World.drewN_drewN _ _ _) (congrArg (World.drewN _) (Nat.add_assoc _ _ _))⟩))))
   go_ret
   exact ⟨by first | rfl | (simp [errW_none, errW_some] <;> rfl) | (simp [*, errW_none, errW_some] <;> rfl), bl1 HB GE155⟩
  rw [if_pos c4] at H
  have c4b0 : decide (x5_1 < (l1.length : Int)) = true := decide_eq_true c4
  clear c4
  have H' := ak H
  clear H
  go_wp2
  repeat (go_quiet (fail); try go_wp2)
  go_loopg [6] k1 (fun kq v6 w' => ∃ (x6_2 : Int), v6 = .int .i64 x6_2 ∧ Aside0 (spec_l15Ok.l1 kq l1 x5_1 x6_2 a0_0 l0_1 = some r) ∧ Aside0 (kq ≤ k1) ∧ Aside0 (w'.heap[gb155]? = some (.cells #[.int .i64 a0_0, (.slice A0_1 l0_1.length c0_1)] 25 (0, 0))) ∧ Aside0 (Below w.heap.size w w'))
  case atStart => exact ⟨(0), (by first | rfl | (simp; done) | (simp [*]; done)), H', ⟨Nat.le_refl _⟩, ⟨bk BK155⟩, ⟨bl1 HB GE155⟩⟩
  clear H'
  try clear c1
  try clear p2
  try clear c4
  try clear c4b0
  try clear p2
  obtain ⟨x6_2, rfl, HA, HK2, BK155, HB⟩ := hrel
  cases gk with
  | zero => exact absurd HA.out (by simp [spec_l15Ok.l1])
  | succ k2 =>
   have H := HA.out
   clear HA
   simp only [spec_l15Ok.l1] at H
   by_cases c5 : 0 ≤ x5_1
   rotate_left
   ·rw [if_neg c5] at H
    exact absurd H (by simp)
   rw [if_pos c5] at H
   have c5b0 : decide (0 ≤ x5_1) = true := decide_eq_true c5
   clear c5
   by_cases c6 : x5_1 < (l1.length : Int)
   rotate_left
   ·rw [if_neg c6] at H
    exact absurd H (by simp)
   rw [if_pos c6] at H
   have c6b0 : decide (x5_1 < (l1.length : Int)) = true := decide_eq_true c6
   clear c6
   by_cases c7 : x6_2 < ((rd_L3 l1 x5_1).length : Int)
   rotate_left
   ·rw [if_neg c7] at H
    have c7b0 : decide (x6_2 < ((rd_L3 l1 x5_1).length : Int)) = false := decide_eq_false c7
    clear c7
    by_cases c11 : ((rd_L3 l1 x5_1).length : Int) = a0_0
    rotate_left
    ·rw [if_neg c11] at H
     have c11b0 : (((rd_L3 l1 x5_1).length : Int) == a0_0) = false := beq_eq_false_iff_ne.mpr c11
     have c11b1 : (((rd_L3 l1 x5_1).length : Int) != a0_0) = true := bne_iff_ne.mpr c11
     obtain rfl := Option.some.inj H
     have p157 : 0 ≤ (x5_1 : Int) := oT (by first | (with_reducible assumption) | assumption)
     have q157 : x5_1 < (l1.length : Int) := oT (by first | (with_reducible assumption) | assumption)
     obtain ⟨ad157, A157_0, c157_0, e157, hx157_0, hl157_0, hi157_0⟩ := at_L3 HR1.out x5_1 p157 q157
     cases e157
     replace hx157_0 := hcb HB.out hx157_0
     have HR157_0 := ak hi157_0
     have HC157_0 := ak hl157_0
     clear hi157_0 hl157_0
     replace p157 := eq_true p157
     replace q157 := eq_true q157
     have p161 : 0 ≤ (x5_1 : Int) := oT (by first | (with_reducible assumption) | assumption)
     have q161 : x5_1 < (l1.length : Int) := oT (by first | (with_reducible assumption) | assumption)
     obtain ⟨ad161, A161_0, c161_0, e161, hx161_0, hl161_0, hi161_0⟩ := at_L3 HR1.out x5_1 p161 q161
     obtain rfl : ad157 = ad161 := (by injection e161)
     replace hx161_0 := hcb HB.out hx161_0
     have HR161_0 := ak hi161_0
     have HC161_0 := ak hl161_0
     clear hi161_0 hl161_0
     replace p161 := eq_true p161
     replace q161 := eq_true q161
     have ea_ := Option.some.inj (hx157_0.symm.trans hx161_0)
     injection ea_ with ea_ en_ ec_
     subst ea_
     subst ec_
     clear en_
     have hcz13_0 := bc wr BK155 0 (.int .i64 a0_0) rfl
     have hcz13_1 := bc wr BK155 1 (.slice A0_1 l0_1.length c0_1) rfl
     have hfz13_0 := fz BK155 0
     have hfz13_1 := fz BK155 1
     go_wp2
     repeat (go_quiet (fail); try go_wp2)
     go_ret
     exact ⟨by first | rfl | (simp [errW_none, errW_some] <;> rfl) | (simp [*, errW_none, errW_some] <;> rfl), bl1 HB GE155⟩
    rw [if_pos c11] at H
    have c11b0 : (((rd_L3 l1 x5_1).length : Int) == a0_0) = true := beq_iff_eq.mpr c11
    have c11b1 : (((rd_L3 l1 x5_1).length : Int) != a0_0) = false := bne_eq_false_iff_eq.mpr c11
    clear c11
    have H' := ak H
    clear H
    have p157 : 0 ≤ (x5_1 : Int) := oT (by first | (with_reducible assumption) | assumption)
    have q157 : x5_1 < (l1.length : Int) := oT (by first | (with_reducible assumption) | assumption)
    obtain ⟨ad157, A157_0, c157_0, e157, hx157_0, hl157_0, hi157_0⟩ := at_L3 HR1.out x5_1 p157 q157
    cases e157
    replace hx157_0 := hcb HB.out hx157_0
    have HR157_0 := ak hi157_0
    have HC157_0 := ak hl157_0
    clear hi157_0 hl157_0
    replace p157 := eq_true p157
    replace q157 := eq_true q157
    have p161 : 0 ≤ (x5_1 : Int) := oT (by first | (with_reducible assumption) | assumption)
    have q161 : x5_1 < (l1.length : Int) := oT (by first | (with_reducible assumption) | assumption)
    obtain ⟨ad161, A161_0, c161_0, e161, hx161_0, hl161_0, hi161_0⟩ := at_L3 HR1.out x5_1 p161 q161
    obtain rfl : ad157 = ad161 := (by injection e161)
    replace hx161_0 := hcb HB.out hx161_0
    have HR161_0 := ak hi161_0
    have HC161_0 := ak hl161_0
    clear hi161_0 hl161_0
    replace p161 := eq_true p161
    replace q161 := eq_true q161
    have ea_ := Option.some.inj (hx157_0.symm.trans hx161_0)
    injection ea_ with ea_ en_ ec_
    subst ea_
    subst ec_
    clear en_
    have hcz12_0 := bc wr BK155 0 (.int .i64 a0_0) rfl
    have hcz12_1 := bc wr BK155 1 (.slice A0_1 l0_1.length c0_1) rfl
    have hfz12_0 := fz BK155 0
    have hfz12_1 := fz BK155 1
    go_wp2
    repeat (go_quiet (fail); try go_wp2)
    go_roundg k2
    case measure => have := HK1.out; have := HK2.out; omega
    case rel => exact ⟨(wrap64 (x5_1 + 1)), (by first | rfl | (simp; done) | (simp [*]; done)), H', ⟨by have := HK1.out; have := HK2.out; omega⟩, ⟨bk BK155⟩, ⟨bl1 HB GE155⟩⟩
   rw [if_pos c7] at H
   have c7b0 : decide (x6_2 < ((rd_L3 l1 x5_1).length : Int)) = true := decide_eq_true c7
   clear c7
   by_cases c8 : 0 ≤ x6_2
   rotate_left
   ·rw [if_neg c8] at H
    exact absurd H (by simp)
   rw [if_pos c8] at H
   have c8b0 : decide (0 ≤ x6_2) = true := decide_eq_true c8
   clear c8
   replace H := Option.bind_eq_some_iff.mp H
   obtain ⟨t160, A90, H⟩ := H
   have A9 := ak A90
   clear A90
   by_cases c10 : t160 = true
   rotate_left
   ·replace c10 := Bool.eq_false_iff.mpr c10
    subst c10
    rw [if_neg (show ¬ (false = true) by decide)] at H
    obtain rfl := Option.some.inj H
    have p157 : 0 ≤ (x5_1 : Int) := oT (by first | (with_reducible assumption) | assumption)
    have q157 : x5_1 < (l1.length : Int) := oT (by first | (with_reducible assumption) | assumption)
    obtain ⟨ad157, A157_0, c157_0, e157, hx157_0, hl157_0, hi157_0⟩ := at_L3 HR1.out x5_1 p157 q157
    cases e157
    replace hx157_0 := hcb HB.out hx157_0
    have HR157_0 := ak hi157_0
    have HC157_0 := ak hl157_0
    clear hi157_0 hl157_0
    replace p157 := eq_true p157
    replace q157 := eq_true q157
    have p158 : 0 ≤ (x5_1 : Int) := oT (by first | (with_reducible assumption) | assumption)
    have q158 : x5_1 < (l1.length : Int) := oT (by first | (with_reducible assumption) | assumption)
    obtain ⟨ad158, A158_0, c158_0, e158, hx158_0, hl158_0, hi158_0⟩ := at_L3 HR1.out x5_1 p158 q158
    obtain rfl : ad157 = ad158 := (by injection e158)
    replace hx158_0 := hcb HB.out hx158_0
    have HR158_0 := ak hi158_0
    have HC158_0 := ak hl158_0
    clear hi158_0 hl158_0
    replace p158 := eq_true p158
    replace q158 := eq_true q158
    have ea_ := Option.some.inj (hx157_0.symm.trans hx158_0)
    injection ea_ with ea_ en_ ec_
    subst ea_
    subst ec_
    clear en_
    have p159 : 0 ≤ (x6_2 : Int) := oT (by first | (with_reducible assumption) | assumption)
    have q159 : x6_2 < ((rd_L3 l1 x5_1).length : Int) := oT (by first | (with_reducible assumption) | assumption)
    obtain ⟨ad159, e159, hx159_0⟩ := Kd.at_int HR158_0.out x6_2 p159 q159
    cases e159
    replace hx159_0 := hcb HB.out hx159_0
    replace p159 := eq_true p159
    replace q159 := eq_true q159
    go_wp2_with (first | (go_at_call 54; (with_reducible refine (spec_l1In.calls (rd (rd_L3 l1 x5_1) x6_2) 0 99 false _ A9.out).mono ?_); rintro e w' ⟨rfl, ⟨nd, rfl⟩⟩; (try first | exact ⟨rfl, _, World.drewN_drewN _ _ _⟩ | exact ⟨rfl, _, Eq.trans (World.drewN_drewN _ _ _) (congrArg (World.drewN _) (Nat.add_assoc _ _ _))⟩)) | go_values | go_skip | go_guarded | go_step | go_upon | go_back | go_quiet (first | (go_at_call 54; (with_reducible refine (spec_l1In.calls (rd (rd_L3 l1 x5_1) x6_2) 0 99 false _ A9.out).mono ?_); rintro e w' ⟨rfl, ⟨nd, rfl⟩⟩; (try first | exact ⟨rfl, _, World.drewN_drewN _ _ _⟩ | exact ⟨rfl, _, Eq.trans (World.drewN_drewN _ _ _) (congrArg (World.drewN _) (Nat.add_assoc _ _ _))⟩))))
    go_ret
    exact ⟨by first | rfl | (simp [errW_none, errW_some] <;> rfl) | (simp [*, errW_none, errW_some] <;> rfl), bl1 HB GE155⟩
   subst c10
   rw [if_pos rfl] at H
   have H' := ak H
   clear H
   have p157 : 0 ≤ (x5_1 : Int) := oT (by first | (with_reducible assumption) | assumption)
   have q157 : x5_1 < (l1.length : Int) := oT (by first | (with_reducible assumption) | assumption)
   obtain ⟨ad157, A157_0, c157_0, e157, hx157_0, hl157_0, hi157_0⟩ := at_L3 HR1.out x5_1 p157 q157
   cases e157
   replace hx157_0 := hcb HB.out hx157_0
   have HR157_0 := ak hi157_0
   have HC157_0 := ak hl157_0
   clear hi157_0 hl157_0
   replace p157 := eq_true p157
   replace q157 := eq_true q157
   have p158 : 0 ≤ (x5_1 : Int) := oT (by first | (with_reducible assumption) | assumption)
   have q158 : x5_1 < (l1.length : Int) := oT (by first | (with_reducible assumption) | assumption)
   obtain ⟨ad158, A158_0, c158_0, e158, hx158_0, hl158_0, hi158_0⟩ := at_L3 HR1.out x5_1 p158 q158
   obtain rfl : ad157 = ad158 := (by injection e158)
   replace hx158_0 := hcb HB.out hx158_0
   have HR158_0 := ak hi158_0
   have HC158_0 := ak hl158_0
   clear hi158_0 hl158_0
   replace p158 := eq_true p158
   replace q158 := eq_true q158
   have ea_ := Option.some.inj (hx157_0.symm.trans hx158_0)
   injection ea_ with ea_ en_ ec_
   subst ea_
   subst ec_
   clear en_
   have p159 : 0 ≤ (x6_2 : Int) := oT (by first | (with_reducible assumption) | assumption)
   have q159 : x6_2 < ((rd_L3 l1 x5_1).length : Int) := oT (by first | (with_reducible assumption) | assumption)
   obtain ⟨ad159, e159, hx159_0⟩ := Kd.at_int HR158_0.out x6_2 p159 q159
   cases e159
   replace hx159_0 := hcb HB.out hx159_0
   replace p159 := eq_true p159
   replace q159 := eq_true q159
   go_wp2_with (first | (go_at_call 54; (with_reducible refine (spec_l1In.calls (rd (rd_L3 l1 x5_1) x6_2) 0 99 true _ A9.out).mono ?_); rintro e w' ⟨rfl, ⟨nd, rfl⟩⟩; (try first | exact ⟨rfl, _, World.drewN_drewN _ _ _⟩ | exact ⟨rfl, _, Eq.trans (World.drewN_drewN _ _ _) (congrArg (World.drewN _) (Nat.add_assoc _ _ _))⟩)) | go_values | go_skip | go_guarded | go_step | go_upon | go_back | go_quiet (first | (go_at_call 54; (with_reducible refine (spec_l1In.calls (rd (rd_L3 l1 x5_1) x6_2) 0 99 true _ A9.out).mono ?_); rintro e w' ⟨rfl, ⟨nd, rfl⟩⟩; (try first | exact ⟨rfl, _, World.drewN_drewN _ _ _⟩ | exact ⟨rfl, _, Eq.trans (World.drewN_drewN _ _ _) (congrArg (World.drewN _) (Nat.add_assoc _ _ _))⟩))))
   go_roundg k2
   case measure => have := HK1.out; have := HK2.out; omega
   case rel => exact ⟨(wrap64 (x6_2 + 1)), (by first | rfl | (simp; done) | (simp [*]; done)), H', ⟨by have := HK1.out; have := HK2.out; omega⟩, ⟨bk BK155⟩, ⟨bl1 HB GE155⟩⟩

end Go.Proofs.Ytlgolgfcolnddaa.F
