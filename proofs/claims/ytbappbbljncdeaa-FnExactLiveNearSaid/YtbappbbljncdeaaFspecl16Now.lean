-- Printed by wip/px/px.py of this claim's repository (the kit's printer, extended there). Lean checks it.
import Derived.Test.YtbappbbljncdeaaFKinds
namespace Go.Proofs.Ytbappbbljncdeaa.F
open Go.RowKit Go.Proofs.YtbappbbljncdeaaW.PrintWords Go.Proofs.YtbappbbljncdeaaW.PrintLast Go.Proofs.YtbappbbljncdeaaW.PrintMore
attribute [local go_sem] max2_int min2_int max_two min_two max_three min_three max_four min_four   -- for this text's walks alone
set_option linter.unusedVariables false
set_option linter.unusedSimpArgs false

/-! ### spec_l16Now: function 76 -/
mutual
def spec_l16Now.l0 : Nat → Int → Int → List (S100) → List (S70) → Int → List (S100) → Option (Int × (List (S100)))
 | 0, _, _, _, _, _, _ => none
 | k + 1, x4, x137000, x137001, x137002, x139000, x139001 => if x4 < (x137001.length : Int) then (if 0 ≤ x4 then (spec_l16Now.l1 k x4 false 0 x137000 x137001 x137002 x139000 x139001 ((rd_T100 x137001 x4).f0) ((rd_T100 x137001 x4).f1) ((rd_T100 x137001 x4).f2) ((rd_T100 x137001 x4).f3) ((rd_T100 x137001 x4).f4)) else (none)) else (some (x139000, x139001))
def spec_l16Now.l1 : Nat → Int → Bool → Int → Int → List (S100) → List (S70) → Int → List (S100) → Int → Int → Int → Int → Int → Option (Int × (List (S100)))
 | 0, _, _, _, _, _, _, _, _, _, _, _, _, _ => none
 | k + 1, x4, x6, x7, x137000, x137001, x137002, x139000, x139001, x141000, x141001, x141002, x141003, x141004 => if x7 < (x137002.length : Int) then (if 0 ≤ x7 then (if ((rd_T70 x137002 x7).f1) = x4 then (spec_l16Now.j2 k x4 x6 x7 (decide (((rd_T70 x137002 x7).f2) < 0)) x137000 x137001 x137002 x139000 x139001 x141000 x141001 x141002 x141003 x141004) else (spec_l16Now.j2 k x4 x6 x7 false x137000 x137001 x137002 x139000 x139001 x141000 x141001 x141002 x141003 x141004)) else (none)) else (if x141002 > 99 then (if x6 = true then (spec_l16Now.l0 k (wrap64 (x4 + 1)) x137000 x137001 x137002 x139000 x139001) else (if x139001.length < 3518437208883 then (spec_l16Now.l0 k (wrap64 (x4 + 1)) x137000 x137001 x137002 x139000 (x139001 ++ [(⟨x141000, x141001, 99, x141003, x141004⟩ : S100)])) else (none))) else (if x6 = true then (spec_l16Now.l0 k (wrap64 (x4 + 1)) x137000 x137001 x137002 x139000 x139001) else (if x139001.length < 3518437208883 then (spec_l16Now.l0 k (wrap64 (x4 + 1)) x137000 x137001 x137002 x139000 (x139001 ++ [(⟨x141000, x141001, x141002, x141003, x141004⟩ : S100)])) else (none))))
def spec_l16Now.j2 : Nat → Int → Bool → Int → Bool → Int → List (S100) → List (S70) → Int → List (S100) → Int → Int → Int → Int → Int → Option (Int × (List (S100)))
 | 0, _, _, _, _, _, _, _, _, _, _, _, _, _, _ => none
 | k + 1, x4, x6, x7, x49, x137000, x137001, x137002, x139000, x139001, x141000, x141001, x141002, x141003, x141004 => if x49 = true then (spec_l16Now.l1 k x4 true (wrap64 (x7 + 1)) x137000 x137001 x137002 x139000 x139001 x141000 x141001 x141002 x141003 x141004) else (if 0 ≤ x7 then (if x7 < (x137002.length : Int) then (if ((rd_T70 x137002 x7).f1) = x4 then (spec_l16Now.l1 k x4 x6 (wrap64 (x7 + 1)) x137000 x137001 x137002 x139000 x139001 x141000 x141001 (wrap64 (x141002 + ((rd_T70 x137002 x7).f2))) x141003 x141004) else (spec_l16Now.l1 k x4 x6 (wrap64 (x7 + 1)) x137000 x137001 x137002 x139000 x139001 x141000 x141001 x141002 x141003 x141004)) else (none)) else (none))
end
def spec_l16Now.f (k : Nat) (a0_0 : Int) (l0_1 : List (S100)) (l0_2 : List (S70)) : Option (Int × (List (S100))) := spec_l16Now.l0 k 0 a0_0 l0_1 l0_2 a0_0 ([] : List (S100))
theorem spec_l16Now.mono_l : ∀ k, (∀ y0 y1 y2 y3 y4 y5, LeO (spec_l16Now.l0 k y0 y1 y2 y3 y4 y5) (spec_l16Now.l0 (k + 1) y0 y1 y2 y3 y4 y5)) ∧ (∀ y0 y1 y2 y3 y4 y5 y6 y7 y8 y9 y10 y11 y12, LeO (spec_l16Now.l1 k y0 y1 y2 y3 y4 y5 y6 y7 y8 y9 y10 y11 y12) (spec_l16Now.l1 (k + 1) y0 y1 y2 y3 y4 y5 y6 y7 y8 y9 y10 y11 y12)) ∧ (∀ y0 y1 y2 y3 y4 y5 y6 y7 y8 y9 y10 y11 y12 y13, LeO (spec_l16Now.j2 k y0 y1 y2 y3 y4 y5 y6 y7 y8 y9 y10 y11 y12 y13) (spec_l16Now.j2 (k + 1) y0 y1 y2 y3 y4 y5 y6 y7 y8 y9 y10 y11 y12 y13))
 | 0 => ⟨fun _ _ _ _ _ _ r h => by simp [spec_l16Now.l0] at h, fun _ _ _ _ _ _ _ _ _ _ _ _ _ r h => by simp [spec_l16Now.l1] at h, fun _ _ _ _ _ _ _ _ _ _ _ _ _ _ r h => by simp [spec_l16Now.j2] at h⟩
 | k + 1 => by
  obtain ⟨ih0, ih1, ih2⟩ := spec_l16Now.mono_l k
  refine ⟨?_, ?_, ?_⟩
  ·intro y0 y1 y2 y3 y4 y5
   unfold spec_l16Now.l0
   repeat' first
   | (with_reducible exact ih0 _ _ _ _ _ _)
   | (with_reducible exact ih1 _ _ _ _ _ _ _ _ _ _ _ _ _)
   | (with_reducible exact ih2 _ _ _ _ _ _ _ _ _ _ _ _ _ _)
   | (with_reducible exact LeO.refl _)
   | (with_reducible exact LeO.none _)
   | (with_reducible refine LeO.ite ?_ ?_)
   | (with_reducible refine LeO.bind ?_ (fun _ => ?_))
   | exact ih0 _ _ _ _ _ _
   | exact ih1 _ _ _ _ _ _ _ _ _ _ _ _ _
   | exact ih2 _ _ _ _ _ _ _ _ _ _ _ _ _ _
   | exact LeO.none _
   | refine LeO.ite ?_ ?_
   | refine LeO.bind ?_ (fun _ => ?_)
  ·intro y0 y1 y2 y3 y4 y5 y6 y7 y8 y9 y10 y11 y12
   unfold spec_l16Now.l1
   repeat' first
   | (with_reducible exact ih0 _ _ _ _ _ _)
   | (with_reducible exact ih1 _ _ _ _ _ _ _ _ _ _ _ _ _)
   | (with_reducible exact ih2 _ _ _ _ _ _ _ _ _ _ _ _ _ _)
   | (with_reducible exact LeO.refl _)
   | (with_reducible exact LeO.none _)
   | (with_reducible refine LeO.ite ?_ ?_)
   | (with_reducible refine LeO.bind ?_ (fun _ => ?_))
   | exact ih0 _ _ _ _ _ _
   | exact ih1 _ _ _ _ _ _ _ _ _ _ _ _ _
   | exact ih2 _ _ _ _ _ _ _ _ _ _ _ _ _ _
   | exact LeO.none _
   | refine LeO.ite ?_ ?_
   | refine LeO.bind ?_ (fun _ => ?_)
  ·intro y0 y1 y2 y3 y4 y5 y6 y7 y8 y9 y10 y11 y12 y13
   unfold spec_l16Now.j2
   repeat' first
   | (with_reducible exact ih0 _ _ _ _ _ _)
   | (with_reducible exact ih1 _ _ _ _ _ _ _ _ _ _ _ _ _)
   | (with_reducible exact ih2 _ _ _ _ _ _ _ _ _ _ _ _ _ _)
   | (with_reducible exact LeO.refl _)
   | (with_reducible exact LeO.none _)
   | (with_reducible refine LeO.ite ?_ ?_)
   | (with_reducible refine LeO.bind ?_ (fun _ => ?_))
   | exact ih0 _ _ _ _ _ _
   | exact ih1 _ _ _ _ _ _ _ _ _ _ _ _ _
   | exact ih2 _ _ _ _ _ _ _ _ _ _ _ _ _ _
   | exact LeO.none _
   | refine LeO.ite ?_ ?_
   | refine LeO.bind ?_ (fun _ => ?_)
theorem spec_l16Now.mono : ∀ a0 a1 a2 k, LeO (spec_l16Now.f k a0 a1 a2) (spec_l16Now.f (k + 1) a0 a1 a2) := by
 intro a0 a1 a2 k
 obtain ⟨ih0, ih1, ih2⟩ := spec_l16Now.mono_l k
 unfold spec_l16Now.f
 repeat' first
   | (with_reducible exact ih0 _ _ _ _ _ _)
   | (with_reducible exact ih1 _ _ _ _ _ _ _ _ _ _ _ _ _)
   | (with_reducible exact ih2 _ _ _ _ _ _ _ _ _ _ _ _ _ _)
   | (with_reducible exact LeO.refl _)
   | (with_reducible exact LeO.none _)
   | (with_reducible refine LeO.ite ?_ ?_)
   | (with_reducible refine LeO.bind ?_ (fun _ => ?_))
   | exact ih0 _ _ _ _ _ _
   | exact ih1 _ _ _ _ _ _ _ _ _ _ _ _ _
   | exact ih2 _ _ _ _ _ _ _ _ _ _ _ _ _ _
   | exact LeO.none _
   | refine LeO.ite ?_ ?_
   | refine LeO.bind ?_ (fun _ => ?_)
def spec_l16Now.T13 : Bool × List (List Nat × List Nat) := (true, [([], []), ([0], [0]), ([], []), ([2], [2]), ([], []), ([3, 4], [3, 4]), ([5], [5]), ([6], [6]), ([1, 7], [1, 7]), ([0, 1, 2, 3, 4, 5, 6, 7, 8], []), ([9, 8, 0, 1, 2, 3, 4, 5, 6, 7, 8], [8, 9])])
def spec_l16Now.B13 : List Nat := [0, 1, 0, 4, 0, 28, 60, 124, 255, 511, 1023]
theorem spec_l16Now.tab13 : rtab .any (opsOf Try.f76 13) = spec_l16Now.T13 := by kernel_rfl
theorem spec_l16Now.bits13 : waitsOk spec_l16Now.T13.2 spec_l16Now.B13 = true := by kernel_rfl
set_option maxHeartbeats 8000000 in
set_option maxRecDepth 100000 in
theorem spec_l16Now.calls (k : Nat) (a0_0 : Int) (A0_1 : Option Addr) (c0_1 : Nat) (l0_1 : List (S100)) (A0_2 : Option Addr) (c0_2 : Nat) (l0_2 : List (S70)) (r1 : Int) (r2 : List (S100)) (w : World) (hr0_1 : Kd.C k100 w A0_1 l0_1.length l0_1) (hc0_1 : l0_1.length ≤ c0_1) (hr0_2 : Kd.C k70 w A0_2 l0_2.length l0_2) (hc0_2 : l0_2.length ≤ c0_2) (h : spec_l16Now.f k a0_0 l0_1 l0_2 = some (r1, r2)) :
  Calls Try.prog 76 #[.agg #[.int .i64 a0_0, .slice A0_1 l0_1.length c0_1, .slice A0_2 l0_2.length c0_2]] w fun e w' => ∃ v1_ : Value, e = .returned (.agg #[.int .i64 r1, v1_]) ∧ Kd.R k100 100 w' w.heap.size (fun _ => True) v1_ r2 ∧ Below w.heap.size w w' := by
 have hu49 := Try.underlying49
 have hu30 := Try.underlying30
 have hu100 := Try.underlying100
 have HR0_1 := Aside0.mk hr0_1
 have HC0_1 := Aside0.mk hc0_1
 clear hr0_1 hc0_1
 have HR0_2 := Aside0.mk hr0_2
 have HC0_2 := Aside0.mk hc0_2
 clear hr0_2 hc0_2
 have HB := Aside0.mk (Below.refl w.heap.size w)
 have H : (spec_l16Now.l0 k 0 a0_0 l0_1 l0_2 a0_0 ([] : List (S100))) = some (r1, r2) := h
 clear h
 have H' := Aside0.mk H
 clear H
 go_enter Try.func76, Try.ntmps76
 go_wp2_with (first | ((with_reducible refine gate_dst (N := 1) rfl ?_); refine box_event ?hg (N := 1) ?hd (cs := #[.int .i64 a0_0, .slice A0_1 l0_1.length c0_1, .slice A0_2 l0_2.length c0_2]) (t := 49) ?hr ?_; (case hd => rfl); (case hg => rfl); (case hr => first | (go_simp; done) | (go_simp; rfl)); intro gb136 hg w2 hbox hb; have BK136 := Aside0.mk (hbox); have GW136 := Aside0.mk ((by rw [hg]; exact (below_size (bl HB)) : w.heap.size ≤ gb136)); have GE136 := Aside0.mk ((by rw [hg]; exact (below_size (bl HB)) : w.heap.size ≤ gb136)); replace HB := Aside0.mk (below_step (bl HB) hb); clear hb hbox hg) | ((with_reducible refine gate_dst (N := 2) rfl ?_); refine box_event ?hg (N := 2) ?hd (cs := #[.int .i64 0, .slice none 0 0]) (t := 30) ?hr ?_; (case hd => rfl); (case hg => rfl); (case hr => first | (go_simp; done) | (go_simp; rfl)); intro gb137 hg w3 hbox hb; have BK137 := Aside0.mk (hbox); have GW137 := Aside0.mk ((by rw [hg]; exact (below_size (bl1 HB GE136)) : w.heap.size ≤ gb137)); have GE137 := Aside0.mk ((by rw [hg]; exact (below_size (bl1 HB GE136)) : w.heap.size ≤ gb137)); replace HB := Aside0.mk (below_step (bl1 HB GE136) hb); have NB136_137 := Aside0.mk ((by rw [hg]; exact Nat.ne_of_lt (blk_lt (bk BK136)) : gb136 ≠ gb137)); have NB137_136 := Aside0.mk ((by rw [hg]; exact Nat.ne_of_gt (blk_lt (bk BK136)) : gb137 ≠ gb136)); replace BK136 := Aside0.mk (blk_below (bk BK136) hb); clear hb hbox hg; have hnb4 := NB136_137.out; have hnc4 := NB137_136.out; have hcz5_0 : w3.cell? ⟨gb136, 0, none⟩ = some (.int .i64 a0_0) := (blk_cell BK136.out 0).trans rfl; have hcz5_1 : w3.cell? ⟨gb136, 1, none⟩ = some (.slice A0_1 l0_1.length c0_1) := (blk_cell BK136.out 1).trans rfl; have hcz5_2 : w3.cell? ⟨gb136, 2, none⟩ = some (.slice A0_2 l0_2.length c0_2) := (blk_cell BK136.out 2).trans rfl; have hfz5_0 := blk_frozen BK136.out 0; have hfz5_1 := blk_frozen BK136.out 1; have hfz5_2 := blk_frozen BK136.out 2) | ((with_reducible refine gate_dst (N := 3) rfl ?_); refine box_event ?hg (N := 3) ?hd (cs := #[.int .i64 0, .slice none 0 0]) (t := 30) ?hr ?_; (case hd => rfl); (case hg => rfl); (case hr => first | (go_simp; done) | (go_simp; rfl)); intro gb138 hg w6 hbox hb; have BK138 := Aside0.mk (hbox); have GW138 := Aside0.mk ((by rw [hg]; exact (below_size (bl2 HB GE136 GE137)) : w.heap.size ≤ gb138)); have GE138 := Aside0.mk ((by rw [hg]; exact (below_size (bl2 HB GE136 GE137)) : w.heap.size ≤ gb138)); replace HB := Aside0.mk (below_step (bl2 HB GE136 GE137) hb); have NB136_138 := Aside0.mk ((by rw [hg]; exact Nat.ne_of_lt (blk_lt (bk BK136)) : gb136 ≠ gb138)); have NB138_136 := Aside0.mk ((by rw [hg]; exact Nat.ne_of_gt (blk_lt (bk BK136)) : gb138 ≠ gb136)); replace BK136 := Aside0.mk (blk_below (bk BK136) hb); have NB137_138 := Aside0.mk ((by rw [hg]; exact Nat.ne_of_lt (blk_lt (bk BK137)) : gb137 ≠ gb138)); have NB138_137 := Aside0.mk ((by rw [hg]; exact Nat.ne_of_gt (blk_lt (bk BK137)) : gb138 ≠ gb137)); replace BK137 := Aside0.mk (blk_below (bk BK137) hb); clear hb hbox hg; have hnb7 := NB138_136.out; have hnc7 := NB136_138.out; have hnb8 := NB138_137.out; have hnc8 := NB137_138.out; have hcz9_0 : w6.cell? ⟨gb138, 0, none⟩ = some (.int .i64 0) := (blk_cell BK138.out 0).trans rfl; have hcz9_1 : w6.cell? ⟨gb138, 1, none⟩ = some (.slice none 0 0) := (blk_cell BK138.out 1).trans rfl; have hfz9_0 := blk_frozen BK138.out 0; have hfz9_1 := blk_frozen BK138.out 1))
 go_loopg [4] k (fun kq v4 w' => ∃ (x4_1 : Int) (x139001_1 : List (S100)) (u139001 : Value), v4 = .int .i64 x4_1 ∧ Aside0 (spec_l16Now.l0 kq x4_1 a0_0 l0_1 l0_2 a0_0 x139001_1 = some (r1, r2)) ∧ Aside0 (kq ≤ k) ∧ Aside0 (Kd.R k100 100 w' w.heap.size (fun _ => True) u139001 x139001_1) ∧ Aside0 (w'.heap[gb136]? = some (.cells #[.int .i64 a0_0, (.slice A0_1 l0_1.length c0_1), (.slice A0_2 l0_2.length c0_2)] 49 (0, 0))) ∧ Aside0 (w'.heap[gb137]? = some (.cells #[.int .i64 0, (.slice none 0 0)] 30 (0, 0))) ∧ Aside0 (w'.heap[gb138]? = some (.cells #[.int .i64 a0_0, u139001] 30 (0, 0))) ∧ Aside0 (Below w.heap.size w w'))
 case atStart => exact ⟨(0), (([] : List (S100))), (.slice none 0 0), (by first | rfl | (simp; done) | (simp [*]; done)), H', ⟨Nat.le_refl _⟩, ⟨by first | exact Kd.R_nil _ _ _ _ _ | exact Kd.N_nil _ _ _ _ _ | exact Kd.V_nil _ _ _ _ _ | exact Kd.Q_nil _ _ _ _ _ | exact Kd.S_nil _ _ _ _ _⟩, ⟨by (with_reducible repeat (first | refine blk_drewN ?_ _ | refine blk_drew ?_ | refine blk_alloc ?_ _)); refine blk_far ?_ NB136_138.out _; refine blk_far ?_ NB136_138.out _; (with_reducible repeat (first | refine blk_drewN ?_ _ | refine blk_drew ?_ | refine blk_alloc ?_ _)); exact BK136.out⟩, ⟨by (with_reducible repeat (first | refine blk_drewN ?_ _ | refine blk_drew ?_ | refine blk_alloc ?_ _)); refine blk_far ?_ NB137_138.out _; refine blk_far ?_ NB137_138.out _; (with_reducible repeat (first | refine blk_drewN ?_ _ | refine blk_drew ?_ | refine blk_alloc ?_ _)); exact BK137.out⟩, ⟨by (with_reducible repeat (first | refine blk_drewN ?_ _ | refine blk_drew ?_ | refine blk_alloc ?_ _)); refine blk_put (cs := #[.int .i64 a0_0, .slice none 0 0]) ?_ 1 _ rfl; refine blk_put (cs := #[.int .i64 0, .slice none 0 0]) ?_ 0 _ rfl; (with_reducible repeat (first | refine blk_drewN ?_ _ | refine blk_drew ?_ | refine blk_alloc ?_ _)); exact BK138.out⟩, ⟨bl3 HB GE136 GE137 GE138⟩⟩
 clear H'
 try clear p2
 try clear c4
 try clear c7
 try clear c8
 try clear hcz5_0
 try clear hcz5_1
 try clear hcz5_2
 try clear hcz9_0
 try clear hcz9_1
 try clear hfz5_0
 try clear hfz5_1
 try clear hfz5_2
 try clear hfz9_0
 try clear hfz9_1
 obtain ⟨x4_1, x139001_1, u139001, rfl, HA, HK1, HO_139001, BK136, BK137, BK138, HB⟩ := hrel
 cases gk with
 | zero => exact absurd HA.out (by simp [spec_l16Now.l0])
 | succ k1 =>
  have H := HA.out
  clear HA
  simp only [spec_l16Now.l0] at H
  by_cases c10 : x4_1 < (l0_1.length : Int)
  ·rw [if_pos c10] at H
   have c10b0 : decide (x4_1 < (l0_1.length : Int)) = true := decide_eq_true c10
   clear c10
   by_cases c11 : 0 ≤ x4_1
   ·rw [if_pos c11] at H
    have c11b0 : decide (0 ≤ x4_1) = true := decide_eq_true c11
    clear c11
    have H' := Aside0.mk H
    clear H
    have hnb12 := NB136_137.out
    have hnc12 := NB137_136.out
    have hnb13 := NB136_138.out
    have hnc13 := NB138_136.out
    have hcz14_0 : wr.cell? ⟨gb136, 0, none⟩ = some (.int .i64 a0_0) := (blk_cell BK136.out 0).trans rfl
    have hcz14_1 : wr.cell? ⟨gb136, 1, none⟩ = some (.slice A0_1 l0_1.length c0_1) := (blk_cell BK136.out 1).trans rfl
    have hcz14_2 : wr.cell? ⟨gb136, 2, none⟩ = some (.slice A0_2 l0_2.length c0_2) := (blk_cell BK136.out 2).trans rfl
    have hfz14_0 := blk_frozen BK136.out 0
    have hfz14_1 := blk_frozen BK136.out 1
    have hfz14_2 := blk_frozen BK136.out 2
    have p139 : 0 ≤ (x4_1 : Int) := oT (by first | (with_reducible assumption) | assumption)
    have q139 : x4_1 < (l0_1.length : Int) := oT (by first | (with_reducible assumption) | assumption)
    obtain ⟨ad139, e139, hx139_0, hx139_1, hx139_2, hx139_3, hx139_4⟩ := at_T100 HR0_1.out x4_1 p139 q139
    cases e139
    replace hx139_0 := hcb HB.out hx139_0
    replace hx139_1 := hcb HB.out hx139_1
    replace hx139_2 := hcb HB.out hx139_2
    replace hx139_3 := hcb HB.out hx139_3
    replace hx139_4 := hcb HB.out hx139_4
    replace p139 := eq_true p139
    replace q139 := eq_true q139
    go_wp2_with (first | ((with_reducible refine gate_dst (N := 5) rfl ?_); refine box_event ?hg (N := 5) ?hd (cs := #[.int .i64 0, .int .i64 0, .int .i64 0, .int .i64 0, .int .i64 0]) (t := 100) ?hr ?_; (case hd => rfl); (case hg => rfl); (case hr => first | (go_simp; done) | (go_simp; rfl)); intro gb140 hg w15 hbox hb; replace HO_139001 := Aside0.mk (Kd.R_below (Kd.R_elderB (rk HO_139001) gb140 (Nat.le_of_eq hg.symm)) hb); have BK140 := Aside0.mk (hbox); have GW140 := Aside0.mk ((by rw [hg]; exact (below_size (bl3 HB GE136 GE137 GE138)) : w.heap.size ≤ gb140)); have GE140 := Aside0.mk ((by rw [hg]; exact (below_size (bl3 HB GE136 GE137 GE138)) : w.heap.size ≤ gb140)); replace HB := Aside0.mk (below_step (bl3 HB GE136 GE137 GE138) hb); have NB136_140 := Aside0.mk ((by rw [hg]; exact Nat.ne_of_lt (blk_lt (bk BK136)) : gb136 ≠ gb140)); have NB140_136 := Aside0.mk ((by rw [hg]; exact Nat.ne_of_gt (blk_lt (bk BK136)) : gb140 ≠ gb136)); replace BK136 := Aside0.mk (blk_below (bk BK136) hb); have NB137_140 := Aside0.mk ((by rw [hg]; exact Nat.ne_of_lt (blk_lt (bk BK137)) : gb137 ≠ gb140)); have NB140_137 := Aside0.mk ((by rw [hg]; exact Nat.ne_of_gt (blk_lt (bk BK137)) : gb140 ≠ gb137)); replace BK137 := Aside0.mk (blk_below (bk BK137) hb); have NB138_140 := Aside0.mk ((by rw [hg]; exact Nat.ne_of_lt (blk_lt (bk BK138)) : gb138 ≠ gb140)); have NB140_138 := Aside0.mk ((by rw [hg]; exact Nat.ne_of_gt (blk_lt (bk BK138)) : gb140 ≠ gb138)); replace BK138 := Aside0.mk (blk_below (bk BK138) hb); clear hb hbox hg; have hnb16 := NB140_136.out; have hnc16 := NB136_140.out; have hnb17 := NB140_137.out; have hnc17 := NB137_140.out; have hnb18 := NB140_138.out; have hnc18 := NB138_140.out; have hcz19_0 : w15.cell? ⟨gb140, 0, none⟩ = some (.int .i64 0) := (blk_cell BK140.out 0).trans rfl; have hcz19_1 : w15.cell? ⟨gb140, 1, none⟩ = some (.int .i64 0) := (blk_cell BK140.out 1).trans rfl; have hcz19_2 : w15.cell? ⟨gb140, 2, none⟩ = some (.int .i64 0) := (blk_cell BK140.out 2).trans rfl; have hcz19_3 : w15.cell? ⟨gb140, 3, none⟩ = some (.int .i64 0) := (blk_cell BK140.out 3).trans rfl; have hcz19_4 : w15.cell? ⟨gb140, 4, none⟩ = some (.int .i64 0) := (blk_cell BK140.out 4).trans rfl; have hfz19_0 := blk_frozen BK140.out 0; have hfz19_1 := blk_frozen BK140.out 1; have hfz19_2 := blk_frozen BK140.out 2; have hfz19_3 := blk_frozen BK140.out 3; have hfz19_4 := blk_frozen BK140.out 4))
    go_loopg [6, 7] k1 (fun kq v6 v7 w' => ∃ (x6_2 : Bool) (x7_2 : Int) (x141002_2 : Int), v6 = .bool x6_2 ∧ v7 = .int .i64 x7_2 ∧ Aside0 (spec_l16Now.l1 kq x4_1 x6_2 x7_2 a0_0 l0_1 l0_2 a0_0 x139001_1 ((rd_T100 l0_1 x4_1).f0) ((rd_T100 l0_1 x4_1).f1) x141002_2 ((rd_T100 l0_1 x4_1).f3) ((rd_T100 l0_1 x4_1).f4) = some (r1, r2)) ∧ Aside0 (kq ≤ k1) ∧ Aside0 (Kd.R k100 100 w' w.heap.size (fun k_ => k_ ≠ gb140) u139001 x139001_1) ∧ Aside0 (w'.heap[gb136]? = some (.cells #[.int .i64 a0_0, (.slice (some ad139) l0_1.length c0_1), (.slice A0_2 l0_2.length c0_2)] 49 (0, 0))) ∧ Aside0 (w'.heap[gb137]? = some (.cells #[.int .i64 0, (.slice none 0 0)] 30 (0, 0))) ∧ Aside0 (w'.heap[gb138]? = some (.cells #[.int .i64 a0_0, u139001] 30 (0, 0))) ∧ Aside0 (w'.heap[gb140]? = some (.cells #[.int .i64 ((rd_T100 l0_1 x4_1).f0), .int .i64 ((rd_T100 l0_1 x4_1).f1), .int .i64 x141002_2, .int .i64 ((rd_T100 l0_1 x4_1).f3), .int .i64 ((rd_T100 l0_1 x4_1).f4)] 100 (0, 0))) ∧ Aside0 (Below w.heap.size w w'))
    case atStart => exact ⟨(false), (0), ((rd_T100 l0_1 x4_1).f2), (by first | rfl | (simp; done) | (simp [*]; done)), (by first | rfl | (simp; done) | (simp [*]; done)), H', ⟨Nat.le_refl _⟩, ⟨by (with_reducible repeat (first | apply Kd.R_alloc | apply Kd.R_drewN | apply Kd.R_drew)); exact Kd.R_mono (Kd.R_far (p := ⟨gb140, 4, none⟩) (Kd.R_far (p := ⟨gb140, 3, none⟩) (Kd.R_far (p := ⟨gb140, 2, none⟩) (Kd.R_far (p := ⟨gb140, 1, none⟩) (Kd.R_far (p := ⟨gb140, 0, none⟩) (Kd.R_mono HO_139001.out (fun k_ hk => (⟨hk, hk.2⟩ : _ ∧ k_ ≠ gb140))) (fun _ hk => hk.2) (.int .i64 ((rd_T100 l0_1 x4_1).f0))) (fun _ hk => hk.2) (.int .i64 ((rd_T100 l0_1 x4_1).f1))) (fun _ hk => hk.2) (.int .i64 ((rd_T100 l0_1 x4_1).f2))) (fun _ hk => hk.2) (.int .i64 ((rd_T100 l0_1 x4_1).f3))) (fun _ hk => hk.2) (.int .i64 ((rd_T100 l0_1 x4_1).f4))) (fun _ hk => hk.1.2)⟩, ⟨by (with_reducible repeat (first | refine blk_drewN ?_ _ | refine blk_drew ?_ | refine blk_alloc ?_ _)); refine blk_far ?_ NB136_140.out _; refine blk_far ?_ NB136_140.out _; refine blk_far ?_ NB136_140.out _; refine blk_far ?_ NB136_140.out _; refine blk_far ?_ NB136_140.out _; (with_reducible repeat (first | refine blk_drewN ?_ _ | refine blk_drew ?_ | refine blk_alloc ?_ _)); exact BK136.out⟩, ⟨by (with_reducible repeat (first | refine blk_drewN ?_ _ | refine blk_drew ?_ | refine blk_alloc ?_ _)); refine blk_far ?_ NB137_140.out _; refine blk_far ?_ NB137_140.out _; refine blk_far ?_ NB137_140.out _; refine blk_far ?_ NB137_140.out _; refine blk_far ?_ NB137_140.out _; (with_reducible repeat (first | refine blk_drewN ?_ _ | refine blk_drew ?_ | refine blk_alloc ?_ _)); exact BK137.out⟩, ⟨by (with_reducible repeat (first | refine blk_drewN ?_ _ | refine blk_drew ?_ | refine blk_alloc ?_ _)); refine blk_far ?_ NB138_140.out _; refine blk_far ?_ NB138_140.out _; refine blk_far ?_ NB138_140.out _; refine blk_far ?_ NB138_140.out _; refine blk_far ?_ NB138_140.out _; (with_reducible repeat (first | refine blk_drewN ?_ _ | refine blk_drew ?_ | refine blk_alloc ?_ _)); exact BK138.out⟩, ⟨by (with_reducible repeat (first | refine blk_drewN ?_ _ | refine blk_drew ?_ | refine blk_alloc ?_ _)); refine blk_put (cs := #[.int .i64 ((rd_T100 l0_1 x4_1).f0), .int .i64 ((rd_T100 l0_1 x4_1).f1), .int .i64 ((rd_T100 l0_1 x4_1).f2), .int .i64 ((rd_T100 l0_1 x4_1).f3), .int .i64 0]) ?_ 4 _ rfl; refine blk_put (cs := #[.int .i64 ((rd_T100 l0_1 x4_1).f0), .int .i64 ((rd_T100 l0_1 x4_1).f1), .int .i64 ((rd_T100 l0_1 x4_1).f2), .int .i64 0, .int .i64 0]) ?_ 3 _ rfl; refine blk_put (cs := #[.int .i64 ((rd_T100 l0_1 x4_1).f0), .int .i64 ((rd_T100 l0_1 x4_1).f1), .int .i64 0, .int .i64 0, .int .i64 0]) ?_ 2 _ rfl; refine blk_put (cs := #[.int .i64 ((rd_T100 l0_1 x4_1).f0), .int .i64 0, .int .i64 0, .int .i64 0, .int .i64 0]) ?_ 1 _ rfl; refine blk_put (cs := #[.int .i64 0, .int .i64 0, .int .i64 0, .int .i64 0, .int .i64 0]) ?_ 0 _ rfl; (with_reducible repeat (first | refine blk_drewN ?_ _ | refine blk_drew ?_ | refine blk_alloc ?_ _)); exact BK140.out⟩, ⟨bl4 HB GE136 GE137 GE138 GE140⟩⟩
    case round =>
     clear H'
     try clear c1
     try clear p1
     try clear q1
     try clear hx1
     try clear p2
     try clear c4
     try clear c7
     try clear c8
     try clear c10
     try clear c10b0
     try clear c11
     try clear c11b0
     try clear c12
     try clear c13
     try clear p13
     try clear q13
     try clear hx13
     try clear c16
     try clear c17
     try clear c18
     try clear hcz14_0
     try clear hcz14_1
     try clear hcz14_2
     try clear hcz19_0
     try clear hcz19_1
     try clear hcz19_2
     try clear hcz19_3
     try clear hcz19_4
     try clear hcz5_0
     try clear hcz5_1
     try clear hcz5_2
     try clear hcz9_0
     try clear hcz9_1
     try clear hfz14_0
     try clear hfz14_1
     try clear hfz14_2
     try clear hfz19_0
     try clear hfz19_1
     try clear hfz19_2
     try clear hfz19_3
     try clear hfz19_4
     try clear hfz5_0
     try clear hfz5_1
     try clear hfz5_2
     try clear hfz9_0
     try clear hfz9_1
     try clear hx139_0
     try clear hx139_1
     try clear hx139_2
     try clear hx139_3
     try clear hx139_4
     try clear p139
     try clear p2
     try clear q139
     obtain ⟨x6_2, x7_2, x141002_2, rfl, rfl, HA, HK2, HO_139001, BK136, BK137, BK138, BK140, HB⟩ := hrel
     cases gk with
     | zero => exact absurd HA.out (by simp [spec_l16Now.l1])
     | succ k2 =>
      have H := HA.out
      clear HA
      simp only [spec_l16Now.l1] at H
      by_cases c20 : x7_2 < (l0_2.length : Int)
      ·rw [if_pos c20] at H
       have c20b0 : decide (x7_2 < (l0_2.length : Int)) = true := decide_eq_true c20
       clear c20
       have HC21 := Aside0.mk H
       clear H
       have hnb22 := NB136_137.out
       have hnc22 := NB137_136.out
       have hnb23 := NB136_138.out
       have hnc23 := NB138_136.out
       have hnb24 := NB136_140.out
       have hnc24 := NB140_136.out
       have hcz25_0 : wr.cell? ⟨gb136, 0, none⟩ = some (.int .i64 a0_0) := (blk_cell BK136.out 0).trans rfl
       have hcz25_1 : wr.cell? ⟨gb136, 1, none⟩ = some (.slice (some ad139) l0_1.length c0_1) := (blk_cell BK136.out 1).trans rfl
       have hcz25_2 : wr.cell? ⟨gb136, 2, none⟩ = some (.slice A0_2 l0_2.length c0_2) := (blk_cell BK136.out 2).trans rfl
       have hfz25_0 := blk_frozen BK136.out 0
       have hfz25_1 := blk_frozen BK136.out 1
       have hfz25_2 := blk_frozen BK136.out 2
       go_upto_region 10 with (fail)
       go_cut [49] (fun v49 wc => ∃ (kq : Nat) (x49_20 : Bool), v49 = .bool x49_20 ∧ Aside0 (spec_l16Now.j2 kq x4_1 x6_2 x7_2 x49_20 a0_0 l0_1 l0_2 a0_0 x139001_1 ((rd_T100 l0_1 x4_1).f0) ((rd_T100 l0_1 x4_1).f1) x141002_2 ((rd_T100 l0_1 x4_1).f3) ((rd_T100 l0_1 x4_1).f4) = some (r1, r2)) ∧ Aside0 (kq ≤ k2) ∧ Aside0 (Kd.R k100 100 wc w.heap.size (fun k_ => k_ ≠ gb140) u139001 x139001_1) ∧ Aside0 (wc.heap[gb136]? = some (.cells #[.int .i64 a0_0, (.slice (some ad139) l0_1.length c0_1), (.slice A0_2 l0_2.length c0_2)] 49 (0, 0))) ∧ Aside0 (wc.heap[gb137]? = some (.cells #[.int .i64 0, (.slice none 0 0)] 30 (0, 0))) ∧ Aside0 (wc.heap[gb138]? = some (.cells #[.int .i64 a0_0, u139001] 30 (0, 0))) ∧ Aside0 (wc.heap[gb140]? = some (.cells #[.int .i64 ((rd_T100 l0_1 x4_1).f0), .int .i64 ((rd_T100 l0_1 x4_1).f1), .int .i64 x141002_2, .int .i64 ((rd_T100 l0_1 x4_1).f3), .int .i64 ((rd_T100 l0_1 x4_1).f4)] 100 (0, 0))) ∧ Aside0 (Below w.heap.size w wc))
       case first =>
        have H := HC21.out
        clear HC21
        by_cases c26 : 0 ≤ x7_2
        ·rw [if_pos c26] at H
         have c26b0 : decide (0 ≤ x7_2) = true := decide_eq_true c26
         clear c26
         (first | rw [c26b0] | (simp only [i64_w, i32_w]; rw [c26b0]) | skip)
         by_cases c27 : ((rd_T70 l0_2 x7_2).f1) = x4_1
         ·rw [if_pos c27] at H
          have c27b0 : (((rd_T70 l0_2 x7_2).f1) == x4_1) = true := beq_iff_eq.mpr c27
          have c27b1 : (((rd_T70 l0_2 x7_2).f1) != x4_1) = false := bne_eq_false_iff_eq.mpr c27
          clear c27
          have H' := Aside0.mk H
          clear H
          have hnb28 := NB136_137.out
          have hnc28 := NB137_136.out
          have hnb29 := NB136_138.out
          have hnc29 := NB138_136.out
          have hnb30 := NB136_140.out
          have hnc30 := NB140_136.out
          have hcz31_0 : wr.cell? ⟨gb136, 0, none⟩ = some (.int .i64 a0_0) := (blk_cell BK136.out 0).trans rfl
          have hcz31_1 : wr.cell? ⟨gb136, 1, none⟩ = some (.slice (some ad139) l0_1.length c0_1) := (blk_cell BK136.out 1).trans rfl
          have hcz31_2 : wr.cell? ⟨gb136, 2, none⟩ = some (.slice A0_2 l0_2.length c0_2) := (blk_cell BK136.out 2).trans rfl
          have hfz31_0 := blk_frozen BK136.out 0
          have hfz31_1 := blk_frozen BK136.out 1
          have hfz31_2 := blk_frozen BK136.out 2
          have p141 : 0 ≤ (x7_2 : Int) := oT (by first | (with_reducible assumption) | assumption)
          have q141 : x7_2 < (l0_2.length : Int) := oT (by first | (with_reducible assumption) | assumption)
          obtain ⟨ad141, e141, hx141_0, hx141_1, hx141_2⟩ := at_T70 HR0_2.out x7_2 p141 q141
          cases e141
          replace hx141_0 := hcb HB.out hx141_0
          replace hx141_1 := hcb HB.out hx141_1
          replace hx141_2 := hcb HB.out hx141_2
          replace p141 := eq_true p141
          replace q141 := eq_true q141
          have p142 : 0 ≤ (x7_2 : Int) := oT (by first | (with_reducible assumption) | assumption)
          have q142 : x7_2 < (l0_2.length : Int) := oT (by first | (with_reducible assumption) | assumption)
          obtain ⟨ad142, e142, hx142_0, hx142_1, hx142_2⟩ := at_T70 HR0_2.out x7_2 p142 q142
          obtain rfl : ad141 = ad142 := (by injection e142)
          replace hx142_0 := hcb HB.out hx142_0
          replace hx142_1 := hcb HB.out hx142_1
          replace hx142_2 := hcb HB.out hx142_2
          replace p142 := eq_true p142
          replace q142 := eq_true q142
          go_wp2
          go_meet
          case rel => exact ⟨_, (decide (((rd_T70 l0_2 x7_2).f2) < 0)), (by first | rfl | (simp; done) | (simp [*]; done)), H', ⟨by have := HK1.out; have := HK2.out; first | omega | exact Nat.le_refl _⟩, ⟨rk HO_139001⟩, ⟨bk BK136⟩, ⟨bk BK137⟩, ⟨bk BK138⟩, ⟨bk BK140⟩, ⟨bl4 HB GE136 GE137 GE138 GE140⟩⟩
         ·rw [if_neg c27] at H
          have c27b0 : (((rd_T70 l0_2 x7_2).f1) == x4_1) = false := beq_eq_false_iff_ne.mpr c27
          have c27b1 : (((rd_T70 l0_2 x7_2).f1) != x4_1) = true := bne_iff_ne.mpr c27
          have H' := Aside0.mk H
          clear H
          have hnb32 := NB136_137.out
          have hnc32 := NB137_136.out
          have hnb33 := NB136_138.out
          have hnc33 := NB138_136.out
          have hnb34 := NB136_140.out
          have hnc34 := NB140_136.out
          have hcz35_0 : wr.cell? ⟨gb136, 0, none⟩ = some (.int .i64 a0_0) := (blk_cell BK136.out 0).trans rfl
          have hcz35_1 : wr.cell? ⟨gb136, 1, none⟩ = some (.slice (some ad139) l0_1.length c0_1) := (blk_cell BK136.out 1).trans rfl
          have hcz35_2 : wr.cell? ⟨gb136, 2, none⟩ = some (.slice A0_2 l0_2.length c0_2) := (blk_cell BK136.out 2).trans rfl
          have hfz35_0 := blk_frozen BK136.out 0
          have hfz35_1 := blk_frozen BK136.out 1
          have hfz35_2 := blk_frozen BK136.out 2
          have p141 : 0 ≤ (x7_2 : Int) := oT (by first | (with_reducible assumption) | assumption)
          have q141 : x7_2 < (l0_2.length : Int) := oT (by first | (with_reducible assumption) | assumption)
          obtain ⟨ad141, e141, hx141_0, hx141_1, hx141_2⟩ := at_T70 HR0_2.out x7_2 p141 q141
          cases e141
          replace hx141_0 := hcb HB.out hx141_0
          replace hx141_1 := hcb HB.out hx141_1
          replace hx141_2 := hcb HB.out hx141_2
          replace p141 := eq_true p141
          replace q141 := eq_true q141
          go_wp2
          go_meet
          case rel => exact ⟨_, (false), (by first | rfl | (simp; done) | (simp [*]; done)), H', ⟨by have := HK1.out; have := HK2.out; first | omega | exact Nat.le_refl _⟩, ⟨rk HO_139001⟩, ⟨bk BK136⟩, ⟨bk BK137⟩, ⟨bk BK138⟩, ⟨bk BK140⟩, ⟨bl4 HB GE136 GE137 GE138 GE140⟩⟩
        ·rw [if_neg c26] at H
         exact absurd H (by simp)
       case rest =>
        clear HC21
        try clear c1
        try clear p1
        try clear q1
        try clear hx1
        try clear c2
        try clear p2
        try clear c3
        try clear c4
        try clear c7
        try clear c8
        try clear c10
        try clear c10b0
        try clear c11
        try clear c11b0
        try clear c12
        try clear c13
        try clear p13
        try clear q13
        try clear hx13
        try clear p14
        try clear q14
        try clear hx14
        try clear c16
        try clear c17
        try clear c18
        try clear c20
        try clear c20b0
        try clear c22
        try clear c23
        try clear c24
        try clear c26
        try clear c26b0
        try clear c27
        try clear c27b0
        try clear c27b1
        try clear c28
        try clear c29
        try clear c30
        try clear c32
        try clear c33
        try clear c34
        try clear hcz14_0
        try clear hcz14_1
        try clear hcz14_2
        try clear hcz19_0
        try clear hcz19_1
        try clear hcz19_2
        try clear hcz19_3
        try clear hcz19_4
        try clear hcz25_0
        try clear hcz25_1
        try clear hcz25_2
        try clear hcz31_0
        try clear hcz31_1
        try clear hcz31_2
        try clear hcz35_0
        try clear hcz35_1
        try clear hcz35_2
        try clear hcz5_0
        try clear hcz5_1
        try clear hcz5_2
        try clear hcz9_0
        try clear hcz9_1
        try clear hfz14_0
        try clear hfz14_1
        try clear hfz14_2
        try clear hfz19_0
        try clear hfz19_1
        try clear hfz19_2
        try clear hfz19_3
        try clear hfz19_4
        try clear hfz25_0
        try clear hfz25_1
        try clear hfz25_2
        try clear hfz31_0
        try clear hfz31_1
        try clear hfz31_2
        try clear hfz35_0
        try clear hfz35_1
        try clear hfz35_2
        try clear hfz5_0
        try clear hfz5_1
        try clear hfz5_2
        try clear hfz9_0
        try clear hfz9_1
        try clear hx139_0
        try clear hx139_1
        try clear hx139_2
        try clear hx139_3
        try clear hx139_4
        try clear hx141_0
        try clear hx141_1
        try clear hx141_2
        try clear hx142_0
        try clear hx142_1
        try clear hx142_2
        try clear p1
        try clear p13
        try clear p139
        try clear p141
        try clear p142
        try clear p2
        try clear q1
        try clear q13
        try clear q139
        try clear q141
        try clear q142
        obtain ⟨kq, x49_20, rfl, HA, HJ20, HO_139001, BK136, BK137, BK138, BK140, HB⟩ := hcut
        cases kq with
        | zero => exact absurd HA.out (by simp [spec_l16Now.j2])
        | succ kj20 =>
         have H := HA.out
         clear HA
         simp only [spec_l16Now.j2] at H
         by_cases c36 : x49_20 = true
         ·subst c36
          rw [if_pos rfl] at H
          have H' := Aside0.mk H
          clear H
          go_wp2
          go_roundg kj20
          case measure => have := HK1.out; have := HK2.out; have := HJ20.out; omega
          case rel => exact ⟨(true), (wrap64 (x7_2 + 1)), (x141002_2), (by first | rfl | (simp; done) | (simp [*]; done)), (by first | rfl | (simp; done) | (simp [*]; done)), H', ⟨by have := HK1.out; have := HK2.out; have := HJ20.out; omega⟩, ⟨rk HO_139001⟩, ⟨bk BK136⟩, ⟨bk BK137⟩, ⟨bk BK138⟩, ⟨bk BK140⟩, ⟨bl4 HB GE136 GE137 GE138 GE140⟩⟩
         ·replace c36 := Bool.eq_false_iff.mpr c36
          subst c36
          rw [if_neg (show ¬ (false = true) by decide)] at H
          by_cases c37 : 0 ≤ x7_2
          ·rw [if_pos c37] at H
           have c37b0 : decide (0 ≤ x7_2) = true := decide_eq_true c37
           clear c37
           by_cases c38 : x7_2 < (l0_2.length : Int)
           ·rw [if_pos c38] at H
            have c38b0 : decide (x7_2 < (l0_2.length : Int)) = true := decide_eq_true c38
            clear c38
            by_cases c39 : ((rd_T70 l0_2 x7_2).f1) = x4_1
            ·rw [if_pos c39] at H
             have c39b0 : (((rd_T70 l0_2 x7_2).f1) == x4_1) = true := beq_iff_eq.mpr c39
             have c39b1 : (((rd_T70 l0_2 x7_2).f1) != x4_1) = false := bne_eq_false_iff_eq.mpr c39
             clear c39
             have H' := Aside0.mk H
             clear H
             have hnb40 := NB136_137.out
             have hnc40 := NB137_136.out
             have hnb41 := NB136_138.out
             have hnc41 := NB138_136.out
             have hnb42 := NB136_140.out
             have hnc42 := NB140_136.out
             have hcz43_0 : wc.cell? ⟨gb136, 0, none⟩ = some (.int .i64 a0_0) := (blk_cell BK136.out 0).trans rfl
             have hcz43_1 : wc.cell? ⟨gb136, 1, none⟩ = some (.slice (some ad139) l0_1.length c0_1) := (blk_cell BK136.out 1).trans rfl
             have hcz43_2 : wc.cell? ⟨gb136, 2, none⟩ = some (.slice A0_2 l0_2.length c0_2) := (blk_cell BK136.out 2).trans rfl
             have hfz43_0 := blk_frozen BK136.out 0
             have hfz43_1 := blk_frozen BK136.out 1
             have hfz43_2 := blk_frozen BK136.out 2
             have p143 : 0 ≤ (x7_2 : Int) := oT (by first | (with_reducible assumption) | assumption)
             have q143 : x7_2 < (l0_2.length : Int) := oT (by first | (with_reducible assumption) | assumption)
             obtain ⟨ad143, e143, hx143_0, hx143_1, hx143_2⟩ := at_T70 HR0_2.out x7_2 p143 q143
             cases e143
             replace hx143_0 := hcb HB.out hx143_0
             replace hx143_1 := hcb HB.out hx143_1
             replace hx143_2 := hcb HB.out hx143_2
             replace p143 := eq_true p143
             replace q143 := eq_true q143
             try go_wp2
             replace HO_139001 := Aside0.mk (Kd.R_drew HO_139001.out)
             replace BK136 := Aside0.mk (blk_drew BK136.out)
             replace BK137 := Aside0.mk (blk_drew BK137.out)
             replace BK138 := Aside0.mk (blk_drew BK138.out)
             replace BK140 := Aside0.mk (blk_drew BK140.out)
             replace HB := Aside0.mk (below_drew1 HB.out)
             have p144 : 0 ≤ (x7_2 : Int) := oT (by first | (with_reducible assumption) | assumption)
             have q144 : x7_2 < (l0_2.length : Int) := oT (by first | (with_reducible assumption) | assumption)
             obtain ⟨ad144, e144, hx144_0, hx144_1, hx144_2⟩ := at_T70 HR0_2.out x7_2 p144 q144
             have hw144_2 := hx144_2
             have hw144_1 := hx144_1
             have hw144_0 := hx144_0
             obtain rfl : ad143 = ad144 := (by injection e144)
             replace hx144_0 := hcb HB.out hx144_0
             replace hx144_1 := hcb HB.out hx144_1
             replace hx144_2 := hcb HB.out hx144_2
             replace p144 := eq_true p144
             replace q144 := eq_true q144
             refine start_ (n := 11) (S := fun w' => w'.cell? ⟨gb140, 0, none⟩ = some (.int .i64 ((rd_T100 l0_1 x4_1).f0)) ∧ w'.cell? ⟨gb140, 1, none⟩ = some (.int .i64 ((rd_T100 l0_1 x4_1).f1)) ∧ w'.cell? ⟨gb140, 2, none⟩ = some (.int .i64 x141002_2) ∧ w'.cell? ⟨gb140, 3, none⟩ = some (.int .i64 ((rd_T100 l0_1 x4_1).f3)) ∧ w'.cell? ⟨gb140, 4, none⟩ = some (.int .i64 ((rd_T100 l0_1 x4_1).f4)) ∧ w'.cell? ⟨gb136, 0, none⟩ = some (.int .i64 a0_0) ∧ w'.cell? ⟨gb136, 1, none⟩ = some (.slice (some ad139) l0_1.length c0_1) ∧ w'.cell? ⟨gb136, 2, none⟩ = some (.slice (some ad143) l0_2.length c0_2) ∧ w'.cell? (ad143.add ((x7_2).toNat * 3)) = some (.int .i64 ((rd_T70 l0_2 x7_2).f0)) ∧ w'.cell? ⟨(ad143.add ((x7_2).toNat * 3)).block, (ad143.add ((x7_2).toNat * 3)).off + 1, none⟩ = some (.int .i64 ((rd_T70 l0_2 x7_2).f1)) ∧ w'.cell? ⟨(ad143.add ((x7_2).toNat * 3)).block, (ad143.add ((x7_2).toNat * 3)).off + 2, none⟩ = some (.int .i64 ((rd_T70 l0_2 x7_2).f2))) (ds := [10]) (ms 11 0) (by kernel_rfl) rfl (by kernel_rfl) ⟨(blk_cell BK140.out 0).trans rfl, (blk_cell BK140.out 1).trans rfl, (blk_cell BK140.out 2).trans rfl, (blk_cell BK140.out 3).trans rfl, (blk_cell BK140.out 4).trans rfl, (blk_cell BK136.out 0).trans rfl, (blk_cell BK136.out 1).trans rfl, (blk_cell BK136.out 2).trans rfl, ((HB.out.cell (World.block_lt_of_cell? w _ hw144_0)).trans hw144_0), ((HB.out.cell (World.block_lt_of_cell? w _ hw144_1)).trans hw144_1), ((HB.out.cell (World.block_lt_of_cell? w _ hw144_2)).trans hw144_2)⟩ (fun hHeld => ?_); refine with_tabW spec_l16Now.tab13 spec_l16Now.bits13 (fun HT_ HW_ => ?_)
             generalize wc.drew = w44 at HO_139001 BK136 BK137 BK138 BK140 HB hx144_0 hx144_1 hx144_2 hHeld ⊢
             refine pure_ (i := 0) (N := some 58) (v := ?_) (a' := ?_) (ms 11 1) rfl rfl (any_of HT_.out (by kernel_rfl)) (fun _ _ _ h => h) (Or.inl ⟨by rfl, ?_⟩) ?_ ?_
             rotate_left
             ·intro w'
              go_simp
              with_reducible rfl
             rotate_left
             ·simp only [Act.put, sA, sB, sC, i64_w, i32_w]
              rfl
             refine pure_ (i := 2) (N := some 60) (v := ?_) (a' := ?_) (ms 11 5) rfl rfl (any_of HT_.out (by kernel_rfl)) (fun _ _ _ h => h) (Or.inl ⟨by rfl, ?_⟩) ?_ ?_
             rotate_left
             ·intro w'
              go_simp
              with_reducible rfl
             rotate_left
             ·simp only [Act.put, sA, sB, sC, i64_w, i32_w]
              rfl
             refine pure_ (i := 4) (N := some 62) (v := ?_) (a' := ?_) (ms 11 21) rfl rfl (any_of HT_.out (by kernel_rfl)) (fun _ _ _ h => h) (Or.inl ⟨by rfl, ?_⟩) ?_ ?_
             rotate_left
             ·intro w'
              go_simp
              with_reducible rfl
             rotate_left
             ·simp only [Act.put, sA, sB, sC, i64_w, i32_w]
              rfl
             refine take_ (i := 1) (N := some 59) (v := ?_) (a' := ?_) (ms 11 23) rfl rfl (take_ofW HT_.out HW_.out (by kernel_rfl)) (fun _ _ _ h => h) (Or.inl ⟨by rfl, ?_⟩) hHeld ?_ ?_
             rotate_left
             ·rintro w' ⟨s0, s1, s2, s3, s4, s5, s6, s7, s8, s9, s10⟩
              go_simp
              with_reducible rfl
             rotate_left
             ·simp only [Act.put, sA, sB, sC, i64_w, i32_w]
              rfl
             refine take_ (i := 3) (N := some 61) (v := ?_) (a' := ?_) (ms 11 31) rfl rfl (take_ofW HT_.out HW_.out (by kernel_rfl)) (fun _ _ _ h => h) (Or.inl ⟨by rfl, ?_⟩) hHeld ?_ ?_
             rotate_left
             ·rintro w' ⟨s0, s1, s2, s3, s4, s5, s6, s7, s8, s9, s10⟩
              go_simp
              with_reducible rfl
             rotate_left
             ·simp only [Act.put, sA, sB, sC, i64_w, i32_w]
              rfl
             refine pure_ (i := 5) (N := some 63) (v := ?_) (a' := ?_) (ms 11 63) rfl rfl (any_of HT_.out (by kernel_rfl)) (fun _ _ _ h => h) (Or.inl ⟨by rfl, ?_⟩) ?_ ?_
             rotate_left
             ·intro w'
              go_simp
              with_reducible rfl
             rotate_left
             ·simp only [Act.put, sA, sB, sC, i64_w, i32_w]
              rfl
             refine pure_ (i := 6) (N := some 64) (v := ?_) (a' := ?_) (ms 11 127) rfl rfl (any_of HT_.out (by kernel_rfl)) (fun _ _ _ h => h) (Or.inl ⟨by rfl, ?_⟩) ?_ ?_
             rotate_left
             ·intro w'
              go_simp
              with_reducible rfl
             rotate_left
             ·simp only [Act.put, sA, sB, sC, i64_w, i32_w]
              rfl
             refine take_ (i := 7) (N := some 65) (v := ?_) (a' := ?_) (ms 11 255) rfl rfl (take_ofW HT_.out HW_.out (by kernel_rfl)) (fun _ _ _ h => h) (Or.inl ⟨by rfl, ?_⟩) hHeld ?_ ?_
             rotate_left
             ·rintro w' ⟨s0, s1, s2, s3, s4, s5, s6, s7, s8, s9, s10⟩
              go_simp
              with_reducible rfl
             rotate_left
             ·simp only [Act.put, sA, sB, sC, i64_w, i32_w]
              rfl
             refine pure_ (i := 8) (N := some 66) (v := ?_) (a' := ?_) (ms 11 511) rfl rfl (any_of HT_.out (by kernel_rfl)) (fun _ _ _ h => h) (Or.inl ⟨by rfl, ?_⟩) ?_ ?_
             rotate_left
             ·intro w'
              go_simp
              with_reducible rfl
             rotate_left
             ·simp only [Act.put, sA, sB, sC, i64_w, i32_w]
              rfl
             refine pure_ (i := 9) (N := some 67) (v := ?_) (a' := ?_) (ms 11 1023) rfl rfl (any_of HT_.out (by kernel_rfl)) (fun _ _ _ h => h) (Or.inl ⟨by rfl, ?_⟩) ?_ ?_
             rotate_left
             ·intro w'
              go_simp
              with_reducible rfl
             rotate_left
             ·simp only [Act.put, sA, sB, sC, i64_w, i32_w]
              rfl
             refine last_ (i := 10) (N := none) (ms 11 2047) rfl rfl (one_of HT_.out (by kernel_rfl)) (by decide) (fun K hK => ?_)
             have hs45 : w44.cell? ⟨gb140, 2, none⟩ = some (.int .i64 x141002_2) := (blk_cell BK140.out 2).trans rfl
             have hfs45 := blk_frozen BK140.out 2
             have hns45_0 := NB136_140.out
             have hns45_1 := NB137_140.out
             have hns45_2 := NB138_140.out
             have hms45_0 := NB140_136.out
             have hms45_1 := NB140_137.out
             have hms45_2 := NB140_138.out
             refine skip_ (w1 := ?_) (by rfl) rfl ?_ ?_
             rotate_left
             ·go_simp
              rfl
             refine hK.out _ _ ?_
             clear hK K
             refine done_ (done_of HT_.out (by kernel_rfl)) ?_
             try go_wp2
             go_roundg kj20
             case measure => have := HK1.out; have := HK2.out; have := HJ20.out; omega
             case rel => exact ⟨(x6_2), (wrap64 (x7_2 + 1)), (wrap64 (x141002_2 + ((rd_T70 l0_2 x7_2).f2))), (by first | rfl | (simp; done) | (simp [*]; done)), (by first | rfl | (simp; done) | (simp [*]; done)), H', ⟨by have := HK1.out; have := HK2.out; have := HJ20.out; omega⟩, ⟨by (with_reducible repeat (first | apply Kd.R_alloc | apply Kd.R_drewN | apply Kd.R_drew)); exact Kd.R_mono (Kd.R_far (p := ⟨gb140, 2, none⟩) (Kd.R_mono HO_139001.out (fun k_ hk => (⟨hk, hk⟩ : _ ∧ k_ ≠ gb140))) (fun _ hk => hk.2) (.int .i64 (wrap64 (x141002_2 + ((rd_T70 l0_2 x7_2).f2))))) (fun _ hk => hk.1)⟩, ⟨by (with_reducible repeat (first | refine blk_drewN ?_ _ | refine blk_drew ?_ | refine blk_alloc ?_ _)); refine blk_far ?_ NB136_140.out _; (with_reducible repeat (first | refine blk_drewN ?_ _ | refine blk_drew ?_ | refine blk_alloc ?_ _)); exact BK136.out⟩, ⟨by (with_reducible repeat (first | refine blk_drewN ?_ _ | refine blk_drew ?_ | refine blk_alloc ?_ _)); refine blk_far ?_ NB137_140.out _; (with_reducible repeat (first | refine blk_drewN ?_ _ | refine blk_drew ?_ | refine blk_alloc ?_ _)); exact BK137.out⟩, ⟨by (with_reducible repeat (first | refine blk_drewN ?_ _ | refine blk_drew ?_ | refine blk_alloc ?_ _)); refine blk_far ?_ NB138_140.out _; (with_reducible repeat (first | refine blk_drewN ?_ _ | refine blk_drew ?_ | refine blk_alloc ?_ _)); exact BK138.out⟩, ⟨by (with_reducible repeat (first | refine blk_drewN ?_ _ | refine blk_drew ?_ | refine blk_alloc ?_ _)); refine blk_put (cs := #[.int .i64 ((rd_T100 l0_1 x4_1).f0), .int .i64 ((rd_T100 l0_1 x4_1).f1), .int .i64 x141002_2, .int .i64 ((rd_T100 l0_1 x4_1).f3), .int .i64 ((rd_T100 l0_1 x4_1).f4)]) ?_ 2 _ rfl; (with_reducible repeat (first | refine blk_drewN ?_ _ | refine blk_drew ?_ | refine blk_alloc ?_ _)); exact BK140.out⟩, ⟨bl4 HB GE136 GE137 GE138 GE140⟩⟩
            ·rw [if_neg c39] at H
             have c39b0 : (((rd_T70 l0_2 x7_2).f1) == x4_1) = false := beq_eq_false_iff_ne.mpr c39
             have c39b1 : (((rd_T70 l0_2 x7_2).f1) != x4_1) = true := bne_iff_ne.mpr c39
             have H' := Aside0.mk H
             clear H
             have hnb46 := NB136_137.out
             have hnc46 := NB137_136.out
             have hnb47 := NB136_138.out
             have hnc47 := NB138_136.out
             have hnb48 := NB136_140.out
             have hnc48 := NB140_136.out
             have hcz49_0 : wc.cell? ⟨gb136, 0, none⟩ = some (.int .i64 a0_0) := (blk_cell BK136.out 0).trans rfl
             have hcz49_1 : wc.cell? ⟨gb136, 1, none⟩ = some (.slice (some ad139) l0_1.length c0_1) := (blk_cell BK136.out 1).trans rfl
             have hcz49_2 : wc.cell? ⟨gb136, 2, none⟩ = some (.slice A0_2 l0_2.length c0_2) := (blk_cell BK136.out 2).trans rfl
             have hfz49_0 := blk_frozen BK136.out 0
             have hfz49_1 := blk_frozen BK136.out 1
             have hfz49_2 := blk_frozen BK136.out 2
             have p143 : 0 ≤ (x7_2 : Int) := oT (by first | (with_reducible assumption) | assumption)
             have q143 : x7_2 < (l0_2.length : Int) := oT (by first | (with_reducible assumption) | assumption)
             obtain ⟨ad143, e143, hx143_0, hx143_1, hx143_2⟩ := at_T70 HR0_2.out x7_2 p143 q143
             cases e143
             replace hx143_0 := hcb HB.out hx143_0
             replace hx143_1 := hcb HB.out hx143_1
             replace hx143_2 := hcb HB.out hx143_2
             replace p143 := eq_true p143
             replace q143 := eq_true q143
             go_wp2
             go_roundg kj20
             case measure => have := HK1.out; have := HK2.out; have := HJ20.out; omega
             case rel => exact ⟨(x6_2), (wrap64 (x7_2 + 1)), (x141002_2), (by first | rfl | (simp; done) | (simp [*]; done)), (by first | rfl | (simp; done) | (simp [*]; done)), H', ⟨by have := HK1.out; have := HK2.out; have := HJ20.out; omega⟩, ⟨rk HO_139001⟩, ⟨bk BK136⟩, ⟨bk BK137⟩, ⟨bk BK138⟩, ⟨bk BK140⟩, ⟨bl4 HB GE136 GE137 GE138 GE140⟩⟩
           ·rw [if_neg c38] at H
            exact absurd H (by simp)
          ·rw [if_neg c37] at H
           exact absurd H (by simp)
      ·rw [if_neg c20] at H
       have c20b0 : decide (x7_2 < (l0_2.length : Int)) = false := decide_eq_false c20
       clear c20
       by_cases c50 : x141002_2 > 99
       ·rw [if_pos c50] at H
        have c50b0 : decide (99 < x141002_2) = true := decide_eq_true c50
        clear c50
        by_cases c51 : x6_2 = true
        ·subst c51
         rw [if_pos rfl] at H
         have H' := Aside0.mk H
         clear H
         have hnb52 := NB136_137.out
         have hnc52 := NB137_136.out
         have hnb53 := NB136_138.out
         have hnc53 := NB138_136.out
         have hnb54 := NB136_140.out
         have hnc54 := NB140_136.out
         have hcz55_0 : wr.cell? ⟨gb136, 0, none⟩ = some (.int .i64 a0_0) := (blk_cell BK136.out 0).trans rfl
         have hcz55_1 : wr.cell? ⟨gb136, 1, none⟩ = some (.slice (some ad139) l0_1.length c0_1) := (blk_cell BK136.out 1).trans rfl
         have hcz55_2 : wr.cell? ⟨gb136, 2, none⟩ = some (.slice A0_2 l0_2.length c0_2) := (blk_cell BK136.out 2).trans rfl
         have hfz55_0 := blk_frozen BK136.out 0
         have hfz55_1 := blk_frozen BK136.out 1
         have hfz55_2 := blk_frozen BK136.out 2
         have hnb56 := NB140_137.out
         have hnc56 := NB137_140.out
         have hnb57 := NB140_138.out
         have hnc57 := NB138_140.out
         have hcz58_0 : wr.cell? ⟨gb140, 0, none⟩ = some (.int .i64 ((rd_T100 l0_1 x4_1).f0)) := (blk_cell BK140.out 0).trans rfl
         have hcz58_1 : wr.cell? ⟨gb140, 1, none⟩ = some (.int .i64 ((rd_T100 l0_1 x4_1).f1)) := (blk_cell BK140.out 1).trans rfl
         have hcz58_2 : wr.cell? ⟨gb140, 2, none⟩ = some (.int .i64 x141002_2) := (blk_cell BK140.out 2).trans rfl
         have hcz58_3 : wr.cell? ⟨gb140, 3, none⟩ = some (.int .i64 ((rd_T100 l0_1 x4_1).f3)) := (blk_cell BK140.out 3).trans rfl
         have hcz58_4 : wr.cell? ⟨gb140, 4, none⟩ = some (.int .i64 ((rd_T100 l0_1 x4_1).f4)) := (blk_cell BK140.out 4).trans rfl
         have hfz58_0 := blk_frozen BK140.out 0
         have hfz58_1 := blk_frozen BK140.out 1
         have hfz58_2 := blk_frozen BK140.out 2
         have hfz58_3 := blk_frozen BK140.out 3
         have hfz58_4 := blk_frozen BK140.out 4
         go_wp2
         go_roundg k2
         case measure => have := HK1.out; have := HK2.out; omega
         case rel => exact ⟨(wrap64 (x4_1 + 1)), (x139001_1), (u139001), (by first | rfl | (simp; done) | (simp [*]; done)), H', ⟨by have := HK1.out; have := HK2.out; omega⟩, ⟨by (with_reducible repeat (first | apply Kd.R_alloc | apply Kd.R_drewN | apply Kd.R_drew)); exact Kd.R_mono (Kd.R_far (p := ⟨gb140, 2, none⟩) (Kd.R_mono HO_139001.out (fun k_ hk => (⟨hk, hk⟩ : _ ∧ k_ ≠ gb140))) (fun _ hk => hk.2) (.int .i64 99)) (fun _ hk => trivial)⟩, ⟨by (with_reducible repeat (first | refine blk_drewN ?_ _ | refine blk_drew ?_ | refine blk_alloc ?_ _)); refine blk_far ?_ NB136_140.out _; (with_reducible repeat (first | refine blk_drewN ?_ _ | refine blk_drew ?_ | refine blk_alloc ?_ _)); exact BK136.out⟩, ⟨by (with_reducible repeat (first | refine blk_drewN ?_ _ | refine blk_drew ?_ | refine blk_alloc ?_ _)); refine blk_far ?_ NB137_140.out _; (with_reducible repeat (first | refine blk_drewN ?_ _ | refine blk_drew ?_ | refine blk_alloc ?_ _)); exact BK137.out⟩, ⟨by (with_reducible repeat (first | refine blk_drewN ?_ _ | refine blk_drew ?_ | refine blk_alloc ?_ _)); refine blk_far ?_ NB138_140.out _; (with_reducible repeat (first | refine blk_drewN ?_ _ | refine blk_drew ?_ | refine blk_alloc ?_ _)); exact BK138.out⟩, ⟨bl4 HB GE136 GE137 GE138 GE140⟩⟩
        ·replace c51 := Bool.eq_false_iff.mpr c51
         subst c51
         rw [if_neg (show ¬ (false = true) by decide)] at H
         by_cases c59 : x139001_1.length < 3518437208883
         ·rw [if_pos c59] at H
          have LMc59 := Aside0.mk c59
          clear c59
          obtain ⟨y145, hy145⟩ : ∃ y_ : List (S100), y_ = (x139001_1 ++ [(⟨((rd_T100 l0_1 x4_1).f0), ((rd_T100 l0_1 x4_1).f1), 99, ((rd_T100 l0_1 x4_1).f3), ((rd_T100 l0_1 x4_1).f4)⟩ : S100)]) := ⟨_, rfl⟩
          replace H : (spec_l16Now.l0 k2 (wrap64 (x4_1 + 1)) a0_0 l0_1 l0_2 a0_0 y145) = some (r1, r2) := by first | (rw [hy145]; with_reducible exact H) | (have H2_ := (Option.bind_some _ _).symm.trans H; rw [hy145]; with_reducible exact H2_) | (have H2_ := (Option.bind_some _ _).symm.trans H; with_reducible exact H2_) | with_reducible exact H | (rw [hy145]; exact H) | exact H
          have Ny145 := Aside0.mk hy145
          clear hy145
          have H' := Aside0.mk H
          clear H
          have hnb60 := NB136_137.out
          have hnc60 := NB137_136.out
          have hnb61 := NB136_138.out
          have hnc61 := NB138_136.out
          have hnb62 := NB136_140.out
          have hnc62 := NB140_136.out
          have hcz63_0 : wr.cell? ⟨gb136, 0, none⟩ = some (.int .i64 a0_0) := (blk_cell BK136.out 0).trans rfl
          have hcz63_1 : wr.cell? ⟨gb136, 1, none⟩ = some (.slice (some ad139) l0_1.length c0_1) := (blk_cell BK136.out 1).trans rfl
          have hcz63_2 : wr.cell? ⟨gb136, 2, none⟩ = some (.slice A0_2 l0_2.length c0_2) := (blk_cell BK136.out 2).trans rfl
          have hfz63_0 := blk_frozen BK136.out 0
          have hfz63_1 := blk_frozen BK136.out 1
          have hfz63_2 := blk_frozen BK136.out 2
          have hnb64 := NB140_137.out
          have hnc64 := NB137_140.out
          have hnb65 := NB140_138.out
          have hnc65 := NB138_140.out
          have hcz66_0 : wr.cell? ⟨gb140, 0, none⟩ = some (.int .i64 ((rd_T100 l0_1 x4_1).f0)) := (blk_cell BK140.out 0).trans rfl
          have hcz66_1 : wr.cell? ⟨gb140, 1, none⟩ = some (.int .i64 ((rd_T100 l0_1 x4_1).f1)) := (blk_cell BK140.out 1).trans rfl
          have hcz66_2 : wr.cell? ⟨gb140, 2, none⟩ = some (.int .i64 x141002_2) := (blk_cell BK140.out 2).trans rfl
          have hcz66_3 : wr.cell? ⟨gb140, 3, none⟩ = some (.int .i64 ((rd_T100 l0_1 x4_1).f3)) := (blk_cell BK140.out 3).trans rfl
          have hcz66_4 : wr.cell? ⟨gb140, 4, none⟩ = some (.int .i64 ((rd_T100 l0_1 x4_1).f4)) := (blk_cell BK140.out 4).trans rfl
          have hfz66_0 := blk_frozen BK140.out 0
          have hfz66_1 := blk_frozen BK140.out 1
          have hfz66_2 := blk_frozen BK140.out 2
          have hfz66_3 := blk_frozen BK140.out 3
          have hfz66_4 := blk_frozen BK140.out 4
          have hnb67 := NB138_137.out
          have hnc67 := NB137_138.out
          have hcz68_0 : wr.cell? ⟨gb138, 0, none⟩ = some (.int .i64 a0_0) := (blk_cell BK138.out 0).trans rfl
          have hcz68_1 : wr.cell? ⟨gb138, 1, none⟩ = some (u139001) := (blk_cell BK138.out 1).trans rfl
          have hfz68_0 := blk_frozen BK138.out 0
          have hfz68_1 := blk_frozen BK138.out 1
          go_wp2_with (first | ((with_reducible refine gate_builtin (b := .append) (xs := #[.tmp 75, .tmp 77]) rfl ?_); at_builtin; refine Kd.R_append k100 (w0 := w) w.heap.size rfl (.tmp 75) (.tmp 77) 28 100 (.agg #[(.int .i64 0), (.int .i64 0), (.int .i64 0), (.int .i64 0), (.int .i64 0)]) 40 rfl Try.underlying28 info100 rfl (by decide) (by omega) u139001 x139001_1 (⟨((rd_T100 l0_1 x4_1).f0), ((rd_T100 l0_1 x4_1).f1), 99, ((rd_T100 l0_1 x4_1).f3), ((rd_T100 l0_1 x4_1).f4)⟩ : S100) [.int .i64 ((rd_T100 l0_1 x4_1).f0), .int .i64 ((rd_T100 l0_1 x4_1).f1), .int .i64 99, .int .i64 ((rd_T100 l0_1 x4_1).f3), .int .i64 ((rd_T100 l0_1 x4_1).f4)] (fun k_ => k_ ≠ gb140) (fun _ => False) rfl (by first | (go_simp; done) | (go_simp; rfl)) ?aP (fun _ hk => hk.elim) ?aF ?aO ?aB ?aS ?aL ?_; (case aP => exact k100_mkM _ _ _ (⟨((rd_T100 l0_1 x4_1).f0), ((rd_T100 l0_1 x4_1).f1), 99, ((rd_T100 l0_1 x4_1).f3), ((rd_T100 l0_1 x4_1).f4)⟩ : S100)); (case aB => exact (bl4 HB GE136 GE137 GE138 GE140)); (case aF => exact (fun k_ hk => Kd.freshB (g := gb140) (o := .cells #[.int .i64 ((rd_T100 l0_1 x4_1).f0), .int .i64 ((rd_T100 l0_1 x4_1).f1), .int .i64 99, .int .i64 ((rd_T100 l0_1 x4_1).f3), .int .i64 ((rd_T100 l0_1 x4_1).f4)] 100 (0, 0)) (by (with_reducible repeat (first | refine blk_drewN ?_ _ | refine blk_drew ?_ | refine blk_alloc ?_ _)); refine blk_put (cs := #[.int .i64 ((rd_T100 l0_1 x4_1).f0), .int .i64 ((rd_T100 l0_1 x4_1).f1), .int .i64 x141002_2, .int .i64 ((rd_T100 l0_1 x4_1).f3), .int .i64 ((rd_T100 l0_1 x4_1).f4)]) ?_ 2 _ rfl; (with_reducible repeat (first | refine blk_drewN ?_ _ | refine blk_drew ?_ | refine blk_alloc ?_ _)); exact BK140.out) k_ hk)); (case aO => exact (by (with_reducible repeat (first | apply Kd.R_alloc | apply Kd.R_drewN | apply Kd.R_drew)); exact Kd.R_mono (Kd.R_far (p := ⟨gb140, 2, none⟩) (Kd.R_mono HO_139001.out (fun k_ hk => (⟨hk, hk⟩ : _ ∧ k_ ≠ gb140))) (fun _ hk => hk.2) (.int .i64 99)) (fun _ hk => hk.1))); (case aS => exact (below_size (bl4 HB GE136 GE137 GE138 GE140))); (case aL => have := LMc59.out; omega); intro v146 w69 ho hb hg hat; rw [← Ny145.out] at ho; have n0_ := Aside0.mk (blk_grown (g := gb136) (o := .cells #[.int .i64 a0_0, .slice (some ad139) l0_1.length c0_1, .slice A0_2 l0_2.length c0_2] 49 (0, 0)) (by (with_reducible repeat (first | refine blk_drewN ?_ _ | refine blk_drew ?_ | refine blk_alloc ?_ _)); refine blk_far ?_ NB136_140.out _; (with_reducible repeat (first | refine blk_drewN ?_ _ | refine blk_drew ?_ | refine blk_alloc ?_ _)); exact BK136.out) hg (Kd.R_ne HO_139001.out BK136.out (by decide))); have n1_ := Aside0.mk (blk_grown (g := gb137) (o := .cells #[.int .i64 0, .slice none 0 0] 30 (0, 0)) (by (with_reducible repeat (first | refine blk_drewN ?_ _ | refine blk_drew ?_ | refine blk_alloc ?_ _)); refine blk_far ?_ NB137_140.out _; (with_reducible repeat (first | refine blk_drewN ?_ _ | refine blk_drew ?_ | refine blk_alloc ?_ _)); exact BK137.out) hg (Kd.R_ne HO_139001.out BK137.out (by decide))); have n2_ := Aside0.mk (blk_grown (g := gb138) (o := .cells #[.int .i64 a0_0, u139001] 30 (0, 0)) (by (with_reducible repeat (first | refine blk_drewN ?_ _ | refine blk_drew ?_ | refine blk_alloc ?_ _)); refine blk_far ?_ NB138_140.out _; (with_reducible repeat (first | refine blk_drewN ?_ _ | refine blk_drew ?_ | refine blk_alloc ?_ _)); exact BK138.out) hg (Kd.R_ne HO_139001.out BK138.out (by decide))); have n3_ := Aside0.mk (blk_grown (g := gb140) (o := .cells #[.int .i64 ((rd_T100 l0_1 x4_1).f0), .int .i64 ((rd_T100 l0_1 x4_1).f1), .int .i64 99, .int .i64 ((rd_T100 l0_1 x4_1).f3), .int .i64 ((rd_T100 l0_1 x4_1).f4)] 100 (0, 0)) (by (with_reducible repeat (first | refine blk_drewN ?_ _ | refine blk_drew ?_ | refine blk_alloc ?_ _)); refine blk_put (cs := #[.int .i64 ((rd_T100 l0_1 x4_1).f0), .int .i64 ((rd_T100 l0_1 x4_1).f1), .int .i64 x141002_2, .int .i64 ((rd_T100 l0_1 x4_1).f3), .int .i64 ((rd_T100 l0_1 x4_1).f4)]) ?_ 2 _ rfl; (with_reducible repeat (first | refine blk_drewN ?_ _ | refine blk_drew ?_ | refine blk_alloc ?_ _)); exact BK140.out) hg (Kd.R_away HO_139001.out (fun _ hk => hk))); have n4_ := Aside0.mk (hb); have n5_ := Aside0.mk (ho); clear BK136; clear BK137; clear BK138; clear BK140; clear HB; clear HO_139001; have BK136 := n0_; have BK137 := n1_; have BK138 := n2_; have BK140 := n3_; have HB := n4_; have HO147 := n5_; clear n0_ n1_ n2_ n3_ n4_ n5_; clear ho hb hg hat; obtain ⟨Ao70, co70, eo70⟩ := Kd.R_slice HO147.out; subst eo70; have hcz71_0 : w69.cell? ⟨gb138, 0, none⟩ = some (.int .i64 a0_0) := (blk_cell BK138.out 0).trans rfl; have hcz71_1 : w69.cell? ⟨gb138, 1, none⟩ = some (u139001) := (blk_cell BK138.out 1).trans rfl; have hfz71_0 := blk_frozen BK138.out 0; have hfz71_1 := blk_frozen BK138.out 1))
          go_roundg k2
          case measure => have := HK1.out; have := HK2.out; omega
          case rel => exact ⟨(wrap64 (x4_1 + 1)), (y145), (.slice Ao70 y145.length co70), (by first | rfl | (simp; done) | (simp [*]; done)), H', ⟨by have := HK1.out; have := HK2.out; omega⟩, ⟨by (with_reducible repeat (first | apply Kd.R_alloc | apply Kd.R_drewN | apply Kd.R_drew)); exact Kd.R_mono (Kd.R_far (p := ⟨gb138, 1, none⟩) (Kd.R_types HO147.out BK138.out (by decide)) (fun _ hk => hk.2) (.slice Ao70 y145.length co70)) (fun _ hk => trivial)⟩, ⟨by (with_reducible repeat (first | refine blk_drewN ?_ _ | refine blk_drew ?_ | refine blk_alloc ?_ _)); refine blk_far ?_ NB136_138.out _; (with_reducible repeat (first | refine blk_drewN ?_ _ | refine blk_drew ?_ | refine blk_alloc ?_ _)); exact BK136.out⟩, ⟨by (with_reducible repeat (first | refine blk_drewN ?_ _ | refine blk_drew ?_ | refine blk_alloc ?_ _)); refine blk_far ?_ NB137_138.out _; (with_reducible repeat (first | refine blk_drewN ?_ _ | refine blk_drew ?_ | refine blk_alloc ?_ _)); exact BK137.out⟩, ⟨by (with_reducible repeat (first | refine blk_drewN ?_ _ | refine blk_drew ?_ | refine blk_alloc ?_ _)); refine blk_put (cs := #[.int .i64 a0_0, u139001]) ?_ 1 _ rfl; (with_reducible repeat (first | refine blk_drewN ?_ _ | refine blk_drew ?_ | refine blk_alloc ?_ _)); exact BK138.out⟩, ⟨bl4 HB GE136 GE137 GE138 GE140⟩⟩
         ·rw [if_neg c59] at H
          exact absurd H (by simp)
       ·rw [if_neg c50] at H
        have c50b0 : decide (99 < x141002_2) = false := decide_eq_false c50
        clear c50
        by_cases c72 : x6_2 = true
        ·subst c72
         rw [if_pos rfl] at H
         have H' := Aside0.mk H
         clear H
         have hnb73 := NB136_137.out
         have hnc73 := NB137_136.out
         have hnb74 := NB136_138.out
         have hnc74 := NB138_136.out
         have hnb75 := NB136_140.out
         have hnc75 := NB140_136.out
         have hcz76_0 : wr.cell? ⟨gb136, 0, none⟩ = some (.int .i64 a0_0) := (blk_cell BK136.out 0).trans rfl
         have hcz76_1 : wr.cell? ⟨gb136, 1, none⟩ = some (.slice (some ad139) l0_1.length c0_1) := (blk_cell BK136.out 1).trans rfl
         have hcz76_2 : wr.cell? ⟨gb136, 2, none⟩ = some (.slice A0_2 l0_2.length c0_2) := (blk_cell BK136.out 2).trans rfl
         have hfz76_0 := blk_frozen BK136.out 0
         have hfz76_1 := blk_frozen BK136.out 1
         have hfz76_2 := blk_frozen BK136.out 2
         have hnb77 := NB140_137.out
         have hnc77 := NB137_140.out
         have hnb78 := NB140_138.out
         have hnc78 := NB138_140.out
         have hcz79_0 : wr.cell? ⟨gb140, 0, none⟩ = some (.int .i64 ((rd_T100 l0_1 x4_1).f0)) := (blk_cell BK140.out 0).trans rfl
         have hcz79_1 : wr.cell? ⟨gb140, 1, none⟩ = some (.int .i64 ((rd_T100 l0_1 x4_1).f1)) := (blk_cell BK140.out 1).trans rfl
         have hcz79_2 : wr.cell? ⟨gb140, 2, none⟩ = some (.int .i64 x141002_2) := (blk_cell BK140.out 2).trans rfl
         have hcz79_3 : wr.cell? ⟨gb140, 3, none⟩ = some (.int .i64 ((rd_T100 l0_1 x4_1).f3)) := (blk_cell BK140.out 3).trans rfl
         have hcz79_4 : wr.cell? ⟨gb140, 4, none⟩ = some (.int .i64 ((rd_T100 l0_1 x4_1).f4)) := (blk_cell BK140.out 4).trans rfl
         have hfz79_0 := blk_frozen BK140.out 0
         have hfz79_1 := blk_frozen BK140.out 1
         have hfz79_2 := blk_frozen BK140.out 2
         have hfz79_3 := blk_frozen BK140.out 3
         have hfz79_4 := blk_frozen BK140.out 4
         go_wp2
         go_roundg k2
         case measure => have := HK1.out; have := HK2.out; omega
         case rel => exact ⟨(wrap64 (x4_1 + 1)), (x139001_1), (u139001), (by first | rfl | (simp; done) | (simp [*]; done)), H', ⟨by have := HK1.out; have := HK2.out; omega⟩, ⟨by (with_reducible repeat (first | apply Kd.R_alloc | apply Kd.R_drewN | apply Kd.R_drew)); exact Kd.R_mono HO_139001.out (fun _ hk => trivial)⟩, ⟨bk BK136⟩, ⟨bk BK137⟩, ⟨bk BK138⟩, ⟨bl4 HB GE136 GE137 GE138 GE140⟩⟩
        ·replace c72 := Bool.eq_false_iff.mpr c72
         subst c72
         rw [if_neg (show ¬ (false = true) by decide)] at H
         by_cases c80 : x139001_1.length < 3518437208883
         ·rw [if_pos c80] at H
          have LMc80 := Aside0.mk c80
          clear c80
          obtain ⟨y148, hy148⟩ : ∃ y_ : List (S100), y_ = (x139001_1 ++ [(⟨((rd_T100 l0_1 x4_1).f0), ((rd_T100 l0_1 x4_1).f1), x141002_2, ((rd_T100 l0_1 x4_1).f3), ((rd_T100 l0_1 x4_1).f4)⟩ : S100)]) := ⟨_, rfl⟩
          replace H : (spec_l16Now.l0 k2 (wrap64 (x4_1 + 1)) a0_0 l0_1 l0_2 a0_0 y148) = some (r1, r2) := by first | (rw [hy148]; with_reducible exact H) | (have H2_ := (Option.bind_some _ _).symm.trans H; rw [hy148]; with_reducible exact H2_) | (have H2_ := (Option.bind_some _ _).symm.trans H; with_reducible exact H2_) | with_reducible exact H | (rw [hy148]; exact H) | exact H
          have Ny148 := Aside0.mk hy148
          clear hy148
          have H' := Aside0.mk H
          clear H
          have hnb81 := NB136_137.out
          have hnc81 := NB137_136.out
          have hnb82 := NB136_138.out
          have hnc82 := NB138_136.out
          have hnb83 := NB136_140.out
          have hnc83 := NB140_136.out
          have hcz84_0 : wr.cell? ⟨gb136, 0, none⟩ = some (.int .i64 a0_0) := (blk_cell BK136.out 0).trans rfl
          have hcz84_1 : wr.cell? ⟨gb136, 1, none⟩ = some (.slice (some ad139) l0_1.length c0_1) := (blk_cell BK136.out 1).trans rfl
          have hcz84_2 : wr.cell? ⟨gb136, 2, none⟩ = some (.slice A0_2 l0_2.length c0_2) := (blk_cell BK136.out 2).trans rfl
          have hfz84_0 := blk_frozen BK136.out 0
          have hfz84_1 := blk_frozen BK136.out 1
          have hfz84_2 := blk_frozen BK136.out 2
          have hnb85 := NB140_137.out
          have hnc85 := NB137_140.out
          have hnb86 := NB140_138.out
          have hnc86 := NB138_140.out
          have hcz87_0 : wr.cell? ⟨gb140, 0, none⟩ = some (.int .i64 ((rd_T100 l0_1 x4_1).f0)) := (blk_cell BK140.out 0).trans rfl
          have hcz87_1 : wr.cell? ⟨gb140, 1, none⟩ = some (.int .i64 ((rd_T100 l0_1 x4_1).f1)) := (blk_cell BK140.out 1).trans rfl
          have hcz87_2 : wr.cell? ⟨gb140, 2, none⟩ = some (.int .i64 x141002_2) := (blk_cell BK140.out 2).trans rfl
          have hcz87_3 : wr.cell? ⟨gb140, 3, none⟩ = some (.int .i64 ((rd_T100 l0_1 x4_1).f3)) := (blk_cell BK140.out 3).trans rfl
          have hcz87_4 : wr.cell? ⟨gb140, 4, none⟩ = some (.int .i64 ((rd_T100 l0_1 x4_1).f4)) := (blk_cell BK140.out 4).trans rfl
          have hfz87_0 := blk_frozen BK140.out 0
          have hfz87_1 := blk_frozen BK140.out 1
          have hfz87_2 := blk_frozen BK140.out 2
          have hfz87_3 := blk_frozen BK140.out 3
          have hfz87_4 := blk_frozen BK140.out 4
          have hnb88 := NB138_137.out
          have hnc88 := NB137_138.out
          have hcz89_0 : wr.cell? ⟨gb138, 0, none⟩ = some (.int .i64 a0_0) := (blk_cell BK138.out 0).trans rfl
          have hcz89_1 : wr.cell? ⟨gb138, 1, none⟩ = some (u139001) := (blk_cell BK138.out 1).trans rfl
          have hfz89_0 := blk_frozen BK138.out 0
          have hfz89_1 := blk_frozen BK138.out 1
          go_wp2_with (first | ((with_reducible refine gate_builtin (b := .append) (xs := #[.tmp 75, .tmp 77]) rfl ?_); at_builtin; refine Kd.R_append k100 (w0 := w) w.heap.size rfl (.tmp 75) (.tmp 77) 28 100 (.agg #[(.int .i64 0), (.int .i64 0), (.int .i64 0), (.int .i64 0), (.int .i64 0)]) 40 rfl Try.underlying28 info100 rfl (by decide) (by omega) u139001 x139001_1 (⟨((rd_T100 l0_1 x4_1).f0), ((rd_T100 l0_1 x4_1).f1), x141002_2, ((rd_T100 l0_1 x4_1).f3), ((rd_T100 l0_1 x4_1).f4)⟩ : S100) [.int .i64 ((rd_T100 l0_1 x4_1).f0), .int .i64 ((rd_T100 l0_1 x4_1).f1), .int .i64 x141002_2, .int .i64 ((rd_T100 l0_1 x4_1).f3), .int .i64 ((rd_T100 l0_1 x4_1).f4)] (fun k_ => k_ ≠ gb140) (fun _ => False) rfl rfl ?aP (fun _ hk => hk.elim) ?aF ?aO ?aB ?aS ?aL ?_; (case aP => exact k100_mkM _ _ _ (⟨((rd_T100 l0_1 x4_1).f0), ((rd_T100 l0_1 x4_1).f1), x141002_2, ((rd_T100 l0_1 x4_1).f3), ((rd_T100 l0_1 x4_1).f4)⟩ : S100)); (case aB => exact (bl4 HB GE136 GE137 GE138 GE140)); (case aF => exact (fun k_ hk => Kd.freshB (bk BK140) k_ hk)); (case aO => exact (rk HO_139001)); (case aS => exact (below_size (bl4 HB GE136 GE137 GE138 GE140))); (case aL => have := LMc80.out; omega); intro v149 w90 ho hb hg hat; rw [← Ny148.out] at ho; have n0_ := Aside0.mk (blk_grown (bk BK136) hg (Kd.R_ne HO_139001.out BK136.out (by decide))); have n1_ := Aside0.mk (blk_grown (bk BK137) hg (Kd.R_ne HO_139001.out BK137.out (by decide))); have n2_ := Aside0.mk (blk_grown (bk BK138) hg (Kd.R_ne HO_139001.out BK138.out (by decide))); have n3_ := Aside0.mk (blk_grown (bk BK140) hg (Kd.R_away HO_139001.out (fun _ hk => hk))); have n4_ := Aside0.mk (hb); have n5_ := Aside0.mk (ho); clear BK136; clear BK137; clear BK138; clear BK140; clear HB; clear HO_139001; have BK136 := n0_; have BK137 := n1_; have BK138 := n2_; have BK140 := n3_; have HB := n4_; have HO150 := n5_; clear n0_ n1_ n2_ n3_ n4_ n5_; clear ho hb hg hat; obtain ⟨Ao91, co91, eo91⟩ := Kd.R_slice HO150.out; subst eo91; have hcz92_0 : w90.cell? ⟨gb138, 0, none⟩ = some (.int .i64 a0_0) := (blk_cell BK138.out 0).trans rfl; have hcz92_1 : w90.cell? ⟨gb138, 1, none⟩ = some (u139001) := (blk_cell BK138.out 1).trans rfl; have hfz92_0 := blk_frozen BK138.out 0; have hfz92_1 := blk_frozen BK138.out 1))
          go_roundg k2
          case measure => have := HK1.out; have := HK2.out; omega
          case rel => exact ⟨(wrap64 (x4_1 + 1)), (y148), (.slice Ao91 y148.length co91), (by first | rfl | (simp; done) | (simp [*]; done)), H', ⟨by have := HK1.out; have := HK2.out; omega⟩, ⟨by (with_reducible repeat (first | apply Kd.R_alloc | apply Kd.R_drewN | apply Kd.R_drew)); exact Kd.R_mono (Kd.R_far (p := ⟨gb138, 1, none⟩) (Kd.R_types HO150.out BK138.out (by decide)) (fun _ hk => hk.2) (.slice Ao91 y148.length co91)) (fun _ hk => trivial)⟩, ⟨by (with_reducible repeat (first | refine blk_drewN ?_ _ | refine blk_drew ?_ | refine blk_alloc ?_ _)); refine blk_far ?_ NB136_138.out _; (with_reducible repeat (first | refine blk_drewN ?_ _ | refine blk_drew ?_ | refine blk_alloc ?_ _)); exact BK136.out⟩, ⟨by (with_reducible repeat (first | refine blk_drewN ?_ _ | refine blk_drew ?_ | refine blk_alloc ?_ _)); refine blk_far ?_ NB137_138.out _; (with_reducible repeat (first | refine blk_drewN ?_ _ | refine blk_drew ?_ | refine blk_alloc ?_ _)); exact BK137.out⟩, ⟨by (with_reducible repeat (first | refine blk_drewN ?_ _ | refine blk_drew ?_ | refine blk_alloc ?_ _)); refine blk_put (cs := #[.int .i64 a0_0, u139001]) ?_ 1 _ rfl; (with_reducible repeat (first | refine blk_drewN ?_ _ | refine blk_drew ?_ | refine blk_alloc ?_ _)); exact BK138.out⟩, ⟨bl4 HB GE136 GE137 GE138 GE140⟩⟩
         ·rw [if_neg c80] at H
          exact absurd H (by simp)
   ·rw [if_neg c11] at H
    exact absurd H (by simp)
  ·rw [if_neg c10] at H
   have c10b0 : decide (x4_1 < (l0_1.length : Int)) = false := decide_eq_false c10
   clear c10
   simp only [Option.some.injEq, Prod.mk.injEq] at H
   obtain ⟨rfl, rfl⟩ := H
   have hnb93 := NB136_137.out
   have hnc93 := NB137_136.out
   have hnb94 := NB136_138.out
   have hnc94 := NB138_136.out
   have hcz95_0 : wr.cell? ⟨gb136, 0, none⟩ = some (.int .i64 a0_0) := (blk_cell BK136.out 0).trans rfl
   have hcz95_1 : wr.cell? ⟨gb136, 1, none⟩ = some (.slice A0_1 l0_1.length c0_1) := (blk_cell BK136.out 1).trans rfl
   have hcz95_2 : wr.cell? ⟨gb136, 2, none⟩ = some (.slice A0_2 l0_2.length c0_2) := (blk_cell BK136.out 2).trans rfl
   have hfz95_0 := blk_frozen BK136.out 0
   have hfz95_1 := blk_frozen BK136.out 1
   have hfz95_2 := blk_frozen BK136.out 2
   have hnb96 := NB138_137.out
   have hnc96 := NB137_138.out
   have hcz97_0 : wr.cell? ⟨gb138, 0, none⟩ = some (.int .i64 a0_0) := (blk_cell BK138.out 0).trans rfl
   have hcz97_1 : wr.cell? ⟨gb138, 1, none⟩ = some (u139001) := (blk_cell BK138.out 1).trans rfl
   have hfz97_0 := blk_frozen BK138.out 0
   have hfz97_1 := blk_frozen BK138.out 1
   have hcz98_0 : wr.cell? ⟨gb137, 0, none⟩ = some (.int .i64 0) := (blk_cell BK137.out 0).trans rfl
   have hcz98_1 : wr.cell? ⟨gb137, 1, none⟩ = some (.slice none 0 0) := (blk_cell BK137.out 1).trans rfl
   have hfz98_0 := blk_frozen BK137.out 0
   have hfz98_1 := blk_frozen BK137.out 1
   obtain ⟨Ao99, co99, eo99⟩ := Kd.R_slice HO_139001.out
   subst eo99
   go_wp2
   refine bodyPost_ret (results_cell_row rfl _ _ gb137 30 #[.int .i64 a0_0, .slice Ao99 x139001_1.length co99] (0, 0) _ rfl (by (with_reducible repeat (first | refine blk_drewN ?_ _ | refine blk_drew ?_ | refine blk_alloc ?_ _)); refine blk_put (cs := #[.int .i64 a0_0, .slice none 0 0]) ?_ 1 _ rfl; refine blk_put (cs := #[.int .i64 0, .slice none 0 0]) ?_ 0 _ rfl; (with_reducible repeat (first | refine blk_drewN ?_ _ | refine blk_drew ?_ | refine blk_alloc ?_ _)); exact BK137.out) Try.underlying30 rfl (by kernel_rfl)) rfl ?_
   exact ⟨_, by first | rfl | (simp [errW_none, errW_some] <;> rfl) | (simp [*, errW_none, errW_some] <;> rfl), by (with_reducible repeat (first | apply Kd.R_alloc | apply Kd.R_drewN | apply Kd.R_drew)); exact Kd.R_mono (Kd.R_far (p := ⟨gb137, 1, none⟩) (Kd.R_far (p := ⟨gb137, 0, none⟩) (Kd.R_types HO_139001.out BK137.out (by decide)) (fun _ hk => hk.2) (.int .i64 a0_0)) (fun _ hk => hk.2) (.slice Ao99 x139001_1.length co99)) (fun _ hk => trivial), bl3 HB GE136 GE137 GE138⟩

end Go.Proofs.Ytbappbbljncdeaa.F
