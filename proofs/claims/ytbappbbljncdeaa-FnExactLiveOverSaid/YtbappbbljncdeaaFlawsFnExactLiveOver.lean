-- Printed by wip/px/px.py of this claim's repository (the kit's printer, extended there). Lean checks it.
import Derived.Test.YtbappbbljncdeaaFKinds
import Derived.Test.YtbappbbljncdeaaFlawsLive
import Derived.Test.YtbappbbljncdeaaFlawsLive
import Derived.Test.YtbappbbljncdeaaFlawsLive
import Derived.Test.YtbappbbljncdeaaFspecLiveOver
import Derived.Test.YtbappbbljncdeaaFimplLiveOver
import Derived.Test.YtbappbbljncdeaaFlawsmarkLive
import Derived.Test.YtbappbbljncdeaaFlawsheldLive
namespace Go.Proofs.Ytbappbbljncdeaa.F
open Go.RowKit Go.Proofs.YtbappbbljncdeaaW.PrintWords Go.Proofs.YtbappbbljncdeaaW.PrintLast Go.Proofs.YtbappbbljncdeaaW.PrintMore
attribute [local go_sem] max2_int min2_int max_two min_two max_three min_three max_four min_four   -- for this text's walks alone
set_option linter.unusedVariables false
set_option linter.unusedSimpArgs false

/-! ### laws_FnExactLiveOver: function 10 -/
mutual
def laws_FnExactLiveOver.j0 : Nat → Int → Bool → Bool → Bool → Int → List (S132) → List (S68) → Int → List (S100) → List (S70) → Int → List (S100) → List (S70) → Int → List (S100) → List (S70) → Option (Bool)
 | 0, _, _, _, _, _, _, _, _, _, _, _, _, _, _, _, _ => none
 | k + 1, x1, x7, x10, x44, x1032000, x1032001, x1032002, x1049000, x1049001, x1049002, x1057000, x1057001, x1057002, x1066000, x1066001, x1066002 => if x44 = true then (some false) else ((laws_toLive.f k x1032000 x1032001 x1032002).bind fun bt1067 => ((laws_eqLive.f k x1057000 x1057001 x1057002 bt1067.1 bt1067.2.1 bt1067.2.2).bind fun t1074 => (if t1074 = true then ((laws_markLive.f k x1057000 x1057001 x1057002 1).bind fun bt1075 => (if bt1075.1 < 0 then (laws_FnExactLiveOver.j1 k x1 x7 true x1032000 x1032001 x1032002 x1049000 x1049001 x1049002 x1066000 x1066001 x1066002) else ((laws_eqLive.f k x1066000 x1066001 x1066002 x1049000 x1049001 x1049002).bind fun t1078 => (if t1078 = true then (laws_FnExactLiveOver.j1 k x1 x7 (x10 != x7) x1032000 x1032001 x1032002 x1049000 x1049001 x1049002 x1066000 x1066001 x1066002) else (laws_FnExactLiveOver.j1 k x1 x7 true x1032000 x1032001 x1032002 x1049000 x1049001 x1049002 x1066000 x1066001 x1066002))))) else (some false))))
def laws_FnExactLiveOver.j1 : Nat → Int → Bool → Bool → Int → List (S132) → List (S68) → Int → List (S100) → List (S70) → Int → List (S100) → List (S70) → Option (Bool)
 | 0, _, _, _, _, _, _, _, _, _, _, _, _ => none
 | k + 1, x1, x7, x65, x1032000, x1032001, x1032002, x1049000, x1049001, x1049002, x1066000, x1066001, x1066002 => if x65 = true then (some false) else ((laws_markLive.f k x1066000 x1066001 x1066002 1).bind fun bt1079 => ((laws_heldLive.f k x1066000 bt1079.2.1 bt1079.2.2 1).bind fun t1082 => (if t1082 < 0 then (some false) else (if t1082 = bt1079.1 then ((laws_toLive.f k x1032000 x1032001 x1032002).bind fun bt1083 => ((impl_LiveOver.f k bt1083.1 bt1083.2.1 bt1083.2.2 x1).bind fun bt1090 => ((laws_eqLive.f k bt1090.1 bt1090.2.1 bt1090.2.2.1 x1049000 x1049001 x1049002).bind fun t1099 => (if t1099 = true then (laws_FnExactLiveOver.j2 k bt1079.1 (bt1090.2.2.2 != x7) x1066000 bt1079.2.1 bt1079.2.2) else (laws_FnExactLiveOver.j2 k bt1079.1 true x1066000 bt1079.2.1 bt1079.2.2))))) else (some false)))))
def laws_FnExactLiveOver.j2 : Nat → Int → Bool → Int → List (S100) → List (S70) → Option (Bool)
 | 0, _, _, _, _, _ => none
 | k + 1, x12, x92, x1066000, x1066001, x1066002 => if x92 = true then (some false) else ((laws_heldLive.f k x1066000 x1066001 x1066002 1).bind fun t1100 => (if t1100 < 0 then (some false) else (if t1100 = x12 then (some true) else (some false))))
end
def laws_FnExactLiveOver.f (k : Nat) (a0_0 : Int) (l0_1 : List (S132)) (l0_2 : List (S68)) (a1 : Int) : Option (Bool) := (laws_szLive.f a0_0 l0_1 l0_2 1048576).bind fun t1032 => (if t1032 < 0 then (some true) else ((laws_toLive.f k a0_0 l0_1 l0_2).bind fun bt1033 => ((spec_LiveOver.f k bt1033.1 bt1033.2.1 bt1033.2.2 a1).bind fun bt1040 => ((laws_toLive.f k a0_0 l0_1 l0_2).bind fun bt1049 => ((impl_LiveOver.f k bt1049.1 bt1049.2.1 bt1049.2.2 a1).bind fun bt1057 => ((laws_eqLive.f k bt1057.1 bt1057.2.1 bt1057.2.2.1 bt1040.1 bt1040.2.1 bt1040.2.2.1).bind fun t1066 => (if t1066 = true then (laws_FnExactLiveOver.j0 k a1 bt1040.2.2.2 bt1057.2.2.2 (bt1057.2.2.2 != bt1040.2.2.2) a0_0 l0_1 l0_2 bt1040.1 bt1040.2.1 bt1040.2.2.1 bt1049.1 bt1049.2.1 bt1049.2.2 bt1057.1 bt1057.2.1 bt1057.2.2.1) else (laws_FnExactLiveOver.j0 k a1 bt1040.2.2.2 bt1057.2.2.2 true a0_0 l0_1 l0_2 bt1040.1 bt1040.2.1 bt1040.2.2.1 bt1049.1 bt1049.2.1 bt1049.2.2 bt1057.1 bt1057.2.1 bt1057.2.2.1))))))))
theorem laws_FnExactLiveOver.mono_l : ∀ k, (∀ y0 y1 y2 y3 y4 y5 y6 y7 y8 y9 y10 y11 y12 y13 y14 y15, LeO (laws_FnExactLiveOver.j0 k y0 y1 y2 y3 y4 y5 y6 y7 y8 y9 y10 y11 y12 y13 y14 y15) (laws_FnExactLiveOver.j0 (k + 1) y0 y1 y2 y3 y4 y5 y6 y7 y8 y9 y10 y11 y12 y13 y14 y15)) ∧ (∀ y0 y1 y2 y3 y4 y5 y6 y7 y8 y9 y10 y11, LeO (laws_FnExactLiveOver.j1 k y0 y1 y2 y3 y4 y5 y6 y7 y8 y9 y10 y11) (laws_FnExactLiveOver.j1 (k + 1) y0 y1 y2 y3 y4 y5 y6 y7 y8 y9 y10 y11)) ∧ (∀ y0 y1 y2 y3 y4, LeO (laws_FnExactLiveOver.j2 k y0 y1 y2 y3 y4) (laws_FnExactLiveOver.j2 (k + 1) y0 y1 y2 y3 y4))
 | 0 => ⟨fun _ _ _ _ _ _ _ _ _ _ _ _ _ _ _ _ r h => by simp [laws_FnExactLiveOver.j0] at h, fun _ _ _ _ _ _ _ _ _ _ _ _ r h => by simp [laws_FnExactLiveOver.j1] at h, fun _ _ _ _ _ r h => by simp [laws_FnExactLiveOver.j2] at h⟩
 | k + 1 => by
  obtain ⟨ih0, ih1, ih2⟩ := laws_FnExactLiveOver.mono_l k
  refine ⟨?_, ?_, ?_⟩
  ·intro y0 y1 y2 y3 y4 y5 y6 y7 y8 y9 y10 y11 y12 y13 y14 y15
   unfold laws_FnExactLiveOver.j0
   repeat' first
   | (with_reducible exact ih0 _ _ _ _ _ _ _ _ _ _ _ _ _ _ _ _)
   | (with_reducible exact ih1 _ _ _ _ _ _ _ _ _ _ _ _)
   | (with_reducible exact ih2 _ _ _ _ _)
   | (with_reducible exact impl_LiveOver.mono _ _ _ _ _)
   | (with_reducible exact laws_eqLive.mono _ _ _ _ _ _ _)
   | (with_reducible exact laws_heldLive.mono _ _ _ _ _)
   | (with_reducible exact laws_markLive.mono _ _ _ _ _)
   | (with_reducible exact laws_toLive.mono _ _ _ _)
   | (with_reducible exact spec_LiveOver.mono _ _ _ _ _)
   | (with_reducible exact LeO.refl _)
   | (with_reducible exact LeO.none _)
   | (with_reducible refine LeO.ite ?_ ?_)
   | (with_reducible refine LeO.bind ?_ (fun _ => ?_))
   | exact ih0 _ _ _ _ _ _ _ _ _ _ _ _ _ _ _ _
   | exact ih1 _ _ _ _ _ _ _ _ _ _ _ _
   | exact ih2 _ _ _ _ _
   | exact impl_LiveOver.mono _ _ _ _ _
   | exact laws_eqLive.mono _ _ _ _ _ _ _
   | exact laws_heldLive.mono _ _ _ _ _
   | exact laws_markLive.mono _ _ _ _ _
   | exact laws_toLive.mono _ _ _ _
   | exact spec_LiveOver.mono _ _ _ _ _
   | exact LeO.none _
   | refine LeO.ite ?_ ?_
   | refine LeO.bind ?_ (fun _ => ?_)
  ·intro y0 y1 y2 y3 y4 y5 y6 y7 y8 y9 y10 y11
   unfold laws_FnExactLiveOver.j1
   repeat' first
   | (with_reducible exact ih0 _ _ _ _ _ _ _ _ _ _ _ _ _ _ _ _)
   | (with_reducible exact ih1 _ _ _ _ _ _ _ _ _ _ _ _)
   | (with_reducible exact ih2 _ _ _ _ _)
   | (with_reducible exact impl_LiveOver.mono _ _ _ _ _)
   | (with_reducible exact laws_eqLive.mono _ _ _ _ _ _ _)
   | (with_reducible exact laws_heldLive.mono _ _ _ _ _)
   | (with_reducible exact laws_markLive.mono _ _ _ _ _)
   | (with_reducible exact laws_toLive.mono _ _ _ _)
   | (with_reducible exact spec_LiveOver.mono _ _ _ _ _)
   | (with_reducible exact LeO.refl _)
   | (with_reducible exact LeO.none _)
   | (with_reducible refine LeO.ite ?_ ?_)
   | (with_reducible refine LeO.bind ?_ (fun _ => ?_))
   | exact ih0 _ _ _ _ _ _ _ _ _ _ _ _ _ _ _ _
   | exact ih1 _ _ _ _ _ _ _ _ _ _ _ _
   | exact ih2 _ _ _ _ _
   | exact impl_LiveOver.mono _ _ _ _ _
   | exact laws_eqLive.mono _ _ _ _ _ _ _
   | exact laws_heldLive.mono _ _ _ _ _
   | exact laws_markLive.mono _ _ _ _ _
   | exact laws_toLive.mono _ _ _ _
   | exact spec_LiveOver.mono _ _ _ _ _
   | exact LeO.none _
   | refine LeO.ite ?_ ?_
   | refine LeO.bind ?_ (fun _ => ?_)
  ·intro y0 y1 y2 y3 y4
   unfold laws_FnExactLiveOver.j2
   repeat' first
   | (with_reducible exact ih0 _ _ _ _ _ _ _ _ _ _ _ _ _ _ _ _)
   | (with_reducible exact ih1 _ _ _ _ _ _ _ _ _ _ _ _)
   | (with_reducible exact ih2 _ _ _ _ _)
   | (with_reducible exact impl_LiveOver.mono _ _ _ _ _)
   | (with_reducible exact laws_eqLive.mono _ _ _ _ _ _ _)
   | (with_reducible exact laws_heldLive.mono _ _ _ _ _)
   | (with_reducible exact laws_markLive.mono _ _ _ _ _)
   | (with_reducible exact laws_toLive.mono _ _ _ _)
   | (with_reducible exact spec_LiveOver.mono _ _ _ _ _)
   | (with_reducible exact LeO.refl _)
   | (with_reducible exact LeO.none _)
   | (with_reducible refine LeO.ite ?_ ?_)
   | (with_reducible refine LeO.bind ?_ (fun _ => ?_))
   | exact ih0 _ _ _ _ _ _ _ _ _ _ _ _ _ _ _ _
   | exact ih1 _ _ _ _ _ _ _ _ _ _ _ _
   | exact ih2 _ _ _ _ _
   | exact impl_LiveOver.mono _ _ _ _ _
   | exact laws_eqLive.mono _ _ _ _ _ _ _
   | exact laws_heldLive.mono _ _ _ _ _
   | exact laws_markLive.mono _ _ _ _ _
   | exact laws_toLive.mono _ _ _ _
   | exact spec_LiveOver.mono _ _ _ _ _
   | exact LeO.none _
   | refine LeO.ite ?_ ?_
   | refine LeO.bind ?_ (fun _ => ?_)
theorem laws_FnExactLiveOver.mono : ∀ a0 a1 a2 a3 k, LeO (laws_FnExactLiveOver.f k a0 a1 a2 a3) (laws_FnExactLiveOver.f (k + 1) a0 a1 a2 a3) := by
 intro a0 a1 a2 a3 k
 obtain ⟨ih0, ih1, ih2⟩ := laws_FnExactLiveOver.mono_l k
 unfold laws_FnExactLiveOver.f
 repeat' first
   | (with_reducible exact ih0 _ _ _ _ _ _ _ _ _ _ _ _ _ _ _ _)
   | (with_reducible exact ih1 _ _ _ _ _ _ _ _ _ _ _ _)
   | (with_reducible exact ih2 _ _ _ _ _)
   | (with_reducible exact impl_LiveOver.mono _ _ _ _ _)
   | (with_reducible exact laws_eqLive.mono _ _ _ _ _ _ _)
   | (with_reducible exact laws_heldLive.mono _ _ _ _ _)
   | (with_reducible exact laws_markLive.mono _ _ _ _ _)
   | (with_reducible exact laws_toLive.mono _ _ _ _)
   | (with_reducible exact spec_LiveOver.mono _ _ _ _ _)
   | (with_reducible exact LeO.refl _)
   | (with_reducible exact LeO.none _)
   | (with_reducible refine LeO.ite ?_ ?_)
   | (with_reducible refine LeO.bind ?_ (fun _ => ?_))
   | exact ih0 _ _ _ _ _ _ _ _ _ _ _ _ _ _ _ _
   | exact ih1 _ _ _ _ _ _ _ _ _ _ _ _
   | exact ih2 _ _ _ _ _
   | exact impl_LiveOver.mono _ _ _ _ _
   | exact laws_eqLive.mono _ _ _ _ _ _ _
   | exact laws_heldLive.mono _ _ _ _ _
   | exact laws_markLive.mono _ _ _ _ _
   | exact laws_toLive.mono _ _ _ _
   | exact spec_LiveOver.mono _ _ _ _ _
   | exact LeO.none _
   | refine LeO.ite ?_ ?_
   | refine LeO.bind ?_ (fun _ => ?_)
set_option maxHeartbeats 8000000 in
set_option maxRecDepth 100000 in
theorem laws_FnExactLiveOver.calls (k : Nat) (a0_0 : Int) (A0_1 : Option Addr) (c0_1 : Nat) (l0_1 : List (S132)) (A0_2 : Option Addr) (c0_2 : Nat) (l0_2 : List (S68)) (a1 : Int) (r : Bool) (w : World) (hr0_1 : Kd.C k132 w A0_1 l0_1.length l0_1) (hc0_1 : l0_1.length ≤ c0_1) (hr0_2 : Kd.C k68 w A0_2 l0_2.length l0_2) (hc0_2 : l0_2.length ≤ c0_2) (h : laws_FnExactLiveOver.f k a0_0 l0_1 l0_2 a1 = some r) (hr_ : r = true) :
  Calls Try.prog 10 #[.agg #[.int .i64 a0_0, .slice A0_1 l0_1.length c0_1, .slice A0_2 l0_2.length c0_2], .int .i64 a1] w fun e w' => e = .returned (.bool r) ∧ Below w.heap.size w w' := by
 have hu44 := Try.underlying44
 have hu49 := Try.underlying49
 have HR0_1 := ak hr0_1
 have HC0_1 := ak hc0_1
 clear hr0_1 hc0_1
 have HR0_2 := ak hr0_2
 have HC0_2 := ak hc0_2
 clear hr0_2 hc0_2
 have HB := ak (Below.refl w.heap.size w)
 have H : ((laws_szLive.f a0_0 l0_1 l0_2 1048576).bind fun t1032 => (if t1032 < 0 then (some true) else ((laws_toLive.f k a0_0 l0_1 l0_2).bind fun bt1033 => ((spec_LiveOver.f k bt1033.1 bt1033.2.1 bt1033.2.2 a1).bind fun bt1040 => ((laws_toLive.f k a0_0 l0_1 l0_2).bind fun bt1049 => ((impl_LiveOver.f k bt1049.1 bt1049.2.1 bt1049.2.2 a1).bind fun bt1057 => ((laws_eqLive.f k bt1057.1 bt1057.2.1 bt1057.2.2.1 bt1040.1 bt1040.2.1 bt1040.2.2.1).bind fun t1066 => (if t1066 = true then (laws_FnExactLiveOver.j0 k a1 bt1040.2.2.2 bt1057.2.2.2 (bt1057.2.2.2 != bt1040.2.2.2) a0_0 l0_1 l0_2 bt1040.1 bt1040.2.1 bt1040.2.2.1 bt1049.1 bt1049.2.1 bt1049.2.2 bt1057.1 bt1057.2.1 bt1057.2.2.1) else (laws_FnExactLiveOver.j0 k a1 bt1040.2.2.2 bt1057.2.2.2 true a0_0 l0_1 l0_2 bt1040.1 bt1040.2.1 bt1040.2.2.1 bt1049.1 bt1049.2.1 bt1049.2.2 bt1057.1 bt1057.2.1 bt1057.2.2.1))))))))) = some r := h
 clear h
 replace H := Option.bind_eq_some_iff.mp H
 obtain ⟨t1032, A30, H⟩ := H
 have A3 := ak A30
 clear A30
 by_cases c4 : t1032 < 0
 ·rw [if_pos c4] at H
  have c4b0 : decide (t1032 < 0) = true := decide_eq_true c4
  clear c4
  obtain rfl := Option.some.inj H
  go_enter Try.func10, Try.ntmps10
  go_wp2_with (first | ((with_reducible refine gate_dst (N := 2) rfl ?_); refine box_event ?hg (N := 2) ?hd (cs := #[.int .i64 a0_0, .slice A0_1 l0_1.length c0_1, .slice A0_2 l0_2.length c0_2]) (t := 44) ?hr ?_; (case hd => rfl); (case hg => rfl); (case hr => first | (go_simp; done) | (go_simp; rfl)); intro gb1031 hg w5 hbox hb; have BK1031 := ak (hbox); have GW1031 := ak ((by rw [hg]; exact (below_size (bl HB)) : w.heap.size ≤ gb1031)); have GE1031 := ak ((by rw [hg]; exact (below_size (bl HB)) : w.heap.size ≤ gb1031)); replace HB := ak (below_step (bl HB) hb); clear hb hbox hg; have hcz6_0 := bc w5 BK1031 0 (.int .i64 a0_0) rfl; have hcz6_1 := bc w5 BK1031 1 (.slice A0_1 l0_1.length c0_1) rfl; have hcz6_2 := bc w5 BK1031 2 (.slice A0_2 l0_2.length c0_2) rfl; have hfz6_0 := fz BK1031 0; have hfz6_1 := fz BK1031 1; have hfz6_2 := fz BK1031 2) | ((with_reducible refine gate_callee (f := 29) rfl ?_); refine goesL_ (some 18) rfl rfl Try.func29 (by kernel_rfl) rfl #[.agg #[.int .i64 a0_0, .slice A0_1 l0_1.length c0_1, .slice A0_2 l0_2.length c0_2], .int .i64 1048576] rfl (by (try simp only [List.map_toArray, List.map_cons, List.map_nil]); first | done | rfl | (simp only [List.length_drop, List.length_take]; rfl)) ?_; (with_reducible refine (laws_szLive.calls a0_0 _ _ l0_1 _ _ l0_2 1048576 t1032 _ ?side1 ?side2 ?side3 ?side4 A3.out).mono ?_); (case side1 => repeat (first | exact (Kd.C_below HR0_1.out HB.out) | (with_reducible refine Kd.C_alloc ?_ _) | (with_reducible refine Kd.C_drewN ?_ _) | (with_reducible refine Kd.C_drew ?_))); (case side2 => exact HC0_1.out); (case side3 => repeat (first | exact (Kd.C_below HR0_2.out HB.out) | (with_reducible refine Kd.C_alloc ?_ _) | (with_reducible refine Kd.C_drewN ?_ _) | (with_reducible refine Kd.C_drew ?_))); (case side4 => exact HC0_2.out); rintro e w7 ⟨rfl, hb⟩; refine ⟨_, rfl, ?_⟩; replace BK1031 := ak (blk_below (bk BK1031) hb); replace HB := ak (below_step (bl1 HB GE1031) hb); (try clear hb); (try clear hb2); (try clear hk); (try clear hi)))
  go_ret
  exact ⟨by first | rfl | (simp [errW_none, errW_some] <;> rfl) | (simp [*, errW_none, errW_some] <;> rfl), bl1 HB GE1031⟩
 rw [if_neg c4] at H
 have c4b0 : decide (t1032 < 0) = false := decide_eq_false c4
 clear c4
 replace H := Option.bind_eq_some_iff.mp H
 obtain ⟨⟨t1033, t1034, t1037⟩, A80, H⟩ := H
 have A8 := ak A80
 clear A80
 replace H := Option.bind_eq_some_iff.mp H
 obtain ⟨⟨t1040, t1041, t1044, t1047⟩, A90, H⟩ := H
 have A9 := ak A90
 clear A90
 replace H := Option.bind_eq_some_iff.mp H
 obtain ⟨⟨t1049, t1050, t1053⟩, A100, H⟩ := H
 have A10 := ak A100
 clear A100
 replace H := Option.bind_eq_some_iff.mp H
 obtain ⟨⟨t1057, t1058, t1061, t1064⟩, A110, H⟩ := H
 have A11 := ak A110
 clear A110
 have HC12 := ak H
 clear H
 go_enter Try.func10, Try.ntmps10
 go_upto_region 8 with (first | ((with_reducible refine gate_dst (N := 2) rfl ?_); refine box_event ?hg (N := 2) ?hd (cs := #[.int .i64 a0_0, .slice A0_1 l0_1.length c0_1, .slice A0_2 l0_2.length c0_2]) (t := 44) ?hr ?_; (case hd => rfl); (case hg => rfl); (case hr => first | (go_simp; done) | (go_simp; rfl)); intro gb1031 hg w13 hbox hb; have BK1031 := ak (hbox); have GW1031 := ak ((by rw [hg]; exact (below_size (bl HB)) : w.heap.size ≤ gb1031)); have GE1031 := ak ((by rw [hg]; exact (below_size (bl HB)) : w.heap.size ≤ gb1031)); replace HB := ak (below_step (bl HB) hb); clear hb hbox hg; have hcz14_0 := bc w13 BK1031 0 (.int .i64 a0_0) rfl; have hcz14_1 := bc w13 BK1031 1 (.slice A0_1 l0_1.length c0_1) rfl; have hcz14_2 := bc w13 BK1031 2 (.slice A0_2 l0_2.length c0_2) rfl; have hfz14_0 := fz BK1031 0; have hfz14_1 := fz BK1031 1; have hfz14_2 := fz BK1031 2) | ((with_reducible refine gate_callee (f := 29) rfl ?_); refine goesL_ (some 18) rfl rfl Try.func29 (by kernel_rfl) rfl #[.agg #[.int .i64 a0_0, .slice A0_1 l0_1.length c0_1, .slice A0_2 l0_2.length c0_2], .int .i64 1048576] rfl (by (try simp only [List.map_toArray, List.map_cons, List.map_nil]); first | done | rfl | (simp only [List.length_drop, List.length_take]; rfl)) ?_; (with_reducible refine (laws_szLive.calls a0_0 _ _ l0_1 _ _ l0_2 1048576 t1032 _ ?side1 ?side2 ?side3 ?side4 A3.out).mono ?_); (case side1 => repeat (first | exact (Kd.C_below HR0_1.out HB.out) | (with_reducible refine Kd.C_alloc ?_ _) | (with_reducible refine Kd.C_drewN ?_ _) | (with_reducible refine Kd.C_drew ?_))); (case side2 => exact HC0_1.out); (case side3 => repeat (first | exact (Kd.C_below HR0_2.out HB.out) | (with_reducible refine Kd.C_alloc ?_ _) | (with_reducible refine Kd.C_drewN ?_ _) | (with_reducible refine Kd.C_drew ?_))); (case side4 => exact HC0_2.out); rintro e w15 ⟨rfl, hb⟩; refine ⟨_, rfl, ?_⟩; replace BK1031 := ak (blk_below (bk BK1031) hb); replace HB := ak (below_step (bl1 HB GE1031) hb); (try clear hb); (try clear hb2); (try clear hk); (try clear hi); have hcz16_0 := bc w15 BK1031 0 (.int .i64 a0_0) rfl; have hcz16_1 := bc w15 BK1031 1 (.slice A0_1 l0_1.length c0_1) rfl; have hcz16_2 := bc w15 BK1031 2 (.slice A0_2 l0_2.length c0_2) rfl; have hfz16_0 := fz BK1031 0; have hfz16_1 := fz BK1031 1; have hfz16_2 := fz BK1031 2) | ((with_reducible refine gate_callee (f := 31) rfl ?_); refine goesL_ (some 23) rfl rfl Try.func31 (by kernel_rfl) rfl #[.agg #[.int .i64 a0_0, .slice A0_1 l0_1.length c0_1, .slice A0_2 l0_2.length c0_2]] rfl (by (try simp only [List.map_toArray, List.map_cons, List.map_nil]); first | done | rfl | (simp only [List.length_drop, List.length_take]; rfl)) ?_; (with_reducible refine (laws_toLive.calls k a0_0 _ _ l0_1 _ _ l0_2 t1033 t1034 t1037 _ ?side1 ?side2 ?side3 ?side4 A8.out).mono ?_); (case side1 => repeat (first | exact (Kd.C_below HR0_1.out HB.out) | (with_reducible refine Kd.C_alloc ?_ _) | (with_reducible refine Kd.C_drewN ?_ _) | (with_reducible refine Kd.C_drew ?_))); (case side2 => exact HC0_1.out); (case side3 => repeat (first | exact (Kd.C_below HR0_2.out HB.out) | (with_reducible refine Kd.C_alloc ?_ _) | (with_reducible refine Kd.C_drewN ?_ _) | (with_reducible refine Kd.C_drew ?_))); (case side4 => exact HC0_2.out); rintro e w17 ⟨v1035, v1038, rfl, ho0, ho1, hb⟩; refine ⟨_, rfl, ?_⟩; have HO1036 := ak (Kd.R_lower ho0 (below_size (bl1 HB GE1031))); have HO1039 := ak (Kd.R_lower ho1 (below_size (bl1 HB GE1031))); replace BK1031 := ak (blk_below (bk BK1031) hb); replace HB := ak (below_step (bl1 HB GE1031) hb); (try clear hb); (try clear hb2); (try clear hk); (try clear hi); (try clear ho0); (try clear ho1); obtain ⟨Ao18, co18, eo18⟩ := Kd.R_slice HO1036.out; subst eo18; obtain ⟨Ao19, co19, eo19⟩ := Kd.R_slice HO1039.out; subst eo19) | ((with_reducible refine gate_callee (f := 43) rfl ?_); refine goesL_ (some 25) rfl rfl Try.func43 (by kernel_rfl) rfl #[.agg #[.int .i64 t1033, .slice Ao18 t1034.length co18, .slice Ao19 t1037.length co19], .int .i64 a1] rfl (by (try simp only [List.map_toArray, List.map_cons, List.map_nil]); first | done | rfl | (simp only [List.length_drop, List.length_take]; rfl)) ?_; (with_reducible refine (spec_LiveOver.calls k t1033 _ _ t1034 _ _ t1037 a1 t1040 t1041 t1044 t1047 _ ?side1 ?side2 ?side3 ?side4 A9.out).mono ?_); (case side1 => repeat (first | exact (Kd.R_reads' HO1036.out).2.2 | (with_reducible refine Kd.C_alloc ?_ _) | (with_reducible refine Kd.C_drewN ?_ _) | (with_reducible refine Kd.C_drew ?_))); (case side2 => exact (Kd.R_reads' HO1036.out).2.1); (case side3 => repeat (first | exact (Kd.R_reads' HO1039.out).2.2 | (with_reducible refine Kd.C_alloc ?_ _) | (with_reducible refine Kd.C_drewN ?_ _) | (with_reducible refine Kd.C_drew ?_))); (case side4 => exact (Kd.R_reads' HO1039.out).2.1); rintro e w20 ⟨v1042, v1045, rfl, ho0, ho1, hb⟩; refine ⟨_, rfl, ?_⟩; have HO1043 := ak (Kd.R_lower (Kd.R_new' ho0 (Kd.R_lt (rk HO1036))) (below_size (bl1 HB GE1031))); replace HO1036 := ak (Kd.R_elder' (rk HO1036) (Kd.R_base ho0) hb); have HO1046 := ak (Kd.R_lower (Kd.R_new' ho1 (Kd.R_lt (rk HO1039))) (below_size (bl1 HB GE1031))); replace HO1039 := ak (Kd.R_elder' (rk HO1039) (Kd.R_base ho1) hb); replace BK1031 := ak (blk_below (bk BK1031) hb); replace HB := ak (below_step (bl1 HB GE1031) hb); (try clear hb); (try clear hb2); (try clear hk); (try clear hi); (try clear ho0); (try clear ho1)) | ((with_reducible refine gate_dst (N := 6) rfl ?_); refine box_event ?hg (N := 6) ?hd (cs := #[.int .i64 0, .slice none 0 0, .slice none 0 0]) (t := 49) ?hr ?_; (case hd => rfl); (case hg => rfl); (case hr => first | (go_simp; done) | (go_simp; rfl)); intro gb1048 hg w21 hbox hb; replace HO1036 := ak (Kd.R_below (rk HO1036) hb); replace HO1039 := ak (Kd.R_below (rk HO1039) hb); replace HO1043 := ak (Kd.R_below (rk HO1043) hb); replace HO1046 := ak (Kd.R_below (rk HO1046) hb); have BK1048 := ak (hbox); have GW1048 := ak ((by rw [hg]; exact (below_size (bl1 HB GE1031)) : w.heap.size ≤ gb1048)); have GE1048 := ak ((by rw [hg]; exact (below_size (bl1 HB GE1031)) : w.heap.size ≤ gb1048)); replace HB := ak (below_step (bl1 HB GE1031) hb); have NB1031_1048 := ak ((by rw [hg]; exact Nat.ne_of_lt (blk_lt (bk BK1031)) : gb1031 ≠ gb1048)); have NB1048_1031 := ak ((by rw [hg]; exact Nat.ne_of_gt (blk_lt (bk BK1031)) : gb1048 ≠ gb1031)); replace BK1031 := ak (blk_below (bk BK1031) hb); clear hb hbox hg; have hnb22 := NB1048_1031.out; have hnc22 := NB1031_1048.out; have hcz23_0 := bc w21 BK1048 0 (.int .i64 0) rfl; have hcz23_1 := bc w21 BK1048 1 (.slice none 0 0) rfl; have hcz23_2 := bc w21 BK1048 2 (.slice none 0 0) rfl; have hfz23_0 := fz BK1048 0; have hfz23_1 := fz BK1048 1; have hfz23_2 := fz BK1048 2; obtain ⟨Ao24, co24, eo24⟩ := Kd.R_slice HO1043.out; subst eo24; obtain ⟨Ao25, co25, eo25⟩ := Kd.R_slice HO1046.out; subst eo25; have hcz26_0 := bc w21 BK1031 0 (.int .i64 a0_0) rfl; have hcz26_1 := bc w21 BK1031 1 (.slice A0_1 l0_1.length c0_1) rfl; have hcz26_2 := bc w21 BK1031 2 (.slice A0_2 l0_2.length c0_2) rfl; have hfz26_0 := fz BK1031 0; have hfz26_1 := fz BK1031 1; have hfz26_2 := fz BK1031 2) | ((with_reducible refine gate_callee (f := 31) rfl ?_); refine goesL_ (some 29) rfl rfl Try.func31 (by kernel_rfl) rfl #[.agg #[.int .i64 a0_0, .slice A0_1 l0_1.length c0_1, .slice A0_2 l0_2.length c0_2]] rfl (by (try simp only [List.map_toArray, List.map_cons, List.map_nil]); first | done | rfl | (simp only [List.length_drop, List.length_take]; rfl)) ?_; (with_reducible refine (laws_toLive.calls k a0_0 _ _ l0_1 _ _ l0_2 t1049 t1050 t1053 _ ?side1 ?side2 ?side3 ?side4 A10.out).mono ?_); (case side1 => exact Kd.C_below HR0_1.out (bl2 HB GE1031 GE1048)); (case side2 => exact HC0_1.out); (case side3 => exact Kd.C_below HR0_2.out (bl2 HB GE1031 GE1048)); (case side4 => exact HC0_2.out); rintro e w27 ⟨v1051, v1054, rfl, ho0, ho1, hb⟩; refine ⟨_, rfl, ?_⟩; have HO1052 := ak (Kd.R_lower (Kd.R_new' (Kd.R_new' ho0 (Kd.R_lt (by (with_reducible repeat (first | apply Kd.R_alloc | apply Kd.R_drewN | apply Kd.R_drew)); exact (Kd.R_mono (Kd.R_far (p := ⟨gb1048, 2, none⟩) (Kd.R_far (p := ⟨gb1048, 1, none⟩) (Kd.R_far (p := ⟨gb1048, 0, none⟩) (Kd.R_types HO1036.out BK1048.out (by decide)) (fun _ hk => hk.2) (.int .i64 t1040)) (fun _ hk => hk.2) (.slice Ao24 t1041.length co24)) (fun _ hk => hk.2) (.slice Ao25 t1044.length co25)) (fun _ h_ => h_.1))))) (Kd.R_lt (by (with_reducible repeat (first | apply Kd.R_alloc | apply Kd.R_drewN | apply Kd.R_drew)); exact (Kd.R_mono (Kd.R_far (p := ⟨gb1048, 2, none⟩) (Kd.R_far (p := ⟨gb1048, 1, none⟩) (Kd.R_far (p := ⟨gb1048, 0, none⟩) (Kd.R_types HO1043.out BK1048.out (by decide)) (fun _ hk => hk.2) (.int .i64 t1040)) (fun _ hk => hk.2) (.slice Ao24 t1041.length co24)) (fun _ hk => hk.2) (.slice Ao25 t1044.length co25)) (fun _ h_ => h_.1))))) (below_size (bl2 HB GE1031 GE1048))); replace HO1036 := ak (Kd.R_elder' (by (with_reducible repeat (first | apply Kd.R_alloc | apply Kd.R_drewN | apply Kd.R_drew)); exact (Kd.R_mono (Kd.R_far (p := ⟨gb1048, 2, none⟩) (Kd.R_far (p := ⟨gb1048, 1, none⟩) (Kd.R_far (p := ⟨gb1048, 0, none⟩) (Kd.R_types HO1036.out BK1048.out (by decide)) (fun _ hk => hk.2) (.int .i64 t1040)) (fun _ hk => hk.2) (.slice Ao24 t1041.length co24)) (fun _ hk => hk.2) (.slice Ao25 t1044.length co25)) (fun _ h_ => h_.1))) (Kd.R_base ho0) hb); replace HO1043 := ak (Kd.R_elder' (by (with_reducible repeat (first | apply Kd.R_alloc | apply Kd.R_drewN | apply Kd.R_drew)); exact (Kd.R_mono (Kd.R_far (p := ⟨gb1048, 2, none⟩) (Kd.R_far (p := ⟨gb1048, 1, none⟩) (Kd.R_far (p := ⟨gb1048, 0, none⟩) (Kd.R_types HO1043.out BK1048.out (by decide)) (fun _ hk => hk.2) (.int .i64 t1040)) (fun _ hk => hk.2) (.slice Ao24 t1041.length co24)) (fun _ hk => hk.2) (.slice Ao25 t1044.length co25)) (fun _ h_ => h_.1))) (Kd.R_base ho0) hb); have HO1055 := ak (Kd.R_lower (Kd.R_new' (Kd.R_new' ho1 (Kd.R_lt (by (with_reducible repeat (first | apply Kd.R_alloc | apply Kd.R_drewN | apply Kd.R_drew)); exact (Kd.R_mono (Kd.R_far (p := ⟨gb1048, 2, none⟩) (Kd.R_far (p := ⟨gb1048, 1, none⟩) (Kd.R_far (p := ⟨gb1048, 0, none⟩) (Kd.R_types HO1039.out BK1048.out (by decide)) (fun _ hk => hk.2) (.int .i64 t1040)) (fun _ hk => hk.2) (.slice Ao24 t1041.length co24)) (fun _ hk => hk.2) (.slice Ao25 t1044.length co25)) (fun _ h_ => h_.1))))) (Kd.R_lt (by (with_reducible repeat (first | apply Kd.R_alloc | apply Kd.R_drewN | apply Kd.R_drew)); exact (Kd.R_mono (Kd.R_far (p := ⟨gb1048, 2, none⟩) (Kd.R_far (p := ⟨gb1048, 1, none⟩) (Kd.R_far (p := ⟨gb1048, 0, none⟩) (Kd.R_types HO1046.out BK1048.out (by decide)) (fun _ hk => hk.2) (.int .i64 t1040)) (fun _ hk => hk.2) (.slice Ao24 t1041.length co24)) (fun _ hk => hk.2) (.slice Ao25 t1044.length co25)) (fun _ h_ => h_.1))))) (below_size (bl2 HB GE1031 GE1048))); replace HO1039 := ak (Kd.R_elder' (by (with_reducible repeat (first | apply Kd.R_alloc | apply Kd.R_drewN | apply Kd.R_drew)); exact (Kd.R_mono (Kd.R_far (p := ⟨gb1048, 2, none⟩) (Kd.R_far (p := ⟨gb1048, 1, none⟩) (Kd.R_far (p := ⟨gb1048, 0, none⟩) (Kd.R_types HO1039.out BK1048.out (by decide)) (fun _ hk => hk.2) (.int .i64 t1040)) (fun _ hk => hk.2) (.slice Ao24 t1041.length co24)) (fun _ hk => hk.2) (.slice Ao25 t1044.length co25)) (fun _ h_ => h_.1))) (Kd.R_base ho1) hb); replace HO1046 := ak (Kd.R_elder' (by (with_reducible repeat (first | apply Kd.R_alloc | apply Kd.R_drewN | apply Kd.R_drew)); exact (Kd.R_mono (Kd.R_far (p := ⟨gb1048, 2, none⟩) (Kd.R_far (p := ⟨gb1048, 1, none⟩) (Kd.R_far (p := ⟨gb1048, 0, none⟩) (Kd.R_types HO1046.out BK1048.out (by decide)) (fun _ hk => hk.2) (.int .i64 t1040)) (fun _ hk => hk.2) (.slice Ao24 t1041.length co24)) (fun _ hk => hk.2) (.slice Ao25 t1044.length co25)) (fun _ h_ => h_.1))) (Kd.R_base ho1) hb); replace BK1031 := ak (blk_below (g := gb1031) (o := .cells #[.int .i64 a0_0, .slice A0_1 l0_1.length c0_1, .slice A0_2 l0_2.length c0_2] 44 (0, 0)) (by (with_reducible repeat (first | refine blk_drewN ?_ _ | refine blk_drew ?_ | refine blk_alloc ?_ _)); refine blk_far ?_ NB1031_1048.out _; refine blk_far ?_ NB1031_1048.out _; refine blk_far ?_ NB1031_1048.out _; (with_reducible repeat (first | refine blk_drewN ?_ _ | refine blk_drew ?_ | refine blk_alloc ?_ _)); exact BK1031.out) hb); replace BK1048 := ak (blk_below (g := gb1048) (o := .cells #[.int .i64 t1040, .slice Ao24 t1041.length co24, .slice Ao25 t1044.length co25] 49 (0, 0)) (by (with_reducible repeat (first | refine blk_drewN ?_ _ | refine blk_drew ?_ | refine blk_alloc ?_ _)); refine blk_put (cs := #[.int .i64 t1040, .slice Ao24 t1041.length co24, .slice none 0 0]) ?_ 2 _ rfl; refine blk_put (cs := #[.int .i64 t1040, .slice none 0 0, .slice none 0 0]) ?_ 1 _ rfl; refine blk_put (cs := #[.int .i64 0, .slice none 0 0, .slice none 0 0]) ?_ 0 _ rfl; (with_reducible repeat (first | refine blk_drewN ?_ _ | refine blk_drew ?_ | refine blk_alloc ?_ _)); exact BK1048.out) hb); replace HB := ak (below_step (bl2 HB GE1031 GE1048) hb); (try clear hb); (try clear hb2); (try clear hk); (try clear hi); (try clear ho0); (try clear ho1)) | ((with_reducible refine gate_dst (N := 8) rfl ?_); refine box_event ?hg (N := 8) ?hd (cs := #[.int .i64 0, .slice none 0 0, .slice none 0 0]) (t := 49) ?hr ?_; (case hd => rfl); (case hg => rfl); (case hr => first | (go_simp; done) | (go_simp; rfl)); intro gb1056 hg w28 hbox hb; replace HO1036 := ak (Kd.R_below (rk HO1036) hb); replace HO1039 := ak (Kd.R_below (rk HO1039) hb); replace HO1043 := ak (Kd.R_below (rk HO1043) hb); replace HO1046 := ak (Kd.R_below (rk HO1046) hb); replace HO1052 := ak (Kd.R_below (rk HO1052) hb); replace HO1055 := ak (Kd.R_below (rk HO1055) hb); have BK1056 := ak (hbox); have GW1056 := ak ((by rw [hg]; exact (below_size (bl2 HB GE1031 GE1048)) : w.heap.size ≤ gb1056)); have GE1056 := ak ((by rw [hg]; exact (below_size (bl2 HB GE1031 GE1048)) : w.heap.size ≤ gb1056)); replace HB := ak (below_step (bl2 HB GE1031 GE1048) hb); have NB1031_1056 := ak ((by rw [hg]; exact Nat.ne_of_lt (blk_lt (bk BK1031)) : gb1031 ≠ gb1056)); have NB1056_1031 := ak ((by rw [hg]; exact Nat.ne_of_gt (blk_lt (bk BK1031)) : gb1056 ≠ gb1031)); replace BK1031 := ak (blk_below (bk BK1031) hb); have NB1048_1056 := ak ((by rw [hg]; exact Nat.ne_of_lt (blk_lt (bk BK1048)) : gb1048 ≠ gb1056)); have NB1056_1048 := ak ((by rw [hg]; exact Nat.ne_of_gt (blk_lt (bk BK1048)) : gb1056 ≠ gb1048)); replace BK1048 := ak (blk_below (bk BK1048) hb); clear hb hbox hg; have hnb29 := NB1056_1031.out; have hnc29 := NB1031_1056.out; have hnb30 := NB1056_1048.out; have hnc30 := NB1048_1056.out; have hcz31_0 := bc w28 BK1056 0 (.int .i64 0) rfl; have hcz31_1 := bc w28 BK1056 1 (.slice none 0 0) rfl; have hcz31_2 := bc w28 BK1056 2 (.slice none 0 0) rfl; have hfz31_0 := fz BK1056 0; have hfz31_1 := fz BK1056 1; have hfz31_2 := fz BK1056 2; obtain ⟨Ao32, co32, eo32⟩ := Kd.R_slice HO1052.out; subst eo32; obtain ⟨Ao33, co33, eo33⟩ := Kd.R_slice HO1055.out; subst eo33) | ((with_reducible refine gate_callee (f := 44) rfl ?_); refine goesL_ (some 33) rfl rfl Try.func44 (by kernel_rfl) rfl #[.agg #[.int .i64 t1049, .slice Ao32 t1050.length co32, .slice Ao33 t1053.length co33], .int .i64 a1] rfl (by (try simp only [List.map_toArray, List.map_cons, List.map_nil]); first | done | rfl | (simp only [List.length_drop, List.length_take]; rfl)) ?_; (with_reducible refine (impl_LiveOver.calls k t1049 _ _ t1050 _ _ t1053 a1 t1057 t1058 t1061 t1064 _ ?side1 ?side2 ?side3 ?side4 A11.out).mono ?_); (case side1 => refine (Kd.R_reads' (e := 100) (base := w.heap.size) (ok := fun k_ => ((True ∧ some k_ ≠ (.slice Ao18 t1034.length co18 : Value).ownBlock) ∧ some k_ ≠ (.slice Ao24 t1041.length co24 : Value).ownBlock)) (n := t1050.length) (c := co32) ?_).2.2; exact (by (with_reducible repeat (first | apply Kd.R_alloc | apply Kd.R_drewN | apply Kd.R_drew)); exact (Kd.R_mono (Kd.R_far (p := ⟨gb1056, 2, none⟩) (Kd.R_far (p := ⟨gb1056, 1, none⟩) (Kd.R_far (p := ⟨gb1056, 0, none⟩) (Kd.R_types HO1052.out BK1056.out (by decide)) (fun _ hk => hk.2) (.int .i64 t1049)) (fun _ hk => hk.2) (.slice Ao32 t1050.length co32)) (fun _ hk => hk.2) (.slice Ao33 t1053.length co33)) (fun _ h_ => h_.1)))); (case side2 => exact (Kd.R_reads' HO1052.out).2.1); (case side3 => refine (Kd.R_reads' (e := 70) (base := w.heap.size) (ok := fun k_ => ((True ∧ some k_ ≠ (.slice Ao19 t1037.length co19 : Value).ownBlock) ∧ some k_ ≠ (.slice Ao25 t1044.length co25 : Value).ownBlock)) (n := t1053.length) (c := co33) ?_).2.2; exact (by (with_reducible repeat (first | apply Kd.R_alloc | apply Kd.R_drewN | apply Kd.R_drew)); exact (Kd.R_mono (Kd.R_far (p := ⟨gb1056, 2, none⟩) (Kd.R_far (p := ⟨gb1056, 1, none⟩) (Kd.R_far (p := ⟨gb1056, 0, none⟩) (Kd.R_types HO1055.out BK1056.out (by decide)) (fun _ hk => hk.2) (.int .i64 t1049)) (fun _ hk => hk.2) (.slice Ao32 t1050.length co32)) (fun _ hk => hk.2) (.slice Ao33 t1053.length co33)) (fun _ h_ => h_.1)))); (case side4 => exact (Kd.R_reads' HO1055.out).2.1); rintro e w34 ⟨v1059, v1062, rfl, ho0, ho1, hb⟩; refine ⟨_, rfl, ?_⟩; have HO1060 := ak (Kd.R_lower (Kd.R_new' (Kd.R_new' (Kd.R_new' ho0 (Kd.R_lt (by (with_reducible repeat (first | apply Kd.R_alloc | apply Kd.R_drewN | apply Kd.R_drew)); exact (Kd.R_mono (Kd.R_far (p := ⟨gb1056, 2, none⟩) (Kd.R_far (p := ⟨gb1056, 1, none⟩) (Kd.R_far (p := ⟨gb1056, 0, none⟩) (Kd.R_types HO1036.out BK1056.out (by decide)) (fun _ hk => hk.2) (.int .i64 t1049)) (fun _ hk => hk.2) (.slice Ao32 t1050.length co32)) (fun _ hk => hk.2) (.slice Ao33 t1053.length co33)) (fun _ h_ => h_.1))))) (Kd.R_lt (by (with_reducible repeat (first | apply Kd.R_alloc | apply Kd.R_drewN | apply Kd.R_drew)); exact (Kd.R_mono (Kd.R_far (p := ⟨gb1056, 2, none⟩) (Kd.R_far (p := ⟨gb1056, 1, none⟩) (Kd.R_far (p := ⟨gb1056, 0, none⟩) (Kd.R_types HO1043.out BK1056.out (by decide)) (fun _ hk => hk.2) (.int .i64 t1049)) (fun _ hk => hk.2) (.slice Ao32 t1050.length co32)) (fun _ hk => hk.2) (.slice Ao33 t1053.length co33)) (fun _ h_ => h_.1))))) (Kd.R_lt (by (with_reducible repeat (first | apply Kd.R_alloc | apply Kd.R_drewN | apply Kd.R_drew)); exact (Kd.R_mono (Kd.R_far (p := ⟨gb1056, 2, none⟩) (Kd.R_far (p := ⟨gb1056, 1, none⟩) (Kd.R_far (p := ⟨gb1056, 0, none⟩) (Kd.R_types HO1052.out BK1056.out (by decide)) (fun _ hk => hk.2) (.int .i64 t1049)) (fun _ hk => hk.2) (.slice Ao32 t1050.length co32)) (fun _ hk => hk.2) (.slice Ao33 t1053.length co33)) (fun _ h_ => h_.1))))) (below_size (bl3 HB GE1031 GE1048 GE1056))); replace HO1036 := ak (Kd.R_elder' (by (with_reducible repeat (first | apply Kd.R_alloc | apply Kd.R_drewN | apply Kd.R_drew)); exact (Kd.R_mono (Kd.R_far (p := ⟨gb1056, 2, none⟩) (Kd.R_far (p := ⟨gb1056, 1, none⟩) (Kd.R_far (p := ⟨gb1056, 0, none⟩) (Kd.R_types HO1036.out BK1056.out (by decide)) (fun _ hk => hk.2) (.int .i64 t1049)) (fun _ hk => hk.2) (.slice Ao32 t1050.length co32)) (fun _ hk => hk.2) (.slice Ao33 t1053.length co33)) (fun _ h_ => h_.1))) (Kd.R_base ho0) hb); replace HO1043 := ak (Kd.R_elder' (by (with_reducible repeat (first | apply Kd.R_alloc | apply Kd.R_drewN | apply Kd.R_drew)); exact (Kd.R_mono (Kd.R_far (p := ⟨gb1056, 2, none⟩) (Kd.R_far (p := ⟨gb1056, 1, none⟩) (Kd.R_far (p := ⟨gb1056, 0, none⟩) (Kd.R_types HO1043.out BK1056.out (by decide)) (fun _ hk => hk.2) (.int .i64 t1049)) (fun _ hk => hk.2) (.slice Ao32 t1050.length co32)) (fun _ hk => hk.2) (.slice Ao33 t1053.length co33)) (fun _ h_ => h_.1))) (Kd.R_base ho0) hb); replace HO1052 := ak (Kd.R_elder' (by (with_reducible repeat (first | apply Kd.R_alloc | apply Kd.R_drewN | apply Kd.R_drew)); exact (Kd.R_mono (Kd.R_far (p := ⟨gb1056, 2, none⟩) (Kd.R_far (p := ⟨gb1056, 1, none⟩) (Kd.R_far (p := ⟨gb1056, 0, none⟩) (Kd.R_types HO1052.out BK1056.out (by decide)) (fun _ hk => hk.2) (.int .i64 t1049)) (fun _ hk => hk.2) (.slice Ao32 t1050.length co32)) (fun _ hk => hk.2) (.slice Ao33 t1053.length co33)) (fun _ h_ => h_.1))) (Kd.R_base ho0) hb); have HO1063 := ak (Kd.R_lower (Kd.R_new' (Kd.R_new' (Kd.R_new' ho1 (Kd.R_lt (by (with_reducible repeat (first | apply Kd.R_alloc | apply Kd.R_drewN | apply Kd.R_drew)); exact (Kd.R_mono (Kd.R_far (p := ⟨gb1056, 2, none⟩) (Kd.R_far (p := ⟨gb1056, 1, none⟩) (Kd.R_far (p := ⟨gb1056, 0, none⟩) (Kd.R_types HO1039.out BK1056.out (by decide)) (fun _ hk => hk.2) (.int .i64 t1049)) (fun _ hk => hk.2) (.slice Ao32 t1050.length co32)) (fun _ hk => hk.2) (.slice Ao33 t1053.length co33)) (fun _ h_ => h_.1))))) (Kd.R_lt (by (with_reducible repeat (first | apply Kd.R_alloc | apply Kd.R_drewN | apply Kd.R_drew)); exact (Kd.R_mono (Kd.R_far (p := ⟨gb1056, 2, none⟩) (Kd.R_far (p := ⟨gb1056, 1, none⟩) (Kd.R_far (p := ⟨gb1056, 0, none⟩) (Kd.R_types HO1046.out BK1056.out (by decide)) (fun _ hk => hk.2) (.int .i64 t1049)) (fun _ hk => hk.2) (.slice Ao32 t1050.length co32)) (fun _ hk => hk.2) (.slice Ao33 t1053.length co33)) (fun _ h_ => h_.1))))) (Kd.R_lt (by (with_reducible repeat (first | apply Kd.R_alloc | apply Kd.R_drewN | apply Kd.R_drew)); exact (Kd.R_mono (Kd.R_far (p := ⟨gb1056, 2, none⟩) (Kd.R_far (p := ⟨gb1056, 1, none⟩) (Kd.R_far (p := ⟨gb1056, 0, none⟩) (Kd.R_types HO1055.out BK1056.out (by decide)) (fun _ hk => hk.2) (.int .i64 t1049)) (fun _ hk => hk.2) (.slice Ao32 t1050.length co32)) (fun _ hk => hk.2) (.slice Ao33 t1053.length co33)) (fun _ h_ => h_.1))))) (below_size (bl3 HB GE1031 GE1048 GE1056))); replace HO1039 := ak (Kd.R_elder' (by (with_reducible repeat (first | apply Kd.R_alloc | apply Kd.R_drewN | apply Kd.R_drew)); exact (Kd.R_mono (Kd.R_far (p := ⟨gb1056, 2, none⟩) (Kd.R_far (p := ⟨gb1056, 1, none⟩) (Kd.R_far (p := ⟨gb1056, 0, none⟩) (Kd.R_types HO1039.out BK1056.out (by decide)) (fun _ hk => hk.2) (.int .i64 t1049)) (fun _ hk => hk.2) (.slice Ao32 t1050.length co32)) (fun _ hk => hk.2) (.slice Ao33 t1053.length co33)) (fun _ h_ => h_.1))) (Kd.R_base ho1) hb); replace HO1046 := ak (Kd.R_elder' (by (with_reducible repeat (first | apply Kd.R_alloc | apply Kd.R_drewN | apply Kd.R_drew)); exact (Kd.R_mono (Kd.R_far (p := ⟨gb1056, 2, none⟩) (Kd.R_far (p := ⟨gb1056, 1, none⟩) (Kd.R_far (p := ⟨gb1056, 0, none⟩) (Kd.R_types HO1046.out BK1056.out (by decide)) (fun _ hk => hk.2) (.int .i64 t1049)) (fun _ hk => hk.2) (.slice Ao32 t1050.length co32)) (fun _ hk => hk.2) (.slice Ao33 t1053.length co33)) (fun _ h_ => h_.1))) (Kd.R_base ho1) hb); replace HO1055 := ak (Kd.R_elder' (by (with_reducible repeat (first | apply Kd.R_alloc | apply Kd.R_drewN | apply Kd.R_drew)); exact (Kd.R_mono (Kd.R_far (p := ⟨gb1056, 2, none⟩) (Kd.R_far (p := ⟨gb1056, 1, none⟩) (Kd.R_far (p := ⟨gb1056, 0, none⟩) (Kd.R_types HO1055.out BK1056.out (by decide)) (fun _ hk => hk.2) (.int .i64 t1049)) (fun _ hk => hk.2) (.slice Ao32 t1050.length co32)) (fun _ hk => hk.2) (.slice Ao33 t1053.length co33)) (fun _ h_ => h_.1))) (Kd.R_base ho1) hb); replace BK1031 := ak (blk_below (g := gb1031) (o := .cells #[.int .i64 a0_0, .slice A0_1 l0_1.length c0_1, .slice A0_2 l0_2.length c0_2] 44 (0, 0)) (by (with_reducible repeat (first | refine blk_drewN ?_ _ | refine blk_drew ?_ | refine blk_alloc ?_ _)); refine blk_far ?_ NB1031_1056.out _; refine blk_far ?_ NB1031_1056.out _; refine blk_far ?_ NB1031_1056.out _; (with_reducible repeat (first | refine blk_drewN ?_ _ | refine blk_drew ?_ | refine blk_alloc ?_ _)); exact BK1031.out) hb); replace BK1048 := ak (blk_below (g := gb1048) (o := .cells #[.int .i64 t1040, .slice Ao24 t1041.length co24, .slice Ao25 t1044.length co25] 49 (0, 0)) (by (with_reducible repeat (first | refine blk_drewN ?_ _ | refine blk_drew ?_ | refine blk_alloc ?_ _)); refine blk_far ?_ NB1048_1056.out _; refine blk_far ?_ NB1048_1056.out _; refine blk_far ?_ NB1048_1056.out _; (with_reducible repeat (first | refine blk_drewN ?_ _ | refine blk_drew ?_ | refine blk_alloc ?_ _)); exact BK1048.out) hb); replace BK1056 := ak (blk_below (g := gb1056) (o := .cells #[.int .i64 t1049, .slice Ao32 t1050.length co32, .slice Ao33 t1053.length co33] 49 (0, 0)) (by (with_reducible repeat (first | refine blk_drewN ?_ _ | refine blk_drew ?_ | refine blk_alloc ?_ _)); refine blk_put (cs := #[.int .i64 t1049, .slice Ao32 t1050.length co32, .slice none 0 0]) ?_ 2 _ rfl; refine blk_put (cs := #[.int .i64 t1049, .slice none 0 0, .slice none 0 0]) ?_ 1 _ rfl; refine blk_put (cs := #[.int .i64 0, .slice none 0 0, .slice none 0 0]) ?_ 0 _ rfl; (with_reducible repeat (first | refine blk_drewN ?_ _ | refine blk_drew ?_ | refine blk_alloc ?_ _)); exact BK1056.out) hb); replace HB := ak (below_step (bl3 HB GE1031 GE1048 GE1056) hb); (try clear hb); (try clear hb2); (try clear hk); (try clear hi); (try clear ho0); (try clear ho1)) | ((with_reducible refine gate_dst (N := 9) rfl ?_); refine box_event ?hg (N := 9) ?hd (cs := #[.int .i64 0, .slice none 0 0, .slice none 0 0]) (t := 49) ?hr ?_; (case hd => rfl); (case hg => rfl); (case hr => first | (go_simp; done) | (go_simp; rfl)); intro gb1065 hg w35 hbox hb; replace HO1036 := ak (Kd.R_below (rk HO1036) hb); replace HO1039 := ak (Kd.R_below (rk HO1039) hb); replace HO1043 := ak (Kd.R_below (rk HO1043) hb); replace HO1046 := ak (Kd.R_below (rk HO1046) hb); replace HO1052 := ak (Kd.R_below (rk HO1052) hb); replace HO1055 := ak (Kd.R_below (rk HO1055) hb); replace HO1060 := ak (Kd.R_below (rk HO1060) hb); replace HO1063 := ak (Kd.R_below (rk HO1063) hb); have BK1065 := ak (hbox); have GW1065 := ak ((by rw [hg]; exact (below_size (bl3 HB GE1031 GE1048 GE1056)) : w.heap.size ≤ gb1065)); have GE1065 := ak ((by rw [hg]; exact (below_size (bl3 HB GE1031 GE1048 GE1056)) : w.heap.size ≤ gb1065)); replace HB := ak (below_step (bl3 HB GE1031 GE1048 GE1056) hb); have NB1031_1065 := ak ((by rw [hg]; exact Nat.ne_of_lt (blk_lt (bk BK1031)) : gb1031 ≠ gb1065)); have NB1065_1031 := ak ((by rw [hg]; exact Nat.ne_of_gt (blk_lt (bk BK1031)) : gb1065 ≠ gb1031)); replace BK1031 := ak (blk_below (bk BK1031) hb); have NB1048_1065 := ak ((by rw [hg]; exact Nat.ne_of_lt (blk_lt (bk BK1048)) : gb1048 ≠ gb1065)); have NB1065_1048 := ak ((by rw [hg]; exact Nat.ne_of_gt (blk_lt (bk BK1048)) : gb1065 ≠ gb1048)); replace BK1048 := ak (blk_below (bk BK1048) hb); have NB1056_1065 := ak ((by rw [hg]; exact Nat.ne_of_lt (blk_lt (bk BK1056)) : gb1056 ≠ gb1065)); have NB1065_1056 := ak ((by rw [hg]; exact Nat.ne_of_gt (blk_lt (bk BK1056)) : gb1065 ≠ gb1056)); replace BK1056 := ak (blk_below (bk BK1056) hb); clear hb hbox hg; have hnb36 := NB1065_1031.out; have hnc36 := NB1031_1065.out; have hnb37 := NB1065_1048.out; have hnc37 := NB1048_1065.out; have hnb38 := NB1065_1056.out; have hnc38 := NB1056_1065.out; have hcz39_0 := bc w35 BK1065 0 (.int .i64 0) rfl; have hcz39_1 := bc w35 BK1065 1 (.slice none 0 0) rfl; have hcz39_2 := bc w35 BK1065 2 (.slice none 0 0) rfl; have hfz39_0 := fz BK1065 0; have hfz39_1 := fz BK1065 1; have hfz39_2 := fz BK1065 2; obtain ⟨Ao40, co40, eo40⟩ := Kd.R_slice HO1060.out; subst eo40; obtain ⟨Ao41, co41, eo41⟩ := Kd.R_slice HO1063.out; subst eo41))
 (try simp only [Act.put, List.setIfInBounds_toArray, List.set_cons_zero, List.set_cons_succ])
 go_cut [44] (fun v44 wc => ∃ (kq : Nat) (x44_11 : Bool), v44 = .bool x44_11 ∧ Aside0 (laws_FnExactLiveOver.j0 kq a1 t1047 t1064 x44_11 a0_0 l0_1 l0_2 t1040 t1041 t1044 t1049 t1050 t1053 t1057 t1058 t1061 = some r) ∧ Aside0 (kq ≤ k) ∧ Aside0 (Kd.R k100 100 wc w.heap.size (fun k_ => some k_ ≠ ((.slice Ao32 t1050.length co32) : Value).ownBlock ∧ some k_ ≠ ((.slice Ao40 t1058.length co40) : Value).ownBlock) (.slice Ao24 t1041.length co24) t1041) ∧ Aside0 (Kd.R k70 70 wc w.heap.size (fun k_ => some k_ ≠ ((.slice Ao33 t1053.length co33) : Value).ownBlock ∧ some k_ ≠ ((.slice Ao41 t1061.length co41) : Value).ownBlock) (.slice Ao25 t1044.length co25) t1044) ∧ Aside0 (Kd.R k100 100 wc w.heap.size (fun k_ => some k_ ≠ ((.slice Ao24 t1041.length co24) : Value).ownBlock ∧ some k_ ≠ ((.slice Ao40 t1058.length co40) : Value).ownBlock) (.slice Ao32 t1050.length co32) t1050) ∧ Aside0 (Kd.R k70 70 wc w.heap.size (fun k_ => some k_ ≠ ((.slice Ao25 t1044.length co25) : Value).ownBlock ∧ some k_ ≠ ((.slice Ao41 t1061.length co41) : Value).ownBlock) (.slice Ao33 t1053.length co33) t1053) ∧ Aside0 (Kd.R k100 100 wc w.heap.size (fun k_ => some k_ ≠ ((.slice Ao24 t1041.length co24) : Value).ownBlock ∧ some k_ ≠ ((.slice Ao32 t1050.length co32) : Value).ownBlock) (.slice Ao40 t1058.length co40) t1058) ∧ Aside0 (Kd.R k70 70 wc w.heap.size (fun k_ => some k_ ≠ ((.slice Ao25 t1044.length co25) : Value).ownBlock ∧ some k_ ≠ ((.slice Ao33 t1053.length co33) : Value).ownBlock) (.slice Ao41 t1061.length co41) t1061) ∧ Aside0 (wc.heap[gb1031]? = some (.cells #[.int .i64 a0_0, (.slice A0_1 l0_1.length c0_1), (.slice A0_2 l0_2.length c0_2)] 44 (0, 0))) ∧ Aside0 (wc.heap[gb1048]? = some (.cells #[.int .i64 t1040, (.slice Ao24 t1041.length co24), (.slice Ao25 t1044.length co25)] 49 (0, 0))) ∧ Aside0 (wc.heap[gb1056]? = some (.cells #[.int .i64 t1049, (.slice Ao32 t1050.length co32), (.slice Ao33 t1053.length co33)] 49 (0, 0))) ∧ Aside0 (wc.heap[gb1065]? = some (.cells #[.int .i64 t1057, (.slice Ao40 t1058.length co40), (.slice Ao41 t1061.length co41)] 49 (0, 0))) ∧ Aside0 (Below w.heap.size w wc))
 case first =>
  have H := HC12.out
  clear HC12
  replace H := Option.bind_eq_some_iff.mp H
  obtain ⟨t1066, A420, H⟩ := H
  have A42 := ak A420
  clear A420
  by_cases c43 : t1066 = true
  ·subst c43
   rw [if_pos rfl] at H
   have H' := ak H
   clear H
   have hnb44 := NB1065_1031.out
   have hnc44 := NB1031_1065.out
   have hnb45 := NB1065_1048.out
   have hnc45 := NB1048_1065.out
   have hnb46 := NB1065_1056.out
   have hnc46 := NB1056_1065.out
   have hcz47_0 := bc w35 BK1065 0 (.int .i64 0) rfl
   have hcz47_1 := bc w35 BK1065 1 (.slice none 0 0) rfl
   have hcz47_2 := bc w35 BK1065 2 (.slice none 0 0) rfl
   have hfz47_0 := fz BK1065 0
   have hfz47_1 := fz BK1065 1
   have hfz47_2 := fz BK1065 2
   have hnb48 := NB1048_1031.out
   have hnc48 := NB1031_1048.out
   have hnb49 := NB1048_1056.out
   have hnc49 := NB1056_1048.out
   have hcz50_0 := bc w35 BK1048 0 (.int .i64 t1040) rfl
   have hcz50_1 := bc w35 BK1048 1 (.slice Ao24 t1041.length co24) rfl
   have hcz50_2 := bc w35 BK1048 2 (.slice Ao25 t1044.length co25) rfl
   have hfz50_0 := fz BK1048 0
   have hfz50_1 := fz BK1048 1
   have hfz50_2 := fz BK1048 2
   go_wp2_with (first | ((with_reducible refine gate_callee (f := 33) rfl ?_); refine goesL_ (some 38) rfl rfl Try.func33 (by kernel_rfl) rfl #[.agg #[.int .i64 t1057, .slice Ao40 t1058.length co40, .slice Ao41 t1061.length co41], .agg #[.int .i64 t1040, .slice Ao24 t1041.length co24, .slice Ao25 t1044.length co25]] rfl (by (try simp only [List.map_toArray, List.map_cons, List.map_nil]); first | done | rfl | (simp only [List.length_drop, List.length_take]; rfl)) ?_; (with_reducible refine (laws_eqLive.calls k t1057 _ _ t1058 _ _ t1061 t1040 _ _ t1041 _ _ t1044 true _ ?side1 ?side2 ?side3 ?side4 ?side5 ?side6 ?side7 ?side8 A42.out).mono ?_); (case side1 => refine (Kd.R_reads' (e := 100) (base := w.heap.size) (ok := fun k_ => (((True ∧ some k_ ≠ (.slice Ao18 t1034.length co18 : Value).ownBlock) ∧ some k_ ≠ (.slice Ao24 t1041.length co24 : Value).ownBlock) ∧ some k_ ≠ (.slice Ao32 t1050.length co32 : Value).ownBlock)) (n := t1058.length) (c := co40) ?_).2.2; exact (by (with_reducible repeat (first | apply Kd.R_alloc | apply Kd.R_drewN | apply Kd.R_drew)); exact (Kd.R_mono (Kd.R_far (p := ⟨gb1065, 2, none⟩) (Kd.R_far (p := ⟨gb1065, 1, none⟩) (Kd.R_far (p := ⟨gb1065, 0, none⟩) (Kd.R_types HO1060.out BK1065.out (by decide)) (fun _ hk => hk.2) (.int .i64 t1057)) (fun _ hk => hk.2) (.slice Ao40 t1058.length co40)) (fun _ hk => hk.2) (.slice Ao41 t1061.length co41)) (fun _ h_ => h_.1)))); (case side2 => exact (Kd.R_reads' HO1060.out).2.1); (case side3 => refine (Kd.R_reads' (e := 70) (base := w.heap.size) (ok := fun k_ => (((True ∧ some k_ ≠ (.slice Ao19 t1037.length co19 : Value).ownBlock) ∧ some k_ ≠ (.slice Ao25 t1044.length co25 : Value).ownBlock) ∧ some k_ ≠ (.slice Ao33 t1053.length co33 : Value).ownBlock)) (n := t1061.length) (c := co41) ?_).2.2; exact (by (with_reducible repeat (first | apply Kd.R_alloc | apply Kd.R_drewN | apply Kd.R_drew)); exact (Kd.R_mono (Kd.R_far (p := ⟨gb1065, 2, none⟩) (Kd.R_far (p := ⟨gb1065, 1, none⟩) (Kd.R_far (p := ⟨gb1065, 0, none⟩) (Kd.R_types HO1063.out BK1065.out (by decide)) (fun _ hk => hk.2) (.int .i64 t1057)) (fun _ hk => hk.2) (.slice Ao40 t1058.length co40)) (fun _ hk => hk.2) (.slice Ao41 t1061.length co41)) (fun _ h_ => h_.1)))); (case side4 => exact (Kd.R_reads' HO1063.out).2.1); (case side5 => refine (Kd.R_reads' (e := 100) (base := w.heap.size) (ok := fun k_ => (((True ∧ some k_ ≠ (.slice Ao18 t1034.length co18 : Value).ownBlock) ∧ some k_ ≠ (.slice Ao32 t1050.length co32 : Value).ownBlock) ∧ some k_ ≠ (.slice Ao40 t1058.length co40 : Value).ownBlock)) (n := t1041.length) (c := co24) ?_).2.2; exact (by (with_reducible repeat (first | apply Kd.R_alloc | apply Kd.R_drewN | apply Kd.R_drew)); exact (Kd.R_mono (Kd.R_far (p := ⟨gb1065, 2, none⟩) (Kd.R_far (p := ⟨gb1065, 1, none⟩) (Kd.R_far (p := ⟨gb1065, 0, none⟩) (Kd.R_types HO1043.out BK1065.out (by decide)) (fun _ hk => hk.2) (.int .i64 t1057)) (fun _ hk => hk.2) (.slice Ao40 t1058.length co40)) (fun _ hk => hk.2) (.slice Ao41 t1061.length co41)) (fun _ h_ => h_.1)))); (case side6 => exact (Kd.R_reads' HO1043.out).2.1); (case side7 => refine (Kd.R_reads' (e := 70) (base := w.heap.size) (ok := fun k_ => (((True ∧ some k_ ≠ (.slice Ao19 t1037.length co19 : Value).ownBlock) ∧ some k_ ≠ (.slice Ao33 t1053.length co33 : Value).ownBlock) ∧ some k_ ≠ (.slice Ao41 t1061.length co41 : Value).ownBlock)) (n := t1044.length) (c := co25) ?_).2.2; exact (by (with_reducible repeat (first | apply Kd.R_alloc | apply Kd.R_drewN | apply Kd.R_drew)); exact (Kd.R_mono (Kd.R_far (p := ⟨gb1065, 2, none⟩) (Kd.R_far (p := ⟨gb1065, 1, none⟩) (Kd.R_far (p := ⟨gb1065, 0, none⟩) (Kd.R_types HO1046.out BK1065.out (by decide)) (fun _ hk => hk.2) (.int .i64 t1057)) (fun _ hk => hk.2) (.slice Ao40 t1058.length co40)) (fun _ hk => hk.2) (.slice Ao41 t1061.length co41)) (fun _ h_ => h_.1)))); (case side8 => exact (Kd.R_reads' HO1046.out).2.1); rintro e w51 ⟨rfl, hb⟩; refine ⟨_, rfl, ?_⟩; replace HO1036 := ak (Kd.R_below (by (with_reducible repeat (first | apply Kd.R_alloc | apply Kd.R_drewN | apply Kd.R_drew)); exact (Kd.R_mono (Kd.R_far (p := ⟨gb1065, 2, none⟩) (Kd.R_far (p := ⟨gb1065, 1, none⟩) (Kd.R_far (p := ⟨gb1065, 0, none⟩) (Kd.R_types HO1036.out BK1065.out (by decide)) (fun _ hk => hk.2) (.int .i64 t1057)) (fun _ hk => hk.2) (.slice Ao40 t1058.length co40)) (fun _ hk => hk.2) (.slice Ao41 t1061.length co41)) (fun _ h_ => h_.1))) hb); replace HO1039 := ak (Kd.R_below (by (with_reducible repeat (first | apply Kd.R_alloc | apply Kd.R_drewN | apply Kd.R_drew)); exact (Kd.R_mono (Kd.R_far (p := ⟨gb1065, 2, none⟩) (Kd.R_far (p := ⟨gb1065, 1, none⟩) (Kd.R_far (p := ⟨gb1065, 0, none⟩) (Kd.R_types HO1039.out BK1065.out (by decide)) (fun _ hk => hk.2) (.int .i64 t1057)) (fun _ hk => hk.2) (.slice Ao40 t1058.length co40)) (fun _ hk => hk.2) (.slice Ao41 t1061.length co41)) (fun _ h_ => h_.1))) hb); replace HO1043 := ak (Kd.R_below (by (with_reducible repeat (first | apply Kd.R_alloc | apply Kd.R_drewN | apply Kd.R_drew)); exact (Kd.R_mono (Kd.R_far (p := ⟨gb1065, 2, none⟩) (Kd.R_far (p := ⟨gb1065, 1, none⟩) (Kd.R_far (p := ⟨gb1065, 0, none⟩) (Kd.R_types HO1043.out BK1065.out (by decide)) (fun _ hk => hk.2) (.int .i64 t1057)) (fun _ hk => hk.2) (.slice Ao40 t1058.length co40)) (fun _ hk => hk.2) (.slice Ao41 t1061.length co41)) (fun _ h_ => h_.1))) hb); replace HO1046 := ak (Kd.R_below (by (with_reducible repeat (first | apply Kd.R_alloc | apply Kd.R_drewN | apply Kd.R_drew)); exact (Kd.R_mono (Kd.R_far (p := ⟨gb1065, 2, none⟩) (Kd.R_far (p := ⟨gb1065, 1, none⟩) (Kd.R_far (p := ⟨gb1065, 0, none⟩) (Kd.R_types HO1046.out BK1065.out (by decide)) (fun _ hk => hk.2) (.int .i64 t1057)) (fun _ hk => hk.2) (.slice Ao40 t1058.length co40)) (fun _ hk => hk.2) (.slice Ao41 t1061.length co41)) (fun _ h_ => h_.1))) hb); replace HO1052 := ak (Kd.R_below (by (with_reducible repeat (first | apply Kd.R_alloc | apply Kd.R_drewN | apply Kd.R_drew)); exact (Kd.R_mono (Kd.R_far (p := ⟨gb1065, 2, none⟩) (Kd.R_far (p := ⟨gb1065, 1, none⟩) (Kd.R_far (p := ⟨gb1065, 0, none⟩) (Kd.R_types HO1052.out BK1065.out (by decide)) (fun _ hk => hk.2) (.int .i64 t1057)) (fun _ hk => hk.2) (.slice Ao40 t1058.length co40)) (fun _ hk => hk.2) (.slice Ao41 t1061.length co41)) (fun _ h_ => h_.1))) hb); replace HO1055 := ak (Kd.R_below (by (with_reducible repeat (first | apply Kd.R_alloc | apply Kd.R_drewN | apply Kd.R_drew)); exact (Kd.R_mono (Kd.R_far (p := ⟨gb1065, 2, none⟩) (Kd.R_far (p := ⟨gb1065, 1, none⟩) (Kd.R_far (p := ⟨gb1065, 0, none⟩) (Kd.R_types HO1055.out BK1065.out (by decide)) (fun _ hk => hk.2) (.int .i64 t1057)) (fun _ hk => hk.2) (.slice Ao40 t1058.length co40)) (fun _ hk => hk.2) (.slice Ao41 t1061.length co41)) (fun _ h_ => h_.1))) hb); replace HO1060 := ak (Kd.R_below (by (with_reducible repeat (first | apply Kd.R_alloc | apply Kd.R_drewN | apply Kd.R_drew)); exact (Kd.R_mono (Kd.R_far (p := ⟨gb1065, 2, none⟩) (Kd.R_far (p := ⟨gb1065, 1, none⟩) (Kd.R_far (p := ⟨gb1065, 0, none⟩) (Kd.R_types HO1060.out BK1065.out (by decide)) (fun _ hk => hk.2) (.int .i64 t1057)) (fun _ hk => hk.2) (.slice Ao40 t1058.length co40)) (fun _ hk => hk.2) (.slice Ao41 t1061.length co41)) (fun _ h_ => h_.1))) hb); replace HO1063 := ak (Kd.R_below (by (with_reducible repeat (first | apply Kd.R_alloc | apply Kd.R_drewN | apply Kd.R_drew)); exact (Kd.R_mono (Kd.R_far (p := ⟨gb1065, 2, none⟩) (Kd.R_far (p := ⟨gb1065, 1, none⟩) (Kd.R_far (p := ⟨gb1065, 0, none⟩) (Kd.R_types HO1063.out BK1065.out (by decide)) (fun _ hk => hk.2) (.int .i64 t1057)) (fun _ hk => hk.2) (.slice Ao40 t1058.length co40)) (fun _ hk => hk.2) (.slice Ao41 t1061.length co41)) (fun _ h_ => h_.1))) hb); replace BK1031 := ak (blk_below (g := gb1031) (o := .cells #[.int .i64 a0_0, .slice A0_1 l0_1.length c0_1, .slice A0_2 l0_2.length c0_2] 44 (0, 0)) (by (with_reducible repeat (first | refine blk_drewN ?_ _ | refine blk_drew ?_ | refine blk_alloc ?_ _)); refine blk_far ?_ NB1031_1065.out _; refine blk_far ?_ NB1031_1065.out _; refine blk_far ?_ NB1031_1065.out _; (with_reducible repeat (first | refine blk_drewN ?_ _ | refine blk_drew ?_ | refine blk_alloc ?_ _)); exact BK1031.out) hb); replace BK1048 := ak (blk_below (g := gb1048) (o := .cells #[.int .i64 t1040, .slice Ao24 t1041.length co24, .slice Ao25 t1044.length co25] 49 (0, 0)) (by (with_reducible repeat (first | refine blk_drewN ?_ _ | refine blk_drew ?_ | refine blk_alloc ?_ _)); refine blk_far ?_ NB1048_1065.out _; refine blk_far ?_ NB1048_1065.out _; refine blk_far ?_ NB1048_1065.out _; (with_reducible repeat (first | refine blk_drewN ?_ _ | refine blk_drew ?_ | refine blk_alloc ?_ _)); exact BK1048.out) hb); replace BK1056 := ak (blk_below (g := gb1056) (o := .cells #[.int .i64 t1049, .slice Ao32 t1050.length co32, .slice Ao33 t1053.length co33] 49 (0, 0)) (by (with_reducible repeat (first | refine blk_drewN ?_ _ | refine blk_drew ?_ | refine blk_alloc ?_ _)); refine blk_far ?_ NB1056_1065.out _; refine blk_far ?_ NB1056_1065.out _; refine blk_far ?_ NB1056_1065.out _; (with_reducible repeat (first | refine blk_drewN ?_ _ | refine blk_drew ?_ | refine blk_alloc ?_ _)); exact BK1056.out) hb); replace BK1065 := ak (blk_below (g := gb1065) (o := .cells #[.int .i64 t1057, .slice Ao40 t1058.length co40, .slice Ao41 t1061.length co41] 49 (0, 0)) (by (with_reducible repeat (first | refine blk_drewN ?_ _ | refine blk_drew ?_ | refine blk_alloc ?_ _)); refine blk_put (cs := #[.int .i64 t1057, .slice Ao40 t1058.length co40, .slice none 0 0]) ?_ 2 _ rfl; refine blk_put (cs := #[.int .i64 t1057, .slice none 0 0, .slice none 0 0]) ?_ 1 _ rfl; refine blk_put (cs := #[.int .i64 0, .slice none 0 0, .slice none 0 0]) ?_ 0 _ rfl; (with_reducible repeat (first | refine blk_drewN ?_ _ | refine blk_drew ?_ | refine blk_alloc ?_ _)); exact BK1065.out) hb); replace HB := ak (below_step (bl4 HB GE1031 GE1048 GE1056 GE1065) hb); (try clear hb); (try clear hb2); (try clear hk); (try clear hi)))
   go_meet
   case rel => exact ⟨_, ((t1064 != t1047)), (by first | rfl | (simp; done) | (simp [*]; done)), H', ⟨by first | omega | exact Nat.le_refl _⟩, ⟨by (with_reducible repeat (first | apply Kd.R_alloc | apply Kd.R_drewN | apply Kd.R_drew)); exact Kd.R_mono HO1043.out (fun _ hk => ⟨hk.1.2, hk.2⟩)⟩, ⟨by (with_reducible repeat (first | apply Kd.R_alloc | apply Kd.R_drewN | apply Kd.R_drew)); exact Kd.R_mono HO1046.out (fun _ hk => ⟨hk.1.2, hk.2⟩)⟩, ⟨by (with_reducible repeat (first | apply Kd.R_alloc | apply Kd.R_drewN | apply Kd.R_drew)); exact Kd.R_mono HO1052.out (fun _ hk => ⟨hk.1.2, hk.2⟩)⟩, ⟨by (with_reducible repeat (first | apply Kd.R_alloc | apply Kd.R_drewN | apply Kd.R_drew)); exact Kd.R_mono HO1055.out (fun _ hk => ⟨hk.1.2, hk.2⟩)⟩, ⟨by (with_reducible repeat (first | apply Kd.R_alloc | apply Kd.R_drewN | apply Kd.R_drew)); exact Kd.R_mono HO1060.out (fun _ hk => ⟨hk.1.2, hk.2⟩)⟩, ⟨by (with_reducible repeat (first | apply Kd.R_alloc | apply Kd.R_drewN | apply Kd.R_drew)); exact Kd.R_mono HO1063.out (fun _ hk => ⟨hk.1.2, hk.2⟩)⟩, ⟨bk BK1031⟩, ⟨bk BK1048⟩, ⟨bk BK1056⟩, ⟨bk BK1065⟩, ⟨bl4 HB GE1031 GE1048 GE1056 GE1065⟩⟩
  replace c43 := Bool.eq_false_iff.mpr c43
  subst c43
  rw [if_neg (show ¬ (false = true) by decide)] at H
  have H' := ak H
  clear H
  have hnb52 := NB1065_1031.out
  have hnc52 := NB1031_1065.out
  have hnb53 := NB1065_1048.out
  have hnc53 := NB1048_1065.out
  have hnb54 := NB1065_1056.out
  have hnc54 := NB1056_1065.out
  have hcz55_0 := bc w35 BK1065 0 (.int .i64 0) rfl
  have hcz55_1 := bc w35 BK1065 1 (.slice none 0 0) rfl
  have hcz55_2 := bc w35 BK1065 2 (.slice none 0 0) rfl
  have hfz55_0 := fz BK1065 0
  have hfz55_1 := fz BK1065 1
  have hfz55_2 := fz BK1065 2
  have hnb56 := NB1048_1031.out
  have hnc56 := NB1031_1048.out
  have hnb57 := NB1048_1056.out
  have hnc57 := NB1056_1048.out
  have hcz58_0 := bc w35 BK1048 0 (.int .i64 t1040) rfl
  have hcz58_1 := bc w35 BK1048 1 (.slice Ao24 t1041.length co24) rfl
  have hcz58_2 := bc w35 BK1048 2 (.slice Ao25 t1044.length co25) rfl
  have hfz58_0 := fz BK1048 0
  have hfz58_1 := fz BK1048 1
  have hfz58_2 := fz BK1048 2
  go_wp2_with (first | ((with_reducible refine gate_callee (f := 33) rfl ?_); refine goesL_ (some 38) rfl rfl Try.func33 (by kernel_rfl) rfl #[.agg #[.int .i64 t1057, .slice Ao40 t1058.length co40, .slice Ao41 t1061.length co41], .agg #[.int .i64 t1040, .slice Ao24 t1041.length co24, .slice Ao25 t1044.length co25]] rfl (by (try simp only [List.map_toArray, List.map_cons, List.map_nil]); first | done | rfl | (simp only [List.length_drop, List.length_take]; rfl)) ?_; (with_reducible refine (laws_eqLive.calls k t1057 _ _ t1058 _ _ t1061 t1040 _ _ t1041 _ _ t1044 false _ ?side1 ?side2 ?side3 ?side4 ?side5 ?side6 ?side7 ?side8 A42.out).mono ?_); (case side1 => refine (Kd.R_reads' (e := 100) (base := w.heap.size) (ok := fun k_ => (((True ∧ some k_ ≠ (.slice Ao18 t1034.length co18 : Value).ownBlock) ∧ some k_ ≠ (.slice Ao24 t1041.length co24 : Value).ownBlock) ∧ some k_ ≠ (.slice Ao32 t1050.length co32 : Value).ownBlock)) (n := t1058.length) (c := co40) ?_).2.2; exact (by (with_reducible repeat (first | apply Kd.R_alloc | apply Kd.R_drewN | apply Kd.R_drew)); exact (Kd.R_mono (Kd.R_far (p := ⟨gb1065, 2, none⟩) (Kd.R_far (p := ⟨gb1065, 1, none⟩) (Kd.R_far (p := ⟨gb1065, 0, none⟩) (Kd.R_types HO1060.out BK1065.out (by decide)) (fun _ hk => hk.2) (.int .i64 t1057)) (fun _ hk => hk.2) (.slice Ao40 t1058.length co40)) (fun _ hk => hk.2) (.slice Ao41 t1061.length co41)) (fun _ h_ => h_.1)))); (case side2 => exact (Kd.R_reads' HO1060.out).2.1); (case side3 => refine (Kd.R_reads' (e := 70) (base := w.heap.size) (ok := fun k_ => (((True ∧ some k_ ≠ (.slice Ao19 t1037.length co19 : Value).ownBlock) ∧ some k_ ≠ (.slice Ao25 t1044.length co25 : Value).ownBlock) ∧ some k_ ≠ (.slice Ao33 t1053.length co33 : Value).ownBlock)) (n := t1061.length) (c := co41) ?_).2.2; exact (by (with_reducible repeat (first | apply Kd.R_alloc | apply Kd.R_drewN | apply Kd.R_drew)); exact (Kd.R_mono (Kd.R_far (p := ⟨gb1065, 2, none⟩) (Kd.R_far (p := ⟨gb1065, 1, none⟩) (Kd.R_far (p := ⟨gb1065, 0, none⟩) (Kd.R_types HO1063.out BK1065.out (by decide)) (fun _ hk => hk.2) (.int .i64 t1057)) (fun _ hk => hk.2) (.slice Ao40 t1058.length co40)) (fun _ hk => hk.2) (.slice Ao41 t1061.length co41)) (fun _ h_ => h_.1)))); (case side4 => exact (Kd.R_reads' HO1063.out).2.1); (case side5 => refine (Kd.R_reads' (e := 100) (base := w.heap.size) (ok := fun k_ => (((True ∧ some k_ ≠ (.slice Ao18 t1034.length co18 : Value).ownBlock) ∧ some k_ ≠ (.slice Ao32 t1050.length co32 : Value).ownBlock) ∧ some k_ ≠ (.slice Ao40 t1058.length co40 : Value).ownBlock)) (n := t1041.length) (c := co24) ?_).2.2; exact (by (with_reducible repeat (first | apply Kd.R_alloc | apply Kd.R_drewN | apply Kd.R_drew)); exact (Kd.R_mono (Kd.R_far (p := ⟨gb1065, 2, none⟩) (Kd.R_far (p := ⟨gb1065, 1, none⟩) (Kd.R_far (p := ⟨gb1065, 0, none⟩) (Kd.R_types HO1043.out BK1065.out (by decide)) (fun _ hk => hk.2) (.int .i64 t1057)) (fun _ hk => hk.2) (.slice Ao40 t1058.length co40)) (fun _ hk => hk.2) (.slice Ao41 t1061.length co41)) (fun _ h_ => h_.1)))); (case side6 => exact (Kd.R_reads' HO1043.out).2.1); (case side7 => refine (Kd.R_reads' (e := 70) (base := w.heap.size) (ok := fun k_ => (((True ∧ some k_ ≠ (.slice Ao19 t1037.length co19 : Value).ownBlock) ∧ some k_ ≠ (.slice Ao33 t1053.length co33 : Value).ownBlock) ∧ some k_ ≠ (.slice Ao41 t1061.length co41 : Value).ownBlock)) (n := t1044.length) (c := co25) ?_).2.2; exact (by (with_reducible repeat (first | apply Kd.R_alloc | apply Kd.R_drewN | apply Kd.R_drew)); exact (Kd.R_mono (Kd.R_far (p := ⟨gb1065, 2, none⟩) (Kd.R_far (p := ⟨gb1065, 1, none⟩) (Kd.R_far (p := ⟨gb1065, 0, none⟩) (Kd.R_types HO1046.out BK1065.out (by decide)) (fun _ hk => hk.2) (.int .i64 t1057)) (fun _ hk => hk.2) (.slice Ao40 t1058.length co40)) (fun _ hk => hk.2) (.slice Ao41 t1061.length co41)) (fun _ h_ => h_.1)))); (case side8 => exact (Kd.R_reads' HO1046.out).2.1); rintro e w59 ⟨rfl, hb⟩; refine ⟨_, rfl, ?_⟩; replace HO1036 := ak (Kd.R_below (by (with_reducible repeat (first | apply Kd.R_alloc | apply Kd.R_drewN | apply Kd.R_drew)); exact (Kd.R_mono (Kd.R_far (p := ⟨gb1065, 2, none⟩) (Kd.R_far (p := ⟨gb1065, 1, none⟩) (Kd.R_far (p := ⟨gb1065, 0, none⟩) (Kd.R_types HO1036.out BK1065.out (by decide)) (fun _ hk => hk.2) (.int .i64 t1057)) (fun _ hk => hk.2) (.slice Ao40 t1058.length co40)) (fun _ hk => hk.2) (.slice Ao41 t1061.length co41)) (fun _ h_ => h_.1))) hb); replace HO1039 := ak (Kd.R_below (by (with_reducible repeat (first | apply Kd.R_alloc | apply Kd.R_drewN | apply Kd.R_drew)); exact (Kd.R_mono (Kd.R_far (p := ⟨gb1065, 2, none⟩) (Kd.R_far (p := ⟨gb1065, 1, none⟩) (Kd.R_far (p := ⟨gb1065, 0, none⟩) (Kd.R_types HO1039.out BK1065.out (by decide)) (fun _ hk => hk.2) (.int .i64 t1057)) (fun _ hk => hk.2) (.slice Ao40 t1058.length co40)) (fun _ hk => hk.2) (.slice Ao41 t1061.length co41)) (fun _ h_ => h_.1))) hb); replace HO1043 := ak (Kd.R_below (by (with_reducible repeat (first | apply Kd.R_alloc | apply Kd.R_drewN | apply Kd.R_drew)); exact (Kd.R_mono (Kd.R_far (p := ⟨gb1065, 2, none⟩) (Kd.R_far (p := ⟨gb1065, 1, none⟩) (Kd.R_far (p := ⟨gb1065, 0, none⟩) (Kd.R_types HO1043.out BK1065.out (by decide)) (fun _ hk => hk.2) (.int .i64 t1057)) (fun _ hk => hk.2) (.slice Ao40 t1058.length co40)) (fun _ hk => hk.2) (.slice Ao41 t1061.length co41)) (fun _ h_ => h_.1))) hb); replace HO1046 := ak (Kd.R_below (by (with_reducible repeat (first | apply Kd.R_alloc | apply Kd.R_drewN | apply Kd.R_drew)); exact (Kd.R_mono (Kd.R_far (p := ⟨gb1065, 2, none⟩) (Kd.R_far (p := ⟨gb1065, 1, none⟩) (Kd.R_far (p := ⟨gb1065, 0, none⟩) (Kd.R_types HO1046.out BK1065.out (by decide)) (fun _ hk => hk.2) (.int .i64 t1057)) (fun _ hk => hk.2) (.slice Ao40 t1058.length co40)) (fun _ hk => hk.2) (.slice Ao41 t1061.length co41)) (fun _ h_ => h_.1))) hb); replace HO1052 := ak (Kd.R_below (by (with_reducible repeat (first | apply Kd.R_alloc | apply Kd.R_drewN | apply Kd.R_drew)); exact (Kd.R_mono (Kd.R_far (p := ⟨gb1065, 2, none⟩) (Kd.R_far (p := ⟨gb1065, 1, none⟩) (Kd.R_far (p := ⟨gb1065, 0, none⟩) (Kd.R_types HO1052.out BK1065.out (by decide)) (fun _ hk => hk.2) (.int .i64 t1057)) (fun _ hk => hk.2) (.slice Ao40 t1058.length co40)) (fun _ hk => hk.2) (.slice Ao41 t1061.length co41)) (fun _ h_ => h_.1))) hb); replace HO1055 := ak (Kd.R_below (by (with_reducible repeat (first | apply Kd.R_alloc | apply Kd.R_drewN | apply Kd.R_drew)); exact (Kd.R_mono (Kd.R_far (p := ⟨gb1065, 2, none⟩) (Kd.R_far (p := ⟨gb1065, 1, none⟩) (Kd.R_far (p := ⟨gb1065, 0, none⟩) (Kd.R_types HO1055.out BK1065.out (by decide)) (fun _ hk => hk.2) (.int .i64 t1057)) (fun _ hk => hk.2) (.slice Ao40 t1058.length co40)) (fun _ hk => hk.2) (.slice Ao41 t1061.length co41)) (fun _ h_ => h_.1))) hb); replace HO1060 := ak (Kd.R_below (by (with_reducible repeat (first | apply Kd.R_alloc | apply Kd.R_drewN | apply Kd.R_drew)); exact (Kd.R_mono (Kd.R_far (p := ⟨gb1065, 2, none⟩) (Kd.R_far (p := ⟨gb1065, 1, none⟩) (Kd.R_far (p := ⟨gb1065, 0, none⟩) (Kd.R_types HO1060.out BK1065.out (by decide)) (fun _ hk => hk.2) (.int .i64 t1057)) (fun _ hk => hk.2) (.slice Ao40 t1058.length co40)) (fun _ hk => hk.2) (.slice Ao41 t1061.length co41)) (fun _ h_ => h_.1))) hb); replace HO1063 := ak (Kd.R_below (by (with_reducible repeat (first | apply Kd.R_alloc | apply Kd.R_drewN | apply Kd.R_drew)); exact (Kd.R_mono (Kd.R_far (p := ⟨gb1065, 2, none⟩) (Kd.R_far (p := ⟨gb1065, 1, none⟩) (Kd.R_far (p := ⟨gb1065, 0, none⟩) (Kd.R_types HO1063.out BK1065.out (by decide)) (fun _ hk => hk.2) (.int .i64 t1057)) (fun _ hk => hk.2) (.slice Ao40 t1058.length co40)) (fun _ hk => hk.2) (.slice Ao41 t1061.length co41)) (fun _ h_ => h_.1))) hb); replace BK1031 := ak (blk_below (g := gb1031) (o := .cells #[.int .i64 a0_0, .slice A0_1 l0_1.length c0_1, .slice A0_2 l0_2.length c0_2] 44 (0, 0)) (by (with_reducible repeat (first | refine blk_drewN ?_ _ | refine blk_drew ?_ | refine blk_alloc ?_ _)); refine blk_far ?_ NB1031_1065.out _; refine blk_far ?_ NB1031_1065.out _; refine blk_far ?_ NB1031_1065.out _; (with_reducible repeat (first | refine blk_drewN ?_ _ | refine blk_drew ?_ | refine blk_alloc ?_ _)); exact BK1031.out) hb); replace BK1048 := ak (blk_below (g := gb1048) (o := .cells #[.int .i64 t1040, .slice Ao24 t1041.length co24, .slice Ao25 t1044.length co25] 49 (0, 0)) (by (with_reducible repeat (first | refine blk_drewN ?_ _ | refine blk_drew ?_ | refine blk_alloc ?_ _)); refine blk_far ?_ NB1048_1065.out _; refine blk_far ?_ NB1048_1065.out _; refine blk_far ?_ NB1048_1065.out _; (with_reducible repeat (first | refine blk_drewN ?_ _ | refine blk_drew ?_ | refine blk_alloc ?_ _)); exact BK1048.out) hb); replace BK1056 := ak (blk_below (g := gb1056) (o := .cells #[.int .i64 t1049, .slice Ao32 t1050.length co32, .slice Ao33 t1053.length co33] 49 (0, 0)) (by (with_reducible repeat (first | refine blk_drewN ?_ _ | refine blk_drew ?_ | refine blk_alloc ?_ _)); refine blk_far ?_ NB1056_1065.out _; refine blk_far ?_ NB1056_1065.out _; refine blk_far ?_ NB1056_1065.out _; (with_reducible repeat (first | refine blk_drewN ?_ _ | refine blk_drew ?_ | refine blk_alloc ?_ _)); exact BK1056.out) hb); replace BK1065 := ak (blk_below (g := gb1065) (o := .cells #[.int .i64 t1057, .slice Ao40 t1058.length co40, .slice Ao41 t1061.length co41] 49 (0, 0)) (by (with_reducible repeat (first | refine blk_drewN ?_ _ | refine blk_drew ?_ | refine blk_alloc ?_ _)); refine blk_put (cs := #[.int .i64 t1057, .slice Ao40 t1058.length co40, .slice none 0 0]) ?_ 2 _ rfl; refine blk_put (cs := #[.int .i64 t1057, .slice none 0 0, .slice none 0 0]) ?_ 1 _ rfl; refine blk_put (cs := #[.int .i64 0, .slice none 0 0, .slice none 0 0]) ?_ 0 _ rfl; (with_reducible repeat (first | refine blk_drewN ?_ _ | refine blk_drew ?_ | refine blk_alloc ?_ _)); exact BK1065.out) hb); replace HB := ak (below_step (bl4 HB GE1031 GE1048 GE1056 GE1065) hb); (try clear hb); (try clear hb2); (try clear hk); (try clear hi)))
  go_meet
  case rel => exact ⟨_, (true), (by first | rfl | (simp; done) | (simp [*]; done)), H', ⟨by first | omega | exact Nat.le_refl _⟩, ⟨by (with_reducible repeat (first | apply Kd.R_alloc | apply Kd.R_drewN | apply Kd.R_drew)); exact Kd.R_mono HO1043.out (fun _ hk => ⟨hk.1.2, hk.2⟩)⟩, ⟨by (with_reducible repeat (first | apply Kd.R_alloc | apply Kd.R_drewN | apply Kd.R_drew)); exact Kd.R_mono HO1046.out (fun _ hk => ⟨hk.1.2, hk.2⟩)⟩, ⟨by (with_reducible repeat (first | apply Kd.R_alloc | apply Kd.R_drewN | apply Kd.R_drew)); exact Kd.R_mono HO1052.out (fun _ hk => ⟨hk.1.2, hk.2⟩)⟩, ⟨by (with_reducible repeat (first | apply Kd.R_alloc | apply Kd.R_drewN | apply Kd.R_drew)); exact Kd.R_mono HO1055.out (fun _ hk => ⟨hk.1.2, hk.2⟩)⟩, ⟨by (with_reducible repeat (first | apply Kd.R_alloc | apply Kd.R_drewN | apply Kd.R_drew)); exact Kd.R_mono HO1060.out (fun _ hk => ⟨hk.1.2, hk.2⟩)⟩, ⟨by (with_reducible repeat (first | apply Kd.R_alloc | apply Kd.R_drewN | apply Kd.R_drew)); exact Kd.R_mono HO1063.out (fun _ hk => ⟨hk.1.2, hk.2⟩)⟩, ⟨bk BK1031⟩, ⟨bk BK1048⟩, ⟨bk BK1056⟩, ⟨bk BK1065⟩, ⟨bl4 HB GE1031 GE1048 GE1056 GE1065⟩⟩
 clear HC12
 try clear c1
 try clear c2
 try clear p2
 try clear c3
 try clear c4
 try clear c4b0
 try clear c5
 try clear c10
 try clear c22
 try clear c29
 try clear c30
 try clear c31
 try clear c33
 try clear c36
 try clear c37
 try clear c38
 try clear c43
 try clear c44
 try clear c45
 try clear c46
 try clear c48
 try clear c49
 try clear c52
 try clear c53
 try clear c54
 try clear c56
 try clear c57
 try clear hcz14_0
 try clear hcz14_1
 try clear hcz14_2
 try clear hcz16_0
 try clear hcz16_1
 try clear hcz16_2
 try clear hcz23_0
 try clear hcz23_1
 try clear hcz23_2
 try clear hcz26_0
 try clear hcz26_1
 try clear hcz26_2
 try clear hcz31_0
 try clear hcz31_1
 try clear hcz31_2
 try clear hcz39_0
 try clear hcz39_1
 try clear hcz39_2
 try clear hcz47_0
 try clear hcz47_1
 try clear hcz47_2
 try clear hcz50_0
 try clear hcz50_1
 try clear hcz50_2
 try clear hcz55_0
 try clear hcz55_1
 try clear hcz55_2
 try clear hcz58_0
 try clear hcz58_1
 try clear hcz58_2
 try clear hcz6_0
 try clear hcz6_1
 try clear hcz6_2
 try clear hfz14_0
 try clear hfz14_1
 try clear hfz14_2
 try clear hfz16_0
 try clear hfz16_1
 try clear hfz16_2
 try clear hfz23_0
 try clear hfz23_1
 try clear hfz23_2
 try clear hfz26_0
 try clear hfz26_1
 try clear hfz26_2
 try clear hfz31_0
 try clear hfz31_1
 try clear hfz31_2
 try clear hfz39_0
 try clear hfz39_1
 try clear hfz39_2
 try clear hfz47_0
 try clear hfz47_1
 try clear hfz47_2
 try clear hfz50_0
 try clear hfz50_1
 try clear hfz50_2
 try clear hfz55_0
 try clear hfz55_1
 try clear hfz55_2
 try clear hfz58_0
 try clear hfz58_1
 try clear hfz58_2
 try clear hfz6_0
 try clear hfz6_1
 try clear hfz6_2
 obtain ⟨kq, x44_11, rfl, HA, HJ11, HO_1049001, HO_1049002, HO_1057001, HO_1057002, HO_1066001, HO_1066002, BK1031, BK1048, BK1056, BK1065, HB⟩ := hcut
 cases kq with
 | zero => exact absurd HA.out (by simp [laws_FnExactLiveOver.j0])
 | succ kj11 =>
  have H := HA.out
  clear HA
  simp only [laws_FnExactLiveOver.j0] at H
  by_cases c60 : x44_11 = true
  ·subst c60
   rw [if_pos rfl] at H
   exact absurd ((Option.some.inj H).trans hr_) Bool.false_ne_true
  replace c60 := Bool.eq_false_iff.mpr c60
  subst c60
  rw [if_neg (show ¬ (false = true) by decide)] at H
  replace H := Option.bind_eq_some_iff.mp H
  obtain ⟨⟨t1067, t1068, t1071⟩, A610, H⟩ := H
  have A61 := ak A610
  clear A610
  replace H := Option.bind_eq_some_iff.mp H
  obtain ⟨t1074, A620, H⟩ := H
  have A62 := ak A620
  clear A620
  by_cases c63 : t1074 = true
  rotate_left
  ·replace c63 := Bool.eq_false_iff.mpr c63
   subst c63
   rw [if_neg (show ¬ (false = true) by decide)] at H
   exact absurd ((Option.some.inj H).trans hr_) Bool.false_ne_true
  subst c63
  rw [if_pos rfl] at H
  replace H := Option.bind_eq_some_iff.mp H
  obtain ⟨⟨t1075, t1076, t1077⟩, A640, H⟩ := H
  have A64 := ak A640
  clear A640
  have HC65 := ak H
  clear H
  try go_wp2
  replace HO_1049001 := ak (Kd.R_drew HO_1049001.out)
  replace HO_1049002 := ak (Kd.R_drew HO_1049002.out)
  replace HO_1057001 := ak (Kd.R_drew HO_1057001.out)
  replace HO_1057002 := ak (Kd.R_drew HO_1057002.out)
  replace HO_1066001 := ak (Kd.R_drew HO_1066001.out)
  replace HO_1066002 := ak (Kd.R_drew HO_1066002.out)
  replace BK1031 := ak (blk_drew BK1031.out)
  replace BK1048 := ak (blk_drew BK1048.out)
  replace BK1056 := ak (blk_drew BK1056.out)
  replace BK1065 := ak (blk_drew BK1065.out)
  replace HB := ak (below_drew1 HB.out)
  refine start_ (n := 5) (S := fun w' => w'.cell? ⟨gb1056, 0, none⟩ = some (.int .i64 t1049) ∧ w'.cell? ⟨gb1056, 1, none⟩ = some (.slice Ao32 t1050.length co32) ∧ w'.cell? ⟨gb1056, 2, none⟩ = some (.slice Ao33 t1053.length co33) ∧ w'.cell? ⟨gb1031, 0, none⟩ = some (.int .i64 a0_0) ∧ w'.cell? ⟨gb1031, 1, none⟩ = some (.slice A0_1 l0_1.length c0_1) ∧ w'.cell? ⟨gb1031, 2, none⟩ = some (.slice A0_2 l0_2.length c0_2)) (ds := []) (ms 5 0) (by kernel_rfl) rfl (by kernel_rfl) ⟨(blk_cell BK1056.out 0).trans rfl, (blk_cell BK1056.out 1).trans rfl, (blk_cell BK1056.out 2).trans rfl, (blk_cell BK1031.out 0).trans rfl, (blk_cell BK1031.out 1).trans rfl, (blk_cell BK1031.out 2).trans rfl⟩ (fun hHeld => ?_)
  generalize wc.drew = w66 at HO_1049001 HO_1049002 HO_1057001 HO_1057002 HO_1066001 HO_1066002 BK1031 BK1048 BK1056 BK1065 HB hHeld ⊢
  refine take_ (i := 0) (N := some 45) (v := ?_) (a' := ?_) (ms 5 1) rfl rfl (by kernel_rfl) (fun _ _ _ h => h) (Or.inl ⟨by rfl, ?_⟩) hHeld ?_ ?_
  rotate_left
  ·rintro w' ⟨s0, s1, s2, s3, s4, s5⟩
   go_simp
   with_reducible rfl
  rotate_left
  ·simp only [SX]
   rfl
  refine take_ (i := 1) (N := some 46) (v := ?_) (a' := ?_) (ms 5 3) rfl rfl (by kernel_rfl) (fun _ _ _ h => h) (Or.inl ⟨by rfl, ?_⟩) hHeld ?_ ?_
  rotate_left
  ·rintro w' ⟨s0, s1, s2, s3, s4, s5⟩
   go_simp
   with_reducible rfl
  rotate_left
  ·simp only [SX]
   rfl
  refine one_ (i := 2) (N := some 47) (ms 5 7) rfl rfl (by kernel_rfl) (by decide) (fun K hK => ?_)
  refine goes_ Try.func31 (by kernel_rfl) rfl #[.agg #[.int .i64 a0_0, .slice A0_1 l0_1.length c0_1, .slice A0_2 l0_2.length c0_2]] (by rfl) rfl rfl (by (try simp only [List.map_toArray, List.map_cons, List.map_nil]); first | done | rfl | (simp only [List.length_drop, List.length_take]; rfl)) ?_
  with_reducible refine (laws_toLive.calls kj11 a0_0 _ _ l0_1 _ _ l0_2 t1067 t1068 t1071 _ ?side1 ?side2 ?side3 ?side4 A61.out).mono ?_
  (case side1 => repeat (first | exact (Kd.C_below HR0_1.out HB.out) | (with_reducible refine Kd.C_alloc ?_ _) | (with_reducible refine Kd.C_drewN ?_ _) | (with_reducible refine Kd.C_drew ?_)))
  (case side2 => exact HC0_1.out)
  (case side3 => repeat (first | exact (Kd.C_below HR0_2.out HB.out) | (with_reducible refine Kd.C_alloc ?_ _) | (with_reducible refine Kd.C_drewN ?_ _) | (with_reducible refine Kd.C_drew ?_)))
  (case side4 => exact HC0_2.out)
  rintro e w67 ⟨v1069, v1072, rfl, ho0, ho1, hb⟩
  refine ⟨_, rfl, ?_⟩
  have HO1070 := ak (Kd.R_lower (Kd.R_new' (Kd.R_new' (Kd.R_new' ho0 (Kd.R_lt (rk HO_1049001))) (Kd.R_lt (rk HO_1057001))) (Kd.R_lt (rk HO_1066001))) (below_size (bl4 HB GE1031 GE1048 GE1056 GE1065)))
  replace HO_1049001 := ak (Kd.R_elder' (rk HO_1049001) (Kd.R_base ho0) hb)
  replace HO_1057001 := ak (Kd.R_elder' (rk HO_1057001) (Kd.R_base ho0) hb)
  replace HO_1066001 := ak (Kd.R_elder' (rk HO_1066001) (Kd.R_base ho0) hb)
  have HO1073 := ak (Kd.R_lower (Kd.R_new' (Kd.R_new' (Kd.R_new' ho1 (Kd.R_lt (rk HO_1049002))) (Kd.R_lt (rk HO_1057002))) (Kd.R_lt (rk HO_1066002))) (below_size (bl4 HB GE1031 GE1048 GE1056 GE1065)))
  replace HO_1049002 := ak (Kd.R_elder' (rk HO_1049002) (Kd.R_base ho1) hb)
  replace HO_1057002 := ak (Kd.R_elder' (rk HO_1057002) (Kd.R_base ho1) hb)
  replace HO_1066002 := ak (Kd.R_elder' (rk HO_1066002) (Kd.R_base ho1) hb)
  replace BK1031 := ak (blk_below (bk BK1031) hb)
  replace BK1048 := ak (blk_below (bk BK1048) hb)
  replace BK1056 := ak (blk_below (bk BK1056) hb)
  replace BK1065 := ak (blk_below (bk BK1065) hb)
  replace HB := ak (below_step (bl4 HB GE1031 GE1048 GE1056 GE1065) hb)
  (try clear hb)
  (try clear hb2)
  (try clear hk)
  (try clear hi)
  (try clear ho0)
  (try clear ho1)
  obtain ⟨Ao68, co68, eo68⟩ := Kd.R_slice HO1070.out
  (first | subst eo68 | (injection eo68 with f1_ f2_ f3_; have f4_ := f1_.symm; have f5_ := f3_.symm; clear f1_ f2_ f3_; subst f4_; subst f5_))
  obtain ⟨Ao69, co69, eo69⟩ := Kd.R_slice HO1073.out
  (first | subst eo69 | (injection eo69 with f1_ f2_ f3_; have f4_ := f1_.symm; have f5_ := f3_.symm; clear f1_ f2_ f3_; subst f4_; subst f5_))
  refine hK.out _ _ ⟨(blk_cell BK1056.out 0).trans rfl, (blk_cell BK1056.out 1).trans rfl, (blk_cell BK1056.out 2).trans rfl, (blk_cell BK1031.out 0).trans rfl, (blk_cell BK1031.out 1).trans rfl, (blk_cell BK1031.out 2).trans rfl⟩ (fun hHeld => ?_)
  clear hK K
  refine norm_ (a' := ?_) ?_ ?_
  rotate_left
  ·show Act.put _ (some 47) _ = _
   simp only [SX]
   rfl
  refine one_ (i := 3) (N := some 48) (ms 5 15) rfl rfl (by kernel_rfl) (by decide) (fun K hK => ?_)
  refine goes_ Try.func33 (by kernel_rfl) rfl #[.agg #[.int .i64 t1049, .slice Ao32 t1050.length co32, .slice Ao33 t1053.length co33], .agg #[.int .i64 t1067, .slice Ao68 t1068.length co68, .slice Ao69 t1071.length co69]] (by rfl) rfl rfl (by (try simp only [List.map_toArray, List.map_cons, List.map_nil]); first | done | rfl | (simp only [List.length_drop, List.length_take]; rfl)) ?_
  with_reducible refine (laws_eqLive.calls kj11 t1049 _ _ t1050 _ _ t1053 t1067 _ _ t1068 _ _ t1071 true _ ?side1 ?side2 ?side3 ?side4 ?side5 ?side6 ?side7 ?side8 A62.out).mono ?_
  (case side1 => repeat (first | exact (Kd.R_reads' HO_1057001.out).2.2 | (with_reducible refine Kd.C_alloc ?_ _) | (with_reducible refine Kd.C_drewN ?_ _) | (with_reducible refine Kd.C_drew ?_)))
  (case side2 => exact (Kd.R_reads' HO_1057001.out).2.1)
  (case side3 => repeat (first | exact (Kd.R_reads' HO_1057002.out).2.2 | (with_reducible refine Kd.C_alloc ?_ _) | (with_reducible refine Kd.C_drewN ?_ _) | (with_reducible refine Kd.C_drew ?_)))
  (case side4 => exact (Kd.R_reads' HO_1057002.out).2.1)
  (case side5 => repeat (first | exact (Kd.R_reads' HO1070.out).2.2 | (with_reducible refine Kd.C_alloc ?_ _) | (with_reducible refine Kd.C_drewN ?_ _) | (with_reducible refine Kd.C_drew ?_)))
  (case side6 => exact (Kd.R_reads' HO1070.out).2.1)
  (case side7 => repeat (first | exact (Kd.R_reads' HO1073.out).2.2 | (with_reducible refine Kd.C_alloc ?_ _) | (with_reducible refine Kd.C_drewN ?_ _) | (with_reducible refine Kd.C_drew ?_)))
  (case side8 => exact (Kd.R_reads' HO1073.out).2.1)
  rintro e w70 ⟨rfl, hb⟩
  refine ⟨_, rfl, ?_⟩
  replace HO_1049001 := ak (Kd.R_below (rk HO_1049001) hb)
  replace HO_1049002 := ak (Kd.R_below (rk HO_1049002) hb)
  replace HO_1057001 := ak (Kd.R_below (rk HO_1057001) hb)
  replace HO_1057002 := ak (Kd.R_below (rk HO_1057002) hb)
  replace HO_1066001 := ak (Kd.R_below (rk HO_1066001) hb)
  replace HO_1066002 := ak (Kd.R_below (rk HO_1066002) hb)
  replace HO1070 := ak (Kd.R_below (rk HO1070) hb)
  replace HO1073 := ak (Kd.R_below (rk HO1073) hb)
  replace BK1031 := ak (blk_below (bk BK1031) hb)
  replace BK1048 := ak (blk_below (bk BK1048) hb)
  replace BK1056 := ak (blk_below (bk BK1056) hb)
  replace BK1065 := ak (blk_below (bk BK1065) hb)
  replace HB := ak (below_step (bl4 HB GE1031 GE1048 GE1056 GE1065) hb)
  (try clear hb)
  (try clear hb2)
  (try clear hk)
  (try clear hi)
  refine hK.out _ _ ⟨(blk_cell BK1056.out 0).trans rfl, (blk_cell BK1056.out 1).trans rfl, (blk_cell BK1056.out 2).trans rfl, (blk_cell BK1031.out 0).trans rfl, (blk_cell BK1031.out 1).trans rfl, (blk_cell BK1031.out 2).trans rfl⟩ (fun hHeld => ?_)
  clear hK K
  refine norm_ (a' := ?_) ?_ ?_
  rotate_left
  ·show Act.put _ (some 48) _ = _
   simp only [SX]
   rfl
  refine pure_ (i := 4) (N := some 49) (v := ?_) (a' := ?_) (ms 5 31) rfl rfl (by kernel_rfl) (fun _ _ _ h => h) (Or.inl ⟨by rfl, ?_⟩) ?_ ?_
  rotate_left
  ·intro w'
   go_simp
   with_reducible rfl
  rotate_left
  ·simp only [SX]
   rfl
  refine done_ (by kernel_rfl) ?_
  have hnb71 := NB1056_1031.out
  have hnc71 := NB1031_1056.out
  have hnb72 := NB1056_1048.out
  have hnc72 := NB1048_1056.out
  have hnb73 := NB1056_1065.out
  have hnc73 := NB1065_1056.out
  have hcz74_0 := bc w70 BK1056 0 (.int .i64 t1049) rfl
  have hcz74_1 := bc w70 BK1056 1 (.slice Ao32 t1050.length co32) rfl
  have hcz74_2 := bc w70 BK1056 2 (.slice Ao33 t1053.length co33) rfl
  have hfz74_0 := fz BK1056 0
  have hfz74_1 := fz BK1056 1
  have hfz74_2 := fz BK1056 2
  go_upto_region 14 with (first | ((with_reducible refine gate_callee (f := 45) rfl ?_); refine goesL_ (some 52) rfl rfl Try.func45 (by kernel_rfl) rfl #[.agg #[.int .i64 t1049, .slice Ao32 t1050.length co32, .slice Ao33 t1053.length co33], .int .i64 1] rfl (by (try simp only [List.map_toArray, List.map_cons, List.map_nil]); first | done | rfl | (simp only [List.length_drop, List.length_take]; rfl)) ?_; (with_reducible refine (laws_markLive.calls kj11 t1049 (fun k_ => some k_ = (.slice Ao32 t1050.length co32 : Value).ownBlock) (.slice Ao32 t1050.length co32) t1050 (fun k_ => some k_ = (.slice Ao33 t1053.length co33 : Value).ownBlock) (.slice Ao33 t1053.length co33) t1053 1 t1075 t1076 t1077 w _ ?side1 ?side2 ?side3 A64.out).mono ?_); (case side1 => repeat (first | (with_reducible first | exact HB.out | apply below_alloc | apply pw_below_drewN | apply below_drew1 | refine below_set ?_ GE1031.out | refine below_set ?_ GE1048.out | refine below_set ?_ GE1056.out | refine below_set ?_ GE1065.out) | exact HB.out)); (case side2 => exact Kd.R_tight rfl HO_1057001.out); (case side3 => exact Kd.R_tight rfl HO_1057002.out); rintro e w75 ⟨rfl, hy0, hy1, hb, hkp⟩; refine ⟨_, rfl, ?_⟩; replace HO_1049001 := ak (Kd.R_mono (ok' := fun k_ => some k_ ≠ (.slice Ao32 t1050.length co32 : Value).ownBlock ∧ some k_ ≠ (.slice Ao40 t1058.length co40 : Value).ownBlock ∧ some k_ ≠ (.slice Ao68 t1068.length co68 : Value).ownBlock) (Kd.R_keptB ((Kd.R_apart' HO_1049001.out (Kd.R_typed HO_1057002.out) (by decide))) hkp (fun k_ hk_ hs_ => Or.elim hs_ (fun e_ => (hk_.1.1.1) e_) (fun e_ => (hk_.2) e_))) (fun k_ hk_ => ⟨hk_.1.1.1.1, hk_.1.1.1.2, hk_.1.1.2⟩)); replace HO_1049002 := ak (Kd.R_mono (ok' := fun k_ => some k_ ≠ (.slice Ao33 t1053.length co33 : Value).ownBlock ∧ some k_ ≠ (.slice Ao41 t1061.length co41 : Value).ownBlock ∧ some k_ ≠ (.slice Ao69 t1071.length co69 : Value).ownBlock) (Kd.R_keptB ((Kd.R_apart' HO_1049002.out (Kd.R_typed HO_1057001.out) (by decide))) hkp (fun k_ hk_ hs_ => Or.elim hs_ (fun e_ => (hk_.2) e_) (fun e_ => (hk_.1.1.1) e_))) (fun k_ hk_ => ⟨hk_.1.1.1.1, hk_.1.1.1.2, hk_.1.1.2⟩)); replace HO_1066001 := ak (Kd.R_mono (ok' := fun k_ => some k_ ≠ (.slice Ao24 t1041.length co24 : Value).ownBlock ∧ some k_ ≠ (.slice Ao32 t1050.length co32 : Value).ownBlock ∧ some k_ ≠ (.slice Ao68 t1068.length co68 : Value).ownBlock) (Kd.R_keptB ((Kd.R_apart' HO_1066001.out (Kd.R_typed HO_1057002.out) (by decide))) hkp (fun k_ hk_ hs_ => Or.elim hs_ (fun e_ => (hk_.1.1.2) e_) (fun e_ => (hk_.2) e_))) (fun k_ hk_ => ⟨hk_.1.1.1.1, hk_.1.1.1.2, hk_.1.1.2⟩)); replace HO_1066002 := ak (Kd.R_mono (ok' := fun k_ => some k_ ≠ (.slice Ao25 t1044.length co25 : Value).ownBlock ∧ some k_ ≠ (.slice Ao33 t1053.length co33 : Value).ownBlock ∧ some k_ ≠ (.slice Ao69 t1071.length co69 : Value).ownBlock) (Kd.R_keptB ((Kd.R_apart' HO_1066002.out (Kd.R_typed HO_1057001.out) (by decide))) hkp (fun k_ hk_ hs_ => Or.elim hs_ (fun e_ => (hk_.2) e_) (fun e_ => (hk_.1.1.2) e_))) (fun k_ hk_ => ⟨hk_.1.1.1.1, hk_.1.1.1.2, hk_.1.1.2⟩)); replace BK1031 := ak (blk_kept (bk BK1031) hkp (fun hs_ => Or.elim hs_ (fun e_ => (fun e_ => (Kd.R_ne HO_1057001.out BK1031.out (by decide)) e_) e_) (fun e_ => (fun e_ => (Kd.R_ne HO_1057002.out BK1031.out (by decide)) e_) e_))); replace BK1048 := ak (blk_kept (bk BK1048) hkp (fun hs_ => Or.elim hs_ (fun e_ => (fun e_ => (Kd.R_ne HO_1057001.out BK1048.out (by decide)) e_) e_) (fun e_ => (fun e_ => (Kd.R_ne HO_1057002.out BK1048.out (by decide)) e_) e_))); replace BK1056 := ak (blk_kept (bk BK1056) hkp (fun hs_ => Or.elim hs_ (fun e_ => (fun e_ => (Kd.R_ne HO_1057001.out BK1056.out (by decide)) e_) e_) (fun e_ => (fun e_ => (Kd.R_ne HO_1057002.out BK1056.out (by decide)) e_) e_))); replace BK1065 := ak (blk_kept (bk BK1065) hkp (fun hs_ => Or.elim hs_ (fun e_ => (fun e_ => (Kd.R_ne HO_1057001.out BK1065.out (by decide)) e_) e_) (fun e_ => (fun e_ => (Kd.R_ne HO_1057002.out BK1065.out (by decide)) e_) e_))); replace HO1070 := ak (Kd.R_mono (ok' := fun k_ => some k_ ≠ (.slice Ao24 t1041.length co24 : Value).ownBlock ∧ some k_ ≠ (.slice Ao32 t1050.length co32 : Value).ownBlock ∧ some k_ ≠ (.slice Ao40 t1058.length co40 : Value).ownBlock) (Kd.R_keptB ((Kd.R_apart' HO1070.out (Kd.R_typed HO_1057002.out) (by decide))) hkp (fun k_ hk_ hs_ => Or.elim hs_ (fun e_ => (hk_.1.1.2) e_) (fun e_ => (hk_.2) e_))) (fun k_ hk_ => ⟨hk_.1.1.1.1.2, hk_.1.1.1.2, hk_.1.1.2⟩)); replace HO_1057002 := ak (Kd.R_reok rfl hy1 (fun k_ e_ => HO_1057002.out.1 k_ e_)); replace HO1073 := ak (Kd.R_mono (ok' := fun k_ => some k_ ≠ (.slice Ao25 t1044.length co25 : Value).ownBlock ∧ some k_ ≠ (.slice Ao33 t1053.length co33 : Value).ownBlock ∧ some k_ ≠ (.slice Ao41 t1061.length co41 : Value).ownBlock) (Kd.R_keptB ((Kd.R_apart' HO1073.out (Kd.R_typed HO_1057001.out) (by decide))) hkp (fun k_ hk_ hs_ => Or.elim hs_ (fun e_ => (hk_.2) e_) (fun e_ => (hk_.1.1.2) e_))) (fun k_ hk_ => ⟨hk_.1.1.1.1.2, hk_.1.1.1.2, hk_.1.1.2⟩)); replace HO_1057001 := ak (Kd.R_reok rfl hy0 (fun k_ e_ => HO_1057001.out.1 k_ e_)); replace HB := ak (hb); (try clear hb); (try clear hkp); (try clear hy0); (try clear hy1)))
  (try simp only [Act.put, List.setIfInBounds_toArray, List.set_cons_zero, List.set_cons_succ])
  go_cut [65] (fun v65 wc => ∃ (kq : Nat) (x65_64 : Bool), v65 = .bool x65_64 ∧ Aside0 (laws_FnExactLiveOver.j1 kq a1 t1047 x65_64 a0_0 l0_1 l0_2 t1040 t1041 t1044 t1057 t1058 t1061 = some r) ∧ Aside0 (kq ≤ kj11) ∧ Aside0 (Kd.R k100 100 wc w.heap.size (fun k_ => some k_ ≠ ((.slice Ao32 t1050.length co32) : Value).ownBlock ∧ some k_ ≠ ((.slice Ao40 t1058.length co40) : Value).ownBlock) (.slice Ao24 t1041.length co24) t1041) ∧ Aside0 (Kd.R k70 70 wc w.heap.size (fun k_ => some k_ ≠ ((.slice Ao33 t1053.length co33) : Value).ownBlock ∧ some k_ ≠ ((.slice Ao41 t1061.length co41) : Value).ownBlock) (.slice Ao25 t1044.length co25) t1044) ∧ Aside0 (Kd.R k100 100 wc w.heap.size (fun k_ => some k_ ≠ ((.slice Ao24 t1041.length co24) : Value).ownBlock ∧ some k_ ≠ ((.slice Ao40 t1058.length co40) : Value).ownBlock) (.slice Ao32 t1050.length co32) t1076) ∧ Aside0 (Kd.R k70 70 wc w.heap.size (fun k_ => some k_ ≠ ((.slice Ao25 t1044.length co25) : Value).ownBlock ∧ some k_ ≠ ((.slice Ao41 t1061.length co41) : Value).ownBlock) (.slice Ao33 t1053.length co33) t1077) ∧ Aside0 (Kd.R k100 100 wc w.heap.size (fun k_ => some k_ ≠ ((.slice Ao24 t1041.length co24) : Value).ownBlock ∧ some k_ ≠ ((.slice Ao32 t1050.length co32) : Value).ownBlock) (.slice Ao40 t1058.length co40) t1058) ∧ Aside0 (Kd.R k70 70 wc w.heap.size (fun k_ => some k_ ≠ ((.slice Ao25 t1044.length co25) : Value).ownBlock ∧ some k_ ≠ ((.slice Ao33 t1053.length co33) : Value).ownBlock) (.slice Ao41 t1061.length co41) t1061) ∧ Aside0 (wc.heap[gb1031]? = some (.cells #[.int .i64 a0_0, (.slice A0_1 l0_1.length c0_1), (.slice A0_2 l0_2.length c0_2)] 44 (0, 0))) ∧ Aside0 (wc.heap[gb1048]? = some (.cells #[.int .i64 t1040, (.slice Ao24 t1041.length co24), (.slice Ao25 t1044.length co25)] 49 (0, 0))) ∧ Aside0 (wc.heap[gb1056]? = some (.cells #[.int .i64 t1049, (.slice Ao32 t1050.length co32), (.slice Ao33 t1053.length co33)] 49 (0, 0))) ∧ Aside0 (wc.heap[gb1065]? = some (.cells #[.int .i64 t1057, (.slice Ao40 t1058.length co40), (.slice Ao41 t1061.length co41)] 49 (0, 0))) ∧ Aside0 (Below w.heap.size w wc))
  case first =>
   have H := HC65.out
   clear HC65
   by_cases c76 : t1075 < 0
   ·rw [if_pos c76] at H
    have c76b0 : decide (t1075 < 0) = true := decide_eq_true c76
    clear c76
    (first | rw [c76b0] | (simp only [i64_w, i32_w]; rw [c76b0]) | skip)
    have H' := ak H
    clear H
    go_wp2
    go_meet
    case rel => exact ⟨_, (true), (by first | rfl | (simp; done) | (simp [*]; done)), H', ⟨by have := HJ11.out; first | omega | exact Nat.le_refl _⟩, ⟨by (with_reducible repeat (first | apply Kd.R_alloc | apply Kd.R_drewN | apply Kd.R_drew)); exact Kd.R_mono HO_1049001.out (fun _ hk => ⟨hk.1, hk.2.1⟩)⟩, ⟨by (with_reducible repeat (first | apply Kd.R_alloc | apply Kd.R_drewN | apply Kd.R_drew)); exact Kd.R_mono HO_1049002.out (fun _ hk => ⟨hk.1, hk.2.1⟩)⟩, ⟨by (with_reducible repeat (first | apply Kd.R_alloc | apply Kd.R_drewN | apply Kd.R_drew)); exact Kd.R_mono HO_1057001.out (fun _ hk => ⟨hk.1.1, hk.1.2⟩)⟩, ⟨by (with_reducible repeat (first | apply Kd.R_alloc | apply Kd.R_drewN | apply Kd.R_drew)); exact Kd.R_mono HO_1057002.out (fun _ hk => ⟨hk.1.1, hk.1.2⟩)⟩, ⟨by (with_reducible repeat (first | apply Kd.R_alloc | apply Kd.R_drewN | apply Kd.R_drew)); exact Kd.R_mono HO_1066001.out (fun _ hk => ⟨hk.1, hk.2.1⟩)⟩, ⟨by (with_reducible repeat (first | apply Kd.R_alloc | apply Kd.R_drewN | apply Kd.R_drew)); exact Kd.R_mono HO_1066002.out (fun _ hk => ⟨hk.1, hk.2.1⟩)⟩, ⟨bk BK1031⟩, ⟨bk BK1048⟩, ⟨bk BK1056⟩, ⟨bk BK1065⟩, ⟨bl4 HB GE1031 GE1048 GE1056 GE1065⟩⟩
   rw [if_neg c76] at H
   have c76b0 : decide (t1075 < 0) = false := decide_eq_false c76
   clear c76
   (first | rw [c76b0] | (simp only [i64_w, i32_w]; rw [c76b0]) | skip)
   replace H := Option.bind_eq_some_iff.mp H
   obtain ⟨t1078, A770, H⟩ := H
   have A77 := ak A770
   clear A770
   by_cases c78 : t1078 = true
   ·subst c78
    rw [if_pos rfl] at H
    have H' := ak H
    clear H
    have hnb79 := NB1065_1031.out
    have hnc79 := NB1031_1065.out
    have hnb80 := NB1065_1048.out
    have hnc80 := NB1048_1065.out
    have hnb81 := NB1065_1056.out
    have hnc81 := NB1056_1065.out
    have hcz82_0 := bc w75 BK1065 0 (.int .i64 t1057) rfl
    have hcz82_1 := bc w75 BK1065 1 (.slice Ao40 t1058.length co40) rfl
    have hcz82_2 := bc w75 BK1065 2 (.slice Ao41 t1061.length co41) rfl
    have hfz82_0 := fz BK1065 0
    have hfz82_1 := fz BK1065 1
    have hfz82_2 := fz BK1065 2
    have hnb83 := NB1048_1031.out
    have hnc83 := NB1031_1048.out
    have hnb84 := NB1048_1056.out
    have hnc84 := NB1056_1048.out
    have hcz85_0 := bc w75 BK1048 0 (.int .i64 t1040) rfl
    have hcz85_1 := bc w75 BK1048 1 (.slice Ao24 t1041.length co24) rfl
    have hcz85_2 := bc w75 BK1048 2 (.slice Ao25 t1044.length co25) rfl
    have hfz85_0 := fz BK1048 0
    have hfz85_1 := fz BK1048 1
    have hfz85_2 := fz BK1048 2
    go_wp2_with (first | (go_at_call 33; (with_reducible refine (laws_eqLive.calls kj11 t1057 _ _ t1058 _ _ t1061 t1040 _ _ t1041 _ _ t1044 true _ ?side1 ?side2 ?side3 ?side4 ?side5 ?side6 ?side7 ?side8 A77.out).mono ?_); (case side1 => repeat (first | exact (Kd.R_reads' HO_1066001.out).2.2 | (with_reducible refine Kd.C_alloc ?_ _) | (with_reducible refine Kd.C_drewN ?_ _) | (with_reducible refine Kd.C_drew ?_))); (case side2 => exact (Kd.R_reads' HO_1066001.out).2.1); (case side3 => repeat (first | exact (Kd.R_reads' HO_1066002.out).2.2 | (with_reducible refine Kd.C_alloc ?_ _) | (with_reducible refine Kd.C_drewN ?_ _) | (with_reducible refine Kd.C_drew ?_))); (case side4 => exact (Kd.R_reads' HO_1066002.out).2.1); (case side5 => repeat (first | exact (Kd.R_reads' HO_1049001.out).2.2 | (with_reducible refine Kd.C_alloc ?_ _) | (with_reducible refine Kd.C_drewN ?_ _) | (with_reducible refine Kd.C_drew ?_))); (case side6 => exact (Kd.R_reads' HO_1049001.out).2.1); (case side7 => repeat (first | exact (Kd.R_reads' HO_1049002.out).2.2 | (with_reducible refine Kd.C_alloc ?_ _) | (with_reducible refine Kd.C_drewN ?_ _) | (with_reducible refine Kd.C_drew ?_))); (case side8 => exact (Kd.R_reads' HO_1049002.out).2.1); rintro e w86 ⟨rfl, hb⟩; have n0_ := ak (Kd.R_below (rk HO_1049001) hb); have n1_ := ak (Kd.R_below (rk HO_1049002) hb); have n2_ := ak (Kd.R_below (rk HO_1057001) hb); have n3_ := ak (Kd.R_below (rk HO_1057002) hb); have n4_ := ak (Kd.R_below (rk HO_1066001) hb); have n5_ := ak (Kd.R_below (rk HO_1066002) hb); have n6_ := ak (Kd.R_below (rk HO1070) hb); have n7_ := ak (Kd.R_below (rk HO1073) hb); have n8_ := ak (blk_below (bk BK1031) hb); have n9_ := ak (blk_below (bk BK1048) hb); have n10_ := ak (blk_below (bk BK1056) hb); have n11_ := ak (blk_below (bk BK1065) hb); have n12_ := ak (below_step (bl4 HB GE1031 GE1048 GE1056 GE1065) hb); clear HO_1049001; clear HO_1049002; clear HO_1057001; clear HO_1057002; clear HO_1066001; clear HO_1066002; clear HO1070; clear HO1073; clear BK1031; clear BK1048; clear BK1056; clear BK1065; clear HB; have HO_1049001 := n0_; have HO_1049002 := n1_; have HO_1057001 := n2_; have HO_1057002 := n3_; have HO_1066001 := n4_; have HO_1066002 := n5_; have HO1070 := n6_; have HO1073 := n7_; have BK1031 := n8_; have BK1048 := n9_; have BK1056 := n10_; have BK1065 := n11_; have HB := n12_; clear n0_ n1_ n2_ n3_ n4_ n5_ n6_ n7_ n8_ n9_ n10_ n11_ n12_; (try clear hb); (try clear hb2); (try clear hk); (try clear hi)))
    go_meet
    case rel => exact ⟨_, ((t1064 != t1047)), (by first | rfl | (simp; done) | (simp [*]; done)), H', ⟨by have := HJ11.out; first | omega | exact Nat.le_refl _⟩, ⟨by (with_reducible repeat (first | apply Kd.R_alloc | apply Kd.R_drewN | apply Kd.R_drew)); exact Kd.R_mono HO_1049001.out (fun _ hk => ⟨hk.1, hk.2.1⟩)⟩, ⟨by (with_reducible repeat (first | apply Kd.R_alloc | apply Kd.R_drewN | apply Kd.R_drew)); exact Kd.R_mono HO_1049002.out (fun _ hk => ⟨hk.1, hk.2.1⟩)⟩, ⟨by (with_reducible repeat (first | apply Kd.R_alloc | apply Kd.R_drewN | apply Kd.R_drew)); exact Kd.R_mono HO_1057001.out (fun _ hk => ⟨hk.1.1, hk.1.2⟩)⟩, ⟨by (with_reducible repeat (first | apply Kd.R_alloc | apply Kd.R_drewN | apply Kd.R_drew)); exact Kd.R_mono HO_1057002.out (fun _ hk => ⟨hk.1.1, hk.1.2⟩)⟩, ⟨by (with_reducible repeat (first | apply Kd.R_alloc | apply Kd.R_drewN | apply Kd.R_drew)); exact Kd.R_mono HO_1066001.out (fun _ hk => ⟨hk.1, hk.2.1⟩)⟩, ⟨by (with_reducible repeat (first | apply Kd.R_alloc | apply Kd.R_drewN | apply Kd.R_drew)); exact Kd.R_mono HO_1066002.out (fun _ hk => ⟨hk.1, hk.2.1⟩)⟩, ⟨bk BK1031⟩, ⟨bk BK1048⟩, ⟨bk BK1056⟩, ⟨bk BK1065⟩, ⟨bl4 HB GE1031 GE1048 GE1056 GE1065⟩⟩
   replace c78 := Bool.eq_false_iff.mpr c78
   subst c78
   rw [if_neg (show ¬ (false = true) by decide)] at H
   have H' := ak H
   clear H
   have hnb87 := NB1065_1031.out
   have hnc87 := NB1031_1065.out
   have hnb88 := NB1065_1048.out
   have hnc88 := NB1048_1065.out
   have hnb89 := NB1065_1056.out
   have hnc89 := NB1056_1065.out
   have hcz90_0 := bc w75 BK1065 0 (.int .i64 t1057) rfl
   have hcz90_1 := bc w75 BK1065 1 (.slice Ao40 t1058.length co40) rfl
   have hcz90_2 := bc w75 BK1065 2 (.slice Ao41 t1061.length co41) rfl
   have hfz90_0 := fz BK1065 0
   have hfz90_1 := fz BK1065 1
   have hfz90_2 := fz BK1065 2
   have hnb91 := NB1048_1031.out
   have hnc91 := NB1031_1048.out
   have hnb92 := NB1048_1056.out
   have hnc92 := NB1056_1048.out
   have hcz93_0 := bc w75 BK1048 0 (.int .i64 t1040) rfl
   have hcz93_1 := bc w75 BK1048 1 (.slice Ao24 t1041.length co24) rfl
   have hcz93_2 := bc w75 BK1048 2 (.slice Ao25 t1044.length co25) rfl
   have hfz93_0 := fz BK1048 0
   have hfz93_1 := fz BK1048 1
   have hfz93_2 := fz BK1048 2
   go_wp2_with (first | (go_at_call 33; (with_reducible refine (laws_eqLive.calls kj11 t1057 _ _ t1058 _ _ t1061 t1040 _ _ t1041 _ _ t1044 false _ ?side1 ?side2 ?side3 ?side4 ?side5 ?side6 ?side7 ?side8 A77.out).mono ?_); (case side1 => repeat (first | exact (Kd.R_reads' HO_1066001.out).2.2 | (with_reducible refine Kd.C_alloc ?_ _) | (with_reducible refine Kd.C_drewN ?_ _) | (with_reducible refine Kd.C_drew ?_))); (case side2 => exact (Kd.R_reads' HO_1066001.out).2.1); (case side3 => repeat (first | exact (Kd.R_reads' HO_1066002.out).2.2 | (with_reducible refine Kd.C_alloc ?_ _) | (with_reducible refine Kd.C_drewN ?_ _) | (with_reducible refine Kd.C_drew ?_))); (case side4 => exact (Kd.R_reads' HO_1066002.out).2.1); (case side5 => repeat (first | exact (Kd.R_reads' HO_1049001.out).2.2 | (with_reducible refine Kd.C_alloc ?_ _) | (with_reducible refine Kd.C_drewN ?_ _) | (with_reducible refine Kd.C_drew ?_))); (case side6 => exact (Kd.R_reads' HO_1049001.out).2.1); (case side7 => repeat (first | exact (Kd.R_reads' HO_1049002.out).2.2 | (with_reducible refine Kd.C_alloc ?_ _) | (with_reducible refine Kd.C_drewN ?_ _) | (with_reducible refine Kd.C_drew ?_))); (case side8 => exact (Kd.R_reads' HO_1049002.out).2.1); rintro e w94 ⟨rfl, hb⟩; have n0_ := ak (Kd.R_below (rk HO_1049001) hb); have n1_ := ak (Kd.R_below (rk HO_1049002) hb); have n2_ := ak (Kd.R_below (rk HO_1057001) hb); have n3_ := ak (Kd.R_below (rk HO_1057002) hb); have n4_ := ak (Kd.R_below (rk HO_1066001) hb); have n5_ := ak (Kd.R_below (rk HO_1066002) hb); have n6_ := ak (Kd.R_below (rk HO1070) hb); have n7_ := ak (Kd.R_below (rk HO1073) hb); have n8_ := ak (blk_below (bk BK1031) hb); have n9_ := ak (blk_below (bk BK1048) hb); have n10_ := ak (blk_below (bk BK1056) hb); have n11_ := ak (blk_below (bk BK1065) hb); have n12_ := ak (below_step (bl4 HB GE1031 GE1048 GE1056 GE1065) hb); clear HO_1049001; clear HO_1049002; clear HO_1057001; clear HO_1057002; clear HO_1066001; clear HO_1066002; clear HO1070; clear HO1073; clear BK1031; clear BK1048; clear BK1056; clear BK1065; clear HB; have HO_1049001 := n0_; have HO_1049002 := n1_; have HO_1057001 := n2_; have HO_1057002 := n3_; have HO_1066001 := n4_; have HO_1066002 := n5_; have HO1070 := n6_; have HO1073 := n7_; have BK1031 := n8_; have BK1048 := n9_; have BK1056 := n10_; have BK1065 := n11_; have HB := n12_; clear n0_ n1_ n2_ n3_ n4_ n5_ n6_ n7_ n8_ n9_ n10_ n11_ n12_; (try clear hb); (try clear hb2); (try clear hk); (try clear hi)))
   go_meet
   case rel => exact ⟨_, (true), (by first | rfl | (simp; done) | (simp [*]; done)), H', ⟨by have := HJ11.out; first | omega | exact Nat.le_refl _⟩, ⟨by (with_reducible repeat (first | apply Kd.R_alloc | apply Kd.R_drewN | apply Kd.R_drew)); exact Kd.R_mono HO_1049001.out (fun _ hk => ⟨hk.1, hk.2.1⟩)⟩, ⟨by (with_reducible repeat (first | apply Kd.R_alloc | apply Kd.R_drewN | apply Kd.R_drew)); exact Kd.R_mono HO_1049002.out (fun _ hk => ⟨hk.1, hk.2.1⟩)⟩, ⟨by (with_reducible repeat (first | apply Kd.R_alloc | apply Kd.R_drewN | apply Kd.R_drew)); exact Kd.R_mono HO_1057001.out (fun _ hk => ⟨hk.1.1, hk.1.2⟩)⟩, ⟨by (with_reducible repeat (first | apply Kd.R_alloc | apply Kd.R_drewN | apply Kd.R_drew)); exact Kd.R_mono HO_1057002.out (fun _ hk => ⟨hk.1.1, hk.1.2⟩)⟩, ⟨by (with_reducible repeat (first | apply Kd.R_alloc | apply Kd.R_drewN | apply Kd.R_drew)); exact Kd.R_mono HO_1066001.out (fun _ hk => ⟨hk.1, hk.2.1⟩)⟩, ⟨by (with_reducible repeat (first | apply Kd.R_alloc | apply Kd.R_drewN | apply Kd.R_drew)); exact Kd.R_mono HO_1066002.out (fun _ hk => ⟨hk.1, hk.2.1⟩)⟩, ⟨bk BK1031⟩, ⟨bk BK1048⟩, ⟨bk BK1056⟩, ⟨bk BK1065⟩, ⟨bl4 HB GE1031 GE1048 GE1056 GE1065⟩⟩
  clear HC65
  try clear c1
  try clear c2
  try clear p2
  try clear c3
  try clear c4
  try clear c4b0
  try clear c5
  try clear c6
  try clear c7
  try clear c8
  try clear c9
  try clear c10
  try clear c22
  try clear c29
  try clear c30
  try clear c31
  try clear c33
  try clear c36
  try clear c37
  try clear c38
  try clear c43
  try clear c44
  try clear c45
  try clear c46
  try clear c48
  try clear c49
  try clear c52
  try clear c53
  try clear c54
  try clear c56
  try clear c57
  try clear c60
  try clear c63
  try clear c71
  try clear c72
  try clear c73
  try clear c76
  try clear c76b0
  try clear c78
  try clear c79
  try clear c80
  try clear c81
  try clear c83
  try clear c84
  try clear c87
  try clear c88
  try clear c89
  try clear c91
  try clear c92
  try clear hcz14_0
  try clear hcz14_1
  try clear hcz14_2
  try clear hcz16_0
  try clear hcz16_1
  try clear hcz16_2
  try clear hcz23_0
  try clear hcz23_1
  try clear hcz23_2
  try clear hcz26_0
  try clear hcz26_1
  try clear hcz26_2
  try clear hcz31_0
  try clear hcz31_1
  try clear hcz31_2
  try clear hcz39_0
  try clear hcz39_1
  try clear hcz39_2
  try clear hcz47_0
  try clear hcz47_1
  try clear hcz47_2
  try clear hcz50_0
  try clear hcz50_1
  try clear hcz50_2
  try clear hcz55_0
  try clear hcz55_1
  try clear hcz55_2
  try clear hcz58_0
  try clear hcz58_1
  try clear hcz58_2
  try clear hcz6_0
  try clear hcz6_1
  try clear hcz6_2
  try clear hcz74_0
  try clear hcz74_1
  try clear hcz74_2
  try clear hcz82_0
  try clear hcz82_1
  try clear hcz82_2
  try clear hcz85_0
  try clear hcz85_1
  try clear hcz85_2
  try clear hcz90_0
  try clear hcz90_1
  try clear hcz90_2
  try clear hcz93_0
  try clear hcz93_1
  try clear hcz93_2
  try clear hfz14_0
  try clear hfz14_1
  try clear hfz14_2
  try clear hfz16_0
  try clear hfz16_1
  try clear hfz16_2
  try clear hfz23_0
  try clear hfz23_1
  try clear hfz23_2
  try clear hfz26_0
  try clear hfz26_1
  try clear hfz26_2
  try clear hfz31_0
  try clear hfz31_1
  try clear hfz31_2
  try clear hfz39_0
  try clear hfz39_1
  try clear hfz39_2
  try clear hfz47_0
  try clear hfz47_1
  try clear hfz47_2
  try clear hfz50_0
  try clear hfz50_1
  try clear hfz50_2
  try clear hfz55_0
  try clear hfz55_1
  try clear hfz55_2
  try clear hfz58_0
  try clear hfz58_1
  try clear hfz58_2
  try clear hfz6_0
  try clear hfz6_1
  try clear hfz6_2
  try clear hfz74_0
  try clear hfz74_1
  try clear hfz74_2
  try clear hfz82_0
  try clear hfz82_1
  try clear hfz82_2
  try clear hfz85_0
  try clear hfz85_1
  try clear hfz85_2
  try clear hfz90_0
  try clear hfz90_1
  try clear hfz90_2
  try clear hfz93_0
  try clear hfz93_1
  try clear hfz93_2
  try clear p2
  obtain ⟨kq, x65_64, rfl, HA, HJ64, HO_1049001, HO_1049002, HO_1057001, HO_1057002, HO_1066001, HO_1066002, BK1031, BK1048, BK1056, BK1065, HB⟩ := hcut
  have hl1057001_64 := (Kd.R_reads' HO_1057001.out).1
  rw [hl1057001_64] at HO_1057001
  (try simp only [hl1057001_64])
  (try simp only [hl1057001_64] at BK1031)
  (try simp only [hl1057001_64] at BK1048)
  (try simp only [hl1057001_64] at BK1056)
  (try simp only [hl1057001_64] at BK1065)
  (try simp only [hl1057001_64] at HO_1049001)
  (try simp only [hl1057001_64] at HO_1049002)
  (try simp only [hl1057001_64] at HO_1057002)
  (try simp only [hl1057001_64] at HO_1066001)
  (try simp only [hl1057001_64] at HO_1066002)
  have hl1057002_64 := (Kd.R_reads' HO_1057002.out).1
  rw [hl1057002_64] at HO_1057002
  (try simp only [hl1057002_64])
  (try simp only [hl1057002_64] at BK1031)
  (try simp only [hl1057002_64] at BK1048)
  (try simp only [hl1057002_64] at BK1056)
  (try simp only [hl1057002_64] at BK1065)
  (try simp only [hl1057002_64] at HO_1049001)
  (try simp only [hl1057002_64] at HO_1049002)
  (try simp only [hl1057002_64] at HO_1057001)
  (try simp only [hl1057002_64] at HO_1066001)
  (try simp only [hl1057002_64] at HO_1066002)
  cases kq with
  | zero => exact absurd HA.out (by simp [laws_FnExactLiveOver.j1])
  | succ kj64 =>
   have H := HA.out
   clear HA
   simp only [laws_FnExactLiveOver.j1] at H
   by_cases c95 : x65_64 = true
   ·subst c95
    rw [if_pos rfl] at H
    exact absurd ((Option.some.inj H).trans hr_) Bool.false_ne_true
   replace c95 := Bool.eq_false_iff.mpr c95
   subst c95
   rw [if_neg (show ¬ (false = true) by decide)] at H
   replace H := Option.bind_eq_some_iff.mp H
   obtain ⟨⟨t1079, t1080, t1081⟩, A960, H⟩ := H
   have A96 := ak A960
   clear A960
   replace H := Option.bind_eq_some_iff.mp H
   obtain ⟨t1082, A970, H⟩ := H
   have A97 := ak A970
   clear A970
   by_cases c98 : t1082 < 0
   ·rw [if_pos c98] at H
    have c98b0 : decide (t1082 < 0) = true := decide_eq_true c98
    clear c98
    exact absurd ((Option.some.inj H).trans hr_) Bool.false_ne_true
   rw [if_neg c98] at H
   have c98b0 : decide (t1082 < 0) = false := decide_eq_false c98
   clear c98
   by_cases c99 : t1082 = t1079
   rotate_left
   ·rw [if_neg c99] at H
    have c99b0 : (t1082 == t1079) = false := beq_eq_false_iff_ne.mpr c99
    have c99b1 : (t1082 != t1079) = true := bne_iff_ne.mpr c99
    exact absurd ((Option.some.inj H).trans hr_) Bool.false_ne_true
   rw [if_pos c99] at H
   have c99b0 : (t1082 == t1079) = true := beq_iff_eq.mpr c99
   have c99b1 : (t1082 != t1079) = false := bne_eq_false_iff_eq.mpr c99
   clear c99
   replace H := Option.bind_eq_some_iff.mp H
   obtain ⟨⟨t1083, t1084, t1087⟩, A1000, H⟩ := H
   have A100 := ak A1000
   clear A1000
   replace H := Option.bind_eq_some_iff.mp H
   obtain ⟨⟨t1090, t1091, t1094, t1097⟩, A1010, H⟩ := H
   have A101 := ak A1010
   clear A1010
   have HC102 := ak H
   clear H
   have hnb103 := NB1065_1031.out
   have hnc103 := NB1031_1065.out
   have hnb104 := NB1065_1048.out
   have hnc104 := NB1048_1065.out
   have hnb105 := NB1065_1056.out
   have hnc105 := NB1056_1065.out
   have hcz106_0 := bc wc BK1065 0 (.int .i64 t1057) rfl
   have hcz106_1 := bc wc BK1065 1 (.slice Ao40 t1058.length co40) rfl
   have hcz106_2 := bc wc BK1065 2 (.slice Ao41 t1061.length co41) rfl
   have hfz106_0 := fz BK1065 0
   have hfz106_1 := fz BK1065 1
   have hfz106_2 := fz BK1065 2
   go_upto_region 25 with (first | ((with_reducible refine gate_callee (f := 45) rfl ?_); refine goesL_ (some 68) rfl rfl Try.func45 (by kernel_rfl) rfl #[.agg #[.int .i64 t1057, .slice Ao40 t1058.length co40, .slice Ao41 t1061.length co41], .int .i64 1] rfl (by (try simp only [List.map_toArray, List.map_cons, List.map_nil]); first | done | rfl | (simp only [List.length_drop, List.length_take]; rfl)) ?_; (with_reducible refine (laws_markLive.calls kj64 t1057 (fun k_ => some k_ = (.slice Ao40 t1058.length co40 : Value).ownBlock) (.slice Ao40 t1058.length co40) t1058 (fun k_ => some k_ = (.slice Ao41 t1061.length co41 : Value).ownBlock) (.slice Ao41 t1061.length co41) t1061 1 t1079 t1080 t1081 w _ ?side1 ?side2 ?side3 A96.out).mono ?_); (case side1 => repeat (first | (with_reducible first | exact HB.out | apply below_alloc | apply pw_below_drewN | apply below_drew1 | refine below_set ?_ GE1031.out | refine below_set ?_ GE1048.out | refine below_set ?_ GE1056.out | refine below_set ?_ GE1065.out) | exact HB.out)); (case side2 => exact Kd.R_tight rfl HO_1066001.out); (case side3 => exact Kd.R_tight rfl HO_1066002.out); rintro e w107 ⟨rfl, hy0, hy1, hb, hkp⟩; refine ⟨_, rfl, ?_⟩; replace HO_1049001 := ak (Kd.R_mono (ok' := fun k_ => some k_ ≠ (.slice Ao32 t1076.length co32 : Value).ownBlock ∧ some k_ ≠ (.slice Ao40 t1058.length co40 : Value).ownBlock) (Kd.R_keptB ((Kd.R_apart' HO_1049001.out (Kd.R_typed HO_1066002.out) (by decide))) hkp (fun k_ hk_ hs_ => Or.elim hs_ (fun e_ => (hk_.1.2) e_) (fun e_ => (hk_.2) e_))) (fun k_ hk_ => ⟨hk_.1.1.1, hk_.1.1.2⟩)); replace HO_1049002 := ak (Kd.R_mono (ok' := fun k_ => some k_ ≠ (.slice Ao33 t1077.length co33 : Value).ownBlock ∧ some k_ ≠ (.slice Ao41 t1061.length co41 : Value).ownBlock) (Kd.R_keptB ((Kd.R_apart' HO_1049002.out (Kd.R_typed HO_1066001.out) (by decide))) hkp (fun k_ hk_ hs_ => Or.elim hs_ (fun e_ => (hk_.2) e_) (fun e_ => (hk_.1.2) e_))) (fun k_ hk_ => ⟨hk_.1.1.1, hk_.1.1.2⟩)); replace HO_1057001 := ak (Kd.R_mono (ok' := fun k_ => some k_ ≠ (.slice Ao24 t1041.length co24 : Value).ownBlock ∧ some k_ ≠ (.slice Ao40 t1058.length co40 : Value).ownBlock) (Kd.R_keptB ((Kd.R_apart' HO_1057001.out (Kd.R_typed HO_1066002.out) (by decide))) hkp (fun k_ hk_ hs_ => Or.elim hs_ (fun e_ => (hk_.1.2) e_) (fun e_ => (hk_.2) e_))) (fun k_ hk_ => ⟨hk_.1.1.1, hk_.1.1.2⟩)); replace HO_1057002 := ak (Kd.R_mono (ok' := fun k_ => some k_ ≠ (.slice Ao25 t1044.length co25 : Value).ownBlock ∧ some k_ ≠ (.slice Ao41 t1061.length co41 : Value).ownBlock) (Kd.R_keptB ((Kd.R_apart' HO_1057002.out (Kd.R_typed HO_1066001.out) (by decide))) hkp (fun k_ hk_ hs_ => Or.elim hs_ (fun e_ => (hk_.2) e_) (fun e_ => (hk_.1.2) e_))) (fun k_ hk_ => ⟨hk_.1.1.1, hk_.1.1.2⟩)); replace BK1031 := ak (blk_kept (bk BK1031) hkp (fun hs_ => Or.elim hs_ (fun e_ => (fun e_ => (Kd.R_ne HO_1066001.out BK1031.out (by decide)) e_) e_) (fun e_ => (fun e_ => (Kd.R_ne HO_1066002.out BK1031.out (by decide)) e_) e_))); replace BK1048 := ak (blk_kept (bk BK1048) hkp (fun hs_ => Or.elim hs_ (fun e_ => (fun e_ => (Kd.R_ne HO_1066001.out BK1048.out (by decide)) e_) e_) (fun e_ => (fun e_ => (Kd.R_ne HO_1066002.out BK1048.out (by decide)) e_) e_))); replace BK1056 := ak (blk_kept (bk BK1056) hkp (fun hs_ => Or.elim hs_ (fun e_ => (fun e_ => (Kd.R_ne HO_1066001.out BK1056.out (by decide)) e_) e_) (fun e_ => (fun e_ => (Kd.R_ne HO_1066002.out BK1056.out (by decide)) e_) e_))); replace BK1065 := ak (blk_kept (bk BK1065) hkp (fun hs_ => Or.elim hs_ (fun e_ => (fun e_ => (Kd.R_ne HO_1066001.out BK1065.out (by decide)) e_) e_) (fun e_ => (fun e_ => (Kd.R_ne HO_1066002.out BK1065.out (by decide)) e_) e_))); replace HO_1066001 := ak (Kd.R_reok rfl hy0 (fun k_ e_ => HO_1066001.out.1 k_ e_)); replace HO_1066002 := ak (Kd.R_reok rfl hy1 (fun k_ e_ => HO_1066002.out.1 k_ e_)); replace HB := ak (hb); (try clear hb); (try clear hkp); (try clear hy0); (try clear hy1); have hcz108_0 := bc w107 BK1065 0 (.int .i64 t1057) rfl; have hcz108_1 := bc w107 BK1065 1 (.slice Ao40 t1058.length co40) rfl; have hcz108_2 := bc w107 BK1065 2 (.slice Ao41 t1061.length co41) rfl; have hfz108_0 := fz BK1065 0; have hfz108_1 := fz BK1065 1; have hfz108_2 := fz BK1065 2) | ((with_reducible refine gate_callee (f := 46) rfl ?_); refine goesL_ (some 71) rfl rfl Try.func46 (by kernel_rfl) rfl #[.agg #[.int .i64 t1057, .slice Ao40 t1080.length co40, .slice Ao41 t1081.length co41], .int .i64 1] rfl (by (try simp only [List.map_toArray, List.map_cons, List.map_nil]); first | done | (rw [show t1080.length = t1058.length from (Kd.R_reads' HO_1066001.out).1.symm, show t1081.length = t1061.length from (Kd.R_reads' HO_1066002.out).1.symm] <;> rfl) | rfl | (simp only [List.length_drop, List.length_take]; rfl)) ?_; (with_reducible refine (laws_heldLive.calls kj64 t1057 _ _ t1080 _ _ t1081 1 t1082 _ ?side1 ?side2 ?side3 ?side4 A97.out).mono ?_); (case side1 => repeat (first | exact (Kd.R_reads' HO_1066001.out).2.2 | (with_reducible refine Kd.C_alloc ?_ _) | (with_reducible refine Kd.C_drewN ?_ _) | (with_reducible refine Kd.C_drew ?_))); (case side2 => rw [show t1080.length = t1058.length from (Kd.R_reads' HO_1066001.out).1.symm]; exact (Kd.R_reads' HO_1066001.out).2.1); (case side3 => repeat (first | exact (Kd.R_reads' HO_1066002.out).2.2 | (with_reducible refine Kd.C_alloc ?_ _) | (with_reducible refine Kd.C_drewN ?_ _) | (with_reducible refine Kd.C_drew ?_))); (case side4 => rw [show t1081.length = t1061.length from (Kd.R_reads' HO_1066002.out).1.symm]; exact (Kd.R_reads' HO_1066002.out).2.1); rintro e w109 ⟨rfl, hb⟩; refine ⟨_, rfl, ?_⟩; replace HO_1049001 := ak (Kd.R_below (rk HO_1049001) hb); replace HO_1049002 := ak (Kd.R_below (rk HO_1049002) hb); replace HO_1057001 := ak (Kd.R_below (rk HO_1057001) hb); replace HO_1057002 := ak (Kd.R_below (rk HO_1057002) hb); replace HO_1066001 := ak (Kd.R_below (rk HO_1066001) hb); replace HO_1066002 := ak (Kd.R_below (rk HO_1066002) hb); replace BK1031 := ak (blk_below (bk BK1031) hb); replace BK1048 := ak (blk_below (bk BK1048) hb); replace BK1056 := ak (blk_below (bk BK1056) hb); replace BK1065 := ak (blk_below (bk BK1065) hb); replace HB := ak (below_step (bl4 HB GE1031 GE1048 GE1056 GE1065) hb); (try clear hb); (try clear hb2); (try clear hk); (try clear hi); have hnb110 := NB1031_1048.out; have hnc110 := NB1048_1031.out; have hnb111 := NB1031_1056.out; have hnc111 := NB1056_1031.out; have hcz112_0 := bc w109 BK1031 0 (.int .i64 a0_0) rfl; have hcz112_1 := bc w109 BK1031 1 (.slice A0_1 l0_1.length c0_1) rfl; have hcz112_2 := bc w109 BK1031 2 (.slice A0_2 l0_2.length c0_2) rfl; have hfz112_0 := fz BK1031 0; have hfz112_1 := fz BK1031 1; have hfz112_2 := fz BK1031 2) | ((with_reducible refine gate_callee (f := 31) rfl ?_); refine goesL_ (some 79) rfl rfl Try.func31 (by kernel_rfl) rfl #[.agg #[.int .i64 a0_0, .slice A0_1 l0_1.length c0_1, .slice A0_2 l0_2.length c0_2]] rfl (by (try simp only [List.map_toArray, List.map_cons, List.map_nil]); first | done | rfl | (simp only [List.length_drop, List.length_take]; rfl)) ?_; (with_reducible refine (laws_toLive.calls kj64 a0_0 _ _ l0_1 _ _ l0_2 t1083 t1084 t1087 _ ?side1 ?side2 ?side3 ?side4 A100.out).mono ?_); (case side1 => repeat (first | exact (Kd.C_below HR0_1.out HB.out) | (with_reducible refine Kd.C_alloc ?_ _) | (with_reducible refine Kd.C_drewN ?_ _) | (with_reducible refine Kd.C_drew ?_))); (case side2 => exact HC0_1.out); (case side3 => repeat (first | exact (Kd.C_below HR0_2.out HB.out) | (with_reducible refine Kd.C_alloc ?_ _) | (with_reducible refine Kd.C_drewN ?_ _) | (with_reducible refine Kd.C_drew ?_))); (case side4 => exact HC0_2.out); rintro e w113 ⟨v1085, v1088, rfl, ho0, ho1, hb⟩; refine ⟨_, rfl, ?_⟩; have HO1086 := ak (Kd.R_lower (Kd.R_new' (Kd.R_new' (Kd.R_new' ho0 (Kd.R_lt (rk HO_1049001))) (Kd.R_lt (rk HO_1057001))) (Kd.R_lt (rk HO_1066001))) (below_size (bl4 HB GE1031 GE1048 GE1056 GE1065))); replace HO_1049001 := ak (Kd.R_elder' (rk HO_1049001) (Kd.R_base ho0) hb); replace HO_1057001 := ak (Kd.R_elder' (rk HO_1057001) (Kd.R_base ho0) hb); replace HO_1066001 := ak (Kd.R_elder' (rk HO_1066001) (Kd.R_base ho0) hb); have HO1089 := ak (Kd.R_lower (Kd.R_new' (Kd.R_new' (Kd.R_new' ho1 (Kd.R_lt (rk HO_1049002))) (Kd.R_lt (rk HO_1057002))) (Kd.R_lt (rk HO_1066002))) (below_size (bl4 HB GE1031 GE1048 GE1056 GE1065))); replace HO_1049002 := ak (Kd.R_elder' (rk HO_1049002) (Kd.R_base ho1) hb); replace HO_1057002 := ak (Kd.R_elder' (rk HO_1057002) (Kd.R_base ho1) hb); replace HO_1066002 := ak (Kd.R_elder' (rk HO_1066002) (Kd.R_base ho1) hb); replace BK1031 := ak (blk_below (bk BK1031) hb); replace BK1048 := ak (blk_below (bk BK1048) hb); replace BK1056 := ak (blk_below (bk BK1056) hb); replace BK1065 := ak (blk_below (bk BK1065) hb); replace HB := ak (below_step (bl4 HB GE1031 GE1048 GE1056 GE1065) hb); (try clear hb); (try clear hb2); (try clear hk); (try clear hi); (try clear ho0); (try clear ho1); obtain ⟨Ao114, co114, eo114⟩ := Kd.R_slice HO1086.out; subst eo114; obtain ⟨Ao115, co115, eo115⟩ := Kd.R_slice HO1089.out; subst eo115) | ((with_reducible refine gate_callee (f := 44) rfl ?_); refine goesL_ (some 81) rfl rfl Try.func44 (by kernel_rfl) rfl #[.agg #[.int .i64 t1083, .slice Ao114 t1084.length co114, .slice Ao115 t1087.length co115], .int .i64 a1] rfl (by (try simp only [List.map_toArray, List.map_cons, List.map_nil]); first | done | rfl | (simp only [List.length_drop, List.length_take]; rfl)) ?_; (with_reducible refine (impl_LiveOver.calls kj64 t1083 _ _ t1084 _ _ t1087 a1 t1090 t1091 t1094 t1097 _ ?side1 ?side2 ?side3 ?side4 A101.out).mono ?_); (case side1 => repeat (first | exact (Kd.R_reads' HO1086.out).2.2 | (with_reducible refine Kd.C_alloc ?_ _) | (with_reducible refine Kd.C_drewN ?_ _) | (with_reducible refine Kd.C_drew ?_))); (case side2 => exact (Kd.R_reads' HO1086.out).2.1); (case side3 => repeat (first | exact (Kd.R_reads' HO1089.out).2.2 | (with_reducible refine Kd.C_alloc ?_ _) | (with_reducible refine Kd.C_drewN ?_ _) | (with_reducible refine Kd.C_drew ?_))); (case side4 => exact (Kd.R_reads' HO1089.out).2.1); rintro e w116 ⟨v1092, v1095, rfl, ho0, ho1, hb⟩; refine ⟨_, rfl, ?_⟩; have HO1093 := ak (Kd.R_lower (Kd.R_new' (Kd.R_new' (Kd.R_new' (Kd.R_new' ho0 (Kd.R_lt (rk HO_1049001))) (Kd.R_lt (rk HO_1057001))) (Kd.R_lt (rk HO_1066001))) (Kd.R_lt (rk HO1086))) (below_size (bl4 HB GE1031 GE1048 GE1056 GE1065))); replace HO_1049001 := ak (Kd.R_elder' (rk HO_1049001) (Kd.R_base ho0) hb); replace HO_1057001 := ak (Kd.R_elder' (rk HO_1057001) (Kd.R_base ho0) hb); replace HO_1066001 := ak (Kd.R_elder' (rk HO_1066001) (Kd.R_base ho0) hb); replace HO1086 := ak (Kd.R_elder' (rk HO1086) (Kd.R_base ho0) hb); have HO1096 := ak (Kd.R_lower (Kd.R_new' (Kd.R_new' (Kd.R_new' (Kd.R_new' ho1 (Kd.R_lt (rk HO_1049002))) (Kd.R_lt (rk HO_1057002))) (Kd.R_lt (rk HO_1066002))) (Kd.R_lt (rk HO1089))) (below_size (bl4 HB GE1031 GE1048 GE1056 GE1065))); replace HO_1049002 := ak (Kd.R_elder' (rk HO_1049002) (Kd.R_base ho1) hb); replace HO_1057002 := ak (Kd.R_elder' (rk HO_1057002) (Kd.R_base ho1) hb); replace HO_1066002 := ak (Kd.R_elder' (rk HO_1066002) (Kd.R_base ho1) hb); replace HO1089 := ak (Kd.R_elder' (rk HO1089) (Kd.R_base ho1) hb); replace BK1031 := ak (blk_below (bk BK1031) hb); replace BK1048 := ak (blk_below (bk BK1048) hb); replace BK1056 := ak (blk_below (bk BK1056) hb); replace BK1065 := ak (blk_below (bk BK1065) hb); replace HB := ak (below_step (bl4 HB GE1031 GE1048 GE1056 GE1065) hb); (try clear hb); (try clear hb2); (try clear hk); (try clear hi); (try clear ho0); (try clear ho1)) | ((with_reducible refine gate_dst (N := 14) rfl ?_); refine box_event ?hg (N := 14) ?hd (cs := #[.int .i64 0, .slice none 0 0, .slice none 0 0]) (t := 49) ?hr ?_; (case hd => rfl); (case hg => rfl); (case hr => first | (go_simp; done) | (go_simp; rfl)); intro gb1098 hg w117 hbox hb; replace HO_1049001 := ak (Kd.R_below (rk HO_1049001) hb); replace HO_1049002 := ak (Kd.R_below (rk HO_1049002) hb); replace HO_1057001 := ak (Kd.R_below (rk HO_1057001) hb); replace HO_1057002 := ak (Kd.R_below (rk HO_1057002) hb); replace HO_1066001 := ak (Kd.R_below (rk HO_1066001) hb); replace HO_1066002 := ak (Kd.R_below (rk HO_1066002) hb); replace HO1086 := ak (Kd.R_below (rk HO1086) hb); replace HO1089 := ak (Kd.R_below (rk HO1089) hb); replace HO1093 := ak (Kd.R_below (rk HO1093) hb); replace HO1096 := ak (Kd.R_below (rk HO1096) hb); have BK1098 := ak (hbox); have GW1098 := ak ((by rw [hg]; exact (below_size (bl4 HB GE1031 GE1048 GE1056 GE1065)) : w.heap.size ≤ gb1098)); have GE1098 := ak ((by rw [hg]; exact (below_size (bl4 HB GE1031 GE1048 GE1056 GE1065)) : w.heap.size ≤ gb1098)); replace HB := ak (below_step (bl4 HB GE1031 GE1048 GE1056 GE1065) hb); have NB1031_1098 := ak ((by rw [hg]; exact Nat.ne_of_lt (blk_lt (bk BK1031)) : gb1031 ≠ gb1098)); have NB1098_1031 := ak ((by rw [hg]; exact Nat.ne_of_gt (blk_lt (bk BK1031)) : gb1098 ≠ gb1031)); replace BK1031 := ak (blk_below (bk BK1031) hb); have NB1048_1098 := ak ((by rw [hg]; exact Nat.ne_of_lt (blk_lt (bk BK1048)) : gb1048 ≠ gb1098)); have NB1098_1048 := ak ((by rw [hg]; exact Nat.ne_of_gt (blk_lt (bk BK1048)) : gb1098 ≠ gb1048)); replace BK1048 := ak (blk_below (bk BK1048) hb); have NB1056_1098 := ak ((by rw [hg]; exact Nat.ne_of_lt (blk_lt (bk BK1056)) : gb1056 ≠ gb1098)); have NB1098_1056 := ak ((by rw [hg]; exact Nat.ne_of_gt (blk_lt (bk BK1056)) : gb1098 ≠ gb1056)); replace BK1056 := ak (blk_below (bk BK1056) hb); have NB1065_1098 := ak ((by rw [hg]; exact Nat.ne_of_lt (blk_lt (bk BK1065)) : gb1065 ≠ gb1098)); have NB1098_1065 := ak ((by rw [hg]; exact Nat.ne_of_gt (blk_lt (bk BK1065)) : gb1098 ≠ gb1065)); replace BK1065 := ak (blk_below (bk BK1065) hb); clear hb hbox hg; have hnb118 := NB1098_1031.out; have hnc118 := NB1031_1098.out; have hnb119 := NB1098_1048.out; have hnc119 := NB1048_1098.out; have hnb120 := NB1098_1056.out; have hnc120 := NB1056_1098.out; have hnb121 := NB1098_1065.out; have hnc121 := NB1065_1098.out; have hcz122_0 := bc w117 BK1098 0 (.int .i64 0) rfl; have hcz122_1 := bc w117 BK1098 1 (.slice none 0 0) rfl; have hcz122_2 := bc w117 BK1098 2 (.slice none 0 0) rfl; have hfz122_0 := fz BK1098 0; have hfz122_1 := fz BK1098 1; have hfz122_2 := fz BK1098 2; obtain ⟨Ao123, co123, eo123⟩ := Kd.R_slice HO1093.out; subst eo123; obtain ⟨Ao124, co124, eo124⟩ := Kd.R_slice HO1096.out; subst eo124))
   (try simp only [Act.put, List.setIfInBounds_toArray, List.set_cons_zero, List.set_cons_succ])
   go_cut [92] (fun v92 wc => ∃ (kq : Nat) (x92_101 : Bool), v92 = .bool x92_101 ∧ Aside0 (laws_FnExactLiveOver.j2 kq t1079 x92_101 t1057 t1080 t1081 = some r) ∧ Aside0 (kq ≤ kj64) ∧ Aside0 (Kd.R k100 100 wc w.heap.size (fun k_ => some k_ ≠ ((.slice Ao32 t1076.length co32) : Value).ownBlock ∧ some k_ ≠ ((.slice Ao40 t1058.length co40) : Value).ownBlock ∧ some k_ ≠ ((.slice Ao123 t1091.length co123) : Value).ownBlock) (.slice Ao24 t1041.length co24) t1041) ∧ Aside0 (Kd.R k70 70 wc w.heap.size (fun k_ => some k_ ≠ ((.slice Ao33 t1077.length co33) : Value).ownBlock ∧ some k_ ≠ ((.slice Ao41 t1061.length co41) : Value).ownBlock ∧ some k_ ≠ ((.slice Ao124 t1094.length co124) : Value).ownBlock) (.slice Ao25 t1044.length co25) t1044) ∧ Aside0 (Kd.R k100 100 wc w.heap.size (fun k_ => some k_ ≠ ((.slice Ao24 t1041.length co24) : Value).ownBlock ∧ some k_ ≠ ((.slice Ao40 t1058.length co40) : Value).ownBlock ∧ some k_ ≠ ((.slice Ao123 t1091.length co123) : Value).ownBlock) (.slice Ao32 t1076.length co32) t1076) ∧ Aside0 (Kd.R k70 70 wc w.heap.size (fun k_ => some k_ ≠ ((.slice Ao25 t1044.length co25) : Value).ownBlock ∧ some k_ ≠ ((.slice Ao41 t1061.length co41) : Value).ownBlock ∧ some k_ ≠ ((.slice Ao124 t1094.length co124) : Value).ownBlock) (.slice Ao33 t1077.length co33) t1077) ∧ Aside0 (Kd.R k100 100 wc w.heap.size (fun k_ => some k_ ≠ ((.slice Ao24 t1041.length co24) : Value).ownBlock ∧ some k_ ≠ ((.slice Ao32 t1076.length co32) : Value).ownBlock ∧ some k_ ≠ ((.slice Ao123 t1091.length co123) : Value).ownBlock) (.slice Ao40 t1058.length co40) t1080) ∧ Aside0 (Kd.R k70 70 wc w.heap.size (fun k_ => some k_ ≠ ((.slice Ao25 t1044.length co25) : Value).ownBlock ∧ some k_ ≠ ((.slice Ao33 t1077.length co33) : Value).ownBlock ∧ some k_ ≠ ((.slice Ao124 t1094.length co124) : Value).ownBlock) (.slice Ao41 t1061.length co41) t1081) ∧ Aside0 (Kd.R k100 100 wc w.heap.size (fun k_ => some k_ ≠ ((.slice Ao24 t1041.length co24) : Value).ownBlock ∧ some k_ ≠ ((.slice Ao32 t1076.length co32) : Value).ownBlock ∧ some k_ ≠ ((.slice Ao40 t1058.length co40) : Value).ownBlock) (.slice Ao123 t1091.length co123) t1091) ∧ Aside0 (Kd.R k70 70 wc w.heap.size (fun k_ => some k_ ≠ ((.slice Ao25 t1044.length co25) : Value).ownBlock ∧ some k_ ≠ ((.slice Ao33 t1077.length co33) : Value).ownBlock ∧ some k_ ≠ ((.slice Ao41 t1061.length co41) : Value).ownBlock) (.slice Ao124 t1094.length co124) t1094) ∧ Aside0 (wc.heap[gb1031]? = some (.cells #[.int .i64 a0_0, (.slice A0_1 l0_1.length c0_1), (.slice A0_2 l0_2.length c0_2)] 44 (0, 0))) ∧ Aside0 (wc.heap[gb1048]? = some (.cells #[.int .i64 t1040, (.slice Ao24 t1041.length co24), (.slice Ao25 t1044.length co25)] 49 (0, 0))) ∧ Aside0 (wc.heap[gb1056]? = some (.cells #[.int .i64 t1049, (.slice Ao32 t1076.length co32), (.slice Ao33 t1077.length co33)] 49 (0, 0))) ∧ Aside0 (wc.heap[gb1065]? = some (.cells #[.int .i64 t1057, (.slice Ao40 t1058.length co40), (.slice Ao41 t1061.length co41)] 49 (0, 0))) ∧ Aside0 (wc.heap[gb1098]? = some (.cells #[.int .i64 t1090, (.slice Ao123 t1091.length co123), (.slice Ao124 t1094.length co124)] 49 (0, 0))) ∧ Aside0 (Below w.heap.size w wc))
   case first =>
    have H := HC102.out
    clear HC102
    replace H := Option.bind_eq_some_iff.mp H
    obtain ⟨t1099, A1250, H⟩ := H
    have A125 := ak A1250
    clear A1250
    by_cases c126 : t1099 = true
    ·subst c126
     rw [if_pos rfl] at H
     have H' := ak H
     clear H
     have hnb127 := NB1098_1031.out
     have hnc127 := NB1031_1098.out
     have hnb128 := NB1098_1048.out
     have hnc128 := NB1048_1098.out
     have hnb129 := NB1098_1056.out
     have hnc129 := NB1056_1098.out
     have hnb130 := NB1098_1065.out
     have hnc130 := NB1065_1098.out
     have hcz131_0 := bc w117 BK1098 0 (.int .i64 0) rfl
     have hcz131_1 := bc w117 BK1098 1 (.slice none 0 0) rfl
     have hcz131_2 := bc w117 BK1098 2 (.slice none 0 0) rfl
     have hfz131_0 := fz BK1098 0
     have hfz131_1 := fz BK1098 1
     have hfz131_2 := fz BK1098 2
     have hnb132 := NB1048_1031.out
     have hnc132 := NB1031_1048.out
     have hnb133 := NB1048_1056.out
     have hnc133 := NB1056_1048.out
     have hnb134 := NB1048_1065.out
     have hnc134 := NB1065_1048.out
     have hcz135_0 := bc w117 BK1048 0 (.int .i64 t1040) rfl
     have hcz135_1 := bc w117 BK1048 1 (.slice Ao24 t1041.length co24) rfl
     have hcz135_2 := bc w117 BK1048 2 (.slice Ao25 t1044.length co25) rfl
     have hfz135_0 := fz BK1048 0
     have hfz135_1 := fz BK1048 1
     have hfz135_2 := fz BK1048 2
     go_wp2_with (first | ((with_reducible refine gate_callee (f := 33) rfl ?_); refine goesL_ (some 86) rfl rfl Try.func33 (by kernel_rfl) rfl #[.agg #[.int .i64 t1090, .slice Ao123 t1091.length co123, .slice Ao124 t1094.length co124], .agg #[.int .i64 t1040, .slice Ao24 t1041.length co24, .slice Ao25 t1044.length co25]] rfl (by (try simp only [List.map_toArray, List.map_cons, List.map_nil]); first | done | rfl | (simp only [List.length_drop, List.length_take]; rfl)) ?_; (with_reducible refine (laws_eqLive.calls kj64 t1090 _ _ t1091 _ _ t1094 t1040 _ _ t1041 _ _ t1044 true _ ?side1 ?side2 ?side3 ?side4 ?side5 ?side6 ?side7 ?side8 A125.out).mono ?_); (case side1 => refine (Kd.R_reads' (e := 100) (base := w.heap.size) (ok := fun k_ => ((((True ∧ some k_ ≠ (.slice Ao24 t1041.length co24 : Value).ownBlock) ∧ some k_ ≠ (.slice Ao32 t1076.length co32 : Value).ownBlock) ∧ some k_ ≠ (.slice Ao40 t1058.length co40 : Value).ownBlock) ∧ some k_ ≠ (.slice Ao114 t1084.length co114 : Value).ownBlock)) (n := t1091.length) (c := co123) ?_).2.2; exact (by (with_reducible repeat (first | apply Kd.R_alloc | apply Kd.R_drewN | apply Kd.R_drew)); exact (Kd.R_mono (Kd.R_far (p := ⟨gb1098, 2, none⟩) (Kd.R_far (p := ⟨gb1098, 1, none⟩) (Kd.R_far (p := ⟨gb1098, 0, none⟩) (Kd.R_types HO1093.out BK1098.out (by decide)) (fun _ hk => hk.2) (.int .i64 t1090)) (fun _ hk => hk.2) (.slice Ao123 t1091.length co123)) (fun _ hk => hk.2) (.slice Ao124 t1094.length co124)) (fun _ h_ => h_.1)))); (case side2 => exact (Kd.R_reads' HO1093.out).2.1); (case side3 => refine (Kd.R_reads' (e := 70) (base := w.heap.size) (ok := fun k_ => ((((True ∧ some k_ ≠ (.slice Ao25 t1044.length co25 : Value).ownBlock) ∧ some k_ ≠ (.slice Ao33 t1077.length co33 : Value).ownBlock) ∧ some k_ ≠ (.slice Ao41 t1061.length co41 : Value).ownBlock) ∧ some k_ ≠ (.slice Ao115 t1087.length co115 : Value).ownBlock)) (n := t1094.length) (c := co124) ?_).2.2; exact (by (with_reducible repeat (first | apply Kd.R_alloc | apply Kd.R_drewN | apply Kd.R_drew)); exact (Kd.R_mono (Kd.R_far (p := ⟨gb1098, 2, none⟩) (Kd.R_far (p := ⟨gb1098, 1, none⟩) (Kd.R_far (p := ⟨gb1098, 0, none⟩) (Kd.R_types HO1096.out BK1098.out (by decide)) (fun _ hk => hk.2) (.int .i64 t1090)) (fun _ hk => hk.2) (.slice Ao123 t1091.length co123)) (fun _ hk => hk.2) (.slice Ao124 t1094.length co124)) (fun _ h_ => h_.1)))); (case side4 => exact (Kd.R_reads' HO1096.out).2.1); (case side5 => refine (Kd.R_reads' (e := 100) (base := w.heap.size) (ok := fun k_ => (((some k_ ≠ (.slice Ao32 t1076.length co32 : Value).ownBlock ∧ some k_ ≠ (.slice Ao40 t1058.length co40 : Value).ownBlock) ∧ some k_ ≠ (.slice Ao114 t1084.length co114 : Value).ownBlock) ∧ some k_ ≠ (.slice Ao123 t1091.length co123 : Value).ownBlock)) (n := t1041.length) (c := co24) ?_).2.2; exact (by (with_reducible repeat (first | apply Kd.R_alloc | apply Kd.R_drewN | apply Kd.R_drew)); exact (Kd.R_mono (Kd.R_far (p := ⟨gb1098, 2, none⟩) (Kd.R_far (p := ⟨gb1098, 1, none⟩) (Kd.R_far (p := ⟨gb1098, 0, none⟩) (Kd.R_types HO_1049001.out BK1098.out (by decide)) (fun _ hk => hk.2) (.int .i64 t1090)) (fun _ hk => hk.2) (.slice Ao123 t1091.length co123)) (fun _ hk => hk.2) (.slice Ao124 t1094.length co124)) (fun _ h_ => h_.1)))); (case side6 => exact (Kd.R_reads' HO_1049001.out).2.1); (case side7 => refine (Kd.R_reads' (e := 70) (base := w.heap.size) (ok := fun k_ => (((some k_ ≠ (.slice Ao33 t1077.length co33 : Value).ownBlock ∧ some k_ ≠ (.slice Ao41 t1061.length co41 : Value).ownBlock) ∧ some k_ ≠ (.slice Ao115 t1087.length co115 : Value).ownBlock) ∧ some k_ ≠ (.slice Ao124 t1094.length co124 : Value).ownBlock)) (n := t1044.length) (c := co25) ?_).2.2; exact (by (with_reducible repeat (first | apply Kd.R_alloc | apply Kd.R_drewN | apply Kd.R_drew)); exact (Kd.R_mono (Kd.R_far (p := ⟨gb1098, 2, none⟩) (Kd.R_far (p := ⟨gb1098, 1, none⟩) (Kd.R_far (p := ⟨gb1098, 0, none⟩) (Kd.R_types HO_1049002.out BK1098.out (by decide)) (fun _ hk => hk.2) (.int .i64 t1090)) (fun _ hk => hk.2) (.slice Ao123 t1091.length co123)) (fun _ hk => hk.2) (.slice Ao124 t1094.length co124)) (fun _ h_ => h_.1)))); (case side8 => exact (Kd.R_reads' HO_1049002.out).2.1); rintro e w136 ⟨rfl, hb⟩; refine ⟨_, rfl, ?_⟩; replace HO_1049001 := ak (Kd.R_below (by (with_reducible repeat (first | apply Kd.R_alloc | apply Kd.R_drewN | apply Kd.R_drew)); exact (Kd.R_mono (Kd.R_far (p := ⟨gb1098, 2, none⟩) (Kd.R_far (p := ⟨gb1098, 1, none⟩) (Kd.R_far (p := ⟨gb1098, 0, none⟩) (Kd.R_types HO_1049001.out BK1098.out (by decide)) (fun _ hk => hk.2) (.int .i64 t1090)) (fun _ hk => hk.2) (.slice Ao123 t1091.length co123)) (fun _ hk => hk.2) (.slice Ao124 t1094.length co124)) (fun _ h_ => h_.1))) hb); replace HO_1049002 := ak (Kd.R_below (by (with_reducible repeat (first | apply Kd.R_alloc | apply Kd.R_drewN | apply Kd.R_drew)); exact (Kd.R_mono (Kd.R_far (p := ⟨gb1098, 2, none⟩) (Kd.R_far (p := ⟨gb1098, 1, none⟩) (Kd.R_far (p := ⟨gb1098, 0, none⟩) (Kd.R_types HO_1049002.out BK1098.out (by decide)) (fun _ hk => hk.2) (.int .i64 t1090)) (fun _ hk => hk.2) (.slice Ao123 t1091.length co123)) (fun _ hk => hk.2) (.slice Ao124 t1094.length co124)) (fun _ h_ => h_.1))) hb); replace HO_1057001 := ak (Kd.R_below (by (with_reducible repeat (first | apply Kd.R_alloc | apply Kd.R_drewN | apply Kd.R_drew)); exact (Kd.R_mono (Kd.R_far (p := ⟨gb1098, 2, none⟩) (Kd.R_far (p := ⟨gb1098, 1, none⟩) (Kd.R_far (p := ⟨gb1098, 0, none⟩) (Kd.R_types HO_1057001.out BK1098.out (by decide)) (fun _ hk => hk.2) (.int .i64 t1090)) (fun _ hk => hk.2) (.slice Ao123 t1091.length co123)) (fun _ hk => hk.2) (.slice Ao124 t1094.length co124)) (fun _ h_ => h_.1))) hb); replace HO_1057002 := ak (Kd.R_below (by (with_reducible repeat (first | apply Kd.R_alloc | apply Kd.R_drewN | apply Kd.R_drew)); exact (Kd.R_mono (Kd.R_far (p := ⟨gb1098, 2, none⟩) (Kd.R_far (p := ⟨gb1098, 1, none⟩) (Kd.R_far (p := ⟨gb1098, 0, none⟩) (Kd.R_types HO_1057002.out BK1098.out (by decide)) (fun _ hk => hk.2) (.int .i64 t1090)) (fun _ hk => hk.2) (.slice Ao123 t1091.length co123)) (fun _ hk => hk.2) (.slice Ao124 t1094.length co124)) (fun _ h_ => h_.1))) hb); replace HO_1066001 := ak (Kd.R_below (by (with_reducible repeat (first | apply Kd.R_alloc | apply Kd.R_drewN | apply Kd.R_drew)); exact (Kd.R_mono (Kd.R_far (p := ⟨gb1098, 2, none⟩) (Kd.R_far (p := ⟨gb1098, 1, none⟩) (Kd.R_far (p := ⟨gb1098, 0, none⟩) (Kd.R_types HO_1066001.out BK1098.out (by decide)) (fun _ hk => hk.2) (.int .i64 t1090)) (fun _ hk => hk.2) (.slice Ao123 t1091.length co123)) (fun _ hk => hk.2) (.slice Ao124 t1094.length co124)) (fun _ h_ => h_.1))) hb); replace HO_1066002 := ak (Kd.R_below (by (with_reducible repeat (first | apply Kd.R_alloc | apply Kd.R_drewN | apply Kd.R_drew)); exact (Kd.R_mono (Kd.R_far (p := ⟨gb1098, 2, none⟩) (Kd.R_far (p := ⟨gb1098, 1, none⟩) (Kd.R_far (p := ⟨gb1098, 0, none⟩) (Kd.R_types HO_1066002.out BK1098.out (by decide)) (fun _ hk => hk.2) (.int .i64 t1090)) (fun _ hk => hk.2) (.slice Ao123 t1091.length co123)) (fun _ hk => hk.2) (.slice Ao124 t1094.length co124)) (fun _ h_ => h_.1))) hb); replace HO1086 := ak (Kd.R_below (by (with_reducible repeat (first | apply Kd.R_alloc | apply Kd.R_drewN | apply Kd.R_drew)); exact (Kd.R_mono (Kd.R_far (p := ⟨gb1098, 2, none⟩) (Kd.R_far (p := ⟨gb1098, 1, none⟩) (Kd.R_far (p := ⟨gb1098, 0, none⟩) (Kd.R_types HO1086.out BK1098.out (by decide)) (fun _ hk => hk.2) (.int .i64 t1090)) (fun _ hk => hk.2) (.slice Ao123 t1091.length co123)) (fun _ hk => hk.2) (.slice Ao124 t1094.length co124)) (fun _ h_ => h_.1))) hb); replace HO1089 := ak (Kd.R_below (by (with_reducible repeat (first | apply Kd.R_alloc | apply Kd.R_drewN | apply Kd.R_drew)); exact (Kd.R_mono (Kd.R_far (p := ⟨gb1098, 2, none⟩) (Kd.R_far (p := ⟨gb1098, 1, none⟩) (Kd.R_far (p := ⟨gb1098, 0, none⟩) (Kd.R_types HO1089.out BK1098.out (by decide)) (fun _ hk => hk.2) (.int .i64 t1090)) (fun _ hk => hk.2) (.slice Ao123 t1091.length co123)) (fun _ hk => hk.2) (.slice Ao124 t1094.length co124)) (fun _ h_ => h_.1))) hb); replace HO1093 := ak (Kd.R_below (by (with_reducible repeat (first | apply Kd.R_alloc | apply Kd.R_drewN | apply Kd.R_drew)); exact (Kd.R_mono (Kd.R_far (p := ⟨gb1098, 2, none⟩) (Kd.R_far (p := ⟨gb1098, 1, none⟩) (Kd.R_far (p := ⟨gb1098, 0, none⟩) (Kd.R_types HO1093.out BK1098.out (by decide)) (fun _ hk => hk.2) (.int .i64 t1090)) (fun _ hk => hk.2) (.slice Ao123 t1091.length co123)) (fun _ hk => hk.2) (.slice Ao124 t1094.length co124)) (fun _ h_ => h_.1))) hb); replace HO1096 := ak (Kd.R_below (by (with_reducible repeat (first | apply Kd.R_alloc | apply Kd.R_drewN | apply Kd.R_drew)); exact (Kd.R_mono (Kd.R_far (p := ⟨gb1098, 2, none⟩) (Kd.R_far (p := ⟨gb1098, 1, none⟩) (Kd.R_far (p := ⟨gb1098, 0, none⟩) (Kd.R_types HO1096.out BK1098.out (by decide)) (fun _ hk => hk.2) (.int .i64 t1090)) (fun _ hk => hk.2) (.slice Ao123 t1091.length co123)) (fun _ hk => hk.2) (.slice Ao124 t1094.length co124)) (fun _ h_ => h_.1))) hb); replace BK1031 := ak (blk_below (g := gb1031) (o := .cells #[.int .i64 a0_0, .slice A0_1 l0_1.length c0_1, .slice A0_2 l0_2.length c0_2] 44 (0, 0)) (by (with_reducible repeat (first | refine blk_drewN ?_ _ | refine blk_drew ?_ | refine blk_alloc ?_ _)); refine blk_far ?_ NB1031_1098.out _; refine blk_far ?_ NB1031_1098.out _; refine blk_far ?_ NB1031_1098.out _; (with_reducible repeat (first | refine blk_drewN ?_ _ | refine blk_drew ?_ | refine blk_alloc ?_ _)); exact BK1031.out) hb); replace BK1048 := ak (blk_below (g := gb1048) (o := .cells #[.int .i64 t1040, .slice Ao24 t1041.length co24, .slice Ao25 t1044.length co25] 49 (0, 0)) (by (with_reducible repeat (first | refine blk_drewN ?_ _ | refine blk_drew ?_ | refine blk_alloc ?_ _)); refine blk_far ?_ NB1048_1098.out _; refine blk_far ?_ NB1048_1098.out _; refine blk_far ?_ NB1048_1098.out _; (with_reducible repeat (first | refine blk_drewN ?_ _ | refine blk_drew ?_ | refine blk_alloc ?_ _)); exact BK1048.out) hb); replace BK1056 := ak (blk_below (g := gb1056) (o := .cells #[.int .i64 t1049, .slice Ao32 t1076.length co32, .slice Ao33 t1077.length co33] 49 (0, 0)) (by (with_reducible repeat (first | refine blk_drewN ?_ _ | refine blk_drew ?_ | refine blk_alloc ?_ _)); refine blk_far ?_ NB1056_1098.out _; refine blk_far ?_ NB1056_1098.out _; refine blk_far ?_ NB1056_1098.out _; (with_reducible repeat (first | refine blk_drewN ?_ _ | refine blk_drew ?_ | refine blk_alloc ?_ _)); exact BK1056.out) hb); replace BK1065 := ak (blk_below (g := gb1065) (o := .cells #[.int .i64 t1057, .slice Ao40 t1058.length co40, .slice Ao41 t1061.length co41] 49 (0, 0)) (by (with_reducible repeat (first | refine blk_drewN ?_ _ | refine blk_drew ?_ | refine blk_alloc ?_ _)); refine blk_far ?_ NB1065_1098.out _; refine blk_far ?_ NB1065_1098.out _; refine blk_far ?_ NB1065_1098.out _; (with_reducible repeat (first | refine blk_drewN ?_ _ | refine blk_drew ?_ | refine blk_alloc ?_ _)); exact BK1065.out) hb); replace BK1098 := ak (blk_below (g := gb1098) (o := .cells #[.int .i64 t1090, .slice Ao123 t1091.length co123, .slice Ao124 t1094.length co124] 49 (0, 0)) (by (with_reducible repeat (first | refine blk_drewN ?_ _ | refine blk_drew ?_ | refine blk_alloc ?_ _)); refine blk_put (cs := #[.int .i64 t1090, .slice Ao123 t1091.length co123, .slice none 0 0]) ?_ 2 _ rfl; refine blk_put (cs := #[.int .i64 t1090, .slice none 0 0, .slice none 0 0]) ?_ 1 _ rfl; refine blk_put (cs := #[.int .i64 0, .slice none 0 0, .slice none 0 0]) ?_ 0 _ rfl; (with_reducible repeat (first | refine blk_drewN ?_ _ | refine blk_drew ?_ | refine blk_alloc ?_ _)); exact BK1098.out) hb); replace HB := ak (below_step (by repeat (first | (with_reducible first | exact HB.out | apply below_alloc | apply pw_below_drewN | apply below_drew1 | refine below_set ?_ GE1031.out | refine below_set ?_ GE1048.out | refine below_set ?_ GE1056.out | refine below_set ?_ GE1065.out | refine below_set ?_ GE1098.out) | exact HB.out)) hb); (try clear hb); (try clear hb2); (try clear hk); (try clear hi)))
     go_meet
     case rel => exact ⟨_, ((t1097 != t1047)), (by first | rfl | (simp; done) | (simp [*]; done)), H', ⟨by have := HJ11.out; have := HJ64.out; first | omega | exact Nat.le_refl _⟩, ⟨by (try simp only [hl1057001_64]); (try simp only [hl1057002_64]); (with_reducible repeat (first | apply Kd.R_alloc | apply Kd.R_drewN | apply Kd.R_drew)); exact Kd.R_mono HO_1049001.out (fun _ hk => ⟨hk.1.1.1, ⟨hk.1.1.2, hk.2⟩⟩)⟩, ⟨by (try simp only [hl1057001_64]); (try simp only [hl1057002_64]); (with_reducible repeat (first | apply Kd.R_alloc | apply Kd.R_drewN | apply Kd.R_drew)); exact Kd.R_mono HO_1049002.out (fun _ hk => ⟨hk.1.1.1, ⟨hk.1.1.2, hk.2⟩⟩)⟩, ⟨by (try simp only [hl1057001_64]); (try simp only [hl1057002_64]); (with_reducible repeat (first | apply Kd.R_alloc | apply Kd.R_drewN | apply Kd.R_drew)); exact Kd.R_mono HO_1057001.out (fun _ hk => ⟨hk.1.1.1, ⟨hk.1.1.2, hk.2⟩⟩)⟩, ⟨by (try simp only [hl1057001_64]); (try simp only [hl1057002_64]); (with_reducible repeat (first | apply Kd.R_alloc | apply Kd.R_drewN | apply Kd.R_drew)); exact Kd.R_mono HO_1057002.out (fun _ hk => ⟨hk.1.1.1, ⟨hk.1.1.2, hk.2⟩⟩)⟩, ⟨by (try simp only [hl1057001_64]); (try simp only [hl1057002_64]); (with_reducible repeat (first | apply Kd.R_alloc | apply Kd.R_drewN | apply Kd.R_drew)); exact Kd.R_mono HO_1066001.out (fun _ hk => ⟨hk.1.1.1, ⟨hk.1.1.2, hk.2⟩⟩)⟩, ⟨by (try simp only [hl1057001_64]); (try simp only [hl1057002_64]); (with_reducible repeat (first | apply Kd.R_alloc | apply Kd.R_drewN | apply Kd.R_drew)); exact Kd.R_mono HO_1066002.out (fun _ hk => ⟨hk.1.1.1, ⟨hk.1.1.2, hk.2⟩⟩)⟩, ⟨by (try simp only [hl1057001_64]); (try simp only [hl1057002_64]); (with_reducible repeat (first | apply Kd.R_alloc | apply Kd.R_drewN | apply Kd.R_drew)); exact Kd.R_mono HO1093.out (fun _ hk => ⟨hk.1.1.1.2, ⟨hk.1.1.2, hk.1.2⟩⟩)⟩, ⟨by (try simp only [hl1057001_64]); (try simp only [hl1057002_64]); (with_reducible repeat (first | apply Kd.R_alloc | apply Kd.R_drewN | apply Kd.R_drew)); exact Kd.R_mono HO1096.out (fun _ hk => ⟨hk.1.1.1.2, ⟨hk.1.1.2, hk.1.2⟩⟩)⟩, ⟨by (try simp only [hl1057001_64]); (try simp only [hl1057002_64]); (with_reducible repeat (first | refine blk_drewN ?_ _ | refine blk_drew ?_ | refine blk_alloc ?_ _)); exact BK1031.out⟩, ⟨by (try simp only [hl1057001_64]); (try simp only [hl1057002_64]); (with_reducible repeat (first | refine blk_drewN ?_ _ | refine blk_drew ?_ | refine blk_alloc ?_ _)); exact BK1048.out⟩, ⟨by (try simp only [hl1057001_64]); (try simp only [hl1057002_64]); (with_reducible repeat (first | refine blk_drewN ?_ _ | refine blk_drew ?_ | refine blk_alloc ?_ _)); exact BK1056.out⟩, ⟨by (try simp only [hl1057001_64]); (try simp only [hl1057002_64]); (with_reducible repeat (first | refine blk_drewN ?_ _ | refine blk_drew ?_ | refine blk_alloc ?_ _)); exact BK1065.out⟩, ⟨by (try simp only [hl1057001_64]); (try simp only [hl1057002_64]); (with_reducible repeat (first | refine blk_drewN ?_ _ | refine blk_drew ?_ | refine blk_alloc ?_ _)); exact BK1098.out⟩, ⟨by repeat (first | (with_reducible first | exact HB.out | apply below_alloc | apply pw_below_drewN | apply below_drew1 | refine below_set ?_ GE1031.out | refine below_set ?_ GE1048.out | refine below_set ?_ GE1056.out | refine below_set ?_ GE1065.out | refine below_set ?_ GE1098.out) | exact HB.out)⟩⟩
    replace c126 := Bool.eq_false_iff.mpr c126
    subst c126
    rw [if_neg (show ¬ (false = true) by decide)] at H
    have H' := ak H
    clear H
    have hnb137 := NB1098_1031.out
    have hnc137 := NB1031_1098.out
    have hnb138 := NB1098_1048.out
    have hnc138 := NB1048_1098.out
    have hnb139 := NB1098_1056.out
    have hnc139 := NB1056_1098.out
    have hnb140 := NB1098_1065.out
    have hnc140 := NB1065_1098.out
    have hcz141_0 := bc w117 BK1098 0 (.int .i64 0) rfl
    have hcz141_1 := bc w117 BK1098 1 (.slice none 0 0) rfl
    have hcz141_2 := bc w117 BK1098 2 (.slice none 0 0) rfl
    have hfz141_0 := fz BK1098 0
    have hfz141_1 := fz BK1098 1
    have hfz141_2 := fz BK1098 2
    have hnb142 := NB1048_1031.out
    have hnc142 := NB1031_1048.out
    have hnb143 := NB1048_1056.out
    have hnc143 := NB1056_1048.out
    have hnb144 := NB1048_1065.out
    have hnc144 := NB1065_1048.out
    have hcz145_0 := bc w117 BK1048 0 (.int .i64 t1040) rfl
    have hcz145_1 := bc w117 BK1048 1 (.slice Ao24 t1041.length co24) rfl
    have hcz145_2 := bc w117 BK1048 2 (.slice Ao25 t1044.length co25) rfl
    have hfz145_0 := fz BK1048 0
    have hfz145_1 := fz BK1048 1
    have hfz145_2 := fz BK1048 2
    go_wp2_with (first | ((with_reducible refine gate_callee (f := 33) rfl ?_); refine goesL_ (some 86) rfl rfl Try.func33 (by kernel_rfl) rfl #[.agg #[.int .i64 t1090, .slice Ao123 t1091.length co123, .slice Ao124 t1094.length co124], .agg #[.int .i64 t1040, .slice Ao24 t1041.length co24, .slice Ao25 t1044.length co25]] rfl (by (try simp only [List.map_toArray, List.map_cons, List.map_nil]); first | done | rfl | (simp only [List.length_drop, List.length_take]; rfl)) ?_; (with_reducible refine (laws_eqLive.calls kj64 t1090 _ _ t1091 _ _ t1094 t1040 _ _ t1041 _ _ t1044 false _ ?side1 ?side2 ?side3 ?side4 ?side5 ?side6 ?side7 ?side8 A125.out).mono ?_); (case side1 => refine (Kd.R_reads' (e := 100) (base := w.heap.size) (ok := fun k_ => ((((True ∧ some k_ ≠ (.slice Ao24 t1041.length co24 : Value).ownBlock) ∧ some k_ ≠ (.slice Ao32 t1076.length co32 : Value).ownBlock) ∧ some k_ ≠ (.slice Ao40 t1058.length co40 : Value).ownBlock) ∧ some k_ ≠ (.slice Ao114 t1084.length co114 : Value).ownBlock)) (n := t1091.length) (c := co123) ?_).2.2; exact (by (with_reducible repeat (first | apply Kd.R_alloc | apply Kd.R_drewN | apply Kd.R_drew)); exact (Kd.R_mono (Kd.R_far (p := ⟨gb1098, 2, none⟩) (Kd.R_far (p := ⟨gb1098, 1, none⟩) (Kd.R_far (p := ⟨gb1098, 0, none⟩) (Kd.R_types HO1093.out BK1098.out (by decide)) (fun _ hk => hk.2) (.int .i64 t1090)) (fun _ hk => hk.2) (.slice Ao123 t1091.length co123)) (fun _ hk => hk.2) (.slice Ao124 t1094.length co124)) (fun _ h_ => h_.1)))); (case side2 => exact (Kd.R_reads' HO1093.out).2.1); (case side3 => refine (Kd.R_reads' (e := 70) (base := w.heap.size) (ok := fun k_ => ((((True ∧ some k_ ≠ (.slice Ao25 t1044.length co25 : Value).ownBlock) ∧ some k_ ≠ (.slice Ao33 t1077.length co33 : Value).ownBlock) ∧ some k_ ≠ (.slice Ao41 t1061.length co41 : Value).ownBlock) ∧ some k_ ≠ (.slice Ao115 t1087.length co115 : Value).ownBlock)) (n := t1094.length) (c := co124) ?_).2.2; exact (by (with_reducible repeat (first | apply Kd.R_alloc | apply Kd.R_drewN | apply Kd.R_drew)); exact (Kd.R_mono (Kd.R_far (p := ⟨gb1098, 2, none⟩) (Kd.R_far (p := ⟨gb1098, 1, none⟩) (Kd.R_far (p := ⟨gb1098, 0, none⟩) (Kd.R_types HO1096.out BK1098.out (by decide)) (fun _ hk => hk.2) (.int .i64 t1090)) (fun _ hk => hk.2) (.slice Ao123 t1091.length co123)) (fun _ hk => hk.2) (.slice Ao124 t1094.length co124)) (fun _ h_ => h_.1)))); (case side4 => exact (Kd.R_reads' HO1096.out).2.1); (case side5 => refine (Kd.R_reads' (e := 100) (base := w.heap.size) (ok := fun k_ => (((some k_ ≠ (.slice Ao32 t1076.length co32 : Value).ownBlock ∧ some k_ ≠ (.slice Ao40 t1058.length co40 : Value).ownBlock) ∧ some k_ ≠ (.slice Ao114 t1084.length co114 : Value).ownBlock) ∧ some k_ ≠ (.slice Ao123 t1091.length co123 : Value).ownBlock)) (n := t1041.length) (c := co24) ?_).2.2; exact (by (with_reducible repeat (first | apply Kd.R_alloc | apply Kd.R_drewN | apply Kd.R_drew)); exact (Kd.R_mono (Kd.R_far (p := ⟨gb1098, 2, none⟩) (Kd.R_far (p := ⟨gb1098, 1, none⟩) (Kd.R_far (p := ⟨gb1098, 0, none⟩) (Kd.R_types HO_1049001.out BK1098.out (by decide)) (fun _ hk => hk.2) (.int .i64 t1090)) (fun _ hk => hk.2) (.slice Ao123 t1091.length co123)) (fun _ hk => hk.2) (.slice Ao124 t1094.length co124)) (fun _ h_ => h_.1)))); (case side6 => exact (Kd.R_reads' HO_1049001.out).2.1); (case side7 => refine (Kd.R_reads' (e := 70) (base := w.heap.size) (ok := fun k_ => (((some k_ ≠ (.slice Ao33 t1077.length co33 : Value).ownBlock ∧ some k_ ≠ (.slice Ao41 t1061.length co41 : Value).ownBlock) ∧ some k_ ≠ (.slice Ao115 t1087.length co115 : Value).ownBlock) ∧ some k_ ≠ (.slice Ao124 t1094.length co124 : Value).ownBlock)) (n := t1044.length) (c := co25) ?_).2.2; exact (by (with_reducible repeat (first | apply Kd.R_alloc | apply Kd.R_drewN | apply Kd.R_drew)); exact (Kd.R_mono (Kd.R_far (p := ⟨gb1098, 2, none⟩) (Kd.R_far (p := ⟨gb1098, 1, none⟩) (Kd.R_far (p := ⟨gb1098, 0, none⟩) (Kd.R_types HO_1049002.out BK1098.out (by decide)) (fun _ hk => hk.2) (.int .i64 t1090)) (fun _ hk => hk.2) (.slice Ao123 t1091.length co123)) (fun _ hk => hk.2) (.slice Ao124 t1094.length co124)) (fun _ h_ => h_.1)))); (case side8 => exact (Kd.R_reads' HO_1049002.out).2.1); rintro e w146 ⟨rfl, hb⟩; refine ⟨_, rfl, ?_⟩; replace HO_1049001 := ak (Kd.R_below (by (with_reducible repeat (first | apply Kd.R_alloc | apply Kd.R_drewN | apply Kd.R_drew)); exact (Kd.R_mono (Kd.R_far (p := ⟨gb1098, 2, none⟩) (Kd.R_far (p := ⟨gb1098, 1, none⟩) (Kd.R_far (p := ⟨gb1098, 0, none⟩) (Kd.R_types HO_1049001.out BK1098.out (by decide)) (fun _ hk => hk.2) (.int .i64 t1090)) (fun _ hk => hk.2) (.slice Ao123 t1091.length co123)) (fun _ hk => hk.2) (.slice Ao124 t1094.length co124)) (fun _ h_ => h_.1))) hb); replace HO_1049002 := ak (Kd.R_below (by (with_reducible repeat (first | apply Kd.R_alloc | apply Kd.R_drewN | apply Kd.R_drew)); exact (Kd.R_mono (Kd.R_far (p := ⟨gb1098, 2, none⟩) (Kd.R_far (p := ⟨gb1098, 1, none⟩) (Kd.R_far (p := ⟨gb1098, 0, none⟩) (Kd.R_types HO_1049002.out BK1098.out (by decide)) (fun _ hk => hk.2) (.int .i64 t1090)) (fun _ hk => hk.2) (.slice Ao123 t1091.length co123)) (fun _ hk => hk.2) (.slice Ao124 t1094.length co124)) (fun _ h_ => h_.1))) hb); replace HO_1057001 := ak (Kd.R_below (by (with_reducible repeat (first | apply Kd.R_alloc | apply Kd.R_drewN | apply Kd.R_drew)); exact (Kd.R_mono (Kd.R_far (p := ⟨gb1098, 2, none⟩) (Kd.R_far (p := ⟨gb1098, 1, none⟩) (Kd.R_far (p := ⟨gb1098, 0, none⟩) (Kd.R_types HO_1057001.out BK1098.out (by decide)) (fun _ hk => hk.2) (.int .i64 t1090)) (fun _ hk => hk.2) (.slice Ao123 t1091.length co123)) (fun _ hk => hk.2) (.slice Ao124 t1094.length co124)) (fun _ h_ => h_.1))) hb); replace HO_1057002 := ak (Kd.R_below (by (with_reducible repeat (first | apply Kd.R_alloc | apply Kd.R_drewN | apply Kd.R_drew)); exact (Kd.R_mono (Kd.R_far (p := ⟨gb1098, 2, none⟩) (Kd.R_far (p := ⟨gb1098, 1, none⟩) (Kd.R_far (p := ⟨gb1098, 0, none⟩) (Kd.R_types HO_1057002.out BK1098.out (by decide)) (fun _ hk => hk.2) (.int .i64 t1090)) (fun _ hk => hk.2) (.slice Ao123 t1091.length co123)) (fun _ hk => hk.2) (.slice Ao124 t1094.length co124)) (fun _ h_ => h_.1))) hb); replace HO_1066001 := ak (Kd.R_below (by (with_reducible repeat (first | apply Kd.R_alloc | apply Kd.R_drewN | apply Kd.R_drew)); exact (Kd.R_mono (Kd.R_far (p := ⟨gb1098, 2, none⟩) (Kd.R_far (p := ⟨gb1098, 1, none⟩) (Kd.R_far (p := ⟨gb1098, 0, none⟩) (Kd.R_types HO_1066001.out BK1098.out (by decide)) (fun _ hk => hk.2) (.int .i64 t1090)) (fun _ hk => hk.2) (.slice Ao123 t1091.length co123)) (fun _ hk => hk.2) (.slice Ao124 t1094.length co124)) (fun _ h_ => h_.1))) hb); replace HO_1066002 := ak (Kd.R_below (by (with_reducible repeat (first | apply Kd.R_alloc | apply Kd.R_drewN | apply Kd.R_drew)); exact (Kd.R_mono (Kd.R_far (p := ⟨gb1098, 2, none⟩) (Kd.R_far (p := ⟨gb1098, 1, none⟩) (Kd.R_far (p := ⟨gb1098, 0, none⟩) (Kd.R_types HO_1066002.out BK1098.out (by decide)) (fun _ hk => hk.2) (.int .i64 t1090)) (fun _ hk => hk.2) (.slice Ao123 t1091.length co123)) (fun _ hk => hk.2) (.slice Ao124 t1094.length co124)) (fun _ h_ => h_.1))) hb); replace HO1086 := ak (Kd.R_below (by (with_reducible repeat (first | apply Kd.R_alloc | apply Kd.R_drewN | apply Kd.R_drew)); exact (Kd.R_mono (Kd.R_far (p := ⟨gb1098, 2, none⟩) (Kd.R_far (p := ⟨gb1098, 1, none⟩) (Kd.R_far (p := ⟨gb1098, 0, none⟩) (Kd.R_types HO1086.out BK1098.out (by decide)) (fun _ hk => hk.2) (.int .i64 t1090)) (fun _ hk => hk.2) (.slice Ao123 t1091.length co123)) (fun _ hk => hk.2) (.slice Ao124 t1094.length co124)) (fun _ h_ => h_.1))) hb); replace HO1089 := ak (Kd.R_below (by (with_reducible repeat (first | apply Kd.R_alloc | apply Kd.R_drewN | apply Kd.R_drew)); exact (Kd.R_mono (Kd.R_far (p := ⟨gb1098, 2, none⟩) (Kd.R_far (p := ⟨gb1098, 1, none⟩) (Kd.R_far (p := ⟨gb1098, 0, none⟩) (Kd.R_types HO1089.out BK1098.out (by decide)) (fun _ hk => hk.2) (.int .i64 t1090)) (fun _ hk => hk.2) (.slice Ao123 t1091.length co123)) (fun _ hk => hk.2) (.slice Ao124 t1094.length co124)) (fun _ h_ => h_.1))) hb); replace HO1093 := ak (Kd.R_below (by (with_reducible repeat (first | apply Kd.R_alloc | apply Kd.R_drewN | apply Kd.R_drew)); exact (Kd.R_mono (Kd.R_far (p := ⟨gb1098, 2, none⟩) (Kd.R_far (p := ⟨gb1098, 1, none⟩) (Kd.R_far (p := ⟨gb1098, 0, none⟩) (Kd.R_types HO1093.out BK1098.out (by decide)) (fun _ hk => hk.2) (.int .i64 t1090)) (fun _ hk => hk.2) (.slice Ao123 t1091.length co123)) (fun _ hk => hk.2) (.slice Ao124 t1094.length co124)) (fun _ h_ => h_.1))) hb); replace HO1096 := ak (Kd.R_below (by (with_reducible repeat (first | apply Kd.R_alloc | apply Kd.R_drewN | apply Kd.R_drew)); exact (Kd.R_mono (Kd.R_far (p := ⟨gb1098, 2, none⟩) (Kd.R_far (p := ⟨gb1098, 1, none⟩) (Kd.R_far (p := ⟨gb1098, 0, none⟩) (Kd.R_types HO1096.out BK1098.out (by decide)) (fun _ hk => hk.2) (.int .i64 t1090)) (fun _ hk => hk.2) (.slice Ao123 t1091.length co123)) (fun _ hk => hk.2) (.slice Ao124 t1094.length co124)) (fun _ h_ => h_.1))) hb); replace BK1031 := ak (blk_below (g := gb1031) (o := .cells #[.int .i64 a0_0, .slice A0_1 l0_1.length c0_1, .slice A0_2 l0_2.length c0_2] 44 (0, 0)) (by (with_reducible repeat (first | refine blk_drewN ?_ _ | refine blk_drew ?_ | refine blk_alloc ?_ _)); refine blk_far ?_ NB1031_1098.out _; refine blk_far ?_ NB1031_1098.out _; refine blk_far ?_ NB1031_1098.out _; (with_reducible repeat (first | refine blk_drewN ?_ _ | refine blk_drew ?_ | refine blk_alloc ?_ _)); exact BK1031.out) hb); replace BK1048 := ak (blk_below (g := gb1048) (o := .cells #[.int .i64 t1040, .slice Ao24 t1041.length co24, .slice Ao25 t1044.length co25] 49 (0, 0)) (by (with_reducible repeat (first | refine blk_drewN ?_ _ | refine blk_drew ?_ | refine blk_alloc ?_ _)); refine blk_far ?_ NB1048_1098.out _; refine blk_far ?_ NB1048_1098.out _; refine blk_far ?_ NB1048_1098.out _; (with_reducible repeat (first | refine blk_drewN ?_ _ | refine blk_drew ?_ | refine blk_alloc ?_ _)); exact BK1048.out) hb); replace BK1056 := ak (blk_below (g := gb1056) (o := .cells #[.int .i64 t1049, .slice Ao32 t1076.length co32, .slice Ao33 t1077.length co33] 49 (0, 0)) (by (with_reducible repeat (first | refine blk_drewN ?_ _ | refine blk_drew ?_ | refine blk_alloc ?_ _)); refine blk_far ?_ NB1056_1098.out _; refine blk_far ?_ NB1056_1098.out _; refine blk_far ?_ NB1056_1098.out _; (with_reducible repeat (first | refine blk_drewN ?_ _ | refine blk_drew ?_ | refine blk_alloc ?_ _)); exact BK1056.out) hb); replace BK1065 := ak (blk_below (g := gb1065) (o := .cells #[.int .i64 t1057, .slice Ao40 t1058.length co40, .slice Ao41 t1061.length co41] 49 (0, 0)) (by (with_reducible repeat (first | refine blk_drewN ?_ _ | refine blk_drew ?_ | refine blk_alloc ?_ _)); refine blk_far ?_ NB1065_1098.out _; refine blk_far ?_ NB1065_1098.out _; refine blk_far ?_ NB1065_1098.out _; (with_reducible repeat (first | refine blk_drewN ?_ _ | refine blk_drew ?_ | refine blk_alloc ?_ _)); exact BK1065.out) hb); replace BK1098 := ak (blk_below (g := gb1098) (o := .cells #[.int .i64 t1090, .slice Ao123 t1091.length co123, .slice Ao124 t1094.length co124] 49 (0, 0)) (by (with_reducible repeat (first | refine blk_drewN ?_ _ | refine blk_drew ?_ | refine blk_alloc ?_ _)); refine blk_put (cs := #[.int .i64 t1090, .slice Ao123 t1091.length co123, .slice none 0 0]) ?_ 2 _ rfl; refine blk_put (cs := #[.int .i64 t1090, .slice none 0 0, .slice none 0 0]) ?_ 1 _ rfl; refine blk_put (cs := #[.int .i64 0, .slice none 0 0, .slice none 0 0]) ?_ 0 _ rfl; (with_reducible repeat (first | refine blk_drewN ?_ _ | refine blk_drew ?_ | refine blk_alloc ?_ _)); exact BK1098.out) hb); replace HB := ak (below_step (by repeat (first | (with_reducible first | exact HB.out | apply below_alloc | apply pw_below_drewN | apply below_drew1 | refine below_set ?_ GE1031.out | refine below_set ?_ GE1048.out | refine below_set ?_ GE1056.out | refine below_set ?_ GE1065.out | refine below_set ?_ GE1098.out) | exact HB.out)) hb); (try clear hb); (try clear hb2); (try clear hk); (try clear hi)))
    go_meet
    case rel => exact ⟨_, (true), (by first | rfl | (simp; done) | (simp [*]; done)), H', ⟨by have := HJ11.out; have := HJ64.out; first | omega | exact Nat.le_refl _⟩, ⟨by (try simp only [hl1057001_64]); (try simp only [hl1057002_64]); (with_reducible repeat (first | apply Kd.R_alloc | apply Kd.R_drewN | apply Kd.R_drew)); exact Kd.R_mono HO_1049001.out (fun _ hk => ⟨hk.1.1.1, ⟨hk.1.1.2, hk.2⟩⟩)⟩, ⟨by (try simp only [hl1057001_64]); (try simp only [hl1057002_64]); (with_reducible repeat (first | apply Kd.R_alloc | apply Kd.R_drewN | apply Kd.R_drew)); exact Kd.R_mono HO_1049002.out (fun _ hk => ⟨hk.1.1.1, ⟨hk.1.1.2, hk.2⟩⟩)⟩, ⟨by (try simp only [hl1057001_64]); (try simp only [hl1057002_64]); (with_reducible repeat (first | apply Kd.R_alloc | apply Kd.R_drewN | apply Kd.R_drew)); exact Kd.R_mono HO_1057001.out (fun _ hk => ⟨hk.1.1.1, ⟨hk.1.1.2, hk.2⟩⟩)⟩, ⟨by (try simp only [hl1057001_64]); (try simp only [hl1057002_64]); (with_reducible repeat (first | apply Kd.R_alloc | apply Kd.R_drewN | apply Kd.R_drew)); exact Kd.R_mono HO_1057002.out (fun _ hk => ⟨hk.1.1.1, ⟨hk.1.1.2, hk.2⟩⟩)⟩, ⟨by (try simp only [hl1057001_64]); (try simp only [hl1057002_64]); (with_reducible repeat (first | apply Kd.R_alloc | apply Kd.R_drewN | apply Kd.R_drew)); exact Kd.R_mono HO_1066001.out (fun _ hk => ⟨hk.1.1.1, ⟨hk.1.1.2, hk.2⟩⟩)⟩, ⟨by (try simp only [hl1057001_64]); (try simp only [hl1057002_64]); (with_reducible repeat (first | apply Kd.R_alloc | apply Kd.R_drewN | apply Kd.R_drew)); exact Kd.R_mono HO_1066002.out (fun _ hk => ⟨hk.1.1.1, ⟨hk.1.1.2, hk.2⟩⟩)⟩, ⟨by (try simp only [hl1057001_64]); (try simp only [hl1057002_64]); (with_reducible repeat (first | apply Kd.R_alloc | apply Kd.R_drewN | apply Kd.R_drew)); exact Kd.R_mono HO1093.out (fun _ hk => ⟨hk.1.1.1.2, ⟨hk.1.1.2, hk.1.2⟩⟩)⟩, ⟨by (try simp only [hl1057001_64]); (try simp only [hl1057002_64]); (with_reducible repeat (first | apply Kd.R_alloc | apply Kd.R_drewN | apply Kd.R_drew)); exact Kd.R_mono HO1096.out (fun _ hk => ⟨hk.1.1.1.2, ⟨hk.1.1.2, hk.1.2⟩⟩)⟩, ⟨by (try simp only [hl1057001_64]); (try simp only [hl1057002_64]); (with_reducible repeat (first | refine blk_drewN ?_ _ | refine blk_drew ?_ | refine blk_alloc ?_ _)); exact BK1031.out⟩, ⟨by (try simp only [hl1057001_64]); (try simp only [hl1057002_64]); (with_reducible repeat (first | refine blk_drewN ?_ _ | refine blk_drew ?_ | refine blk_alloc ?_ _)); exact BK1048.out⟩, ⟨by (try simp only [hl1057001_64]); (try simp only [hl1057002_64]); (with_reducible repeat (first | refine blk_drewN ?_ _ | refine blk_drew ?_ | refine blk_alloc ?_ _)); exact BK1056.out⟩, ⟨by (try simp only [hl1057001_64]); (try simp only [hl1057002_64]); (with_reducible repeat (first | refine blk_drewN ?_ _ | refine blk_drew ?_ | refine blk_alloc ?_ _)); exact BK1065.out⟩, ⟨by (try simp only [hl1057001_64]); (try simp only [hl1057002_64]); (with_reducible repeat (first | refine blk_drewN ?_ _ | refine blk_drew ?_ | refine blk_alloc ?_ _)); exact BK1098.out⟩, ⟨by repeat (first | (with_reducible first | exact HB.out | apply below_alloc | apply pw_below_drewN | apply below_drew1 | refine below_set ?_ GE1031.out | refine below_set ?_ GE1048.out | refine below_set ?_ GE1056.out | refine below_set ?_ GE1065.out | refine below_set ?_ GE1098.out) | exact HB.out)⟩⟩
   clear HC102
   try clear c1
   try clear c2
   try clear p2
   try clear c3
   try clear c4
   try clear c4b0
   try clear c5
   try clear c6
   try clear c7
   try clear c8
   try clear c9
   try clear c10
   try clear c11
   try clear c12
   try clear c13
   try clear c14
   try clear c22
   try clear c29
   try clear c30
   try clear c31
   try clear c33
   try clear c36
   try clear c37
   try clear c38
   try clear c43
   try clear c44
   try clear c45
   try clear c46
   try clear c48
   try clear c49
   try clear c52
   try clear c53
   try clear c54
   try clear c56
   try clear c57
   try clear c60
   try clear c63
   try clear c71
   try clear c72
   try clear c73
   try clear c76
   try clear c76b0
   try clear c78
   try clear c79
   try clear c80
   try clear c81
   try clear c83
   try clear c84
   try clear c87
   try clear c88
   try clear c89
   try clear c91
   try clear c92
   try clear c95
   try clear c98
   try clear c98b0
   try clear c99
   try clear c99b0
   try clear c99b1
   try clear c103
   try clear c104
   try clear c105
   try clear c110
   try clear c111
   try clear c118
   try clear c119
   try clear c120
   try clear c121
   try clear c126
   try clear c127
   try clear c128
   try clear c129
   try clear c130
   try clear c132
   try clear c133
   try clear c134
   try clear c137
   try clear c138
   try clear c139
   try clear c140
   try clear c142
   try clear c143
   try clear c144
   try clear hcz106_0
   try clear hcz106_1
   try clear hcz106_2
   try clear hcz108_0
   try clear hcz108_1
   try clear hcz108_2
   try clear hcz112_0
   try clear hcz112_1
   try clear hcz112_2
   try clear hcz122_0
   try clear hcz122_1
   try clear hcz122_2
   try clear hcz131_0
   try clear hcz131_1
   try clear hcz131_2
   try clear hcz135_0
   try clear hcz135_1
   try clear hcz135_2
   try clear hcz141_0
   try clear hcz141_1
   try clear hcz141_2
   try clear hcz145_0
   try clear hcz145_1
   try clear hcz145_2
   try clear hcz14_0
   try clear hcz14_1
   try clear hcz14_2
   try clear hcz16_0
   try clear hcz16_1
   try clear hcz16_2
   try clear hcz23_0
   try clear hcz23_1
   try clear hcz23_2
   try clear hcz26_0
   try clear hcz26_1
   try clear hcz26_2
   try clear hcz31_0
   try clear hcz31_1
   try clear hcz31_2
   try clear hcz39_0
   try clear hcz39_1
   try clear hcz39_2
   try clear hcz47_0
   try clear hcz47_1
   try clear hcz47_2
   try clear hcz50_0
   try clear hcz50_1
   try clear hcz50_2
   try clear hcz55_0
   try clear hcz55_1
   try clear hcz55_2
   try clear hcz58_0
   try clear hcz58_1
   try clear hcz58_2
   try clear hcz6_0
   try clear hcz6_1
   try clear hcz6_2
   try clear hcz74_0
   try clear hcz74_1
   try clear hcz74_2
   try clear hcz82_0
   try clear hcz82_1
   try clear hcz82_2
   try clear hcz85_0
   try clear hcz85_1
   try clear hcz85_2
   try clear hcz90_0
   try clear hcz90_1
   try clear hcz90_2
   try clear hcz93_0
   try clear hcz93_1
   try clear hcz93_2
   try clear hfz106_0
   try clear hfz106_1
   try clear hfz106_2
   try clear hfz108_0
   try clear hfz108_1
   try clear hfz108_2
   try clear hfz112_0
   try clear hfz112_1
   try clear hfz112_2
   try clear hfz122_0
   try clear hfz122_1
   try clear hfz122_2
   try clear hfz131_0
   try clear hfz131_1
   try clear hfz131_2
   try clear hfz135_0
   try clear hfz135_1
   try clear hfz135_2
   try clear hfz141_0
   try clear hfz141_1
   try clear hfz141_2
   try clear hfz145_0
   try clear hfz145_1
   try clear hfz145_2
   try clear hfz14_0
   try clear hfz14_1
   try clear hfz14_2
   try clear hfz16_0
   try clear hfz16_1
   try clear hfz16_2
   try clear hfz23_0
   try clear hfz23_1
   try clear hfz23_2
   try clear hfz26_0
   try clear hfz26_1
   try clear hfz26_2
   try clear hfz31_0
   try clear hfz31_1
   try clear hfz31_2
   try clear hfz39_0
   try clear hfz39_1
   try clear hfz39_2
   try clear hfz47_0
   try clear hfz47_1
   try clear hfz47_2
   try clear hfz50_0
   try clear hfz50_1
   try clear hfz50_2
   try clear hfz55_0
   try clear hfz55_1
   try clear hfz55_2
   try clear hfz58_0
   try clear hfz58_1
   try clear hfz58_2
   try clear hfz6_0
   try clear hfz6_1
   try clear hfz6_2
   try clear hfz74_0
   try clear hfz74_1
   try clear hfz74_2
   try clear hfz82_0
   try clear hfz82_1
   try clear hfz82_2
   try clear hfz85_0
   try clear hfz85_1
   try clear hfz85_2
   try clear hfz90_0
   try clear hfz90_1
   try clear hfz90_2
   try clear hfz93_0
   try clear hfz93_1
   try clear hfz93_2
   try clear p2
   obtain ⟨kq, x92_101, rfl, HA, HJ101, HO_1049001, HO_1049002, HO_1057001, HO_1057002, HO_1066001, HO_1066002, HO_1099001, HO_1099002, BK1031, BK1048, BK1056, BK1065, BK1098, HB⟩ := hcut
   have hl1066001_101 := (Kd.R_reads' HO_1066001.out).1
   rw [hl1066001_101] at HO_1066001
   (try simp only [hl1066001_101])
   (try simp only [hl1066001_101] at BK1031)
   (try simp only [hl1066001_101] at BK1048)
   (try simp only [hl1066001_101] at BK1056)
   (try simp only [hl1066001_101] at BK1065)
   (try simp only [hl1066001_101] at BK1098)
   (try simp only [hl1066001_101] at HO_1049001)
   (try simp only [hl1066001_101] at HO_1049002)
   (try simp only [hl1066001_101] at HO_1057001)
   (try simp only [hl1066001_101] at HO_1057002)
   (try simp only [hl1066001_101] at HO_1066002)
   (try simp only [hl1066001_101] at HO_1099001)
   (try simp only [hl1066001_101] at HO_1099002)
   have hl1066002_101 := (Kd.R_reads' HO_1066002.out).1
   rw [hl1066002_101] at HO_1066002
   (try simp only [hl1066002_101])
   (try simp only [hl1066002_101] at BK1031)
   (try simp only [hl1066002_101] at BK1048)
   (try simp only [hl1066002_101] at BK1056)
   (try simp only [hl1066002_101] at BK1065)
   (try simp only [hl1066002_101] at BK1098)
   (try simp only [hl1066002_101] at HO_1049001)
   (try simp only [hl1066002_101] at HO_1049002)
   (try simp only [hl1066002_101] at HO_1057001)
   (try simp only [hl1066002_101] at HO_1057002)
   (try simp only [hl1066002_101] at HO_1066001)
   (try simp only [hl1066002_101] at HO_1099001)
   (try simp only [hl1066002_101] at HO_1099002)
   cases kq with
   | zero => exact absurd HA.out (by simp [laws_FnExactLiveOver.j2])
   | succ kj101 =>
    have H := HA.out
    clear HA
    simp only [laws_FnExactLiveOver.j2] at H
    by_cases c147 : x92_101 = true
    ·subst c147
     rw [if_pos rfl] at H
     exact absurd ((Option.some.inj H).trans hr_) Bool.false_ne_true
    replace c147 := Bool.eq_false_iff.mpr c147
    subst c147
    rw [if_neg (show ¬ (false = true) by decide)] at H
    replace H := Option.bind_eq_some_iff.mp H
    obtain ⟨t1100, A1480, H⟩ := H
    have A148 := ak A1480
    clear A1480
    by_cases c149 : t1100 < 0
    ·rw [if_pos c149] at H
     have c149b0 : decide (t1100 < 0) = true := decide_eq_true c149
     clear c149
     exact absurd ((Option.some.inj H).trans hr_) Bool.false_ne_true
    rw [if_neg c149] at H
    have c149b0 : decide (t1100 < 0) = false := decide_eq_false c149
    clear c149
    by_cases c150 : t1100 = t1079
    rotate_left
    ·rw [if_neg c150] at H
     have c150b0 : (t1100 == t1079) = false := beq_eq_false_iff_ne.mpr c150
     have c150b1 : (t1100 != t1079) = true := bne_iff_ne.mpr c150
     exact absurd ((Option.some.inj H).trans hr_) Bool.false_ne_true
    rw [if_pos c150] at H
    have c150b0 : (t1100 == t1079) = true := beq_iff_eq.mpr c150
    have c150b1 : (t1100 != t1079) = false := bne_eq_false_iff_eq.mpr c150
    clear c150
    obtain rfl := Option.some.inj H
    have hnb151 := NB1065_1031.out
    have hnc151 := NB1031_1065.out
    have hnb152 := NB1065_1048.out
    have hnc152 := NB1048_1065.out
    have hnb153 := NB1065_1056.out
    have hnc153 := NB1056_1065.out
    have hnb154 := NB1065_1098.out
    have hnc154 := NB1098_1065.out
    have hcz155_0 := bc wc BK1065 0 (.int .i64 t1057) rfl
    have hcz155_1 := bc wc BK1065 1 (.slice Ao40 t1080.length co40) rfl
    have hcz155_2 := bc wc BK1065 2 (.slice Ao41 t1081.length co41) rfl
    have hfz155_0 := fz BK1065 0
    have hfz155_1 := fz BK1065 1
    have hfz155_2 := fz BK1065 2
    go_wp2_with (first | ((with_reducible refine gate_callee (f := 46) rfl ?_); refine goesL_ (some 95) rfl rfl Try.func46 (by kernel_rfl) rfl #[.agg #[.int .i64 t1057, .slice Ao40 t1080.length co40, .slice Ao41 t1081.length co41], .int .i64 1] rfl (by (try simp only [List.map_toArray, List.map_cons, List.map_nil]); first | done | rfl | (simp only [List.length_drop, List.length_take]; rfl)) ?_; (with_reducible refine (laws_heldLive.calls kj101 t1057 _ _ t1080 _ _ t1081 1 t1100 _ ?side1 ?side2 ?side3 ?side4 A148.out).mono ?_); (case side1 => repeat (first | exact (Kd.R_reads' HO_1066001.out).2.2 | (with_reducible refine Kd.C_alloc ?_ _) | (with_reducible refine Kd.C_drewN ?_ _) | (with_reducible refine Kd.C_drew ?_))); (case side2 => exact (Kd.R_reads' HO_1066001.out).2.1); (case side3 => repeat (first | exact (Kd.R_reads' HO_1066002.out).2.2 | (with_reducible refine Kd.C_alloc ?_ _) | (with_reducible refine Kd.C_drewN ?_ _) | (with_reducible refine Kd.C_drew ?_))); (case side4 => exact (Kd.R_reads' HO_1066002.out).2.1); rintro e w156 ⟨rfl, hb⟩; refine ⟨_, rfl, ?_⟩; replace HO_1049001 := ak (Kd.R_below (rk HO_1049001) hb); replace HO_1049002 := ak (Kd.R_below (rk HO_1049002) hb); replace HO_1057001 := ak (Kd.R_below (rk HO_1057001) hb); replace HO_1057002 := ak (Kd.R_below (rk HO_1057002) hb); replace HO_1066001 := ak (Kd.R_below (rk HO_1066001) hb); replace HO_1066002 := ak (Kd.R_below (rk HO_1066002) hb); replace HO_1099001 := ak (Kd.R_below (rk HO_1099001) hb); replace HO_1099002 := ak (Kd.R_below (rk HO_1099002) hb); replace BK1031 := ak (blk_below (bk BK1031) hb); replace BK1048 := ak (blk_below (bk BK1048) hb); replace BK1056 := ak (blk_below (bk BK1056) hb); replace BK1065 := ak (blk_below (bk BK1065) hb); replace BK1098 := ak (blk_below (bk BK1098) hb); replace HB := ak (below_step (by repeat (first | (with_reducible first | exact HB.out | apply below_alloc | apply pw_below_drewN | apply below_drew1 | refine below_set ?_ GE1031.out | refine below_set ?_ GE1048.out | refine below_set ?_ GE1056.out | refine below_set ?_ GE1065.out | refine below_set ?_ GE1098.out) | exact HB.out)) hb); (try clear hb); (try clear hb2); (try clear hk); (try clear hi)))
    go_ret
    exact ⟨by first | rfl | (simp [errW_none, errW_some] <;> rfl) | (simp [*, errW_none, errW_some] <;> rfl), by repeat (first | (with_reducible first | exact HB.out | apply below_alloc | apply pw_below_drewN | apply below_drew1 | refine below_set ?_ GE1031.out | refine below_set ?_ GE1048.out | refine below_set ?_ GE1056.out | refine below_set ?_ GE1065.out | refine below_set ?_ GE1098.out) | exact HB.out)⟩
/-- THE ONE PURE STATEMENT of laws_FnExactLiveOver. -/
def laws_FnExactLiveOver.Pure : Prop := ∀ (a0_0 : Int) (l0_1 : List (S132)) (l0_2 : List (S68)) (a1 : Int), (Lit.int .i64 a0_0).wf = true → (l0_1.length ≤ 9223372036854775807 ∧ ∀ y_ ∈ l0_1, ((Lit.int .i64 y_.f0).wf = true ∧ ((Lit.int .i64 y_.f1).wf = true ∧ ((Lit.int .i64 y_.f2).wf = true ∧ ((Lit.int .i64 y_.f3).wf = true ∧ ((Lit.int .i64 y_.f4).wf = true)))))) → (l0_2.length ≤ 9223372036854775807 ∧ ∀ y_ ∈ l0_2, ((Lit.int .i64 y_.f0).wf = true ∧ ((Lit.int .i64 y_.f1).wf = true ∧ ((Lit.int .i64 y_.f2).wf = true)))) → (Lit.int .i64 a1).wf = true → ∃ k, laws_FnExactLiveOver.f k a0_0 l0_1 l0_2 a1 = some true

end Go.Proofs.Ytbappbbljncdeaa.F
