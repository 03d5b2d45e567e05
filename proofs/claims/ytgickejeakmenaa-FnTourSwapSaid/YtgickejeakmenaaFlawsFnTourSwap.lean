-- Printed by wip/px/px.py of this claim's repository (the kit's printer, extended there). Lean checks it.
import Derived.Test.YtgickejeakmenaaFKinds
import Derived.Test.YtgickejeakmenaaFimplTourCost
import Derived.Test.YtgickejeakmenaaFwkNet
import Derived.Test.YtgickejeakmenaaFimplTourBest
import Derived.Test.YtgickejeakmenaaFspecDrawTourBest
import Derived.Test.YtgickejeakmenaaFspecTourBest
namespace Go.Proofs.Ytgickejeakmenaa.F
open Go.RowKit Go.Proofs.YtgickejeakmenaaW.PrintWords Go.Proofs.YtgickejeakmenaaW.PrintLast Go.Proofs.YtgickejeakmenaaW.PrintMore
attribute [local go_sem] max2_int min2_int max_two min_two max_three min_three max_four min_four   -- for this text's walks alone
set_option linter.unusedVariables false
set_option linter.unusedSimpArgs false

/-! ### laws_FnTourSwap: function 11 -/
mutual
def laws_FnTourSwap.j0 : Nat → List Int → List Int → Bool → Option (Bool)
 | 0, _, _, _ => none
 | k + 1, x0, x1, x24 => if x24 = true then (some true) else ((spec_DrawTourBest.f k x0).bind fun bt1241 => ((impl_TourBest.f k bt1241.1 bt1241.2.1 bt1241.2.2).bind fun bt1249 => ((spec_TourBest.f k bt1241.1 bt1241.2.1 bt1241.2.2).bind fun bt1253 => (if bt1249.2 = bt1253.2 then ((laws_wkInts.f k bt1249.1 bt1253.1).bind fun t1257 => (if t1257 = true then (if bt1249.2 < 0 then (laws_FnTourSwap.j1 k x1 bt1249.1 bt1249.2 bt1253.1 bt1253.2 true bt1241.1 bt1241.2.1) else (laws_FnTourSwap.j1 k x1 bt1249.1 bt1249.2 bt1253.1 bt1253.2 (decide ((bt1249.1.length : Int) < 2)) bt1241.1 bt1241.2.1)) else (laws_FnTourSwap.j1 k x1 bt1249.1 bt1249.2 bt1253.1 bt1253.2 true bt1241.1 bt1241.2.1))) else (laws_FnTourSwap.j1 k x1 bt1249.1 bt1249.2 bt1253.1 bt1253.2 true bt1241.1 bt1241.2.1)))))
def laws_FnTourSwap.j1 : Nat → List Int → List Int → Int → List Int → Int → Bool → Int → List (S41) → Option (Bool)
 | 0, _, _, _, _, _, _, _, _ => none
 | k + 1, x1, x7, x8, x9, x10, x59, x1249000, x1249001 => if x59 = true then (if x8 = x10 then ((laws_wkInts.f k x7 x9).bind fun t1258 => (some t1258)) else (some false)) else (if (x7.length : Int) = 0 then (none) else ((some (([] : List Int) : List Int)).bind fun y1259 => (if y1259.length + x7.length < 17592186044416 then ((some (y1259 ++ x7 : List Int)).bind fun y1262 => (if 0 ≤ ((x1.length : Int) % (x7.length : Int)) then (if ((x1.length : Int) % (x7.length : Int)) < (y1262.length : Int) then (if 0 ≤ (Int.tmod (wrap64 ((x1.length : Int) / (x7.length : Int))) (x7.length : Int)) then (if (Int.tmod (wrap64 ((x1.length : Int) / (x7.length : Int))) (x7.length : Int)) < (y1262.length : Int) then ((some ((y1262.set (((x1.length : Int) % (x7.length : Int)) : Int).toNat (rd y1262 (Int.tmod (wrap64 ((x1.length : Int) / (x7.length : Int))) (x7.length : Int)))).set ((Int.tmod (wrap64 ((x1.length : Int) / (x7.length : Int))) (x7.length : Int)) : Int).toNat (rd y1262 ((x1.length : Int) % (x7.length : Int))) : List Int)).bind fun y1268 => ((impl_TourBest.f k x1249000 x1249001 y1268).bind fun bt1269 => ((impl_TourCost.f k x1249000 x1249001 y1268).bind fun t1273 => (if t1273 ≥ x8 then (some (bt1269.2 == x8)) else (some false))))) else (none)) else (none)) else (none)) else (none))) else (none))))
end
def laws_FnTourSwap.f (k : Nat) (l0 : List Int) (l1 : List Int) : Option (Bool) := if (l0.length : Int) > 1048576 then (laws_FnTourSwap.j0 k l0 l1 true) else (laws_FnTourSwap.j0 k l0 l1 (decide ((l1.length : Int) > 1048576)))
theorem laws_FnTourSwap.mono_l : ∀ k, (∀ y0 y1 y2, LeO (laws_FnTourSwap.j0 k y0 y1 y2) (laws_FnTourSwap.j0 (k + 1) y0 y1 y2)) ∧ (∀ y0 y1 y2 y3 y4 y5 y6 y7, LeO (laws_FnTourSwap.j1 k y0 y1 y2 y3 y4 y5 y6 y7) (laws_FnTourSwap.j1 (k + 1) y0 y1 y2 y3 y4 y5 y6 y7))
 | 0 => ⟨fun _ _ _ r h => by simp [laws_FnTourSwap.j0] at h, fun _ _ _ _ _ _ _ _ r h => by simp [laws_FnTourSwap.j1] at h⟩
 | k + 1 => by
  obtain ⟨ih0, ih1⟩ := laws_FnTourSwap.mono_l k
  refine ⟨?_, ?_⟩
  ·intro y0 y1 y2
   unfold laws_FnTourSwap.j0
   repeat' first | (with_reducible exact ih1 _ _ _ _ _ _ _ _) | (with_reducible exact impl_TourBest.mono _ _ _ _) | (with_reducible exact laws_wkInts.mono _ _ _) | (with_reducible exact spec_DrawTourBest.mono _ _) | (with_reducible exact spec_TourBest.mono _ _ _ _) | (with_reducible exact LeO.refl _) | (with_reducible refine LeO.ite ?_ ?_) | (with_reducible refine LeO.bind ?_ (fun _ => ?_))
  ·intro y0 y1 y2 y3 y4 y5 y6 y7
   unfold laws_FnTourSwap.j1
   repeat' first | (with_reducible exact impl_TourBest.mono _ _ _ _) | (with_reducible exact impl_TourCost.mono _ _ _ _) | (with_reducible exact laws_wkInts.mono _ _ _) | (with_reducible exact LeO.refl _) | (with_reducible refine LeO.ite ?_ ?_) | (with_reducible refine LeO.bind ?_ (fun _ => ?_))
theorem laws_FnTourSwap.mono : ∀ a0 a1 k, LeO (laws_FnTourSwap.f k a0 a1) (laws_FnTourSwap.f (k + 1) a0 a1) := by
 intro a0 a1 k
 obtain ⟨ih0, ih1⟩ := laws_FnTourSwap.mono_l k
 unfold laws_FnTourSwap.f
 repeat' first | (with_reducible exact ih0 _ _ _) | (with_reducible refine LeO.ite ?_ ?_)
set_option maxHeartbeats 8000000 in
set_option maxRecDepth 100000 in
theorem laws_FnTourSwap.calls (k : Nat) (A0 : Option Addr) (c0 : Nat) (l0 : List Int) (A1 : Option Addr) (c1 : Nat) (l1 : List Int) (r : Bool) (w : World) (hr0 : Kd.C (Kd.int .u8) w A0 l0.length l0) (hc0 : l0.length ≤ c0) (hr1 : Kd.C (Kd.int .u8) w A1 l1.length l1) (hc1 : l1.length ≤ c1) (h : laws_FnTourSwap.f k l0 l1 = some r) (hr_ : r = true) :
  Calls Try.prog 11 #[.slice A0 l0.length c0, .slice A1 l1.length c1] w fun e w' => e = .returned (.bool r) ∧ Below w.heap.size w w' := by
 have hu25 := Try.underlying25
 have HR0 := ak hr0
 have HC0 := ak hc0
 clear hr0 hc0
 have HR1 := ak hr1
 have HC1 := ak hc1
 clear hr1 hc1
 have HB := ak (Below.refl w.heap.size w)
 have H : (if (l0.length : Int) > 1048576 then (laws_FnTourSwap.j0 k l0 l1 true) else (laws_FnTourSwap.j0 k l0 l1 (decide ((l1.length : Int) > 1048576)))) = some r := h
 clear h
 have HC3 := ak H
 clear H
 go_enter Try.func11, Try.ntmps11
 go_upto_region 1 with (fail)
 go_cut [24] (fun v24 wc => ∃ (kq : Nat) (x24_2 : Bool), v24 = .bool x24_2 ∧ Aside0 (laws_FnTourSwap.j0 kq l0 l1 x24_2 = some r) ∧ Aside0 (kq ≤ k) ∧ Aside0 (Below w.heap.size w wc))
 case first =>
  have H := HC3.out
  clear HC3
  by_cases c4 : (l0.length : Int) > 1048576
  ·rw [if_pos c4] at H
   have c4b0 : decide (1048576 < (l0.length : Int)) = true := decide_eq_true c4
   have c4b1 : decide (1048576 < l0.length) = true := decide_eq_true (by omega)
   clear c4
   (skip)
   have H' := ak H
   clear H
   go_wp2
   go_meet
   case rel => exact ⟨_, (true), (by rfl), H', ⟨by omega⟩, ⟨bl HB⟩⟩
  rw [if_neg c4] at H
  have c4b0 : decide (1048576 < (l0.length : Int)) = false := decide_eq_false c4
  have c4b1 : decide (1048576 < l0.length) = false := decide_eq_false (by omega)
  clear c4
  (skip)
  have H' := ak H
  clear H
  go_wp2
  go_meet
  case rel => exact ⟨_, (decide ((l1.length : Int) > 1048576)), (by rfl), H', ⟨by omega⟩, ⟨bl HB⟩⟩
 clear HC3
 try clear c1
 try clear p2
 try clear c4
 try clear c4b0
 try clear c4b1
 obtain ⟨kq, x24_2, rfl, HA, HJ2, HB⟩ := hcut
 cases kq with
 | zero => exact absurd HA.out (by simp [laws_FnTourSwap.j0])
 | succ kj2 =>
  have H := HA.out
  clear HA
  simp only [laws_FnTourSwap.j0] at H
  by_cases c5 : x24_2 = true
  ·subst c5
   rw [if_pos rfl] at H
   obtain rfl := Option.some.inj H
   go_wp2
   go_ret
   exact ⟨by rfl, bl HB⟩
  replace c5 := Bool.eq_false_iff.mpr c5
  subst c5
  rw [if_neg (show ¬ (false = true) by decide)] at H
  replace H := Option.bind_eq_some_iff.mp H
  obtain ⟨⟨t1241, t1242, t1245⟩, A60, H⟩ := H
  have A6 := ak A60
  clear A60
  replace H := Option.bind_eq_some_iff.mp H
  obtain ⟨⟨t1249, t1252⟩, A70, H⟩ := H
  have A7 := ak A70
  clear A70
  replace H := Option.bind_eq_some_iff.mp H
  obtain ⟨⟨t1253, t1256⟩, A80, H⟩ := H
  have A8 := ak A80
  clear A80
  have HC9 := ak H
  clear H
  go_upto_region 6 with (first | ((with_reducible refine gate_callee (f := 42) rfl ?_); refine goesL_ (some 27) rfl rfl Try.func42 (by kernel_rfl) rfl #[.slice A0 l0.length c0] rfl (by (try simp only [List.map_toArray, List.map_cons, List.map_nil]); rfl) ?_; (with_reducible refine (spec_DrawTourBest.calls kj2 _ _ l0 t1241 t1242 t1245 _ ?side1 ?side2 A6.out).mono ?_); (case side1 => repeat (exact (Kd.C_below HR0.out HB.out))); (case side2 => exact HC0.out); rintro e w10 ⟨v1243, v1246, rfl, ho0, ho1, hb⟩; refine ⟨_, rfl, ?_⟩; have HO1244 := ak (Kd.R_lower ho0 (below_size (bl HB))); have HO1247 := ak (Kd.R_lower ho1 (below_size (bl HB))); replace HB := ak (below_step (bl HB) hb); (try clear hb); (try clear hb2); (try clear hk); (try clear hi); (try clear ho0); (try clear ho1)) | ((with_reducible refine gate_dst (N := 5) rfl ?_); refine box_event ?hg (N := 5) ?hd (cs := #[.int .i64 0, .slice none 0 0]) (t := 25) ?hr ?_; (case hd => rfl); (case hg => rfl); (case hr => (go_simp; done)); intro gb1248 hg w11 hbox hb; replace HO1244 := ak (Kd.R_below (rk HO1244) hb); replace HO1247 := ak (Kd.R_below (rk HO1247) hb); have BK1248 := ak (hbox); have GW1248 := ak ((by rw [hg]; exact (below_size (bl HB)) : w.heap.size ≤ gb1248)); have GE1248 := ak ((by rw [hg]; exact (below_size (bl HB)) : w.heap.size ≤ gb1248)); replace HB := ak (below_step (bl HB) hb); clear hb hbox hg; have hcz12_0 := bc w11 BK1248 0 (.int .i64 0) rfl; have hcz12_1 := bc w11 BK1248 1 (.slice none 0 0) rfl; have hfz12_0 := fz BK1248 0; have hfz12_1 := fz BK1248 1; obtain ⟨Ao13, co13, eo13⟩ := Kd.R_slice HO1244.out; subst eo13; obtain ⟨Ao14, co14, eo14⟩ := Kd.R_slice HO1247.out; subst eo14) | ((with_reducible refine gate_callee (f := 35) rfl ?_); refine goesL_ (some 33) rfl rfl Try.func35 (by kernel_rfl) rfl #[.agg #[.int .i64 t1241, .slice Ao13 t1242.length co13], .slice Ao14 t1245.length co14] rfl (by (try simp only [List.map_toArray, List.map_cons, List.map_nil]); rfl) ?_; (with_reducible refine (impl_TourBest.calls kj2 t1241 _ _ t1242 _ _ t1245 t1249 t1252 _ ?side1 ?side2 ?side3 ?side4 A7.out).mono ?_); (case side1 => refine (Kd.R_reads' (e := 41) (base := w.heap.size) (ok := fun k_ => True) (n := t1242.length) (c := co13) ?_).2.2; exact (by exact (Kd.R_mono (Kd.R_far (p := ⟨gb1248, 1, none⟩) (Kd.R_far (p := ⟨gb1248, 0, none⟩) (Kd.R_types HO1244.out BK1248.out (by decide)) (fun _ hk => hk.2) (.int .i64 t1241)) (fun _ hk => hk.2) (.slice Ao13 t1242.length co13)) (fun _ h_ => h_.1)))); (case side2 => exact (Kd.R_reads' HO1244.out).2.1); (case side3 => refine (Kd.R_reads' (e := 3) (base := w.heap.size) (ok := fun k_ => True) (n := t1245.length) (c := co14) ?_).2.2; exact (by exact (Kd.R_mono (Kd.R_far (p := ⟨gb1248, 1, none⟩) (Kd.R_far (p := ⟨gb1248, 0, none⟩) (Kd.R_types HO1247.out BK1248.out (by decide)) (fun _ hk => hk.2) (.int .i64 t1241)) (fun _ hk => hk.2) (.slice Ao13 t1242.length co13)) (fun _ h_ => h_.1)))); (case side4 => exact (Kd.R_reads' HO1247.out).2.1); rintro e w15 ⟨v1250, rfl, ho0, hb⟩; refine ⟨_, rfl, ?_⟩; replace HO1244 := ak (Kd.R_below (by exact (Kd.R_mono (Kd.R_far (p := ⟨gb1248, 1, none⟩) (Kd.R_far (p := ⟨gb1248, 0, none⟩) (Kd.R_types HO1244.out BK1248.out (by decide)) (fun _ hk => hk.2) (.int .i64 t1241)) (fun _ hk => hk.2) (.slice Ao13 t1242.length co13)) (fun _ h_ => h_.1))) hb); have HO1251 := ak (Kd.R_lower (Kd.R_new' ho0 (Kd.R_lt (by exact (Kd.R_mono (Kd.R_far (p := ⟨gb1248, 1, none⟩) (Kd.R_far (p := ⟨gb1248, 0, none⟩) (Kd.R_types HO1247.out BK1248.out (by decide)) (fun _ hk => hk.2) (.int .i64 t1241)) (fun _ hk => hk.2) (.slice Ao13 t1242.length co13)) (fun _ h_ => h_.1))))) (below_size (bl1 HB GE1248))); replace HO1247 := ak (Kd.R_elder' (by exact (Kd.R_mono (Kd.R_far (p := ⟨gb1248, 1, none⟩) (Kd.R_far (p := ⟨gb1248, 0, none⟩) (Kd.R_types HO1247.out BK1248.out (by decide)) (fun _ hk => hk.2) (.int .i64 t1241)) (fun _ hk => hk.2) (.slice Ao13 t1242.length co13)) (fun _ h_ => h_.1))) (Kd.R_base ho0) hb); replace BK1248 := ak (blk_below (g := gb1248) (o := .cells #[.int .i64 t1241, .slice Ao13 t1242.length co13] 25 (0, 0)) (by refine blk_put (cs := #[.int .i64 t1241, .slice none 0 0]) ?_ 1 _ rfl; refine blk_put (cs := #[.int .i64 0, .slice none 0 0]) ?_ 0 _ rfl; exact BK1248.out) hb); replace HB := ak (below_step (bl1 HB GE1248) hb); (try clear hb); (try clear hb2); (try clear hk); (try clear hi); (try clear ho0); have hcz16_0 := bc w15 BK1248 0 (.int .i64 t1241) rfl; have hcz16_1 := bc w15 BK1248 1 (.slice Ao13 t1242.length co13) rfl; have hfz16_0 := fz BK1248 0; have hfz16_1 := fz BK1248 1) | ((with_reducible refine gate_callee (f := 43) rfl ?_); refine goesL_ (some 39) rfl rfl Try.func43 (by kernel_rfl) rfl #[.agg #[.int .i64 t1241, .slice Ao13 t1242.length co13], .slice Ao14 t1245.length co14] rfl (by (try simp only [List.map_toArray, List.map_cons, List.map_nil]); rfl) ?_; (with_reducible refine (spec_TourBest.calls kj2 t1241 _ _ t1242 _ _ t1245 t1253 t1256 _ ?side1 ?side2 ?side3 ?side4 A8.out).mono ?_); (case side1 => repeat (exact (Kd.R_reads' HO1244.out).2.2)); (case side2 => exact (Kd.R_reads' HO1244.out).2.1); (case side3 => repeat (exact (Kd.R_reads' HO1247.out).2.2)); (case side4 => exact (Kd.R_reads' HO1247.out).2.1); rintro e w17 ⟨v1254, rfl, ho0, hb⟩; refine ⟨_, rfl, ?_⟩; have HO1255 := ak (Kd.V_lower (Kd.V_mono (ok' := fun k_ => some k_ ≠ (.slice Ao13 t1242.length co13 : Value).ownBlock ∧ some k_ ≠ (.slice Ao14 t1245.length co14 : Value).ownBlock ∧ some k_ ≠ (v1250 : Value).ownBlock ∧ k_ ≠ gb1248) ho0 (fun k_ hk_ => ⟨(Kd.fresh' (Kd.R_lt (rk HO1244)) k_ hk_), (Kd.fresh' (Kd.R_lt (rk HO1247)) k_ hk_), (Kd.fresh' (Kd.R_lt (rk HO1251)) k_ hk_), (Kd.freshB (bk BK1248) k_ hk_)⟩)) (below_size (bl1 HB GE1248))); replace HO1244 := ak (Kd.R_below (rk HO1244) hb); replace HO1247 := ak (Kd.R_below (rk HO1247) hb); replace HO1251 := ak (Kd.R_below (rk HO1251) hb); replace BK1248 := ak (blk_below (bk BK1248) hb); replace HB := ak (below_step (bl1 HB GE1248) hb); (try clear hb); (try clear hb2); (try clear hk); (try clear hi); (try clear ho0)))
  (try simp only [Act.put, List.setIfInBounds_toArray, List.set_cons_zero, List.set_cons_succ])
  go_cut [59] (fun v59 wc => ∃ (kq : Nat) (x59_8 : Bool), v59 = .bool x59_8 ∧ Aside0 (laws_FnTourSwap.j1 kq l1 t1249 t1252 t1253 t1256 x59_8 t1241 t1242 = some r) ∧ Aside0 (kq ≤ kj2) ∧ Aside0 (Kd.R (Kd.int .i64) 3 wc w.heap.size (fun _ => True) v1250 t1249) ∧ Aside0 (Kd.V (Kd.int .i64) 3 wc w.heap.size (fun k_ => some k_ ≠ (v1250 : Value).ownBlock ∧ some k_ ≠ ((.slice Ao13 t1242.length co13) : Value).ownBlock ∧ k_ ≠ gb1248) v1254 t1253) ∧ Aside0 (Kd.R k41 41 wc w.heap.size (fun _ => True) (.slice Ao13 t1242.length co13) t1242) ∧ Aside0 (wc.heap[gb1248]? = some (.cells #[.int .i64 t1241, (.slice Ao13 t1242.length co13)] 25 (0, 0))) ∧ Aside0 (Below w.heap.size w wc))
  case first =>
   have H := HC9.out
   clear HC9
   by_cases c18 : t1252 = t1256
   rotate_left
   ·rw [if_neg c18] at H
    have c18b0 : (t1252 == t1256) = false := beq_eq_false_iff_ne.mpr c18
    have c18b1 : (t1252 != t1256) = true := bne_iff_ne.mpr c18
    (skip)
    have H' := ak H
    clear H
    go_wp2
    go_meet
    case rel => exact ⟨_, (true), (by rfl), H', ⟨by have := HJ2.out; omega⟩, ⟨by exact Kd.R_mono HO1251.out (fun _ hk => trivial)⟩, ⟨by exact Kd.V_mono HO1255.out (fun _ hk => ⟨hk.2.2.1, ⟨hk.1, hk.2.2.2⟩⟩)⟩, ⟨rk HO1244⟩, ⟨bk BK1248⟩, ⟨bl1 HB GE1248⟩⟩
   rw [if_pos c18] at H
   have c18b0 : (t1252 == t1256) = true := beq_iff_eq.mpr c18
   have c18b1 : (t1252 != t1256) = false := bne_eq_false_iff_eq.mpr c18
   clear c18
   (skip)
   replace H := Option.bind_eq_some_iff.mp H
   obtain ⟨t1257, A190, H⟩ := H
   have A19 := ak A190
   clear A190
   by_cases c20 : t1257 = true
   rotate_left
   ·replace c20 := Bool.eq_false_iff.mpr c20
    subst c20
    rw [if_neg (show ¬ (false = true) by decide)] at H
    have H' := ak H
    clear H
    obtain ⟨Ao26, co26, eo26⟩ := Kd.R_slice HO1251.out
    subst eo26
    obtain ⟨Ao27, co27, eo27⟩ := Kd.V_slice HO1255.out
    subst eo27
    go_wp2_with ((go_at_call 21; (with_reducible refine (laws_wkInts.calls kj2 _ _ t1249 _ _ t1253 false _ ?side1 ?side2 ?side3 ?side4 A19.out).mono ?_); (case side1 => repeat (exact (Kd.R_reads' HO1251.out).2.2)); (case side2 => exact (Kd.R_reads' HO1251.out).2.1); (case side3 => repeat (exact (Kd.V_reads' HO1255.out).2.2)); (case side4 => exact (Kd.V_reads' HO1255.out).2.1); rintro e w' ⟨rfl, ⟨nd, rfl⟩⟩))
    go_meet
    case rel => exact ⟨_, (true), (by rfl), H', ⟨by have := HJ2.out; omega⟩, ⟨by (with_reducible repeat (apply Kd.R_drewN)); exact Kd.R_mono HO1251.out (fun _ hk => trivial)⟩, ⟨by (with_reducible repeat (apply Kd.V_drewN)); exact Kd.V_mono HO1255.out (fun _ hk => ⟨hk.2.2.1, ⟨hk.1, hk.2.2.2⟩⟩)⟩, ⟨rk HO1244⟩, ⟨bk BK1248⟩, ⟨bl1 HB GE1248⟩⟩
   subst c20
   rw [if_pos rfl] at H
   by_cases c21 : t1252 < 0
   ·rw [if_pos c21] at H
    have c21b0 : decide (t1252 < 0) = true := decide_eq_true c21
    clear c21
    have H' := ak H
    clear H
    obtain ⟨Ao22, co22, eo22⟩ := Kd.R_slice HO1251.out
    subst eo22
    obtain ⟨Ao23, co23, eo23⟩ := Kd.V_slice HO1255.out
    subst eo23
    go_wp2_with ((go_at_call 21; (with_reducible refine (laws_wkInts.calls kj2 _ _ t1249 _ _ t1253 true _ ?side1 ?side2 ?side3 ?side4 A19.out).mono ?_); (case side1 => repeat (exact (Kd.R_reads' HO1251.out).2.2)); (case side2 => exact (Kd.R_reads' HO1251.out).2.1); (case side3 => repeat (exact (Kd.V_reads' HO1255.out).2.2)); (case side4 => exact (Kd.V_reads' HO1255.out).2.1); rintro e w' ⟨rfl, ⟨nd, rfl⟩⟩))
    go_meet
    case rel => exact ⟨_, (true), (by rfl), H', ⟨by have := HJ2.out; omega⟩, ⟨by (with_reducible repeat (apply Kd.R_drewN)); exact Kd.R_mono HO1251.out (fun _ hk => trivial)⟩, ⟨by (with_reducible repeat (apply Kd.V_drewN)); exact Kd.V_mono HO1255.out (fun _ hk => ⟨hk.2.2.1, ⟨hk.1, hk.2.2.2⟩⟩)⟩, ⟨rk HO1244⟩, ⟨bk BK1248⟩, ⟨bl1 HB GE1248⟩⟩
   rw [if_neg c21] at H
   have c21b0 : decide (t1252 < 0) = false := decide_eq_false c21
   clear c21
   have H' := ak H
   clear H
   obtain ⟨Ao24, co24, eo24⟩ := Kd.R_slice HO1251.out
   subst eo24
   obtain ⟨Ao25, co25, eo25⟩ := Kd.V_slice HO1255.out
   subst eo25
   go_wp2_with ((go_at_call 21; (with_reducible refine (laws_wkInts.calls kj2 _ _ t1249 _ _ t1253 true _ ?side1 ?side2 ?side3 ?side4 A19.out).mono ?_); (case side1 => repeat (exact (Kd.R_reads' HO1251.out).2.2)); (case side2 => exact (Kd.R_reads' HO1251.out).2.1); (case side3 => repeat (exact (Kd.V_reads' HO1255.out).2.2)); (case side4 => exact (Kd.V_reads' HO1255.out).2.1); rintro e w' ⟨rfl, ⟨nd, rfl⟩⟩))
   go_meet
   case rel => exact ⟨_, (decide ((t1249.length : Int) < 2)), (by rfl), H', ⟨by have := HJ2.out; omega⟩, ⟨by (with_reducible repeat (apply Kd.R_drewN)); exact Kd.R_mono HO1251.out (fun _ hk => trivial)⟩, ⟨by (with_reducible repeat (apply Kd.V_drewN)); exact Kd.V_mono HO1255.out (fun _ hk => ⟨hk.2.2.1, ⟨hk.1, hk.2.2.2⟩⟩)⟩, ⟨rk HO1244⟩, ⟨bk BK1248⟩, ⟨bl1 HB GE1248⟩⟩
  clear HC9
  try clear c1
  try clear c2
  try clear p2
  try clear c3
  try clear c4
  try clear c4b0
  try clear c4b1
  try clear c5
  try clear c11
  try clear c18
  try clear c18b0
  try clear c18b1
  try clear c20
  try clear c21
  try clear c21b0
  try clear hcz12_0
  try clear hcz12_1
  try clear hcz16_0
  try clear hcz16_1
  try clear hfz12_0
  try clear hfz12_1
  try clear hfz16_0
  try clear hfz16_1
  try clear p2
  obtain ⟨kq, x59_8, rfl, HA, HJ8, HO_7, HO_9, HO_1249001, BK1248, HB⟩ := hcut
  cases kq with
  | zero => exact absurd HA.out (by simp [laws_FnTourSwap.j1])
  | succ kj8 =>
   have H := HA.out
   clear HA
   simp only [laws_FnTourSwap.j1] at H
   by_cases c28 : x59_8 = true
   ·subst c28
    rw [if_pos rfl] at H
    by_cases c29 : t1252 = t1256
    rotate_left
    ·rw [if_neg c29] at H
     have c29b0 : (t1252 == t1256) = false := beq_eq_false_iff_ne.mpr c29
     have c29b1 : (t1252 != t1256) = true := bne_iff_ne.mpr c29
     exact absurd ((Option.some.inj H).trans hr_) Bool.false_ne_true
    rw [if_pos c29] at H
    have c29b0 : (t1252 == t1256) = true := beq_iff_eq.mpr c29
    have c29b1 : (t1252 != t1256) = false := bne_eq_false_iff_eq.mpr c29
    clear c29
    replace H := Option.bind_eq_some_iff.mp H
    obtain ⟨t1258, A300, H⟩ := H
    have A30 := ak A300
    clear A300
    obtain rfl := Option.some.inj H
    obtain ⟨Ao31, co31, eo31⟩ := Kd.R_slice HO_7.out
    subst eo31
    obtain ⟨Ao32, co32, eo32⟩ := Kd.V_slice HO_9.out
    subst eo32
    go_wp2_with ((go_at_call 21; (with_reducible refine (laws_wkInts.calls kj8 _ _ t1249 _ _ t1253 t1258 _ ?side1 ?side2 ?side3 ?side4 A30.out).mono ?_); (case side1 => repeat (exact (Kd.R_reads' HO_7.out).2.2)); (case side2 => exact (Kd.R_reads' HO_7.out).2.1); (case side3 => repeat (exact (Kd.V_reads' HO_9.out).2.2)); (case side4 => exact (Kd.V_reads' HO_9.out).2.1); rintro e w' ⟨rfl, ⟨nd, rfl⟩⟩))
    go_ret
    exact ⟨by (simp [*, errW_none, errW_some] <;> rfl), bl1 HB GE1248⟩
   replace c28 := Bool.eq_false_iff.mpr c28
   subst c28
   rw [if_neg (show ¬ (false = true) by decide)] at H
   by_cases c33 : (t1249.length : Int) = 0
   ·rw [if_pos c33] at H
    exact absurd H (by simp)
   rw [if_neg c33] at H
   have c33b0 : ((t1249.length : Int) == 0) = false := beq_eq_false_iff_ne.mpr c33
   have c33b1 : ((t1249.length : Int) != 0) = true := bne_iff_ne.mpr c33
   have c33b2 : ¬ (t1249 = []) := fun h_ => c33 (by rw [h_]; rfl)
   obtain ⟨y1259, hy1259⟩ : ∃ y_ : List Int, y_ = (([] : List Int)) := ⟨_, rfl⟩
   replace H : (if y1259.length + t1249.length < 17592186044416 then ((some (y1259 ++ t1249 : List Int)).bind fun y1262 => (if 0 ≤ ((l1.length : Int) % (t1249.length : Int)) then (if ((l1.length : Int) % (t1249.length : Int)) < (y1262.length : Int) then (if 0 ≤ (Int.tmod (wrap64 ((l1.length : Int) / (t1249.length : Int))) (t1249.length : Int)) then (if (Int.tmod (wrap64 ((l1.length : Int) / (t1249.length : Int))) (t1249.length : Int)) < (y1262.length : Int) then ((some ((y1262.set (((l1.length : Int) % (t1249.length : Int)) : Int).toNat (rd y1262 (Int.tmod (wrap64 ((l1.length : Int) / (t1249.length : Int))) (t1249.length : Int)))).set ((Int.tmod (wrap64 ((l1.length : Int) / (t1249.length : Int))) (t1249.length : Int)) : Int).toNat (rd y1262 ((l1.length : Int) % (t1249.length : Int))) : List Int)).bind fun y1268 => ((impl_TourBest.f kj8 t1241 t1242 y1268).bind fun bt1269 => ((impl_TourCost.f kj8 t1241 t1242 y1268).bind fun t1273 => (if t1273 ≥ t1252 then (some (bt1269.2 == t1252)) else (some false))))) else (none)) else (none)) else (none)) else (none))) else (none)) = some r := by (have H2_ := (Option.bind_some _ _).symm.trans H; rw [hy1259]; with_reducible exact H2_)
   have Ny1259 := ak hy1259
   clear hy1259
   by_cases c34 : y1259.length + t1249.length < 17592186044416
   rotate_left
   ·rw [if_neg c34] at H
    exact absurd H (by simp)
   rw [if_pos c34] at H
   have LMc34 := ak c34
   clear c34
   obtain ⟨y1262, hy1262⟩ : ∃ y_ : List Int, y_ = (y1259 ++ t1249) := ⟨_, rfl⟩
   replace H : (if 0 ≤ ((l1.length : Int) % (t1249.length : Int)) then (if ((l1.length : Int) % (t1249.length : Int)) < (y1262.length : Int) then (if 0 ≤ (Int.tmod (wrap64 ((l1.length : Int) / (t1249.length : Int))) (t1249.length : Int)) then (if (Int.tmod (wrap64 ((l1.length : Int) / (t1249.length : Int))) (t1249.length : Int)) < (y1262.length : Int) then ((some ((y1262.set (((l1.length : Int) % (t1249.length : Int)) : Int).toNat (rd y1262 (Int.tmod (wrap64 ((l1.length : Int) / (t1249.length : Int))) (t1249.length : Int)))).set ((Int.tmod (wrap64 ((l1.length : Int) / (t1249.length : Int))) (t1249.length : Int)) : Int).toNat (rd y1262 ((l1.length : Int) % (t1249.length : Int))) : List Int)).bind fun y1268 => ((impl_TourBest.f kj8 t1241 t1242 y1268).bind fun bt1269 => ((impl_TourCost.f kj8 t1241 t1242 y1268).bind fun t1273 => (if t1273 ≥ t1252 then (some (bt1269.2 == t1252)) else (some false))))) else (none)) else (none)) else (none)) else (none)) = some r := by (have H2_ := (Option.bind_some _ _).symm.trans H; rw [hy1262]; with_reducible exact H2_)
   have Ny1262 := ak hy1262
   clear hy1262
   obtain ⟨ji35, hji35⟩ : ∃ j_ : Int, ((l1.length : Int) % (t1249.length : Int)) = j_ := ⟨_, rfl⟩
   replace H : (if 0 ≤ (ji35) then (if (ji35) < (y1262.length : Int) then (if 0 ≤ (Int.tmod (wrap64 ((l1.length : Int) / (t1249.length : Int))) (t1249.length : Int)) then (if (Int.tmod (wrap64 ((l1.length : Int) / (t1249.length : Int))) (t1249.length : Int)) < (y1262.length : Int) then ((some ((y1262.set ((ji35) : Int).toNat (rd y1262 (Int.tmod (wrap64 ((l1.length : Int) / (t1249.length : Int))) (t1249.length : Int)))).set ((Int.tmod (wrap64 ((l1.length : Int) / (t1249.length : Int))) (t1249.length : Int)) : Int).toNat (rd y1262 (ji35)) : List Int)).bind fun y1268 => ((impl_TourBest.f kj8 t1241 t1242 y1268).bind fun bt1269 => ((impl_TourCost.f kj8 t1241 t1242 y1268).bind fun t1273 => (if t1273 ≥ t1252 then (some (bt1269.2 == t1252)) else (some false))))) else (none)) else (none)) else (none)) else (none)) = some r := by (rw [hji35] at H; exact H)
   by_cases c36 : 0 ≤ (ji35)
   rotate_left
   ·rw [if_neg c36] at H
    exact absurd H (by simp)
   rw [if_pos c36] at H
   have c36b0 : decide (0 ≤ (ji35)) = true := decide_eq_true c36
   clear c36
   by_cases c37 : (ji35) < (y1262.length : Int)
   rotate_left
   ·rw [if_neg c37] at H
    exact absurd H (by simp)
   rw [if_pos c37] at H
   have c37b0 : decide ((ji35) < (y1262.length : Int)) = true := decide_eq_true c37
   clear c37
   obtain ⟨ji38, hji38⟩ : ∃ j_ : Int, (Int.tmod (wrap64 ((l1.length : Int) / (t1249.length : Int))) (t1249.length : Int)) = j_ := ⟨_, rfl⟩
   replace H : (if 0 ≤ (ji38) then (if (ji38) < (y1262.length : Int) then ((some ((y1262.set ((ji35) : Int).toNat (rd y1262 (ji38))).set ((ji38) : Int).toNat (rd y1262 (ji35)) : List Int)).bind fun y1268 => ((impl_TourBest.f kj8 t1241 t1242 y1268).bind fun bt1269 => ((impl_TourCost.f kj8 t1241 t1242 y1268).bind fun t1273 => (if t1273 ≥ t1252 then (some (bt1269.2 == t1252)) else (some false))))) else (none)) else (none)) = some r := by (rw [hji38] at H; exact H)
   by_cases c39 : 0 ≤ (ji38)
   rotate_left
   ·rw [if_neg c39] at H
    exact absurd H (by simp)
   rw [if_pos c39] at H
   have c39b0 : decide (0 ≤ (ji38)) = true := decide_eq_true c39
   clear c39
   by_cases c40 : (ji38) < (y1262.length : Int)
   rotate_left
   ·rw [if_neg c40] at H
    exact absurd H (by simp)
   rw [if_pos c40] at H
   have c40b0 : decide ((ji38) < (y1262.length : Int)) = true := decide_eq_true c40
   clear c40
   obtain ⟨y1267, hy1267⟩ : ∃ y_ : List Int, y_ = (y1262.set ((ji35) : Int).toNat (rd y1262 (ji38))) := ⟨_, rfl⟩
   replace H : ((some (y1267.set ((ji38) : Int).toNat (rd y1262 (ji35)) : List Int)).bind fun y1268 => ((impl_TourBest.f kj8 t1241 t1242 y1268).bind fun bt1269 => ((impl_TourCost.f kj8 t1241 t1242 y1268).bind fun t1273 => (if t1273 ≥ t1252 then (some (bt1269.2 == t1252)) else (some false))))) = some r := by (rw [hy1267]; with_reducible exact H)
   have Ny1267 := ak hy1267
   clear hy1267
   obtain ⟨y1268, hy1268⟩ : ∃ y_ : List Int, y_ = (y1267.set ((ji38) : Int).toNat (rd y1262 (ji35))) := ⟨_, rfl⟩
   replace H : ((impl_TourBest.f kj8 t1241 t1242 y1268).bind fun bt1269 => ((impl_TourCost.f kj8 t1241 t1242 y1268).bind fun t1273 => (if t1273 ≥ t1252 then (some (bt1269.2 == t1252)) else (some false)))) = some r := by (have H2_ := (Option.bind_some _ _).symm.trans H; rw [hy1268]; with_reducible exact H2_)
   have Ny1268 := ak hy1268
   clear hy1268
   replace H := Option.bind_eq_some_iff.mp H
   obtain ⟨⟨t1269, t1272⟩, A430, H⟩ := H
   have A43 := ak A430
   clear A430
   replace H := Option.bind_eq_some_iff.mp H
   obtain ⟨t1273, A440, H⟩ := H
   have A44 := ak A440
   clear A440
   by_cases c45 : t1273 ≥ t1252
   rotate_left
   ·rw [if_neg c45] at H
    have c45b0 : decide (t1252 ≤ t1273) = false := decide_eq_false c45
    clear c45
    exact absurd ((Option.some.inj H).trans hr_) Bool.false_ne_true
   rw [if_pos c45] at H
   have c45b0 : decide (t1252 ≤ t1273) = true := decide_eq_true c45
   clear c45
   obtain rfl := Option.some.inj H
   obtain ⟨Ao46, co46, eo46⟩ := Kd.R_slice HO_7.out
   subst eo46
   go_wp2_with (first | ((with_reducible refine gate_dst (N := 81) rfl ?_); refine Kd.R_lit (Kd.int .i64) _ 3 ?hg (N := 81) ?hd (xs := ([] : List Int)) (inner := []) (ok := fun _ => True) (okp := fun _ => True) ?hr ?hp (fun _ hk => hk) trivial (Below.refl _ _) (Nat.le_refl _) (by simp) ?_; (case hd => rfl); (case hg => rfl); (case hr => (go_simp; done)); (case hp => exact (Reps.none _ _)); intro v1260 w47 ho48 hb hg_ hnew_; clear hg_ hnew_; (rw [← Ny1259.out] at ho48); replace HO_9 := ak (Kd.V_elder' (by exact HO_9.out) (Kd.R_base ho48) hb); replace HO_1249001 := ak (Kd.R_below (rk HO_1249001) hb); have HO1261 := ak (Kd.R_lower (Kd.R_new' ho48 (Kd.R_lt (rk HO_7))) (below_size (bl1 HB GE1248))); replace HO_7 := ak (Kd.R_elder' (rk HO_7) (Kd.R_base ho48) hb); replace BK1248 := ak (blk_below (bk BK1248) hb); replace HB := ak (below_step (bl1 HB GE1248) hb); clear hb ho48) | ((with_reducible refine gate_builtin (b := .append) (xs := #[.tmp 81, .tmp 82]) rfl ?_); at_builtin; refine Kd.R_append_rows (Kd.int .i64) (w0 := w) w.heap.size rfl (.tmp 81) (.tmp 82) 26 3 (.int .i64 0) 8 rfl Try.underlying26 info3 rfl (by decide) (by omega) v1260 y1259 t1249 _ _ _ (fun k_ => some k_ ≠ (.slice Ao46 t1249.length co46 : Value).ownBlock) (fun _ => False) rfl rfl ?aO ?aR (fun _ _ h => h) (fun _ h => h.elim) ?aF ?aB ?aS ?aL ?_; (case aR => repeat (exact (Kd.R_reads' HO_7.out).2.2)); (case aB => exact (bl1 HB GE1248)); (case aF => exact (fun k_ hk => Kd.fresh' (Kd.R_lt (rk HO_7)) k_ hk)); (case aO => exact (by exact Kd.R_mono HO1261.out (fun _ hk => hk.2))); (case aS => exact (below_size (bl1 HB GE1248))); (case aL => have := LMc34.out; omega); intro v1263 w49 ho hb hg hat; rw [← Ny1262.out] at ho; have n0_ := ak (Kd.R_after (ok := (fun _ => True)) (rk HO_7) hg hat); have n1_ := ak (Kd.V_afterv (ok := (fun k_ => some k_ ≠ (.slice Ao46 t1249.length co46 : Value).ownBlock ∧ some k_ ≠ (.slice Ao13 t1242.length co13 : Value).ownBlock ∧ k_ ≠ gb1248)) (by exact HO_9.out) hg hat); have n2_ := ak (Kd.R_over' (rk HO_1249001) (Kd.R_typed (rk HO1261)) (by decide) hg); have n3_ := ak (blk_grown (bk BK1248) hg (Kd.R_ne HO1261.out BK1248.out (by decide))); have n4_ := ak (hb); have n5_ := ak (ho); clear HO_7; clear HO_9; clear HO_1249001; clear BK1248; clear HB; clear HO1261; have HO_7 := n0_; have HO_9 := n1_; have HO_1249001 := n2_; have BK1248 := n3_; have HB := n4_; have HO1264 := n5_; clear n0_ n1_ n2_ n3_ n4_ n5_; clear ho hb hg hat; obtain ⟨Ao50, co50, eo50⟩ := Kd.R_slice HO1264.out; subst eo50; have p1265 : 0 ≤ ((ji35) : Int) := oT (by (with_reducible assumption)); have q1265 : (ji35) < (y1262.length : Int) := oT (by (with_reducible assumption)); obtain ⟨ad1265, e1265, hx1265_0⟩ := Kd.at_int (Kd.R_reads' HO1264.out).2.2 (ji35) p1265 q1265; cases e1265; replace p1265 := eq_true p1265; replace q1265 := eq_true q1265; have p1266 : 0 ≤ ((ji38) : Int) := oT (by (with_reducible assumption)); have q1266 : (ji38) < (y1262.length : Int) := oT (by (with_reducible assumption)); obtain ⟨ad1266, e1266, hx1266_0⟩ := Kd.at_int (Kd.R_reads' HO1264.out).2.2 (ji38) p1266 q1266; obtain rfl : ad1265 = ad1266 := (by injection e1266); replace p1266 := eq_true p1266; replace q1266 := eq_true q1266; have p41 : 0 ≤ ((ji35) : Int) := oT (by (with_reducible assumption)); have q41 : ((ji35) : Int) < ((y1262.length : Int) : Int) := oT (by (with_reducible assumption)); obtain ⟨go41, co41, eo41, gb41, gl41, cl41, HG41⟩ := Kd.R_form HO1264.out (by omega); (cases eo41); have GB41 := ak gb41; have GG41 := ak HG41; clear gb41 gl41 HG41; (simp only [add_plain] at hx1265_0); (simp only [add_plain] at hx1266_0); obtain ⟨hx41_0, hf41_0⟩ := Kd.R_celln 0 HO1264.out ((ji35) : Int) p41 q41; replace p41 := eq_true p41; replace q41 := eq_true q41; obtain ⟨hy51_, hz51_⟩ := Kd.R_celln 0 HO1264.out ((ji35) : Int) (oT (by (with_reducible assumption))) (oT (by (with_reducible assumption))); have HP51 := Kd.R_putg HO1264.out ((ji35) : Int) (rd y1262 (ji38))) | ((with_reducible refine gate_store (t := 3) (p := 94) rfl ?_); refine store_event (t := 3) (p := 94) (v := ?vo_w52) (w1 := (w49.setCell ⟨go41, ((ji35) : Int).toNat, none⟩ (.int .i64 (rd y1262 (ji38))))) ?hg ?ho ?hn ?hr ?_; (case ho => rfl); (case hg => rfl); (case hn => rfl); (case hr => (go_simp; done)); intro w52 hw; have hg : w49.grownBy w52 (some go41) := (by rw [hw]; exact HP51.2); have hp_ : Kd.R (Kd.int .i64) 3 w52 w.heap.size (fun k_ => some k_ ≠ (.slice Ao46 t1249.length co46 : Value).ownBlock) (.slice (some ⟨go41, 0, none⟩) y1262.length co50) y1267 := (by rw [hw, Ny1267.out]; exact HP51.1); clear HP51; replace HO_7 := ak (Kd.R_after (v := (.slice (some ⟨go41, 0, none⟩) y1262.length co50)) (v1 := (.slice (some ⟨go41, 0, none⟩) y1262.length co50)) (ok := (fun _ => True)) (rk HO_7) hg (.inl rfl)); replace HO_9 := ak (Kd.V_afterv (v := (.slice (some ⟨go41, 0, none⟩) y1262.length co50)) (v1 := (.slice (some ⟨go41, 0, none⟩) y1262.length co50)) (ok := (fun k_ => some k_ ≠ (.slice Ao46 t1249.length co46 : Value).ownBlock ∧ some k_ ≠ (.slice Ao13 t1242.length co13 : Value).ownBlock ∧ k_ ≠ gb1248)) (by exact HO_9.out) hg (.inl rfl)); replace HO_1249001 := ak (Kd.R_over' (v := (.slice (some ⟨go41, 0, none⟩) y1262.length co50)) (rk HO_1249001) (Kd.R_typed HO1264.out) (by decide) hg); replace BK1248 := ak (blk_grown (bk BK1248) hg (Kd.R_ne HO1264.out BK1248.out (by decide))); replace HO1264 := ak (hp_); replace HB := ak ((by rw [hw]; exact below_set (HB.out) GB41.out : Below w.heap.size w w52)); clear hg hw hp_; have p42 : 0 ≤ ((ji38) : Int) := oT (by (with_reducible assumption)); have q42 : ((ji38) : Int) < ((y1262.length : Int) : Int) := oT (by (with_reducible assumption)); obtain ⟨hx42_0, hf42_0⟩ := Kd.R_celln 0 HO1264.out ((ji38) : Int) p42 q42; replace p42 := eq_true p42; replace q42 := eq_true q42; obtain ⟨hy53_, hz53_⟩ := Kd.R_celln 0 HO1264.out ((ji38) : Int) (oT (by (with_reducible assumption))) (oT (by (with_reducible assumption))); have HP53 := Kd.R_putg HO1264.out ((ji38) : Int) (rd y1262 (ji35))) | ((with_reducible refine gate_store (t := 3) (p := 98) rfl ?_); refine store_event (t := 3) (p := 98) (v := ?vo_w54) (w1 := (w52.setCell ⟨go41, ((ji38) : Int).toNat, none⟩ (.int .i64 (rd y1262 (ji35))))) ?hg ?ho ?hn ?hr ?_; (case ho => rfl); (case hg => rfl); (case hn => rfl); (case hr => (go_simp; done)); intro w54 hw; have hg : w52.grownBy w54 (some go41) := (by rw [hw]; exact HP53.2); have hp_ : Kd.R (Kd.int .i64) 3 w54 w.heap.size (fun k_ => some k_ ≠ (.slice Ao46 t1249.length co46 : Value).ownBlock) (.slice (some ⟨go41, 0, none⟩) y1262.length co50) y1268 := (by rw [hw, Ny1268.out]; exact HP53.1); clear HP53; replace HO_7 := ak (Kd.R_after (v := (.slice (some ⟨go41, 0, none⟩) y1262.length co50)) (v1 := (.slice (some ⟨go41, 0, none⟩) y1262.length co50)) (ok := (fun _ => True)) (rk HO_7) hg (.inl rfl)); replace HO_9 := ak (Kd.V_afterv (v := (.slice (some ⟨go41, 0, none⟩) y1262.length co50)) (v1 := (.slice (some ⟨go41, 0, none⟩) y1262.length co50)) (ok := (fun k_ => some k_ ≠ (.slice Ao46 t1249.length co46 : Value).ownBlock ∧ some k_ ≠ (.slice Ao13 t1242.length co13 : Value).ownBlock ∧ k_ ≠ gb1248)) (by exact HO_9.out) hg (.inl rfl)); replace HO_1249001 := ak (Kd.R_over' (v := (.slice (some ⟨go41, 0, none⟩) y1262.length co50)) (rk HO_1249001) (Kd.R_typed HO1264.out) (by decide) hg); replace BK1248 := ak (blk_grown (bk BK1248) hg (Kd.R_ne HO1264.out BK1248.out (by decide))); replace HO1264 := ak (hp_); replace HB := ak ((by rw [hw]; exact below_set (HB.out) GB41.out : Below w.heap.size w w54)); clear hg hw hp_; have hcz55_0 := bc w54 BK1248 0 (.int .i64 t1241) rfl; have hcz55_1 := bc w54 BK1248 1 (.slice Ao13 t1242.length co13) rfl; have hfz55_0 := fz BK1248 0; have hfz55_1 := fz BK1248 1) | ((with_reducible refine gate_callee (f := 35) rfl ?_); refine goesL_ (some 102) rfl rfl Try.func35 (by kernel_rfl) rfl #[.agg #[.int .i64 t1241, .slice Ao13 t1242.length co13], .slice (some ⟨go41, 0, none⟩) y1268.length co50] rfl (by (try simp only [List.map_toArray, List.map_cons, List.map_nil]); (rw [show y1268.length = y1262.length from (Kd.R_reads' HO1264.out).1.symm] <;> rfl)) ?_; (with_reducible refine (impl_TourBest.calls kj8 t1241 _ _ t1242 _ _ y1268 t1269 t1272 _ ?side1 ?side2 ?side3 ?side4 A43.out).mono ?_); (case side1 => repeat (exact (Kd.R_reads' HO_1249001.out).2.2)); (case side2 => exact (Kd.R_reads' HO_1249001.out).2.1); (case side3 => repeat (exact (Kd.R_reads' HO1264.out).2.2)); (case side4 => rw [show y1268.length = y1262.length from (Kd.R_reads' HO1264.out).1.symm]; exact (Kd.R_reads' HO1264.out).2.1); rintro e w56 ⟨v1270, rfl, ho0, hb⟩; refine ⟨_, rfl, ?_⟩; replace HO_9 := ak (Kd.V_elder' (by exact HO_9.out) (Kd.R_base ho0) hb); replace HO_1249001 := ak (Kd.R_below (rk HO_1249001) hb); have HO1271 := ak (Kd.R_lower (Kd.R_new' (Kd.R_new' ho0 (Kd.R_lt (rk HO_7))) (Kd.R_lt (rk HO1264))) (below_size (bl1 HB GE1248))); replace HO_7 := ak (Kd.R_elder' (rk HO_7) (Kd.R_base ho0) hb); replace HO1264 := ak (Kd.R_elder' (rk HO1264) (Kd.R_base ho0) hb); replace BK1248 := ak (blk_below (bk BK1248) hb); replace HB := ak (below_step (bl1 HB GE1248) hb); (try clear hb); (try clear hb2); (try clear hk); (try clear hi); (try clear ho0); have hcz57_0 := bc w56 BK1248 0 (.int .i64 t1241) rfl; have hcz57_1 := bc w56 BK1248 1 (.slice Ao13 t1242.length co13) rfl; have hfz57_0 := fz BK1248 0; have hfz57_1 := fz BK1248 1) | ((with_reducible refine gate_callee (f := 16) rfl ?_); refine goesL_ (some 107) rfl rfl Try.func16 (by kernel_rfl) rfl #[.agg #[.int .i64 t1241, .slice Ao13 t1242.length co13], .slice (some ⟨go41, 0, none⟩) y1268.length co50] rfl (by (try simp only [List.map_toArray, List.map_cons, List.map_nil]); (rw [show y1268.length = y1262.length from (Kd.R_reads' HO1264.out).1.symm] <;> rfl)) ?_; (with_reducible refine (impl_TourCost.calls kj8 t1241 _ _ t1242 _ _ y1268 t1273 _ ?side1 ?side2 ?side3 ?side4 A44.out).mono ?_); (case side1 => repeat (exact (Kd.R_reads' HO_1249001.out).2.2)); (case side2 => exact (Kd.R_reads' HO_1249001.out).2.1); (case side3 => repeat (exact (Kd.R_reads' HO1264.out).2.2)); (case side4 => rw [show y1268.length = y1262.length from (Kd.R_reads' HO1264.out).1.symm]; exact (Kd.R_reads' HO1264.out).2.1); rintro e w58 ⟨rfl, hb⟩; refine ⟨_, rfl, ?_⟩; replace HO_7 := ak (Kd.R_below (rk HO_7) hb); replace HO_9 := ak (Kd.V_below (by exact HO_9.out) hb); replace HO_1249001 := ak (Kd.R_below (rk HO_1249001) hb); replace HO1264 := ak (Kd.R_below (rk HO1264) hb); replace HO1271 := ak (Kd.R_below (rk HO1271) hb); replace BK1248 := ak (blk_below (bk BK1248) hb); replace HB := ak (below_step (bl1 HB GE1248) hb); (try clear hb); (try clear hb2); (try clear hk); (try clear hi)))
   go_ret
   exact ⟨by rfl, bl1 HB GE1248⟩

/-- THE ONE PURE STATEMENT of laws_FnTourSwap: yours. -/
def laws_FnTourSwap.Pure : Prop := ∀ (l0 : List Int) (l1 : List Int), l0.length ≤ maxLen → l0.length * 1 ≤ 140737488351232 → (∀ x ∈ l0, (Lit.int .u8 x).wf = true) → l1.length ≤ maxLen → l1.length * 1 ≤ 140737488351232 → (∀ x ∈ l1, (Lit.int .u8 x).wf = true) → ∃ k, laws_FnTourSwap.f k l0 l1 = some true
theorem laws_FnTourSwap.walk (P : laws_FnTourSwap.Pure) (a0 : Option Addr) (len0 cap0 : Nat) (z0 : List Int) (a1 : Option Addr) (len1 cap1 : Nat) (z1 : List Int) (w : World) (w0 : (a0 = none ∧ len0 = 0 ∧ cap0 = 0 ∧ z0 = []) ∨ ∃ x, a0 = some x ∧ len0 ≤ cap0 ∧ cap0 ≤ maxLen ∧ z0.length = cap0 ∧ (∀ i, i < z0.length → w.cell? (x.add i) = some (.int .u8 (z0.getD i 0))) ∧ ∀ n ∈ z0, (Lit.int .u8 n).wf = true) (y0 : len0 * 1 ≤ 140737488351232) (w1 : (a1 = none ∧ len1 = 0 ∧ cap1 = 0 ∧ z1 = []) ∨ ∃ x, a1 = some x ∧ len1 ≤ cap1 ∧ cap1 ≤ maxLen ∧ z1.length = cap1 ∧ (∀ i, i < z1.length → w.cell? (x.add i) = some (.int .u8 (z1.getD i 0))) ∧ ∀ n ∈ z1, (Lit.int .u8 n).wf = true) (y1 : len1 * 1 ≤ 140737488351232) :
  Calls Try.prog 11 #[.slice a0 len0 cap0, .slice a1 len1 cap1] w fun e w' => e = .returned (.bool true) ∧ Below w.heap.size w w' := by
 obtain ⟨l0, rfl, hr0, hm0, hw0, hc0⟩ := ReadsInt.ofRowC w0
 obtain ⟨l1, rfl, hr1, hm1, hw1, hc1⟩ := ReadsInt.ofRowC w1
 obtain ⟨k, h⟩ := P l0 l1 hm0 y0 hw0 hm1 y1 hw1
 refine (laws_FnTourSwap.calls k _ _ l0 _ _ l1 true w (Kd.C_of_reads (d := (0 : Int)) (h1 := fun _ => rfl) hr0) hc0 (Kd.C_of_reads (d := (0 : Int)) (h1 := fun _ => rfl) hr1) hc1 h rfl).mono ?_
 rintro e w' ⟨rfl, hd⟩
 exact ⟨rfl, hd⟩

end Go.Proofs.Ytgickejeakmenaa.F
