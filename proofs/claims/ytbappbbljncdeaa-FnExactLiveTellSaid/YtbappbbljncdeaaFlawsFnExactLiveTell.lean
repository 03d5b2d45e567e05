-- Printed by wip/px/px.py of this claim's repository (the kit's printer, extended there). Lean checks it.
import Derived.Test.YtbappbbljncdeaaFKinds
import Derived.Test.YtbappbbljncdeaaFlawsLive
import Derived.Test.YtbappbbljncdeaaFlawsLive
import Derived.Test.YtbappbbljncdeaaFlawsLive
import Derived.Test.YtbappbbljncdeaaFlawsLive
import Derived.Test.YtbappbbljncdeaaFlawsmarkLive
import Derived.Test.YtbappbbljncdeaaFlawsheldLive
import Derived.Test.YtbappbbljncdeaaFspecLiveTell
import Derived.Test.YtbappbbljncdeaaFimplLiveTell
namespace Go.Proofs.Ytbappbbljncdeaa.F
open Go.RowKit Go.Proofs.YtbappbbljncdeaaW.PrintWords Go.Proofs.YtbappbbljncdeaaW.PrintLast Go.Proofs.YtbappbbljncdeaaW.PrintMore
attribute [local go_sem] max2_int min2_int max_two min_two max_three min_three max_four min_four   -- for this text's walks alone
set_option linter.unusedVariables false
set_option linter.unusedSimpArgs false

/-! ### laws_FnExactLiveTell: function 11 -/
mutual
def laws_FnExactLiveTell.j0 : Nat → Bool → Bool → Bool → Int → List (S132) → List (S68) → Int → Int → Int → Int → List (S100) → List (S70) → Int → List (S100) → List (S70) → Int → List (S100) → List (S70) → Option (Bool)
 | 0, _, _, _, _, _, _, _, _, _, _, _, _, _, _, _, _, _, _ => none
 | k + 1, x7, x10, x46, x1188000, x1188001, x1188002, x1189000, x1189001, x1189002, x1209000, x1209001, x1209002, x1217000, x1217001, x1217002, x1229000, x1229001, x1229002 => if x46 = true then (some false) else ((laws_toLive.f k x1188000 x1188001 x1188002).bind fun bt1230 => ((laws_eqLive.f k x1217000 x1217001 x1217002 bt1230.1 bt1230.2.1 bt1230.2.2).bind fun t1237 => (if t1237 = true then ((laws_markLive.f k x1217000 x1217001 x1217002 1).bind fun bt1238 => (if bt1238.1 < 0 then (laws_FnExactLiveTell.j1 k x7 true x1188000 x1188001 x1188002 x1189000 x1189001 x1189002 x1209000 x1209001 x1209002 x1229000 x1229001 x1229002) else ((laws_eqLive.f k x1229000 x1229001 x1229002 x1209000 x1209001 x1209002).bind fun t1241 => (if t1241 = true then (laws_FnExactLiveTell.j1 k x7 (x10 != x7) x1188000 x1188001 x1188002 x1189000 x1189001 x1189002 x1209000 x1209001 x1209002 x1229000 x1229001 x1229002) else (laws_FnExactLiveTell.j1 k x7 true x1188000 x1188001 x1188002 x1189000 x1189001 x1189002 x1209000 x1209001 x1209002 x1229000 x1229001 x1229002))))) else (some false))))
def laws_FnExactLiveTell.j1 : Nat → Bool → Bool → Int → List (S132) → List (S68) → Int → Int → Int → Int → List (S100) → List (S70) → Int → List (S100) → List (S70) → Option (Bool)
 | 0, _, _, _, _, _, _, _, _, _, _, _, _, _, _ => none
 | k + 1, x7, x67, x1188000, x1188001, x1188002, x1189000, x1189001, x1189002, x1209000, x1209001, x1209002, x1229000, x1229001, x1229002 => if x67 = true then (some false) else ((laws_markLive.f k x1229000 x1229001 x1229002 1).bind fun bt1242 => ((laws_heldLive.f k x1229000 bt1242.2.1 bt1242.2.2 1).bind fun t1245 => (if t1245 < 0 then (some false) else (if t1245 = bt1242.1 then ((laws_toLive.f k x1188000 x1188001 x1188002).bind fun bt1246 => ((laws_toNews.f x1189000 x1189001 x1189002).bind fun bt1253 => ((impl_LiveTell.f k bt1246.1 bt1246.2.1 bt1246.2.2 bt1253.1 bt1253.2.1 bt1253.2.2).bind fun bt1256 => ((laws_eqLive.f k bt1256.1 bt1256.2.1 bt1256.2.2.1 x1209000 x1209001 x1209002).bind fun t1265 => (if t1265 = true then (laws_FnExactLiveTell.j2 k bt1242.1 (bt1256.2.2.2 != x7) x1229000 bt1242.2.1 bt1242.2.2) else (laws_FnExactLiveTell.j2 k bt1242.1 true x1229000 bt1242.2.1 bt1242.2.2)))))) else (some false)))))
def laws_FnExactLiveTell.j2 : Nat → Int → Bool → Int → List (S100) → List (S70) → Option (Bool)
 | 0, _, _, _, _, _ => none
 | k + 1, x12, x95, x1229000, x1229001, x1229002 => if x95 = true then (some false) else ((laws_heldLive.f k x1229000 x1229001 x1229002 1).bind fun t1266 => (if t1266 < 0 then (some false) else (if t1266 = x12 then (some true) else (some false))))
end
def laws_FnExactLiveTell.f (k : Nat) (a0_0 : Int) (l0_1 : List (S132)) (l0_2 : List (S68)) (a1_0 : Int) (a1_1 : Int) (a1_2 : Int) : Option (Bool) := (laws_szLive.f a0_0 l0_1 l0_2 1048576).bind fun t1189 => (if t1189 < 0 then (some true) else ((laws_toLive.f k a0_0 l0_1 l0_2).bind fun bt1190 => ((laws_toNews.f a1_0 a1_1 a1_2).bind fun bt1197 => ((spec_LiveTell.f k bt1190.1 bt1190.2.1 bt1190.2.2 bt1197.1 bt1197.2.1 bt1197.2.2).bind fun bt1200 => ((laws_toLive.f k a0_0 l0_1 l0_2).bind fun bt1209 => ((laws_toNews.f a1_0 a1_1 a1_2).bind fun bt1217 => ((impl_LiveTell.f k bt1209.1 bt1209.2.1 bt1209.2.2 bt1217.1 bt1217.2.1 bt1217.2.2).bind fun bt1220 => ((laws_eqLive.f k bt1220.1 bt1220.2.1 bt1220.2.2.1 bt1200.1 bt1200.2.1 bt1200.2.2.1).bind fun t1229 => (if t1229 = true then (laws_FnExactLiveTell.j0 k bt1200.2.2.2 bt1220.2.2.2 (bt1220.2.2.2 != bt1200.2.2.2) a0_0 l0_1 l0_2 a1_0 a1_1 a1_2 bt1200.1 bt1200.2.1 bt1200.2.2.1 bt1209.1 bt1209.2.1 bt1209.2.2 bt1220.1 bt1220.2.1 bt1220.2.2.1) else (laws_FnExactLiveTell.j0 k bt1200.2.2.2 bt1220.2.2.2 true a0_0 l0_1 l0_2 a1_0 a1_1 a1_2 bt1200.1 bt1200.2.1 bt1200.2.2.1 bt1209.1 bt1209.2.1 bt1209.2.2 bt1220.1 bt1220.2.1 bt1220.2.2.1))))))))))
theorem laws_FnExactLiveTell.mono_l : ∀ k, (∀ y0 y1 y2 y3 y4 y5 y6 y7 y8 y9 y10 y11 y12 y13 y14 y15 y16 y17, LeO (laws_FnExactLiveTell.j0 k y0 y1 y2 y3 y4 y5 y6 y7 y8 y9 y10 y11 y12 y13 y14 y15 y16 y17) (laws_FnExactLiveTell.j0 (k + 1) y0 y1 y2 y3 y4 y5 y6 y7 y8 y9 y10 y11 y12 y13 y14 y15 y16 y17)) ∧ (∀ y0 y1 y2 y3 y4 y5 y6 y7 y8 y9 y10 y11 y12 y13, LeO (laws_FnExactLiveTell.j1 k y0 y1 y2 y3 y4 y5 y6 y7 y8 y9 y10 y11 y12 y13) (laws_FnExactLiveTell.j1 (k + 1) y0 y1 y2 y3 y4 y5 y6 y7 y8 y9 y10 y11 y12 y13)) ∧ (∀ y0 y1 y2 y3 y4, LeO (laws_FnExactLiveTell.j2 k y0 y1 y2 y3 y4) (laws_FnExactLiveTell.j2 (k + 1) y0 y1 y2 y3 y4))
 | 0 => ⟨fun _ _ _ _ _ _ _ _ _ _ _ _ _ _ _ _ _ _ r h => by simp [laws_FnExactLiveTell.j0] at h, fun _ _ _ _ _ _ _ _ _ _ _ _ _ _ r h => by simp [laws_FnExactLiveTell.j1] at h, fun _ _ _ _ _ r h => by simp [laws_FnExactLiveTell.j2] at h⟩
 | k + 1 => by
  obtain ⟨ih0, ih1, ih2⟩ := laws_FnExactLiveTell.mono_l k
  refine ⟨?_, ?_, ?_⟩
  ·intro y0 y1 y2 y3 y4 y5 y6 y7 y8 y9 y10 y11 y12 y13 y14 y15 y16 y17
   unfold laws_FnExactLiveTell.j0
   repeat' first | (with_reducible exact ih1 _ _ _ _ _ _ _ _ _ _ _ _ _ _) | (with_reducible exact laws_eqLive.mono _ _ _ _ _ _ _) | (with_reducible exact laws_markLive.mono _ _ _ _ _) | (with_reducible exact laws_toLive.mono _ _ _ _) | (with_reducible exact LeO.refl _) | (with_reducible refine LeO.ite ?_ ?_) | (with_reducible refine LeO.bind ?_ (fun _ => ?_))
  ·intro y0 y1 y2 y3 y4 y5 y6 y7 y8 y9 y10 y11 y12 y13
   unfold laws_FnExactLiveTell.j1
   repeat' first | (with_reducible exact ih2 _ _ _ _ _) | (with_reducible exact impl_LiveTell.mono _ _ _ _ _ _ _) | (with_reducible exact laws_eqLive.mono _ _ _ _ _ _ _) | (with_reducible exact laws_heldLive.mono _ _ _ _ _) | (with_reducible exact laws_markLive.mono _ _ _ _ _) | (with_reducible exact laws_toLive.mono _ _ _ _) | (with_reducible exact LeO.refl _) | (with_reducible refine LeO.ite ?_ ?_) | (with_reducible refine LeO.bind ?_ (fun _ => ?_))
  ·intro y0 y1 y2 y3 y4
   unfold laws_FnExactLiveTell.j2
   repeat' first | (with_reducible exact laws_heldLive.mono _ _ _ _ _) | (with_reducible exact LeO.refl _) | (with_reducible refine LeO.ite ?_ ?_) | (with_reducible refine LeO.bind ?_ (fun _ => ?_))
theorem laws_FnExactLiveTell.mono : ∀ a0 a1 a2 a3 a4 a5 k, LeO (laws_FnExactLiveTell.f k a0 a1 a2 a3 a4 a5) (laws_FnExactLiveTell.f (k + 1) a0 a1 a2 a3 a4 a5) := by
 intro a0 a1 a2 a3 a4 a5 k
 obtain ⟨ih0, ih1, ih2⟩ := laws_FnExactLiveTell.mono_l k
 unfold laws_FnExactLiveTell.f
 repeat' first | (with_reducible exact ih0 _ _ _ _ _ _ _ _ _ _ _ _ _ _ _ _ _ _) | (with_reducible exact impl_LiveTell.mono _ _ _ _ _ _ _) | (with_reducible exact laws_eqLive.mono _ _ _ _ _ _ _) | (with_reducible exact laws_toLive.mono _ _ _ _) | (with_reducible exact spec_LiveTell.mono _ _ _ _ _ _ _) | (with_reducible exact LeO.refl _) | (with_reducible refine LeO.ite ?_ ?_) | (with_reducible refine LeO.bind ?_ (fun _ => ?_))
def laws_FnExactLiveTell.T5 : Bool × List (List Nat × List Nat) := (true, [([], []), ([0], [0]), ([], []), ([2, 1], [2]), ([1, 3, 3], [1, 3]), ([4], [4]), ([5], [5]), ([5], [5]), ([], []), ([8, 6, 4, 0, 1, 2, 3, 4, 5, 6, 8], [6, 8]), ([7, 9, 0, 1, 2, 3, 4, 5, 6, 7, 8, 9], [7])])
def laws_FnExactLiveTell.B5 : List Nat := [0, 1, 0, 7, 15, 31, 63, 63, 0, 383, 1023]
theorem laws_FnExactLiveTell.tab5 : rtab .any (opsOf Try.f11 5) = laws_FnExactLiveTell.T5 := by kernel_rfl
theorem laws_FnExactLiveTell.bits5 : waitsOk laws_FnExactLiveTell.T5.2 laws_FnExactLiveTell.B5 = true := by kernel_rfl
def laws_FnExactLiveTell.T7 : Bool × List (List Nat × List Nat) := (true, [([], []), ([], []), ([1], [1]), ([0, 2, 2], [0, 2]), ([3], [3]), ([4], [4]), ([4], [4]), ([], []), ([7, 5, 3, 0, 1, 2, 3, 4, 5, 7], [5, 7]), ([6, 8, 0, 1, 2, 3, 4, 5, 6, 7, 8], [6])])
def laws_FnExactLiveTell.B7 : List Nat := [0, 0, 2, 7, 15, 31, 31, 0, 191, 511]
theorem laws_FnExactLiveTell.tab7 : rtab .any (opsOf Try.f11 7) = laws_FnExactLiveTell.T7 := by kernel_rfl
theorem laws_FnExactLiveTell.bits7 : waitsOk laws_FnExactLiveTell.T7.2 laws_FnExactLiveTell.B7 = true := by kernel_rfl
def laws_FnExactLiveTell.T24 : Bool × List (List Nat × List Nat) := (true, [([], []), ([0], [0]), ([], []), ([2, 1], [2]), ([1, 3, 3], [1, 3]), ([4], [4]), ([5], [5]), ([5], [5]), ([], []), ([8, 6, 4, 0, 1, 2, 3, 4, 5, 6, 8], [6, 8]), ([7, 9, 0, 1, 2, 3, 4, 5, 6, 7, 8, 9], [7])])
def laws_FnExactLiveTell.B24 : List Nat := [0, 1, 0, 7, 15, 31, 63, 63, 0, 383, 1023]
theorem laws_FnExactLiveTell.tab24 : rtab .any (opsOf Try.f11 24) = laws_FnExactLiveTell.T24 := by kernel_rfl
theorem laws_FnExactLiveTell.bits24 : waitsOk laws_FnExactLiveTell.T24.2 laws_FnExactLiveTell.B24 = true := by kernel_rfl
set_option maxHeartbeats 8000000 in
set_option maxRecDepth 100000 in
theorem laws_FnExactLiveTell.calls (k : Nat) (a0_0 : Int) (A0_1 : Option Addr) (c0_1 : Nat) (l0_1 : List (S132)) (A0_2 : Option Addr) (c0_2 : Nat) (l0_2 : List (S68)) (a1_0 : Int) (a1_1 : Int) (a1_2 : Int) (r : Bool) (w : World) (hr0_1 : Kd.C k132 w A0_1 l0_1.length l0_1) (hc0_1 : l0_1.length ≤ c0_1) (hr0_2 : Kd.C k68 w A0_2 l0_2.length l0_2) (hc0_2 : l0_2.length ≤ c0_2) (h : laws_FnExactLiveTell.f k a0_0 l0_1 l0_2 a1_0 a1_1 a1_2 = some r) (hr_ : r = true) :
  Calls Try.prog 11 #[.agg #[.int .i64 a0_0, .slice A0_1 l0_1.length c0_1, .slice A0_2 l0_2.length c0_2], .agg #[.int .i64 a1_0, .int .i64 a1_1, .int .i64 a1_2]] w fun e w' => e = .returned (.bool r) ∧ Below w.heap.size w w' := by
 have hu44 := Try.underlying44
 have hu68 := Try.underlying68
 have hu49 := Try.underlying49
 have HR0_1 := ak hr0_1
 have HC0_1 := ak hc0_1
 clear hr0_1 hc0_1
 have HR0_2 := ak hr0_2
 have HC0_2 := ak hc0_2
 clear hr0_2 hc0_2
 have HB := ak (Below.refl w.heap.size w)
 have H : ((laws_szLive.f a0_0 l0_1 l0_2 1048576).bind fun t1189 => (if t1189 < 0 then (some true) else ((laws_toLive.f k a0_0 l0_1 l0_2).bind fun bt1190 => ((laws_toNews.f a1_0 a1_1 a1_2).bind fun bt1197 => ((spec_LiveTell.f k bt1190.1 bt1190.2.1 bt1190.2.2 bt1197.1 bt1197.2.1 bt1197.2.2).bind fun bt1200 => ((laws_toLive.f k a0_0 l0_1 l0_2).bind fun bt1209 => ((laws_toNews.f a1_0 a1_1 a1_2).bind fun bt1217 => ((impl_LiveTell.f k bt1209.1 bt1209.2.1 bt1209.2.2 bt1217.1 bt1217.2.1 bt1217.2.2).bind fun bt1220 => ((laws_eqLive.f k bt1220.1 bt1220.2.1 bt1220.2.2.1 bt1200.1 bt1200.2.1 bt1200.2.2.1).bind fun t1229 => (if t1229 = true then (laws_FnExactLiveTell.j0 k bt1200.2.2.2 bt1220.2.2.2 (bt1220.2.2.2 != bt1200.2.2.2) a0_0 l0_1 l0_2 a1_0 a1_1 a1_2 bt1200.1 bt1200.2.1 bt1200.2.2.1 bt1209.1 bt1209.2.1 bt1209.2.2 bt1220.1 bt1220.2.1 bt1220.2.2.1) else (laws_FnExactLiveTell.j0 k bt1200.2.2.2 bt1220.2.2.2 true a0_0 l0_1 l0_2 a1_0 a1_1 a1_2 bt1200.1 bt1200.2.1 bt1200.2.2.1 bt1209.1 bt1209.2.1 bt1209.2.2 bt1220.1 bt1220.2.1 bt1220.2.2.1))))))))))) = some r := h
 clear h
 replace H := Option.bind_eq_some_iff.mp H
 obtain ⟨t1189, A30, H⟩ := H
 have A3 := ak A30
 clear A30
 by_cases c4 : t1189 < 0
 ·rw [if_pos c4] at H
  have c4b0 : decide (t1189 < 0) = true := decide_eq_true c4
  clear c4
  obtain rfl := Option.some.inj H
  go_enter Try.func11, Try.ntmps11
  go_wp2_with (first | ((with_reducible refine gate_dst (N := 2) rfl ?_); refine box_event ?hg (N := 2) ?hd (cs := #[.int .i64 a0_0, .slice A0_1 l0_1.length c0_1, .slice A0_2 l0_2.length c0_2]) (t := 44) ?hr ?_; (case hd => rfl); (case hg => rfl); (case hr => (go_simp; done)); intro gb1187 hg w5 hbox hb; have BK1187 := ak (hbox); have GW1187 := ak ((by rw [hg]; exact (below_size (bl HB)) : w.heap.size ≤ gb1187)); have GE1187 := ak ((by rw [hg]; exact (below_size (bl HB)) : w.heap.size ≤ gb1187)); replace HB := ak (below_step (bl HB) hb); clear hb hbox hg) | ((with_reducible refine gate_dst (N := 3) rfl ?_); refine box_event ?hg (N := 3) ?hd (cs := #[.int .i64 a1_0, .int .i64 a1_1, .int .i64 a1_2]) (t := 68) ?hr ?_; (case hd => rfl); (case hg => rfl); (case hr => (go_simp; done)); intro gb1188 hg w6 hbox hb; have BK1188 := ak (hbox); have GW1188 := ak ((by rw [hg]; exact (below_size (bl1 HB GE1187)) : w.heap.size ≤ gb1188)); have GE1188 := ak ((by rw [hg]; exact (below_size (bl1 HB GE1187)) : w.heap.size ≤ gb1188)); replace HB := ak (below_step (bl1 HB GE1187) hb); have NB1187_1188 := ak ((by rw [hg]; exact Nat.ne_of_lt (blk_lt (bk BK1187)) : gb1187 ≠ gb1188)); have NB1188_1187 := ak ((by rw [hg]; exact Nat.ne_of_gt (blk_lt (bk BK1187)) : gb1188 ≠ gb1187)); replace BK1187 := ak (blk_below (bk BK1187) hb); clear hb hbox hg; have hnb7 := NB1187_1188.out; have hnc7 := NB1188_1187.out; have hcz8_0 := bc w6 BK1187 0 (.int .i64 a0_0) rfl; have hcz8_1 := bc w6 BK1187 1 (.slice A0_1 l0_1.length c0_1) rfl; have hcz8_2 := bc w6 BK1187 2 (.slice A0_2 l0_2.length c0_2) rfl; have hfz8_0 := fz BK1187 0; have hfz8_1 := fz BK1187 1; have hfz8_2 := fz BK1187 2) | ((with_reducible refine gate_callee (f := 29) rfl ?_); refine goesL_ (some 18) rfl rfl Try.func29 (by kernel_rfl) rfl #[.agg #[.int .i64 a0_0, .slice A0_1 l0_1.length c0_1, .slice A0_2 l0_2.length c0_2], .int .i64 1048576] rfl (by (try simp only [List.map_toArray, List.map_cons, List.map_nil]); rfl) ?_; (with_reducible refine (laws_szLive.calls a0_0 _ _ l0_1 _ _ l0_2 1048576 t1189 _ ?side1 ?side2 ?side3 ?side4 A3.out).mono ?_); (case side1 => repeat (exact (Kd.C_below HR0_1.out HB.out))); (case side2 => exact HC0_1.out); (case side3 => repeat (exact (Kd.C_below HR0_2.out HB.out))); (case side4 => exact HC0_2.out); rintro e w9 ⟨rfl, hb⟩; refine ⟨_, rfl, ?_⟩; replace BK1187 := ak (blk_below (bk BK1187) hb); replace BK1188 := ak (blk_below (bk BK1188) hb); replace HB := ak (below_step (bl2 HB GE1187 GE1188) hb); (try clear hb); (try clear hb2); (try clear hk); (try clear hi)))
  go_ret
  exact ⟨by rfl, bl2 HB GE1187 GE1188⟩
 rw [if_neg c4] at H
 have c4b0 : decide (t1189 < 0) = false := decide_eq_false c4
 clear c4
 replace H := Option.bind_eq_some_iff.mp H
 obtain ⟨⟨t1190, t1191, t1194⟩, A100, H⟩ := H
 have A10 := ak A100
 clear A100
 replace H := Option.bind_eq_some_iff.mp H
 obtain ⟨⟨t1197, t1198, t1199⟩, A110, H⟩ := H
 have A11 := ak A110
 clear A110
 replace H := Option.bind_eq_some_iff.mp H
 obtain ⟨⟨t1200, t1201, t1204, t1207⟩, A120, H⟩ := H
 have A12 := ak A120
 clear A120
 replace H := Option.bind_eq_some_iff.mp H
 obtain ⟨⟨t1209, t1210, t1213⟩, A130, H⟩ := H
 have A13 := ak A130
 clear A130
 replace H := Option.bind_eq_some_iff.mp H
 obtain ⟨⟨t1217, t1218, t1219⟩, A140, H⟩ := H
 have A14 := ak A140
 clear A140
 replace H := Option.bind_eq_some_iff.mp H
 obtain ⟨⟨t1220, t1221, t1224, t1227⟩, A150, H⟩ := H
 have A15 := ak A150
 clear A150
 have HC16 := ak H
 clear H
 go_enter Try.func11, Try.ntmps11
 try go_wp2_with (first | ((with_reducible refine gate_dst (N := 2) rfl ?_); refine box_event ?hg (N := 2) ?hd (cs := #[.int .i64 a0_0, .slice A0_1 l0_1.length c0_1, .slice A0_2 l0_2.length c0_2]) (t := 44) ?hr ?_; (case hd => rfl); (case hg => rfl); (case hr => (go_simp; done)); intro gb1187 hg w17 hbox hb; have BK1187 := ak (hbox); have GW1187 := ak ((by rw [hg]; exact (below_size (bl HB)) : w.heap.size ≤ gb1187)); have GE1187 := ak ((by rw [hg]; exact (below_size (bl HB)) : w.heap.size ≤ gb1187)); replace HB := ak (below_step (bl HB) hb); clear hb hbox hg) | ((with_reducible refine gate_dst (N := 3) rfl ?_); refine box_event ?hg (N := 3) ?hd (cs := #[.int .i64 a1_0, .int .i64 a1_1, .int .i64 a1_2]) (t := 68) ?hr ?_; (case hd => rfl); (case hg => rfl); (case hr => (go_simp; done)); intro gb1188 hg w18 hbox hb; have BK1188 := ak (hbox); have GW1188 := ak ((by rw [hg]; exact (below_size (bl1 HB GE1187)) : w.heap.size ≤ gb1188)); have GE1188 := ak ((by rw [hg]; exact (below_size (bl1 HB GE1187)) : w.heap.size ≤ gb1188)); replace HB := ak (below_step (bl1 HB GE1187) hb); have NB1187_1188 := ak ((by rw [hg]; exact Nat.ne_of_lt (blk_lt (bk BK1187)) : gb1187 ≠ gb1188)); have NB1188_1187 := ak ((by rw [hg]; exact Nat.ne_of_gt (blk_lt (bk BK1187)) : gb1188 ≠ gb1187)); replace BK1187 := ak (blk_below (bk BK1187) hb); clear hb hbox hg; have hnb19 := NB1187_1188.out; have hnc19 := NB1188_1187.out; have hcz20_0 := bc w18 BK1187 0 (.int .i64 a0_0) rfl; have hcz20_1 := bc w18 BK1187 1 (.slice A0_1 l0_1.length c0_1) rfl; have hcz20_2 := bc w18 BK1187 2 (.slice A0_2 l0_2.length c0_2) rfl; have hfz20_0 := fz BK1187 0; have hfz20_1 := fz BK1187 1; have hfz20_2 := fz BK1187 2) | ((with_reducible refine gate_callee (f := 29) rfl ?_); refine goesL_ (some 18) rfl rfl Try.func29 (by kernel_rfl) rfl #[.agg #[.int .i64 a0_0, .slice A0_1 l0_1.length c0_1, .slice A0_2 l0_2.length c0_2], .int .i64 1048576] rfl (by (try simp only [List.map_toArray, List.map_cons, List.map_nil]); rfl) ?_; (with_reducible refine (laws_szLive.calls a0_0 _ _ l0_1 _ _ l0_2 1048576 t1189 _ ?side1 ?side2 ?side3 ?side4 A3.out).mono ?_); (case side1 => repeat (exact (Kd.C_below HR0_1.out HB.out))); (case side2 => exact HC0_1.out); (case side3 => repeat (exact (Kd.C_below HR0_2.out HB.out))); (case side4 => exact HC0_2.out); rintro e w21 ⟨rfl, hb⟩; refine ⟨_, rfl, ?_⟩; replace BK1187 := ak (blk_below (bk BK1187) hb); replace BK1188 := ak (blk_below (bk BK1188) hb); replace HB := ak (below_step (bl2 HB GE1187 GE1188) hb); (try clear hb); (try clear hb2); (try clear hk); (try clear hi)))
 replace BK1187 := ak (blk_drew BK1187.out)
 replace BK1188 := ak (blk_drew BK1188.out)
 replace HB := ak (below_drew1 HB.out)
 refine start_ (n := 11) (S := fun w' => w'.cell? ⟨gb1187, 0, none⟩ = some (.int .i64 a0_0) ∧ w'.cell? ⟨gb1187, 1, none⟩ = some (.slice A0_1 l0_1.length c0_1) ∧ w'.cell? ⟨gb1187, 2, none⟩ = some (.slice A0_2 l0_2.length c0_2) ∧ w'.cell? ⟨gb1188, 0, none⟩ = some (.int .i64 a1_0) ∧ w'.cell? ⟨gb1188, 1, none⟩ = some (.int .i64 a1_1) ∧ w'.cell? ⟨gb1188, 2, none⟩ = some (.int .i64 a1_2)) (ds := []) (ms 11 0) (by kernel_rfl) rfl (by kernel_rfl) ⟨(blk_cell BK1187.out 0).trans rfl, (blk_cell BK1187.out 1).trans rfl, (blk_cell BK1187.out 2).trans rfl, (blk_cell BK1188.out 0).trans rfl, (blk_cell BK1188.out 1).trans rfl, (blk_cell BK1188.out 2).trans rfl⟩ (fun hHeld => ?_); refine with_tabW laws_FnExactLiveTell.tab5 laws_FnExactLiveTell.bits5 (fun HT_ HW_ => ?_)
 generalize w21.drew = w22 at BK1187 BK1188 HB hHeld ⊢
 refine tk 0 22 ?_ (ms 11 1) rfl rfl HT_ HW_ (by kernel_rfl) (fun _ _ _ h => h) (by rfl) ?_ hHeld ?_ ?_ ?_
 rotate_left
 ·rintro w' ⟨s0, s1, s2, s3, s4, s5⟩
  go_simp
  with_reducible rfl
 rotate_left
 ·simp only [SX]
  rfl
 refine tk 2 24 ?_ (ms 11 5) rfl rfl HT_ HW_ (by kernel_rfl) (fun _ _ _ h => h) (by rfl) ?_ hHeld ?_ ?_ ?_
 rotate_left
 ·rintro w' ⟨s0, s1, s2, s3, s4, s5⟩
  go_simp
  with_reducible rfl
 rotate_left
 ·simp only [SX]
  rfl
 refine join_ (σ := Value × Value × Value × Value × Nat) 2 (ms 11 511) (fun s_ => [(23, .agg #[.int .i64 t1190, s_.1, s_.2.1]), (25, .agg #[.int .i64 t1197, .int .i64 t1198, .int .i64 t1199]), (26, .tuple #[.agg #[.int .i64 t1200, s_.2.2.1, s_.2.2.2.1], .bool t1207]), (6, .pointer (some ⟨s_.2.2.2.2, 0, none⟩)), (21, .tuple #[.agg #[.int .i64 t1200, s_.2.2.1, s_.2.2.2.1], .bool t1207]), (27, .agg #[.int .i64 t1200, s_.2.2.1, s_.2.2.2.1]), (28, .bool t1207)]) (fun s_ w' => (w'.cell? ⟨gb1187, 0, none⟩ = some (.int .i64 a0_0) ∧ w'.cell? ⟨gb1187, 1, none⟩ = some (.slice A0_1 l0_1.length c0_1) ∧ w'.cell? ⟨gb1187, 2, none⟩ = some (.slice A0_2 l0_2.length c0_2) ∧ w'.cell? ⟨gb1188, 0, none⟩ = some (.int .i64 a1_0) ∧ w'.cell? ⟨gb1188, 1, none⟩ = some (.int .i64 a1_1) ∧ w'.cell? ⟨gb1188, 2, none⟩ = some (.int .i64 a1_2)) ∧ (Kd.R k100 100 w' w.heap.size (fun k_ => some k_ ≠ (s_.2.2.1 : Value).ownBlock) s_.1 t1191) ∧ (Kd.R k70 70 w' w.heap.size (fun k_ => some k_ ≠ (s_.2.2.2.1 : Value).ownBlock) s_.2.1 t1194) ∧ (Kd.R k100 100 w' w.heap.size (fun k_ => some k_ ≠ (s_.1 : Value).ownBlock) s_.2.2.1 t1201) ∧ (Kd.R k70 70 w' w.heap.size (fun k_ => some k_ ≠ (s_.2.1 : Value).ownBlock) s_.2.2.2.1 t1204) ∧ (w'.heap[gb1187]? = some (.cells #[.int .i64 a0_0, .slice A0_1 l0_1.length c0_1, .slice A0_2 l0_2.length c0_2] 44 (0, 0))) ∧ (w'.heap[gb1188]? = some (.cells #[.int .i64 a1_0, .int .i64 a1_1, .int .i64 a1_2] 68 (0, 0))) ∧ (w'.heap[s_.2.2.2.2]? = some (.cells #[.int .i64 0, .slice none 0 0, .slice none 0 0] 49 (0, 0))) ∧ (w.heap.size ≤ s_.2.2.2.2) ∧ (w.heap.size ≤ s_.2.2.2.2) ∧ (gb1187 ≠ s_.2.2.2.2) ∧ (s_.2.2.2.2 ≠ gb1187) ∧ (gb1188 ≠ s_.2.2.2.2) ∧ (s_.2.2.2.2 ≠ gb1188) ∧ (Below w.heap.size w w')) ?_ ?_
 rotate_left
 ·intro hCont
  refine two_ (i := 1) (j := 8) (Ni := some 23) (Nj := some 6) (ms 11 7) (ms 11 261) rfl rfl rfl rfl (two_of HT_.out (by kernel_rfl)) (by decide) (by decide) (fun K hK => ?_) (fun K hK => ?_)
  rotate_left
  ·skip
   refine box_step ?hg (N := 6) ?hd (cs := #[.int .i64 0, .slice none 0 0, .slice none 0 0]) (t := 49) ?hr ?_; (case hd => rfl); (case hg => rfl); (case hr => (go_simp; done))
   intro gb1208 hg w23 hbox hb
   have BK1208 := ak (hbox)
   have GW1208 := ak ((by rw [hg]; exact (below_size (bl2 HB GE1187 GE1188)) : w.heap.size ≤ gb1208))
   have GE1208 := ak ((by rw [hg]; exact (below_size (bl2 HB GE1187 GE1188)) : w.heap.size ≤ gb1208))
   replace HB := ak (below_step (bl2 HB GE1187 GE1188) hb)
   have NB1187_1208 := ak ((by rw [hg]; exact Nat.ne_of_lt (blk_lt (bk BK1187)) : gb1187 ≠ gb1208))
   have NB1208_1187 := ak ((by rw [hg]; exact Nat.ne_of_gt (blk_lt (bk BK1187)) : gb1208 ≠ gb1187))
   replace BK1187 := ak (blk_below (bk BK1187) hb)
   have NB1188_1208 := ak ((by rw [hg]; exact Nat.ne_of_lt (blk_lt (bk BK1188)) : gb1188 ≠ gb1208))
   have NB1208_1188 := ak ((by rw [hg]; exact Nat.ne_of_gt (blk_lt (bk BK1188)) : gb1208 ≠ gb1188))
   replace BK1188 := ak (blk_below (bk BK1188) hb)
   clear hb hbox hg
   refine hK.out _ _ ⟨(blk_cell BK1187.out 0).trans rfl, (blk_cell BK1187.out 1).trans rfl, (blk_cell BK1187.out 2).trans rfl, (blk_cell BK1188.out 0).trans rfl, (blk_cell BK1188.out 1).trans rfl, (blk_cell BK1188.out 2).trans rfl⟩ (fun hHeld => ?_)
   clear hK K
   refine norm_ (a' := ?_) ?_ ?_
   rotate_left
   ·show Act.put _ (some 6) _ = _
    simp only [SX]
    rfl
   refine one_ (i := 1) (N := some 23) (ms 11 263) rfl rfl (one_of HT_.out (by kernel_rfl)) (by decide) (fun K hK => ?_)
   refine goes_ Try.func31 (by kernel_rfl) rfl #[.agg #[.int .i64 a0_0, .slice A0_1 l0_1.length c0_1, .slice A0_2 l0_2.length c0_2]] (by rfl) rfl rfl (by (try simp only [List.map_toArray, List.map_cons, List.map_nil]); rfl) ?_
   with_reducible refine (laws_toLive.calls k a0_0 _ _ l0_1 _ _ l0_2 t1190 t1191 t1194 _ ?side1 ?side2 ?side3 ?side4 A10.out).mono ?_
   (case side1 => repeat (exact (Kd.C_below HR0_1.out HB.out)))
   (case side2 => exact HC0_1.out)
   (case side3 => repeat (exact (Kd.C_below HR0_2.out HB.out)))
   (case side4 => exact HC0_2.out)
   rintro e w24 ⟨v1192, v1195, rfl, ho0, ho1, hb⟩
   refine ⟨_, rfl, ?_⟩
   have HO1193 := ak (Kd.R_lower ho0 (below_size (bl3 HB GE1187 GE1188 GE1208)))
   have HO1196 := ak (Kd.R_lower ho1 (below_size (bl3 HB GE1187 GE1188 GE1208)))
   replace BK1187 := ak (blk_below (bk BK1187) hb)
   replace BK1188 := ak (blk_below (bk BK1188) hb)
   replace BK1208 := ak (blk_below (bk BK1208) hb)
   replace HB := ak (below_step (bl3 HB GE1187 GE1188 GE1208) hb)
   (try clear hb)
   (try clear hb2)
   (try clear hk)
   (try clear hi)
   (try clear ho0)
   (try clear ho1)
   refine hK.out _ _ ⟨(blk_cell BK1187.out 0).trans rfl, (blk_cell BK1187.out 1).trans rfl, (blk_cell BK1187.out 2).trans rfl, (blk_cell BK1188.out 0).trans rfl, (blk_cell BK1188.out 1).trans rfl, (blk_cell BK1188.out 2).trans rfl⟩ (fun hHeld => ?_)
   clear hK K
   refine norm_ (a' := ?_) ?_ ?_
   rotate_left
   ·show Act.put _ (some 23) _ = _
    simp only [SX]
    rfl
   refine one_ (i := 3) (N := some 25) (ms 11 271) rfl rfl (one_of HT_.out (by kernel_rfl)) (by decide) (fun K hK => ?_)
   refine goes_ Try.func48 (by kernel_rfl) rfl #[.agg #[.int .i64 a1_0, .int .i64 a1_1, .int .i64 a1_2]] (by rfl) rfl rfl (by (try simp only [List.map_toArray, List.map_cons, List.map_nil]); rfl) ?_
   with_reducible refine (laws_toNews.calls a1_0 a1_1 a1_2 t1197 t1198 t1199 _ A11.out).mono ?_
   rintro e w25 ⟨rfl, hb⟩
   refine ⟨_, rfl, ?_⟩
   replace HO1193 := ak (Kd.R_below (rk HO1193) hb)
   replace HO1196 := ak (Kd.R_below (rk HO1196) hb)
   replace BK1187 := ak (blk_below (bk BK1187) hb)
   replace BK1188 := ak (blk_below (bk BK1188) hb)
   replace BK1208 := ak (blk_below (bk BK1208) hb)
   replace HB := ak (below_step (bl3 HB GE1187 GE1188 GE1208) hb)
   (try clear hb)
   (try clear hb2)
   (try clear hk)
   (try clear hi)
   obtain ⟨Ao26, co26, eo26⟩ := Kd.R_slice HO1193.out
   (subst eo26)
   obtain ⟨Ao27, co27, eo27⟩ := Kd.R_slice HO1196.out
   (subst eo27)
   refine hK.out _ _ ⟨(blk_cell BK1187.out 0).trans rfl, (blk_cell BK1187.out 1).trans rfl, (blk_cell BK1187.out 2).trans rfl, (blk_cell BK1188.out 0).trans rfl, (blk_cell BK1188.out 1).trans rfl, (blk_cell BK1188.out 2).trans rfl⟩ (fun hHeld => ?_)
   clear hK K
   refine norm_ (a' := ?_) ?_ ?_
   rotate_left
   ·show Act.put _ (some 25) _ = _
    simp only [SX]
    rfl
   refine one_ (i := 4) (N := some 26) (ms 11 287) rfl rfl (one_of HT_.out (by kernel_rfl)) (by decide) (fun K hK => ?_)
   refine goes_ Try.func47 (by kernel_rfl) rfl #[.agg #[.int .i64 t1190, .slice Ao26 t1191.length co26, .slice Ao27 t1194.length co27], .agg #[.int .i64 t1197, .int .i64 t1198, .int .i64 t1199]] (by rfl) rfl rfl (by (try simp only [List.map_toArray, List.map_cons, List.map_nil]); rfl) ?_
   with_reducible refine (spec_LiveTell.calls k t1190 _ _ t1191 _ _ t1194 t1197 t1198 t1199 t1200 t1201 t1204 t1207 _ ?side1 ?side2 ?side3 ?side4 A12.out).mono ?_
   (case side1 => repeat (exact (Kd.R_reads' HO1193.out).2.2))
   (case side2 => exact (Kd.R_reads' HO1193.out).2.1)
   (case side3 => repeat (exact (Kd.R_reads' HO1196.out).2.2))
   (case side4 => exact (Kd.R_reads' HO1196.out).2.1)
   rintro e w28 ⟨v1202, v1205, rfl, ho0, ho1, hb⟩
   refine ⟨_, rfl, ?_⟩
   have HO1203 := ak (Kd.R_lower (Kd.R_new' ho0 (Kd.R_lt (rk HO1193))) (below_size (bl3 HB GE1187 GE1188 GE1208)))
   replace HO1193 := ak (Kd.R_elder' (rk HO1193) (Kd.R_base ho0) hb)
   have HO1206 := ak (Kd.R_lower (Kd.R_new' ho1 (Kd.R_lt (rk HO1196))) (below_size (bl3 HB GE1187 GE1188 GE1208)))
   replace HO1196 := ak (Kd.R_elder' (rk HO1196) (Kd.R_base ho1) hb)
   replace BK1187 := ak (blk_below (bk BK1187) hb)
   replace BK1188 := ak (blk_below (bk BK1188) hb)
   replace BK1208 := ak (blk_below (bk BK1208) hb)
   replace HB := ak (below_step (bl3 HB GE1187 GE1188 GE1208) hb)
   (try clear hb)
   (try clear hb2)
   (try clear hk)
   (try clear hi)
   (try clear ho0)
   (try clear ho1)
   refine hK.out _ _ ⟨(blk_cell BK1187.out 0).trans rfl, (blk_cell BK1187.out 1).trans rfl, (blk_cell BK1187.out 2).trans rfl, (blk_cell BK1188.out 0).trans rfl, (blk_cell BK1188.out 1).trans rfl, (blk_cell BK1188.out 2).trans rfl⟩ (fun hHeld => ?_)
   clear hK K
   refine norm_ (a' := ?_) ?_ ?_
   rotate_left
   ·show Act.put _ (some 26) _ = _
    simp only [SX]
    rfl
   refine pu 5 21 ?_ (ms 11 319) rfl rfl HT_ (by kernel_rfl) (fun _ _ _ h => h) (by rfl) ?_ ?_ ?_ ?_
   rotate_left
   ·intro w'
    go_simp
    with_reducible rfl
   rotate_left
   ·simp only [SX]
    rfl
   refine pu 6 27 ?_ (ms 11 383) rfl rfl HT_ (by kernel_rfl) (fun _ _ _ h => h) (by rfl) ?_ ?_ ?_ ?_
   rotate_left
   ·intro w'
    go_simp
    with_reducible rfl
   rotate_left
   ·simp only [SX]
    rfl
   refine pu 7 28 ?_ (ms 11 511) rfl rfl HT_ (by kernel_rfl) (fun _ _ _ h => h) (by rfl) ?_ ?_ ?_ ?_
   rotate_left
   ·intro w'
    go_simp
    with_reducible rfl
   rotate_left
   ·simp only [SX]
    rfl
   exact norm_ (by simp only [putAll, Act.put, List.setIfInBounds_toArray, List.set_cons_zero, List.set_cons_succ]) (hCont (.slice Ao26 t1191.length co26, .slice Ao27 t1194.length co27, v1202, v1205, gb1208) _ ⟨hHeld, (by exact Kd.R_mono HO1193.out (fun _ hk => hk.2)), (by exact Kd.R_mono HO1196.out (fun _ hk => hk.2)), (by exact Kd.R_mono HO1203.out (fun _ hk => hk.2)), (by exact Kd.R_mono HO1206.out (fun _ hk => hk.2)), (bk BK1187), (bk BK1188), (bk BK1208), GW1208.out, GE1208.out, NB1187_1208.out, NB1208_1187.out, NB1188_1208.out, NB1208_1188.out, (bl3 HB GE1187 GE1188 GE1208)⟩)
  skip
  refine goes_ Try.func31 (by kernel_rfl) rfl #[.agg #[.int .i64 a0_0, .slice A0_1 l0_1.length c0_1, .slice A0_2 l0_2.length c0_2]] (by rfl) rfl rfl (by (try simp only [List.map_toArray, List.map_cons, List.map_nil]); rfl) ?_
  with_reducible refine (laws_toLive.calls k a0_0 _ _ l0_1 _ _ l0_2 t1190 t1191 t1194 _ ?side1 ?side2 ?side3 ?side4 A10.out).mono ?_
  (case side1 => repeat (exact (Kd.C_below HR0_1.out HB.out)))
  (case side2 => exact HC0_1.out)
  (case side3 => repeat (exact (Kd.C_below HR0_2.out HB.out)))
  (case side4 => exact HC0_2.out)
  rintro e w23 ⟨v1192, v1195, rfl, ho0, ho1, hb⟩
  refine ⟨_, rfl, ?_⟩
  have HO1193 := ak (Kd.R_lower ho0 (below_size (bl2 HB GE1187 GE1188)))
  have HO1196 := ak (Kd.R_lower ho1 (below_size (bl2 HB GE1187 GE1188)))
  replace BK1187 := ak (blk_below (bk BK1187) hb)
  replace BK1188 := ak (blk_below (bk BK1188) hb)
  replace HB := ak (below_step (bl2 HB GE1187 GE1188) hb)
  (try clear hb)
  (try clear hb2)
  (try clear hk)
  (try clear hi)
  (try clear ho0)
  (try clear ho1)
  refine hK.out _ _ ⟨(blk_cell BK1187.out 0).trans rfl, (blk_cell BK1187.out 1).trans rfl, (blk_cell BK1187.out 2).trans rfl, (blk_cell BK1188.out 0).trans rfl, (blk_cell BK1188.out 1).trans rfl, (blk_cell BK1188.out 2).trans rfl⟩ (fun hHeld => ?_)
  clear hK K
  refine norm_ (a' := ?_) ?_ ?_
  rotate_left
  ·show Act.put _ (some 23) _ = _
   simp only [SX]
   rfl
  refine two_ (i := 3) (j := 8) (Ni := some 25) (Nj := some 6) (ms 11 15) (ms 11 263) rfl rfl rfl rfl (two_of HT_.out (by kernel_rfl)) (by decide) (by decide) (fun K hK => ?_) (fun K hK => ?_)
  rotate_left
  ·skip
   refine box_step ?hg (N := 6) ?hd (cs := #[.int .i64 0, .slice none 0 0, .slice none 0 0]) (t := 49) ?hr ?_; (case hd => rfl); (case hg => rfl); (case hr => (go_simp; done))
   intro gb1208 hg w24 hbox hb
   replace HO1193 := ak (Kd.R_below (rk HO1193) hb)
   replace HO1196 := ak (Kd.R_below (rk HO1196) hb)
   have BK1208 := ak (hbox)
   have GW1208 := ak ((by rw [hg]; exact (below_size (bl2 HB GE1187 GE1188)) : w.heap.size ≤ gb1208))
   have GE1208 := ak ((by rw [hg]; exact (below_size (bl2 HB GE1187 GE1188)) : w.heap.size ≤ gb1208))
   replace HB := ak (below_step (bl2 HB GE1187 GE1188) hb)
   have NB1187_1208 := ak ((by rw [hg]; exact Nat.ne_of_lt (blk_lt (bk BK1187)) : gb1187 ≠ gb1208))
   have NB1208_1187 := ak ((by rw [hg]; exact Nat.ne_of_gt (blk_lt (bk BK1187)) : gb1208 ≠ gb1187))
   replace BK1187 := ak (blk_below (bk BK1187) hb)
   have NB1188_1208 := ak ((by rw [hg]; exact Nat.ne_of_lt (blk_lt (bk BK1188)) : gb1188 ≠ gb1208))
   have NB1208_1188 := ak ((by rw [hg]; exact Nat.ne_of_gt (blk_lt (bk BK1188)) : gb1208 ≠ gb1188))
   replace BK1188 := ak (blk_below (bk BK1188) hb)
   clear hb hbox hg
   refine hK.out _ _ ⟨(blk_cell BK1187.out 0).trans rfl, (blk_cell BK1187.out 1).trans rfl, (blk_cell BK1187.out 2).trans rfl, (blk_cell BK1188.out 0).trans rfl, (blk_cell BK1188.out 1).trans rfl, (blk_cell BK1188.out 2).trans rfl⟩ (fun hHeld => ?_)
   clear hK K
   refine norm_ (a' := ?_) ?_ ?_
   rotate_left
   ·show Act.put _ (some 6) _ = _
    simp only [SX]
    rfl
   refine one_ (i := 3) (N := some 25) (ms 11 271) rfl rfl (one_of HT_.out (by kernel_rfl)) (by decide) (fun K hK => ?_)
   refine goes_ Try.func48 (by kernel_rfl) rfl #[.agg #[.int .i64 a1_0, .int .i64 a1_1, .int .i64 a1_2]] (by rfl) rfl rfl (by (try simp only [List.map_toArray, List.map_cons, List.map_nil]); rfl) ?_
   with_reducible refine (laws_toNews.calls a1_0 a1_1 a1_2 t1197 t1198 t1199 _ A11.out).mono ?_
   rintro e w25 ⟨rfl, hb⟩
   refine ⟨_, rfl, ?_⟩
   replace HO1193 := ak (Kd.R_below (rk HO1193) hb)
   replace HO1196 := ak (Kd.R_below (rk HO1196) hb)
   replace BK1187 := ak (blk_below (bk BK1187) hb)
   replace BK1188 := ak (blk_below (bk BK1188) hb)
   replace BK1208 := ak (blk_below (bk BK1208) hb)
   replace HB := ak (below_step (bl3 HB GE1187 GE1188 GE1208) hb)
   (try clear hb)
   (try clear hb2)
   (try clear hk)
   (try clear hi)
   obtain ⟨Ao26, co26, eo26⟩ := Kd.R_slice HO1193.out
   (subst eo26)
   obtain ⟨Ao27, co27, eo27⟩ := Kd.R_slice HO1196.out
   (subst eo27)
   refine hK.out _ _ ⟨(blk_cell BK1187.out 0).trans rfl, (blk_cell BK1187.out 1).trans rfl, (blk_cell BK1187.out 2).trans rfl, (blk_cell BK1188.out 0).trans rfl, (blk_cell BK1188.out 1).trans rfl, (blk_cell BK1188.out 2).trans rfl⟩ (fun hHeld => ?_)
   clear hK K
   refine norm_ (a' := ?_) ?_ ?_
   rotate_left
   ·show Act.put _ (some 25) _ = _
    simp only [SX]
    rfl
   refine one_ (i := 4) (N := some 26) (ms 11 287) rfl rfl (one_of HT_.out (by kernel_rfl)) (by decide) (fun K hK => ?_)
   refine goes_ Try.func47 (by kernel_rfl) rfl #[.agg #[.int .i64 t1190, .slice Ao26 t1191.length co26, .slice Ao27 t1194.length co27], .agg #[.int .i64 t1197, .int .i64 t1198, .int .i64 t1199]] (by rfl) rfl rfl (by (try simp only [List.map_toArray, List.map_cons, List.map_nil]); rfl) ?_
   with_reducible refine (spec_LiveTell.calls k t1190 _ _ t1191 _ _ t1194 t1197 t1198 t1199 t1200 t1201 t1204 t1207 _ ?side1 ?side2 ?side3 ?side4 A12.out).mono ?_
   (case side1 => repeat (exact (Kd.R_reads' HO1193.out).2.2))
   (case side2 => exact (Kd.R_reads' HO1193.out).2.1)
   (case side3 => repeat (exact (Kd.R_reads' HO1196.out).2.2))
   (case side4 => exact (Kd.R_reads' HO1196.out).2.1)
   rintro e w28 ⟨v1202, v1205, rfl, ho0, ho1, hb⟩
   refine ⟨_, rfl, ?_⟩
   have HO1203 := ak (Kd.R_lower (Kd.R_new' ho0 (Kd.R_lt (rk HO1193))) (below_size (bl3 HB GE1187 GE1188 GE1208)))
   replace HO1193 := ak (Kd.R_elder' (rk HO1193) (Kd.R_base ho0) hb)
   have HO1206 := ak (Kd.R_lower (Kd.R_new' ho1 (Kd.R_lt (rk HO1196))) (below_size (bl3 HB GE1187 GE1188 GE1208)))
   replace HO1196 := ak (Kd.R_elder' (rk HO1196) (Kd.R_base ho1) hb)
   replace BK1187 := ak (blk_below (bk BK1187) hb)
   replace BK1188 := ak (blk_below (bk BK1188) hb)
   replace BK1208 := ak (blk_below (bk BK1208) hb)
   replace HB := ak (below_step (bl3 HB GE1187 GE1188 GE1208) hb)
   (try clear hb)
   (try clear hb2)
   (try clear hk)
   (try clear hi)
   (try clear ho0)
   (try clear ho1)
   refine hK.out _ _ ⟨(blk_cell BK1187.out 0).trans rfl, (blk_cell BK1187.out 1).trans rfl, (blk_cell BK1187.out 2).trans rfl, (blk_cell BK1188.out 0).trans rfl, (blk_cell BK1188.out 1).trans rfl, (blk_cell BK1188.out 2).trans rfl⟩ (fun hHeld => ?_)
   clear hK K
   refine norm_ (a' := ?_) ?_ ?_
   rotate_left
   ·show Act.put _ (some 26) _ = _
    simp only [SX]
    rfl
   refine pu 5 21 ?_ (ms 11 319) rfl rfl HT_ (by kernel_rfl) (fun _ _ _ h => h) (by rfl) ?_ ?_ ?_ ?_
   rotate_left
   ·intro w'
    go_simp
    with_reducible rfl
   rotate_left
   ·simp only [SX]
    rfl
   refine pu 6 27 ?_ (ms 11 383) rfl rfl HT_ (by kernel_rfl) (fun _ _ _ h => h) (by rfl) ?_ ?_ ?_ ?_
   rotate_left
   ·intro w'
    go_simp
    with_reducible rfl
   rotate_left
   ·simp only [SX]
    rfl
   refine pu 7 28 ?_ (ms 11 511) rfl rfl HT_ (by kernel_rfl) (fun _ _ _ h => h) (by rfl) ?_ ?_ ?_ ?_
   rotate_left
   ·intro w'
    go_simp
    with_reducible rfl
   rotate_left
   ·simp only [SX]
    rfl
   exact norm_ (by simp only [putAll, Act.put, List.setIfInBounds_toArray, List.set_cons_zero, List.set_cons_succ]) (hCont (.slice Ao26 t1191.length co26, .slice Ao27 t1194.length co27, v1202, v1205, gb1208) _ ⟨hHeld, (by exact Kd.R_mono HO1193.out (fun _ hk => hk.2)), (by exact Kd.R_mono HO1196.out (fun _ hk => hk.2)), (by exact Kd.R_mono HO1203.out (fun _ hk => hk.2)), (by exact Kd.R_mono HO1206.out (fun _ hk => hk.2)), (bk BK1187), (bk BK1188), (bk BK1208), GW1208.out, GE1208.out, NB1187_1208.out, NB1208_1187.out, NB1188_1208.out, NB1208_1188.out, (bl3 HB GE1187 GE1188 GE1208)⟩)
  skip
  refine goes_ Try.func48 (by kernel_rfl) rfl #[.agg #[.int .i64 a1_0, .int .i64 a1_1, .int .i64 a1_2]] (by rfl) rfl rfl (by (try simp only [List.map_toArray, List.map_cons, List.map_nil]); rfl) ?_
  with_reducible refine (laws_toNews.calls a1_0 a1_1 a1_2 t1197 t1198 t1199 _ A11.out).mono ?_
  rintro e w24 ⟨rfl, hb⟩
  refine ⟨_, rfl, ?_⟩
  replace HO1193 := ak (Kd.R_below (rk HO1193) hb)
  replace HO1196 := ak (Kd.R_below (rk HO1196) hb)
  replace BK1187 := ak (blk_below (bk BK1187) hb)
  replace BK1188 := ak (blk_below (bk BK1188) hb)
  replace HB := ak (below_step (bl2 HB GE1187 GE1188) hb)
  (try clear hb)
  (try clear hb2)
  (try clear hk)
  (try clear hi)
  obtain ⟨Ao25, co25, eo25⟩ := Kd.R_slice HO1193.out
  (subst eo25)
  obtain ⟨Ao26, co26, eo26⟩ := Kd.R_slice HO1196.out
  (subst eo26)
  refine hK.out _ _ ⟨(blk_cell BK1187.out 0).trans rfl, (blk_cell BK1187.out 1).trans rfl, (blk_cell BK1187.out 2).trans rfl, (blk_cell BK1188.out 0).trans rfl, (blk_cell BK1188.out 1).trans rfl, (blk_cell BK1188.out 2).trans rfl⟩ (fun hHeld => ?_)
  clear hK K
  refine norm_ (a' := ?_) ?_ ?_
  rotate_left
  ·show Act.put _ (some 25) _ = _
   simp only [SX]
   rfl
  refine two_ (i := 4) (j := 8) (Ni := some 26) (Nj := some 6) (ms 11 31) (ms 11 271) rfl rfl rfl rfl (two_of HT_.out (by kernel_rfl)) (by decide) (by decide) (fun K hK => ?_) (fun K hK => ?_)
  ·skip
   refine goes_ Try.func47 (by kernel_rfl) rfl #[.agg #[.int .i64 t1190, .slice Ao25 t1191.length co25, .slice Ao26 t1194.length co26], .agg #[.int .i64 t1197, .int .i64 t1198, .int .i64 t1199]] (by rfl) rfl rfl (by (try simp only [List.map_toArray, List.map_cons, List.map_nil]); rfl) ?_
   with_reducible refine (spec_LiveTell.calls k t1190 _ _ t1191 _ _ t1194 t1197 t1198 t1199 t1200 t1201 t1204 t1207 _ ?side1 ?side2 ?side3 ?side4 A12.out).mono ?_
   (case side1 => repeat (exact (Kd.R_reads' HO1193.out).2.2))
   (case side2 => exact (Kd.R_reads' HO1193.out).2.1)
   (case side3 => repeat (exact (Kd.R_reads' HO1196.out).2.2))
   (case side4 => exact (Kd.R_reads' HO1196.out).2.1)
   rintro e w27 ⟨v1202, v1205, rfl, ho0, ho1, hb⟩
   refine ⟨_, rfl, ?_⟩
   have HO1203 := ak (Kd.R_lower (Kd.R_new' ho0 (Kd.R_lt (rk HO1193))) (below_size (bl2 HB GE1187 GE1188)))
   replace HO1193 := ak (Kd.R_elder' (rk HO1193) (Kd.R_base ho0) hb)
   have HO1206 := ak (Kd.R_lower (Kd.R_new' ho1 (Kd.R_lt (rk HO1196))) (below_size (bl2 HB GE1187 GE1188)))
   replace HO1196 := ak (Kd.R_elder' (rk HO1196) (Kd.R_base ho1) hb)
   replace BK1187 := ak (blk_below (bk BK1187) hb)
   replace BK1188 := ak (blk_below (bk BK1188) hb)
   replace HB := ak (below_step (bl2 HB GE1187 GE1188) hb)
   (try clear hb)
   (try clear hb2)
   (try clear hk)
   (try clear hi)
   (try clear ho0)
   (try clear ho1)
   refine hK.out _ _ ⟨(blk_cell BK1187.out 0).trans rfl, (blk_cell BK1187.out 1).trans rfl, (blk_cell BK1187.out 2).trans rfl, (blk_cell BK1188.out 0).trans rfl, (blk_cell BK1188.out 1).trans rfl, (blk_cell BK1188.out 2).trans rfl⟩ (fun hHeld => ?_)
   clear hK K
   refine norm_ (a' := ?_) ?_ ?_
   rotate_left
   ·show Act.put _ (some 26) _ = _
    simp only [SX]
    rfl
   refine pu 5 21 ?_ (ms 11 63) rfl rfl HT_ (by kernel_rfl) (fun _ _ _ h => h) (by rfl) ?_ ?_ ?_ ?_
   rotate_left
   ·intro w'
    go_simp
    with_reducible rfl
   rotate_left
   ·simp only [SX]
    rfl
   refine pu 6 27 ?_ (ms 11 127) rfl rfl HT_ (by kernel_rfl) (fun _ _ _ h => h) (by rfl) ?_ ?_ ?_ ?_
   rotate_left
   ·intro w'
    go_simp
    with_reducible rfl
   rotate_left
   ·simp only [SX]
    rfl
   refine pu 7 28 ?_ (ms 11 255) rfl rfl HT_ (by kernel_rfl) (fun _ _ _ h => h) (by rfl) ?_ ?_ ?_ ?_
   rotate_left
   ·intro w'
    go_simp
    with_reducible rfl
   rotate_left
   ·simp only [SX]
    rfl
   refine one_ (i := 8) (N := some 6) (ms 11 511) rfl rfl (one_of HT_.out (by kernel_rfl)) (by decide) (fun K hK => ?_)
   refine box_step ?hg (N := 6) ?hd (cs := #[.int .i64 0, .slice none 0 0, .slice none 0 0]) (t := 49) ?hr ?_; (case hd => rfl); (case hg => rfl); (case hr => (go_simp; done))
   intro gb1208 hg w28 hbox hb
   replace HO1193 := ak (Kd.R_below (rk HO1193) hb)
   replace HO1196 := ak (Kd.R_below (rk HO1196) hb)
   replace HO1203 := ak (Kd.R_below (rk HO1203) hb)
   replace HO1206 := ak (Kd.R_below (rk HO1206) hb)
   have BK1208 := ak (hbox)
   have GW1208 := ak ((by rw [hg]; exact (below_size (bl2 HB GE1187 GE1188)) : w.heap.size ≤ gb1208))
   have GE1208 := ak ((by rw [hg]; exact (below_size (bl2 HB GE1187 GE1188)) : w.heap.size ≤ gb1208))
   replace HB := ak (below_step (bl2 HB GE1187 GE1188) hb)
   have NB1187_1208 := ak ((by rw [hg]; exact Nat.ne_of_lt (blk_lt (bk BK1187)) : gb1187 ≠ gb1208))
   have NB1208_1187 := ak ((by rw [hg]; exact Nat.ne_of_gt (blk_lt (bk BK1187)) : gb1208 ≠ gb1187))
   replace BK1187 := ak (blk_below (bk BK1187) hb)
   have NB1188_1208 := ak ((by rw [hg]; exact Nat.ne_of_lt (blk_lt (bk BK1188)) : gb1188 ≠ gb1208))
   have NB1208_1188 := ak ((by rw [hg]; exact Nat.ne_of_gt (blk_lt (bk BK1188)) : gb1208 ≠ gb1188))
   replace BK1188 := ak (blk_below (bk BK1188) hb)
   clear hb hbox hg
   refine hK.out _ _ ⟨(blk_cell BK1187.out 0).trans rfl, (blk_cell BK1187.out 1).trans rfl, (blk_cell BK1187.out 2).trans rfl, (blk_cell BK1188.out 0).trans rfl, (blk_cell BK1188.out 1).trans rfl, (blk_cell BK1188.out 2).trans rfl⟩ (fun hHeld => ?_)
   clear hK K
   refine norm_ (a' := ?_) ?_ ?_
   rotate_left
   ·show Act.put _ (some 6) _ = _
    simp only [SX]
    rfl
   exact norm_ (by simp only [putAll, Act.put, List.setIfInBounds_toArray, List.set_cons_zero, List.set_cons_succ]) (hCont (.slice Ao25 t1191.length co25, .slice Ao26 t1194.length co26, v1202, v1205, gb1208) _ ⟨hHeld, (by exact Kd.R_mono HO1193.out (fun _ hk => hk.2)), (by exact Kd.R_mono HO1196.out (fun _ hk => hk.2)), (by exact Kd.R_mono HO1203.out (fun _ hk => hk.2)), (by exact Kd.R_mono HO1206.out (fun _ hk => hk.2)), (bk BK1187), (bk BK1188), (bk BK1208), GW1208.out, GE1208.out, NB1187_1208.out, NB1208_1187.out, NB1188_1208.out, NB1208_1188.out, (bl3 HB GE1187 GE1188 GE1208)⟩)
  skip
  refine box_step ?hg (N := 6) ?hd (cs := #[.int .i64 0, .slice none 0 0, .slice none 0 0]) (t := 49) ?hr ?_; (case hd => rfl); (case hg => rfl); (case hr => (go_simp; done))
  intro gb1208 hg w25 hbox hb
  replace HO1193 := ak (Kd.R_below (rk HO1193) hb)
  replace HO1196 := ak (Kd.R_below (rk HO1196) hb)
  have BK1208 := ak (hbox)
  have GW1208 := ak ((by rw [hg]; exact (below_size (bl2 HB GE1187 GE1188)) : w.heap.size ≤ gb1208))
  have GE1208 := ak ((by rw [hg]; exact (below_size (bl2 HB GE1187 GE1188)) : w.heap.size ≤ gb1208))
  replace HB := ak (below_step (bl2 HB GE1187 GE1188) hb)
  have NB1187_1208 := ak ((by rw [hg]; exact Nat.ne_of_lt (blk_lt (bk BK1187)) : gb1187 ≠ gb1208))
  have NB1208_1187 := ak ((by rw [hg]; exact Nat.ne_of_gt (blk_lt (bk BK1187)) : gb1208 ≠ gb1187))
  replace BK1187 := ak (blk_below (bk BK1187) hb)
  have NB1188_1208 := ak ((by rw [hg]; exact Nat.ne_of_lt (blk_lt (bk BK1188)) : gb1188 ≠ gb1208))
  have NB1208_1188 := ak ((by rw [hg]; exact Nat.ne_of_gt (blk_lt (bk BK1188)) : gb1208 ≠ gb1188))
  replace BK1188 := ak (blk_below (bk BK1188) hb)
  clear hb hbox hg
  obtain ⟨Ao26, co26, eo26⟩ := Kd.R_slice HO1193.out
  ((injection eo26 with f1_ f2_ f3_; have f4_ := f1_.symm; have f5_ := f3_.symm; clear f1_ f2_ f3_; subst f4_; subst f5_))
  obtain ⟨Ao27, co27, eo27⟩ := Kd.R_slice HO1196.out
  ((injection eo27 with f1_ f2_ f3_; have f4_ := f1_.symm; have f5_ := f3_.symm; clear f1_ f2_ f3_; subst f4_; subst f5_))
  refine hK.out _ _ ⟨(blk_cell BK1187.out 0).trans rfl, (blk_cell BK1187.out 1).trans rfl, (blk_cell BK1187.out 2).trans rfl, (blk_cell BK1188.out 0).trans rfl, (blk_cell BK1188.out 1).trans rfl, (blk_cell BK1188.out 2).trans rfl⟩ (fun hHeld => ?_)
  clear hK K
  refine norm_ (a' := ?_) ?_ ?_
  rotate_left
  ·show Act.put _ (some 6) _ = _
   simp only [SX]
   rfl
  refine one_ (i := 4) (N := some 26) (ms 11 287) rfl rfl (one_of HT_.out (by kernel_rfl)) (by decide) (fun K hK => ?_)
  refine goes_ Try.func47 (by kernel_rfl) rfl #[.agg #[.int .i64 t1190, .slice Ao26 t1191.length co26, .slice Ao27 t1194.length co27], .agg #[.int .i64 t1197, .int .i64 t1198, .int .i64 t1199]] (by rfl) rfl rfl (by (try simp only [List.map_toArray, List.map_cons, List.map_nil]); rfl) ?_
  with_reducible refine (spec_LiveTell.calls k t1190 _ _ t1191 _ _ t1194 t1197 t1198 t1199 t1200 t1201 t1204 t1207 _ ?side1 ?side2 ?side3 ?side4 A12.out).mono ?_
  (case side1 => repeat (exact (Kd.R_reads' HO1193.out).2.2))
  (case side2 => exact (Kd.R_reads' HO1193.out).2.1)
  (case side3 => repeat (exact (Kd.R_reads' HO1196.out).2.2))
  (case side4 => exact (Kd.R_reads' HO1196.out).2.1)
  rintro e w28 ⟨v1202, v1205, rfl, ho0, ho1, hb⟩
  refine ⟨_, rfl, ?_⟩
  have HO1203 := ak (Kd.R_lower (Kd.R_new' ho0 (Kd.R_lt (rk HO1193))) (below_size (bl3 HB GE1187 GE1188 GE1208)))
  replace HO1193 := ak (Kd.R_elder' (rk HO1193) (Kd.R_base ho0) hb)
  have HO1206 := ak (Kd.R_lower (Kd.R_new' ho1 (Kd.R_lt (rk HO1196))) (below_size (bl3 HB GE1187 GE1188 GE1208)))
  replace HO1196 := ak (Kd.R_elder' (rk HO1196) (Kd.R_base ho1) hb)
  replace BK1187 := ak (blk_below (bk BK1187) hb)
  replace BK1188 := ak (blk_below (bk BK1188) hb)
  replace BK1208 := ak (blk_below (bk BK1208) hb)
  replace HB := ak (below_step (bl3 HB GE1187 GE1188 GE1208) hb)
  (try clear hb)
  (try clear hb2)
  (try clear hk)
  (try clear hi)
  (try clear ho0)
  (try clear ho1)
  refine hK.out _ _ ⟨(blk_cell BK1187.out 0).trans rfl, (blk_cell BK1187.out 1).trans rfl, (blk_cell BK1187.out 2).trans rfl, (blk_cell BK1188.out 0).trans rfl, (blk_cell BK1188.out 1).trans rfl, (blk_cell BK1188.out 2).trans rfl⟩ (fun hHeld => ?_)
  clear hK K
  refine norm_ (a' := ?_) ?_ ?_
  rotate_left
  ·show Act.put _ (some 26) _ = _
   simp only [SX]
   rfl
  refine pu 5 21 ?_ (ms 11 319) rfl rfl HT_ (by kernel_rfl) (fun _ _ _ h => h) (by rfl) ?_ ?_ ?_ ?_
  rotate_left
  ·intro w'
   go_simp
   with_reducible rfl
  rotate_left
  ·simp only [SX]
   rfl
  refine pu 6 27 ?_ (ms 11 383) rfl rfl HT_ (by kernel_rfl) (fun _ _ _ h => h) (by rfl) ?_ ?_ ?_ ?_
  rotate_left
  ·intro w'
   go_simp
   with_reducible rfl
  rotate_left
  ·simp only [SX]
   rfl
  refine pu 7 28 ?_ (ms 11 511) rfl rfl HT_ (by kernel_rfl) (fun _ _ _ h => h) (by rfl) ?_ ?_ ?_ ?_
  rotate_left
  ·intro w'
   go_simp
   with_reducible rfl
  rotate_left
  ·simp only [SX]
   rfl
  exact norm_ (by simp only [putAll, Act.put, List.setIfInBounds_toArray, List.set_cons_zero, List.set_cons_succ]) (hCont (.slice Ao26 t1191.length co26, .slice Ao27 t1194.length co27, v1202, v1205, gb1208) _ ⟨hHeld, (by exact Kd.R_mono HO1193.out (fun _ hk => hk.2)), (by exact Kd.R_mono HO1196.out (fun _ hk => hk.2)), (by exact Kd.R_mono HO1203.out (fun _ hk => hk.2)), (by exact Kd.R_mono HO1206.out (fun _ hk => hk.2)), (bk BK1187), (bk BK1188), (bk BK1208), GW1208.out, GE1208.out, NB1187_1208.out, NB1208_1187.out, NB1188_1208.out, NB1208_1188.out, (bl3 HB GE1187 GE1188 GE1208)⟩)
 rintro ⟨v1192, v1195, v1202, v1205, gb1208⟩ w29 ⟨hS_, h0_, h1_, h2_, h3_, h4_, h5_, h6_, h7_, h8_, h9_, h10_, h11_, h12_, h13_⟩
 have HO1193 : Aside0 (Kd.R k100 100 w29 w.heap.size (fun k_ => some k_ ≠ (v1202 : Value).ownBlock) v1192 t1191) := ⟨h0_⟩
 have HO1196 : Aside0 (Kd.R k70 70 w29 w.heap.size (fun k_ => some k_ ≠ (v1205 : Value).ownBlock) v1195 t1194) := ⟨h1_⟩
 have HO1203 : Aside0 (Kd.R k100 100 w29 w.heap.size (fun k_ => some k_ ≠ (v1192 : Value).ownBlock) v1202 t1201) := ⟨h2_⟩
 have HO1206 : Aside0 (Kd.R k70 70 w29 w.heap.size (fun k_ => some k_ ≠ (v1195 : Value).ownBlock) v1205 t1204) := ⟨h3_⟩
 replace BK1187 : Aside0 (w29.heap[gb1187]? = some (.cells #[.int .i64 a0_0, .slice A0_1 l0_1.length c0_1, .slice A0_2 l0_2.length c0_2] 44 (0, 0))) := ⟨h4_⟩
 replace BK1188 : Aside0 (w29.heap[gb1188]? = some (.cells #[.int .i64 a1_0, .int .i64 a1_1, .int .i64 a1_2] 68 (0, 0))) := ⟨h5_⟩
 have BK1208 : Aside0 (w29.heap[gb1208]? = some (.cells #[.int .i64 0, .slice none 0 0, .slice none 0 0] 49 (0, 0))) := ⟨h6_⟩
 have GW1208 : Aside0 (w.heap.size ≤ gb1208) := ⟨h7_⟩
 have GE1208 : Aside0 (w.heap.size ≤ gb1208) := ⟨h8_⟩
 have NB1187_1208 : Aside0 (gb1187 ≠ gb1208) := ⟨h9_⟩
 have NB1208_1187 : Aside0 (gb1208 ≠ gb1187) := ⟨h10_⟩
 have NB1188_1208 : Aside0 (gb1188 ≠ gb1208) := ⟨h11_⟩
 have NB1208_1188 : Aside0 (gb1208 ≠ gb1188) := ⟨h12_⟩
 replace HB : Aside0 (Below w.heap.size w w29) := ⟨h13_⟩
 clear h0_ h1_ h2_ h3_ h4_ h5_ h6_ h7_ h8_ h9_ h10_ h11_ h12_ h13_
 have hHeld : w29.cell? ⟨gb1187, 0, none⟩ = some (.int .i64 a0_0) ∧ w29.cell? ⟨gb1187, 1, none⟩ = some (.slice A0_1 l0_1.length c0_1) ∧ w29.cell? ⟨gb1187, 2, none⟩ = some (.slice A0_2 l0_2.length c0_2) ∧ w29.cell? ⟨gb1188, 0, none⟩ = some (.int .i64 a1_0) ∧ w29.cell? ⟨gb1188, 1, none⟩ = some (.int .i64 a1_1) ∧ w29.cell? ⟨gb1188, 2, none⟩ = some (.int .i64 a1_2) := hS_
 obtain ⟨Ao31, co31, eo31⟩ := Kd.R_slice HO1203.out
 (subst eo31)
 obtain ⟨Ao33, co33, eo33⟩ := Kd.R_slice HO1206.out
 (subst eo33)
 refine norm_ (a' := ?_) ?_ ?_
 rotate_left
 ·simp only [putAll, Act.put, List.setIfInBounds_toArray, List.set_cons_zero, List.set_cons_succ]
  rfl
 refine one_ (i := 9) (N := none) (ms 11 1023) rfl rfl (one_of HT_.out (by kernel_rfl)) (by decide) (fun K hK => ?_)
 have hs30 : w29.cell? ⟨gb1208, 0, none⟩ = some (.int .i64 0) := (blk_cell BK1208.out 0).trans rfl
 have hfs30 := blk_frozen BK1208.out 0
 have hns30_0 := NB1187_1208.out
 have hns30_1 := NB1188_1208.out
 have hms30_0 := NB1208_1187.out
 have hms30_1 := NB1208_1188.out
 have hs32 : w29.cell? ⟨gb1208, 1, none⟩ = some (.slice none 0 0) := (blk_cell BK1208.out 1).trans rfl
 have hfs32 := blk_frozen BK1208.out 1
 have hns32_0 := NB1187_1208.out
 have hns32_1 := NB1188_1208.out
 have hms32_0 := NB1208_1187.out
 have hms32_1 := NB1208_1188.out
 have hs34 : w29.cell? ⟨gb1208, 2, none⟩ = some (.slice none 0 0) := (blk_cell BK1208.out 2).trans rfl
 have hfs34 := blk_frozen BK1208.out 2
 have hns34_0 := NB1187_1208.out
 have hns34_1 := NB1188_1208.out
 have hms34_0 := NB1208_1187.out
 have hms34_1 := NB1208_1188.out
 refine skip_ (w1 := ?_) (by rfl) rfl ?_ ?_
 rotate_left
 ·go_simp
  rfl
 refine hK.out _ _ ⟨((cell_far (p := ⟨gb1208, _, none⟩) NB1187_1208.out _).trans (((cell_far (p := ⟨gb1208, _, none⟩) NB1187_1208.out _).trans (((cell_far (p := ⟨gb1208, _, none⟩) NB1187_1208.out _).trans (hHeld.1)))))), ((cell_far (p := ⟨gb1208, _, none⟩) NB1187_1208.out _).trans (((cell_far (p := ⟨gb1208, _, none⟩) NB1187_1208.out _).trans (((cell_far (p := ⟨gb1208, _, none⟩) NB1187_1208.out _).trans (hHeld.2.1)))))), ((cell_far (p := ⟨gb1208, _, none⟩) NB1187_1208.out _).trans (((cell_far (p := ⟨gb1208, _, none⟩) NB1187_1208.out _).trans (((cell_far (p := ⟨gb1208, _, none⟩) NB1187_1208.out _).trans (hHeld.2.2.1)))))), ((cell_far (p := ⟨gb1208, _, none⟩) NB1188_1208.out _).trans (((cell_far (p := ⟨gb1208, _, none⟩) NB1188_1208.out _).trans (((cell_far (p := ⟨gb1208, _, none⟩) NB1188_1208.out _).trans (hHeld.2.2.2.1)))))), ((cell_far (p := ⟨gb1208, _, none⟩) NB1188_1208.out _).trans (((cell_far (p := ⟨gb1208, _, none⟩) NB1188_1208.out _).trans (((cell_far (p := ⟨gb1208, _, none⟩) NB1188_1208.out _).trans (hHeld.2.2.2.2.1)))))), ((cell_far (p := ⟨gb1208, _, none⟩) NB1188_1208.out _).trans (((cell_far (p := ⟨gb1208, _, none⟩) NB1188_1208.out _).trans (((cell_far (p := ⟨gb1208, _, none⟩) NB1188_1208.out _).trans (hHeld.2.2.2.2.2))))))⟩ (fun hHeld => ?_)
 clear hK K
 refine pu 10 7 ?_ (ms 11 2047) rfl rfl HT_ (by kernel_rfl) (fun _ _ _ h => h) (by rfl) ?_ ?_ ?_ ?_
 rotate_left
 ·intro w'
  go_simp
  with_reducible rfl
 rotate_left
 ·simp only [SX]
  rfl
 refine done_ (done_of HT_.out (by kernel_rfl)) ?_
 have hnb35 := NB1187_1208.out
 have hnc35 := NB1208_1187.out
 have hcz36_0 := bc w29 BK1187 0 (.int .i64 a0_0) rfl
 have hcz36_1 := bc w29 BK1187 1 (.slice A0_1 l0_1.length c0_1) rfl
 have hcz36_2 := bc w29 BK1187 2 (.slice A0_2 l0_2.length c0_2) rfl
 have hfz36_0 := fz BK1187 0
 have hfz36_1 := fz BK1187 1
 have hfz36_2 := fz BK1187 2
 try go_wp2_with (first | ((with_reducible refine gate_callee (f := 31) rfl ?_); refine goesL_ (some 30) rfl rfl Try.func31 (by kernel_rfl) rfl #[.agg #[.int .i64 a0_0, .slice A0_1 l0_1.length c0_1, .slice A0_2 l0_2.length c0_2]] rfl (by (try simp only [List.map_toArray, List.map_cons, List.map_nil]); rfl) ?_; (with_reducible refine (laws_toLive.calls k a0_0 _ _ l0_1 _ _ l0_2 t1209 t1210 t1213 _ ?side1 ?side2 ?side3 ?side4 A13.out).mono ?_); (case side1 => exact Kd.C_below HR0_1.out (bl3 HB GE1187 GE1188 GE1208)); (case side2 => exact HC0_1.out); (case side3 => exact Kd.C_below HR0_2.out (bl3 HB GE1187 GE1188 GE1208)); (case side4 => exact HC0_2.out); rintro e w37 ⟨v1211, v1214, rfl, ho0, ho1, hb⟩; refine ⟨_, rfl, ?_⟩; have HO1212 := ak (Kd.R_lower (Kd.R_new' (Kd.R_new' ho0 (Kd.R_lt (by exact (Kd.R_mono (Kd.R_far (p := ⟨gb1208, 2, none⟩) (Kd.R_far (p := ⟨gb1208, 1, none⟩) (Kd.R_far (p := ⟨gb1208, 0, none⟩) (Kd.R_types HO1193.out BK1208.out (by decide)) (fun _ hk => hk.2) (.int .i64 t1200)) (fun _ hk => hk.2) (.slice Ao31 t1201.length co31)) (fun _ hk => hk.2) (.slice Ao33 t1204.length co33)) (fun _ h_ => h_.1))))) (Kd.R_lt (by exact (Kd.R_mono (Kd.R_far (p := ⟨gb1208, 2, none⟩) (Kd.R_far (p := ⟨gb1208, 1, none⟩) (Kd.R_far (p := ⟨gb1208, 0, none⟩) (Kd.R_types HO1203.out BK1208.out (by decide)) (fun _ hk => hk.2) (.int .i64 t1200)) (fun _ hk => hk.2) (.slice Ao31 t1201.length co31)) (fun _ hk => hk.2) (.slice Ao33 t1204.length co33)) (fun _ h_ => h_.1))))) (below_size (bl3 HB GE1187 GE1188 GE1208))); replace HO1193 := ak (Kd.R_elder' (by exact (Kd.R_mono (Kd.R_far (p := ⟨gb1208, 2, none⟩) (Kd.R_far (p := ⟨gb1208, 1, none⟩) (Kd.R_far (p := ⟨gb1208, 0, none⟩) (Kd.R_types HO1193.out BK1208.out (by decide)) (fun _ hk => hk.2) (.int .i64 t1200)) (fun _ hk => hk.2) (.slice Ao31 t1201.length co31)) (fun _ hk => hk.2) (.slice Ao33 t1204.length co33)) (fun _ h_ => h_.1))) (Kd.R_base ho0) hb); replace HO1203 := ak (Kd.R_elder' (by exact (Kd.R_mono (Kd.R_far (p := ⟨gb1208, 2, none⟩) (Kd.R_far (p := ⟨gb1208, 1, none⟩) (Kd.R_far (p := ⟨gb1208, 0, none⟩) (Kd.R_types HO1203.out BK1208.out (by decide)) (fun _ hk => hk.2) (.int .i64 t1200)) (fun _ hk => hk.2) (.slice Ao31 t1201.length co31)) (fun _ hk => hk.2) (.slice Ao33 t1204.length co33)) (fun _ h_ => h_.1))) (Kd.R_base ho0) hb); have HO1215 := ak (Kd.R_lower (Kd.R_new' (Kd.R_new' ho1 (Kd.R_lt (by exact (Kd.R_mono (Kd.R_far (p := ⟨gb1208, 2, none⟩) (Kd.R_far (p := ⟨gb1208, 1, none⟩) (Kd.R_far (p := ⟨gb1208, 0, none⟩) (Kd.R_types HO1196.out BK1208.out (by decide)) (fun _ hk => hk.2) (.int .i64 t1200)) (fun _ hk => hk.2) (.slice Ao31 t1201.length co31)) (fun _ hk => hk.2) (.slice Ao33 t1204.length co33)) (fun _ h_ => h_.1))))) (Kd.R_lt (by exact (Kd.R_mono (Kd.R_far (p := ⟨gb1208, 2, none⟩) (Kd.R_far (p := ⟨gb1208, 1, none⟩) (Kd.R_far (p := ⟨gb1208, 0, none⟩) (Kd.R_types HO1206.out BK1208.out (by decide)) (fun _ hk => hk.2) (.int .i64 t1200)) (fun _ hk => hk.2) (.slice Ao31 t1201.length co31)) (fun _ hk => hk.2) (.slice Ao33 t1204.length co33)) (fun _ h_ => h_.1))))) (below_size (bl3 HB GE1187 GE1188 GE1208))); replace HO1196 := ak (Kd.R_elder' (by exact (Kd.R_mono (Kd.R_far (p := ⟨gb1208, 2, none⟩) (Kd.R_far (p := ⟨gb1208, 1, none⟩) (Kd.R_far (p := ⟨gb1208, 0, none⟩) (Kd.R_types HO1196.out BK1208.out (by decide)) (fun _ hk => hk.2) (.int .i64 t1200)) (fun _ hk => hk.2) (.slice Ao31 t1201.length co31)) (fun _ hk => hk.2) (.slice Ao33 t1204.length co33)) (fun _ h_ => h_.1))) (Kd.R_base ho1) hb); replace HO1206 := ak (Kd.R_elder' (by exact (Kd.R_mono (Kd.R_far (p := ⟨gb1208, 2, none⟩) (Kd.R_far (p := ⟨gb1208, 1, none⟩) (Kd.R_far (p := ⟨gb1208, 0, none⟩) (Kd.R_types HO1206.out BK1208.out (by decide)) (fun _ hk => hk.2) (.int .i64 t1200)) (fun _ hk => hk.2) (.slice Ao31 t1201.length co31)) (fun _ hk => hk.2) (.slice Ao33 t1204.length co33)) (fun _ h_ => h_.1))) (Kd.R_base ho1) hb); replace BK1187 := ak (blk_below (g := gb1187) (o := .cells #[.int .i64 a0_0, .slice A0_1 l0_1.length c0_1, .slice A0_2 l0_2.length c0_2] 44 (0, 0)) (by refine blk_far ?_ NB1187_1208.out _; refine blk_far ?_ NB1187_1208.out _; refine blk_far ?_ NB1187_1208.out _; exact BK1187.out) hb); replace BK1188 := ak (blk_below (g := gb1188) (o := .cells #[.int .i64 a1_0, .int .i64 a1_1, .int .i64 a1_2] 68 (0, 0)) (by refine blk_far ?_ NB1188_1208.out _; refine blk_far ?_ NB1188_1208.out _; refine blk_far ?_ NB1188_1208.out _; exact BK1188.out) hb); replace BK1208 := ak (blk_below (g := gb1208) (o := .cells #[.int .i64 t1200, .slice Ao31 t1201.length co31, .slice Ao33 t1204.length co33] 49 (0, 0)) (by refine blk_put (cs := #[.int .i64 t1200, .slice Ao31 t1201.length co31, .slice none 0 0]) ?_ 2 _ rfl; refine blk_put (cs := #[.int .i64 t1200, .slice none 0 0, .slice none 0 0]) ?_ 1 _ rfl; refine blk_put (cs := #[.int .i64 0, .slice none 0 0, .slice none 0 0]) ?_ 0 _ rfl; exact BK1208.out) hb); replace HB := ak (below_step (bl3 HB GE1187 GE1188 GE1208) hb); (try clear hb); (try clear hb2); (try clear hk); (try clear hi); (try clear ho0); (try clear ho1)) | ((with_reducible refine gate_dst (N := 8) rfl ?_); refine box_event ?hg (N := 8) ?hd (cs := #[.int .i64 0, .slice none 0 0, .slice none 0 0]) (t := 49) ?hr ?_; (case hd => rfl); (case hg => rfl); (case hr => (go_simp; done)); intro gb1216 hg w38 hbox hb; replace HO1193 := ak (Kd.R_below (rk HO1193) hb); replace HO1196 := ak (Kd.R_below (rk HO1196) hb); replace HO1203 := ak (Kd.R_below (rk HO1203) hb); replace HO1206 := ak (Kd.R_below (rk HO1206) hb); replace HO1212 := ak (Kd.R_below (rk HO1212) hb); replace HO1215 := ak (Kd.R_below (rk HO1215) hb); have BK1216 := ak (hbox); have GW1216 := ak ((by rw [hg]; exact (below_size (bl3 HB GE1187 GE1188 GE1208)) : w.heap.size ≤ gb1216)); have GE1216 := ak ((by rw [hg]; exact (below_size (bl3 HB GE1187 GE1188 GE1208)) : w.heap.size ≤ gb1216)); replace HB := ak (below_step (bl3 HB GE1187 GE1188 GE1208) hb); have NB1187_1216 := ak ((by rw [hg]; exact Nat.ne_of_lt (blk_lt (bk BK1187)) : gb1187 ≠ gb1216)); have NB1216_1187 := ak ((by rw [hg]; exact Nat.ne_of_gt (blk_lt (bk BK1187)) : gb1216 ≠ gb1187)); replace BK1187 := ak (blk_below (bk BK1187) hb); have NB1188_1216 := ak ((by rw [hg]; exact Nat.ne_of_lt (blk_lt (bk BK1188)) : gb1188 ≠ gb1216)); have NB1216_1188 := ak ((by rw [hg]; exact Nat.ne_of_gt (blk_lt (bk BK1188)) : gb1216 ≠ gb1188)); replace BK1188 := ak (blk_below (bk BK1188) hb); have NB1208_1216 := ak ((by rw [hg]; exact Nat.ne_of_lt (blk_lt (bk BK1208)) : gb1208 ≠ gb1216)); have NB1216_1208 := ak ((by rw [hg]; exact Nat.ne_of_gt (blk_lt (bk BK1208)) : gb1216 ≠ gb1208)); replace BK1208 := ak (blk_below (bk BK1208) hb); clear hb hbox hg; have hnb39 := NB1216_1187.out; have hnc39 := NB1187_1216.out; have hnb40 := NB1216_1188.out; have hnc40 := NB1188_1216.out; have hnb41 := NB1216_1208.out; have hnc41 := NB1208_1216.out; have hcz42_0 := bc w38 BK1216 0 (.int .i64 0) rfl; have hcz42_1 := bc w38 BK1216 1 (.slice none 0 0) rfl; have hcz42_2 := bc w38 BK1216 2 (.slice none 0 0) rfl; have hfz42_0 := fz BK1216 0; have hfz42_1 := fz BK1216 1; have hfz42_2 := fz BK1216 2; obtain ⟨Ao43, co43, eo43⟩ := Kd.R_slice HO1212.out; subst eo43; obtain ⟨Ao44, co44, eo44⟩ := Kd.R_slice HO1215.out; subst eo44))
 have n0_ : Aside0 (Kd.R k100 100 (((w38.setCell ⟨gb1216, 0, none⟩ (.int .i64 t1209)).setCell ⟨gb1216, 1, none⟩ (.slice Ao43 t1210.length co43)).setCell ⟨gb1216, 2, none⟩ (.slice Ao44 t1213.length co44)) w.heap.size (fun k_ => some k_ ≠ (.slice Ao31 t1201.length co31 : Value).ownBlock ∧ some k_ ≠ (.slice Ao43 t1210.length co43 : Value).ownBlock) v1192 t1191) := ⟨by exact Kd.R_mono (Kd.R_far (p := ⟨gb1216, 2, none⟩) (Kd.R_far (p := ⟨gb1216, 1, none⟩) (Kd.R_far (p := ⟨gb1216, 0, none⟩) (Kd.R_types HO1193.out BK1216.out (by decide)) (fun _ hk => hk.2) (.int .i64 t1209)) (fun _ hk => hk.2) (.slice Ao43 t1210.length co43)) (fun _ hk => hk.2) (.slice Ao44 t1213.length co44)) (fun _ hk => ⟨hk.1.1, hk.1.2⟩)⟩
 have n1_ : Aside0 (Kd.R k70 70 (((w38.setCell ⟨gb1216, 0, none⟩ (.int .i64 t1209)).setCell ⟨gb1216, 1, none⟩ (.slice Ao43 t1210.length co43)).setCell ⟨gb1216, 2, none⟩ (.slice Ao44 t1213.length co44)) w.heap.size (fun k_ => some k_ ≠ (.slice Ao33 t1204.length co33 : Value).ownBlock ∧ some k_ ≠ (.slice Ao44 t1213.length co44 : Value).ownBlock) v1195 t1194) := ⟨by exact Kd.R_mono (Kd.R_far (p := ⟨gb1216, 2, none⟩) (Kd.R_far (p := ⟨gb1216, 1, none⟩) (Kd.R_far (p := ⟨gb1216, 0, none⟩) (Kd.R_types HO1196.out BK1216.out (by decide)) (fun _ hk => hk.2) (.int .i64 t1209)) (fun _ hk => hk.2) (.slice Ao43 t1210.length co43)) (fun _ hk => hk.2) (.slice Ao44 t1213.length co44)) (fun _ hk => ⟨hk.1.1, hk.1.2⟩)⟩
 have n2_ : Aside0 (Kd.R k100 100 (((w38.setCell ⟨gb1216, 0, none⟩ (.int .i64 t1209)).setCell ⟨gb1216, 1, none⟩ (.slice Ao43 t1210.length co43)).setCell ⟨gb1216, 2, none⟩ (.slice Ao44 t1213.length co44)) w.heap.size (fun k_ => some k_ ≠ (v1192 : Value).ownBlock ∧ some k_ ≠ (.slice Ao43 t1210.length co43 : Value).ownBlock) (.slice Ao31 t1201.length co31) t1201) := ⟨by exact Kd.R_mono (Kd.R_far (p := ⟨gb1216, 2, none⟩) (Kd.R_far (p := ⟨gb1216, 1, none⟩) (Kd.R_far (p := ⟨gb1216, 0, none⟩) (Kd.R_types HO1203.out BK1216.out (by decide)) (fun _ hk => hk.2) (.int .i64 t1209)) (fun _ hk => hk.2) (.slice Ao43 t1210.length co43)) (fun _ hk => hk.2) (.slice Ao44 t1213.length co44)) (fun _ hk => ⟨hk.1.1, hk.1.2⟩)⟩
 have n3_ : Aside0 (Kd.R k70 70 (((w38.setCell ⟨gb1216, 0, none⟩ (.int .i64 t1209)).setCell ⟨gb1216, 1, none⟩ (.slice Ao43 t1210.length co43)).setCell ⟨gb1216, 2, none⟩ (.slice Ao44 t1213.length co44)) w.heap.size (fun k_ => some k_ ≠ (v1195 : Value).ownBlock ∧ some k_ ≠ (.slice Ao44 t1213.length co44 : Value).ownBlock) (.slice Ao33 t1204.length co33) t1204) := ⟨by exact Kd.R_mono (Kd.R_far (p := ⟨gb1216, 2, none⟩) (Kd.R_far (p := ⟨gb1216, 1, none⟩) (Kd.R_far (p := ⟨gb1216, 0, none⟩) (Kd.R_types HO1206.out BK1216.out (by decide)) (fun _ hk => hk.2) (.int .i64 t1209)) (fun _ hk => hk.2) (.slice Ao43 t1210.length co43)) (fun _ hk => hk.2) (.slice Ao44 t1213.length co44)) (fun _ hk => ⟨hk.1.1, hk.1.2⟩)⟩
 have n4_ : Aside0 (Kd.R k100 100 (((w38.setCell ⟨gb1216, 0, none⟩ (.int .i64 t1209)).setCell ⟨gb1216, 1, none⟩ (.slice Ao43 t1210.length co43)).setCell ⟨gb1216, 2, none⟩ (.slice Ao44 t1213.length co44)) w.heap.size (fun k_ => some k_ ≠ (v1192 : Value).ownBlock ∧ some k_ ≠ (.slice Ao31 t1201.length co31 : Value).ownBlock) (.slice Ao43 t1210.length co43) t1210) := ⟨by exact Kd.R_mono (Kd.R_far (p := ⟨gb1216, 2, none⟩) (Kd.R_far (p := ⟨gb1216, 1, none⟩) (Kd.R_far (p := ⟨gb1216, 0, none⟩) (Kd.R_types HO1212.out BK1216.out (by decide)) (fun _ hk => hk.2) (.int .i64 t1209)) (fun _ hk => hk.2) (.slice Ao43 t1210.length co43)) (fun _ hk => hk.2) (.slice Ao44 t1213.length co44)) (fun _ hk => ⟨hk.1.1.2, hk.1.2⟩)⟩
 have n5_ : Aside0 (Kd.R k70 70 (((w38.setCell ⟨gb1216, 0, none⟩ (.int .i64 t1209)).setCell ⟨gb1216, 1, none⟩ (.slice Ao43 t1210.length co43)).setCell ⟨gb1216, 2, none⟩ (.slice Ao44 t1213.length co44)) w.heap.size (fun k_ => some k_ ≠ (v1195 : Value).ownBlock ∧ some k_ ≠ (.slice Ao33 t1204.length co33 : Value).ownBlock) (.slice Ao44 t1213.length co44) t1213) := ⟨by exact Kd.R_mono (Kd.R_far (p := ⟨gb1216, 2, none⟩) (Kd.R_far (p := ⟨gb1216, 1, none⟩) (Kd.R_far (p := ⟨gb1216, 0, none⟩) (Kd.R_types HO1215.out BK1216.out (by decide)) (fun _ hk => hk.2) (.int .i64 t1209)) (fun _ hk => hk.2) (.slice Ao43 t1210.length co43)) (fun _ hk => hk.2) (.slice Ao44 t1213.length co44)) (fun _ hk => ⟨hk.1.1.2, hk.1.2⟩)⟩
 have n6_ : Aside0 ((((w38.setCell ⟨gb1216, 0, none⟩ (.int .i64 t1209)).setCell ⟨gb1216, 1, none⟩ (.slice Ao43 t1210.length co43)).setCell ⟨gb1216, 2, none⟩ (.slice Ao44 t1213.length co44)).heap[gb1187]? = some (.cells #[.int .i64 a0_0, .slice A0_1 l0_1.length c0_1, .slice A0_2 l0_2.length c0_2] 44 (0, 0))) := ⟨by refine blk_far ?_ NB1187_1216.out _; refine blk_far ?_ NB1187_1216.out _; refine blk_far ?_ NB1187_1216.out _; exact BK1187.out⟩
 have n7_ : Aside0 ((((w38.setCell ⟨gb1216, 0, none⟩ (.int .i64 t1209)).setCell ⟨gb1216, 1, none⟩ (.slice Ao43 t1210.length co43)).setCell ⟨gb1216, 2, none⟩ (.slice Ao44 t1213.length co44)).heap[gb1188]? = some (.cells #[.int .i64 a1_0, .int .i64 a1_1, .int .i64 a1_2] 68 (0, 0))) := ⟨by refine blk_far ?_ NB1188_1216.out _; refine blk_far ?_ NB1188_1216.out _; refine blk_far ?_ NB1188_1216.out _; exact BK1188.out⟩
 have n8_ : Aside0 ((((w38.setCell ⟨gb1216, 0, none⟩ (.int .i64 t1209)).setCell ⟨gb1216, 1, none⟩ (.slice Ao43 t1210.length co43)).setCell ⟨gb1216, 2, none⟩ (.slice Ao44 t1213.length co44)).heap[gb1208]? = some (.cells #[.int .i64 t1200, .slice Ao31 t1201.length co31, .slice Ao33 t1204.length co33] 49 (0, 0))) := ⟨by refine blk_far ?_ NB1208_1216.out _; refine blk_far ?_ NB1208_1216.out _; refine blk_far ?_ NB1208_1216.out _; exact BK1208.out⟩
 have n9_ : Aside0 ((((w38.setCell ⟨gb1216, 0, none⟩ (.int .i64 t1209)).setCell ⟨gb1216, 1, none⟩ (.slice Ao43 t1210.length co43)).setCell ⟨gb1216, 2, none⟩ (.slice Ao44 t1213.length co44)).heap[gb1216]? = some (.cells #[.int .i64 t1209, .slice Ao43 t1210.length co43, .slice Ao44 t1213.length co44] 49 (0, 0))) := ⟨by refine blk_put (cs := #[.int .i64 t1209, .slice Ao43 t1210.length co43, .slice none 0 0]) ?_ 2 _ rfl; refine blk_put (cs := #[.int .i64 t1209, .slice none 0 0, .slice none 0 0]) ?_ 1 _ rfl; refine blk_put (cs := #[.int .i64 0, .slice none 0 0, .slice none 0 0]) ?_ 0 _ rfl; exact BK1216.out⟩
 have n10_ : Aside0 (Below w.heap.size w (((w38.setCell ⟨gb1216, 0, none⟩ (.int .i64 t1209)).setCell ⟨gb1216, 1, none⟩ (.slice Ao43 t1210.length co43)).setCell ⟨gb1216, 2, none⟩ (.slice Ao44 t1213.length co44))) := ⟨bl4 HB GE1187 GE1188 GE1208 GE1216⟩
 (try clear HO1193)
 (try clear HO1196)
 (try clear HO1203)
 (try clear HO1206)
 (try clear HO1212)
 (try clear HO1215)
 (try clear BK1187)
 (try clear BK1188)
 (try clear BK1208)
 (try clear BK1216)
 (try clear HB)
 generalize (((w38.setCell ⟨gb1216, 0, none⟩ (.int .i64 t1209)).setCell ⟨gb1216, 1, none⟩ (.slice Ao43 t1210.length co43)).setCell ⟨gb1216, 2, none⟩ (.slice Ao44 t1213.length co44)) = w45 at n0_ n1_ n2_ n3_ n4_ n5_ n6_ n7_ n8_ n9_ n10_ ⊢
 have HO1193 := n0_
 have HO1196 := n1_
 have HO1203 := n2_
 have HO1206 := n3_
 have HO1212 := n4_
 have HO1215 := n5_
 have BK1187 := n6_
 have BK1188 := n7_
 have BK1208 := n8_
 have BK1216 := n9_
 have HB := n10_
 clear n0_ n1_ n2_ n3_ n4_ n5_ n6_ n7_ n8_ n9_ n10_
 replace HO1193 := ak (Kd.R_drew HO1193.out)
 replace HO1196 := ak (Kd.R_drew HO1196.out)
 replace HO1203 := ak (Kd.R_drew HO1203.out)
 replace HO1206 := ak (Kd.R_drew HO1206.out)
 replace HO1212 := ak (Kd.R_drew HO1212.out)
 replace HO1215 := ak (Kd.R_drew HO1215.out)
 replace BK1187 := ak (blk_drew BK1187.out)
 replace BK1188 := ak (blk_drew BK1188.out)
 replace BK1208 := ak (blk_drew BK1208.out)
 replace BK1216 := ak (blk_drew BK1216.out)
 replace HB := ak (below_drew1 HB.out)
 refine start_ (n := 10) (S := fun w' => w'.cell? ⟨gb1216, 0, none⟩ = some (.int .i64 t1209) ∧ w'.cell? ⟨gb1216, 1, none⟩ = some (.slice Ao43 t1210.length co43) ∧ w'.cell? ⟨gb1216, 2, none⟩ = some (.slice Ao44 t1213.length co44) ∧ w'.cell? ⟨gb1188, 0, none⟩ = some (.int .i64 a1_0) ∧ w'.cell? ⟨gb1188, 1, none⟩ = some (.int .i64 a1_1) ∧ w'.cell? ⟨gb1188, 2, none⟩ = some (.int .i64 a1_2)) (ds := []) (ms 10 0) (by kernel_rfl) rfl (by kernel_rfl) ⟨(blk_cell BK1216.out 0).trans rfl, (blk_cell BK1216.out 1).trans rfl, (blk_cell BK1216.out 2).trans rfl, (blk_cell BK1188.out 0).trans rfl, (blk_cell BK1188.out 1).trans rfl, (blk_cell BK1188.out 2).trans rfl⟩ (fun hHeld => ?_); refine with_tabW laws_FnExactLiveTell.tab7 laws_FnExactLiveTell.bits7 (fun HT_ HW_ => ?_)
 generalize w45.drew = w46 at HO1193 HO1196 HO1203 HO1206 HO1212 HO1215 BK1187 BK1188 BK1208 BK1216 HB hHeld ⊢
 refine tk 0 32 ?_ (ms 10 1) rfl rfl HT_ HW_ (by kernel_rfl) (fun _ _ _ h => h) (by rfl) ?_ hHeld ?_ ?_ ?_
 rotate_left
 ·rintro w' ⟨s0, s1, s2, s3, s4, s5⟩
  go_simp
  with_reducible rfl
 rotate_left
 ·simp only [SX]
  rfl
 refine tk 1 33 ?_ (ms 10 3) rfl rfl HT_ HW_ (by kernel_rfl) (fun _ _ _ h => h) (by rfl) ?_ hHeld ?_ ?_ ?_
 rotate_left
 ·rintro w' ⟨s0, s1, s2, s3, s4, s5⟩
  go_simp
  with_reducible rfl
 rotate_left
 ·simp only [SX]
  rfl
 refine join_ (σ := Value × Value × Nat) 2 (ms 10 255) (fun s_ => [(34, .agg #[.int .i64 t1217, .int .i64 t1218, .int .i64 t1219]), (35, .tuple #[.agg #[.int .i64 t1220, s_.1, s_.2.1], .bool t1227]), (9, .pointer (some ⟨s_.2.2, 0, none⟩)), (31, .tuple #[.agg #[.int .i64 t1220, s_.1, s_.2.1], .bool t1227]), (36, .agg #[.int .i64 t1220, s_.1, s_.2.1]), (37, .bool t1227)]) (fun s_ w' => (w'.cell? ⟨gb1216, 0, none⟩ = some (.int .i64 t1209) ∧ w'.cell? ⟨gb1216, 1, none⟩ = some (.slice Ao43 t1210.length co43) ∧ w'.cell? ⟨gb1216, 2, none⟩ = some (.slice Ao44 t1213.length co44) ∧ w'.cell? ⟨gb1188, 0, none⟩ = some (.int .i64 a1_0) ∧ w'.cell? ⟨gb1188, 1, none⟩ = some (.int .i64 a1_1) ∧ w'.cell? ⟨gb1188, 2, none⟩ = some (.int .i64 a1_2)) ∧ (Kd.R k100 100 w' w.heap.size (fun k_ => some k_ ≠ (.slice Ao31 t1201.length co31 : Value).ownBlock ∧ some k_ ≠ (.slice Ao43 t1210.length co43 : Value).ownBlock ∧ some k_ ≠ (s_.1 : Value).ownBlock) v1192 t1191) ∧ (Kd.R k70 70 w' w.heap.size (fun k_ => some k_ ≠ (.slice Ao33 t1204.length co33 : Value).ownBlock ∧ some k_ ≠ (.slice Ao44 t1213.length co44 : Value).ownBlock ∧ some k_ ≠ (s_.2.1 : Value).ownBlock) v1195 t1194) ∧ (Kd.R k100 100 w' w.heap.size (fun k_ => some k_ ≠ (v1192 : Value).ownBlock ∧ some k_ ≠ (.slice Ao43 t1210.length co43 : Value).ownBlock ∧ some k_ ≠ (s_.1 : Value).ownBlock) (.slice Ao31 t1201.length co31) t1201) ∧ (Kd.R k70 70 w' w.heap.size (fun k_ => some k_ ≠ (v1195 : Value).ownBlock ∧ some k_ ≠ (.slice Ao44 t1213.length co44 : Value).ownBlock ∧ some k_ ≠ (s_.2.1 : Value).ownBlock) (.slice Ao33 t1204.length co33) t1204) ∧ (Kd.R k100 100 w' w.heap.size (fun k_ => some k_ ≠ (v1192 : Value).ownBlock ∧ some k_ ≠ (.slice Ao31 t1201.length co31 : Value).ownBlock ∧ some k_ ≠ (s_.1 : Value).ownBlock) (.slice Ao43 t1210.length co43) t1210) ∧ (Kd.R k70 70 w' w.heap.size (fun k_ => some k_ ≠ (v1195 : Value).ownBlock ∧ some k_ ≠ (.slice Ao33 t1204.length co33 : Value).ownBlock ∧ some k_ ≠ (s_.2.1 : Value).ownBlock) (.slice Ao44 t1213.length co44) t1213) ∧ (Kd.R k100 100 w' w.heap.size (fun k_ => some k_ ≠ (v1192 : Value).ownBlock ∧ some k_ ≠ (.slice Ao31 t1201.length co31 : Value).ownBlock ∧ some k_ ≠ (.slice Ao43 t1210.length co43 : Value).ownBlock) s_.1 t1221) ∧ (Kd.R k70 70 w' w.heap.size (fun k_ => some k_ ≠ (v1195 : Value).ownBlock ∧ some k_ ≠ (.slice Ao33 t1204.length co33 : Value).ownBlock ∧ some k_ ≠ (.slice Ao44 t1213.length co44 : Value).ownBlock) s_.2.1 t1224) ∧ (w'.heap[gb1187]? = some (.cells #[.int .i64 a0_0, .slice A0_1 l0_1.length c0_1, .slice A0_2 l0_2.length c0_2] 44 (0, 0))) ∧ (w'.heap[gb1188]? = some (.cells #[.int .i64 a1_0, .int .i64 a1_1, .int .i64 a1_2] 68 (0, 0))) ∧ (w'.heap[gb1208]? = some (.cells #[.int .i64 t1200, .slice Ao31 t1201.length co31, .slice Ao33 t1204.length co33] 49 (0, 0))) ∧ (w'.heap[gb1216]? = some (.cells #[.int .i64 t1209, .slice Ao43 t1210.length co43, .slice Ao44 t1213.length co44] 49 (0, 0))) ∧ (w'.heap[s_.2.2]? = some (.cells #[.int .i64 0, .slice none 0 0, .slice none 0 0] 49 (0, 0))) ∧ (w.heap.size ≤ s_.2.2) ∧ (w.heap.size ≤ s_.2.2) ∧ (gb1187 ≠ s_.2.2) ∧ (s_.2.2 ≠ gb1187) ∧ (gb1188 ≠ s_.2.2) ∧ (s_.2.2 ≠ gb1188) ∧ (gb1208 ≠ s_.2.2) ∧ (s_.2.2 ≠ gb1208) ∧ (gb1216 ≠ s_.2.2) ∧ (s_.2.2 ≠ gb1216) ∧ (Below w.heap.size w w')) ?_ ?_
 rotate_left
 ·intro hCont
  refine two_ (i := 2) (j := 7) (Ni := some 34) (Nj := some 9) (ms 10 7) (ms 10 131) rfl rfl rfl rfl (two_of HT_.out (by kernel_rfl)) (by decide) (by decide) (fun K hK => ?_) (fun K hK => ?_)
  rotate_left
  ·skip
   refine box_step ?hg (N := 9) ?hd (cs := #[.int .i64 0, .slice none 0 0, .slice none 0 0]) (t := 49) ?hr ?_; (case hd => rfl); (case hg => rfl); (case hr => (go_simp; done))
   intro gb1228 hg w47 hbox hb
   replace HO1193 := ak (Kd.R_below (rk HO1193) hb)
   replace HO1196 := ak (Kd.R_below (rk HO1196) hb)
   replace HO1203 := ak (Kd.R_below (rk HO1203) hb)
   replace HO1206 := ak (Kd.R_below (rk HO1206) hb)
   replace HO1212 := ak (Kd.R_below (rk HO1212) hb)
   replace HO1215 := ak (Kd.R_below (rk HO1215) hb)
   have BK1228 := ak (hbox)
   have GW1228 := ak ((by rw [hg]; exact (below_size (bl4 HB GE1187 GE1188 GE1208 GE1216)) : w.heap.size ≤ gb1228))
   have GE1228 := ak ((by rw [hg]; exact (below_size (bl4 HB GE1187 GE1188 GE1208 GE1216)) : w.heap.size ≤ gb1228))
   replace HB := ak (below_step (bl4 HB GE1187 GE1188 GE1208 GE1216) hb)
   have NB1187_1228 := ak ((by rw [hg]; exact Nat.ne_of_lt (blk_lt (bk BK1187)) : gb1187 ≠ gb1228))
   have NB1228_1187 := ak ((by rw [hg]; exact Nat.ne_of_gt (blk_lt (bk BK1187)) : gb1228 ≠ gb1187))
   replace BK1187 := ak (blk_below (bk BK1187) hb)
   have NB1188_1228 := ak ((by rw [hg]; exact Nat.ne_of_lt (blk_lt (bk BK1188)) : gb1188 ≠ gb1228))
   have NB1228_1188 := ak ((by rw [hg]; exact Nat.ne_of_gt (blk_lt (bk BK1188)) : gb1228 ≠ gb1188))
   replace BK1188 := ak (blk_below (bk BK1188) hb)
   have NB1208_1228 := ak ((by rw [hg]; exact Nat.ne_of_lt (blk_lt (bk BK1208)) : gb1208 ≠ gb1228))
   have NB1228_1208 := ak ((by rw [hg]; exact Nat.ne_of_gt (blk_lt (bk BK1208)) : gb1228 ≠ gb1208))
   replace BK1208 := ak (blk_below (bk BK1208) hb)
   have NB1216_1228 := ak ((by rw [hg]; exact Nat.ne_of_lt (blk_lt (bk BK1216)) : gb1216 ≠ gb1228))
   have NB1228_1216 := ak ((by rw [hg]; exact Nat.ne_of_gt (blk_lt (bk BK1216)) : gb1228 ≠ gb1216))
   replace BK1216 := ak (blk_below (bk BK1216) hb)
   clear hb hbox hg
   refine hK.out _ _ ⟨(blk_cell BK1216.out 0).trans rfl, (blk_cell BK1216.out 1).trans rfl, (blk_cell BK1216.out 2).trans rfl, (blk_cell BK1188.out 0).trans rfl, (blk_cell BK1188.out 1).trans rfl, (blk_cell BK1188.out 2).trans rfl⟩ (fun hHeld => ?_)
   clear hK K
   refine norm_ (a' := ?_) ?_ ?_
   rotate_left
   ·show Act.put _ (some 9) _ = _
    simp only [SX]
    rfl
   refine one_ (i := 2) (N := some 34) (ms 10 135) rfl rfl (one_of HT_.out (by kernel_rfl)) (by decide) (fun K hK => ?_)
   refine goes_ Try.func48 (by kernel_rfl) rfl #[.agg #[.int .i64 a1_0, .int .i64 a1_1, .int .i64 a1_2]] (by rfl) rfl rfl (by (try simp only [List.map_toArray, List.map_cons, List.map_nil]); rfl) ?_
   with_reducible refine (laws_toNews.calls a1_0 a1_1 a1_2 t1217 t1218 t1219 _ A14.out).mono ?_
   rintro e w48 ⟨rfl, hb⟩
   refine ⟨_, rfl, ?_⟩
   replace HO1193 := ak (Kd.R_below (rk HO1193) hb)
   replace HO1196 := ak (Kd.R_below (rk HO1196) hb)
   replace HO1203 := ak (Kd.R_below (rk HO1203) hb)
   replace HO1206 := ak (Kd.R_below (rk HO1206) hb)
   replace HO1212 := ak (Kd.R_below (rk HO1212) hb)
   replace HO1215 := ak (Kd.R_below (rk HO1215) hb)
   replace BK1187 := ak (blk_below (bk BK1187) hb)
   replace BK1188 := ak (blk_below (bk BK1188) hb)
   replace BK1208 := ak (blk_below (bk BK1208) hb)
   replace BK1216 := ak (blk_below (bk BK1216) hb)
   replace BK1228 := ak (blk_below (bk BK1228) hb)
   replace HB := ak (below_step (by repeat ((with_reducible exact HB.out))) hb)
   (try clear hb)
   (try clear hb2)
   (try clear hk)
   (try clear hi)
   refine hK.out _ _ ⟨(blk_cell BK1216.out 0).trans rfl, (blk_cell BK1216.out 1).trans rfl, (blk_cell BK1216.out 2).trans rfl, (blk_cell BK1188.out 0).trans rfl, (blk_cell BK1188.out 1).trans rfl, (blk_cell BK1188.out 2).trans rfl⟩ (fun hHeld => ?_)
   clear hK K
   refine norm_ (a' := ?_) ?_ ?_
   rotate_left
   ·show Act.put _ (some 34) _ = _
    simp only [SX]
    rfl
   refine one_ (i := 3) (N := some 35) (ms 10 143) rfl rfl (one_of HT_.out (by kernel_rfl)) (by decide) (fun K hK => ?_)
   refine goes_ Try.func49 (by kernel_rfl) rfl #[.agg #[.int .i64 t1209, .slice Ao43 t1210.length co43, .slice Ao44 t1213.length co44], .agg #[.int .i64 t1217, .int .i64 t1218, .int .i64 t1219]] (by rfl) rfl rfl (by (try simp only [List.map_toArray, List.map_cons, List.map_nil]); rfl) ?_
   with_reducible refine (impl_LiveTell.calls k t1209 _ _ t1210 _ _ t1213 t1217 t1218 t1219 t1220 t1221 t1224 t1227 _ ?side1 ?side2 ?side3 ?side4 A15.out).mono ?_
   (case side1 => repeat (exact (Kd.R_reads' HO1212.out).2.2))
   (case side2 => exact (Kd.R_reads' HO1212.out).2.1)
   (case side3 => repeat (exact (Kd.R_reads' HO1215.out).2.2))
   (case side4 => exact (Kd.R_reads' HO1215.out).2.1)
   rintro e w49 ⟨v1222, v1225, rfl, ho0, ho1, hb⟩
   refine ⟨_, rfl, ?_⟩
   have HO1223 := ak (Kd.R_lower (Kd.R_new' (Kd.R_new' (Kd.R_new' ho0 (Kd.R_lt (rk HO1193))) (Kd.R_lt (rk HO1203))) (Kd.R_lt (rk HO1212))) (below_size (by repeat ((with_reducible exact HB.out)))))
   replace HO1193 := ak (Kd.R_elder' (rk HO1193) (Kd.R_base ho0) hb)
   replace HO1203 := ak (Kd.R_elder' (rk HO1203) (Kd.R_base ho0) hb)
   replace HO1212 := ak (Kd.R_elder' (rk HO1212) (Kd.R_base ho0) hb)
   have HO1226 := ak (Kd.R_lower (Kd.R_new' (Kd.R_new' (Kd.R_new' ho1 (Kd.R_lt (rk HO1196))) (Kd.R_lt (rk HO1206))) (Kd.R_lt (rk HO1215))) (below_size (by repeat ((with_reducible exact HB.out)))))
   replace HO1196 := ak (Kd.R_elder' (rk HO1196) (Kd.R_base ho1) hb)
   replace HO1206 := ak (Kd.R_elder' (rk HO1206) (Kd.R_base ho1) hb)
   replace HO1215 := ak (Kd.R_elder' (rk HO1215) (Kd.R_base ho1) hb)
   replace BK1187 := ak (blk_below (bk BK1187) hb)
   replace BK1188 := ak (blk_below (bk BK1188) hb)
   replace BK1208 := ak (blk_below (bk BK1208) hb)
   replace BK1216 := ak (blk_below (bk BK1216) hb)
   replace BK1228 := ak (blk_below (bk BK1228) hb)
   replace HB := ak (below_step (by repeat ((with_reducible exact HB.out))) hb)
   (try clear hb)
   (try clear hb2)
   (try clear hk)
   (try clear hi)
   (try clear ho0)
   (try clear ho1)
   refine hK.out _ _ ⟨(blk_cell BK1216.out 0).trans rfl, (blk_cell BK1216.out 1).trans rfl, (blk_cell BK1216.out 2).trans rfl, (blk_cell BK1188.out 0).trans rfl, (blk_cell BK1188.out 1).trans rfl, (blk_cell BK1188.out 2).trans rfl⟩ (fun hHeld => ?_)
   clear hK K
   refine norm_ (a' := ?_) ?_ ?_
   rotate_left
   ·show Act.put _ (some 35) _ = _
    simp only [SX]
    rfl
   refine pu 4 31 ?_ (ms 10 159) rfl rfl HT_ (by kernel_rfl) (fun _ _ _ h => h) (by rfl) ?_ ?_ ?_ ?_
   rotate_left
   ·intro w'
    go_simp
    with_reducible rfl
   rotate_left
   ·simp only [SX]
    rfl
   refine pu 5 36 ?_ (ms 10 191) rfl rfl HT_ (by kernel_rfl) (fun _ _ _ h => h) (by rfl) ?_ ?_ ?_ ?_
   rotate_left
   ·intro w'
    go_simp
    with_reducible rfl
   rotate_left
   ·simp only [SX]
    rfl
   refine pu 6 37 ?_ (ms 10 255) rfl rfl HT_ (by kernel_rfl) (fun _ _ _ h => h) (by rfl) ?_ ?_ ?_ ?_
   rotate_left
   ·intro w'
    go_simp
    with_reducible rfl
   rotate_left
   ·simp only [SX]
    rfl
   exact norm_ (by simp only [putAll, Act.put, List.setIfInBounds_toArray, List.set_cons_zero, List.set_cons_succ]) (hCont (v1222, v1225, gb1228) _ ⟨hHeld, (by exact Kd.R_mono HO1193.out (fun _ hk => ⟨hk.1.1, ⟨hk.1.2, hk.2⟩⟩)), (by exact Kd.R_mono HO1196.out (fun _ hk => ⟨hk.1.1, ⟨hk.1.2, hk.2⟩⟩)), (by exact Kd.R_mono HO1203.out (fun _ hk => ⟨hk.1.1, ⟨hk.1.2, hk.2⟩⟩)), (by exact Kd.R_mono HO1206.out (fun _ hk => ⟨hk.1.1, ⟨hk.1.2, hk.2⟩⟩)), (by exact Kd.R_mono HO1212.out (fun _ hk => ⟨hk.1.1, ⟨hk.1.2, hk.2⟩⟩)), (by exact Kd.R_mono HO1215.out (fun _ hk => ⟨hk.1.1, ⟨hk.1.2, hk.2⟩⟩)), (by exact Kd.R_mono HO1223.out (fun _ hk => ⟨hk.1.1.2, ⟨hk.1.2, hk.2⟩⟩)), (by exact Kd.R_mono HO1226.out (fun _ hk => ⟨hk.1.1.2, ⟨hk.1.2, hk.2⟩⟩)), (bk BK1187), (bk BK1188), (bk BK1208), (bk BK1216), (bk BK1228), GW1228.out, GE1228.out, NB1187_1228.out, NB1228_1187.out, NB1188_1228.out, NB1228_1188.out, NB1208_1228.out, NB1228_1208.out, NB1216_1228.out, NB1228_1216.out, (by repeat ((with_reducible exact HB.out)))⟩)
  skip
  refine goes_ Try.func48 (by kernel_rfl) rfl #[.agg #[.int .i64 a1_0, .int .i64 a1_1, .int .i64 a1_2]] (by rfl) rfl rfl (by (try simp only [List.map_toArray, List.map_cons, List.map_nil]); rfl) ?_
  with_reducible refine (laws_toNews.calls a1_0 a1_1 a1_2 t1217 t1218 t1219 _ A14.out).mono ?_
  rintro e w47 ⟨rfl, hb⟩
  refine ⟨_, rfl, ?_⟩
  replace HO1193 := ak (Kd.R_below (rk HO1193) hb)
  replace HO1196 := ak (Kd.R_below (rk HO1196) hb)
  replace HO1203 := ak (Kd.R_below (rk HO1203) hb)
  replace HO1206 := ak (Kd.R_below (rk HO1206) hb)
  replace HO1212 := ak (Kd.R_below (rk HO1212) hb)
  replace HO1215 := ak (Kd.R_below (rk HO1215) hb)
  replace BK1187 := ak (blk_below (bk BK1187) hb)
  replace BK1188 := ak (blk_below (bk BK1188) hb)
  replace BK1208 := ak (blk_below (bk BK1208) hb)
  replace BK1216 := ak (blk_below (bk BK1216) hb)
  replace HB := ak (below_step (bl4 HB GE1187 GE1188 GE1208 GE1216) hb)
  (try clear hb)
  (try clear hb2)
  (try clear hk)
  (try clear hi)
  refine hK.out _ _ ⟨(blk_cell BK1216.out 0).trans rfl, (blk_cell BK1216.out 1).trans rfl, (blk_cell BK1216.out 2).trans rfl, (blk_cell BK1188.out 0).trans rfl, (blk_cell BK1188.out 1).trans rfl, (blk_cell BK1188.out 2).trans rfl⟩ (fun hHeld => ?_)
  clear hK K
  refine norm_ (a' := ?_) ?_ ?_
  rotate_left
  ·show Act.put _ (some 34) _ = _
   simp only [SX]
   rfl
  refine two_ (i := 3) (j := 7) (Ni := some 35) (Nj := some 9) (ms 10 15) (ms 10 135) rfl rfl rfl rfl (two_of HT_.out (by kernel_rfl)) (by decide) (by decide) (fun K hK => ?_) (fun K hK => ?_)
  ·skip
   refine goes_ Try.func49 (by kernel_rfl) rfl #[.agg #[.int .i64 t1209, .slice Ao43 t1210.length co43, .slice Ao44 t1213.length co44], .agg #[.int .i64 t1217, .int .i64 t1218, .int .i64 t1219]] (by rfl) rfl rfl (by (try simp only [List.map_toArray, List.map_cons, List.map_nil]); rfl) ?_
   with_reducible refine (impl_LiveTell.calls k t1209 _ _ t1210 _ _ t1213 t1217 t1218 t1219 t1220 t1221 t1224 t1227 _ ?side1 ?side2 ?side3 ?side4 A15.out).mono ?_
   (case side1 => repeat (exact (Kd.R_reads' HO1212.out).2.2))
   (case side2 => exact (Kd.R_reads' HO1212.out).2.1)
   (case side3 => repeat (exact (Kd.R_reads' HO1215.out).2.2))
   (case side4 => exact (Kd.R_reads' HO1215.out).2.1)
   rintro e w48 ⟨v1222, v1225, rfl, ho0, ho1, hb⟩
   refine ⟨_, rfl, ?_⟩
   have HO1223 := ak (Kd.R_lower (Kd.R_new' (Kd.R_new' (Kd.R_new' ho0 (Kd.R_lt (rk HO1193))) (Kd.R_lt (rk HO1203))) (Kd.R_lt (rk HO1212))) (below_size (bl4 HB GE1187 GE1188 GE1208 GE1216)))
   replace HO1193 := ak (Kd.R_elder' (rk HO1193) (Kd.R_base ho0) hb)
   replace HO1203 := ak (Kd.R_elder' (rk HO1203) (Kd.R_base ho0) hb)
   replace HO1212 := ak (Kd.R_elder' (rk HO1212) (Kd.R_base ho0) hb)
   have HO1226 := ak (Kd.R_lower (Kd.R_new' (Kd.R_new' (Kd.R_new' ho1 (Kd.R_lt (rk HO1196))) (Kd.R_lt (rk HO1206))) (Kd.R_lt (rk HO1215))) (below_size (bl4 HB GE1187 GE1188 GE1208 GE1216)))
   replace HO1196 := ak (Kd.R_elder' (rk HO1196) (Kd.R_base ho1) hb)
   replace HO1206 := ak (Kd.R_elder' (rk HO1206) (Kd.R_base ho1) hb)
   replace HO1215 := ak (Kd.R_elder' (rk HO1215) (Kd.R_base ho1) hb)
   replace BK1187 := ak (blk_below (bk BK1187) hb)
   replace BK1188 := ak (blk_below (bk BK1188) hb)
   replace BK1208 := ak (blk_below (bk BK1208) hb)
   replace BK1216 := ak (blk_below (bk BK1216) hb)
   replace HB := ak (below_step (bl4 HB GE1187 GE1188 GE1208 GE1216) hb)
   (try clear hb)
   (try clear hb2)
   (try clear hk)
   (try clear hi)
   (try clear ho0)
   (try clear ho1)
   refine hK.out _ _ ⟨(blk_cell BK1216.out 0).trans rfl, (blk_cell BK1216.out 1).trans rfl, (blk_cell BK1216.out 2).trans rfl, (blk_cell BK1188.out 0).trans rfl, (blk_cell BK1188.out 1).trans rfl, (blk_cell BK1188.out 2).trans rfl⟩ (fun hHeld => ?_)
   clear hK K
   refine norm_ (a' := ?_) ?_ ?_
   rotate_left
   ·show Act.put _ (some 35) _ = _
    simp only [SX]
    rfl
   refine pu 4 31 ?_ (ms 10 31) rfl rfl HT_ (by kernel_rfl) (fun _ _ _ h => h) (by rfl) ?_ ?_ ?_ ?_
   rotate_left
   ·intro w'
    go_simp
    with_reducible rfl
   rotate_left
   ·simp only [SX]
    rfl
   refine pu 5 36 ?_ (ms 10 63) rfl rfl HT_ (by kernel_rfl) (fun _ _ _ h => h) (by rfl) ?_ ?_ ?_ ?_
   rotate_left
   ·intro w'
    go_simp
    with_reducible rfl
   rotate_left
   ·simp only [SX]
    rfl
   refine pu 6 37 ?_ (ms 10 127) rfl rfl HT_ (by kernel_rfl) (fun _ _ _ h => h) (by rfl) ?_ ?_ ?_ ?_
   rotate_left
   ·intro w'
    go_simp
    with_reducible rfl
   rotate_left
   ·simp only [SX]
    rfl
   refine one_ (i := 7) (N := some 9) (ms 10 255) rfl rfl (one_of HT_.out (by kernel_rfl)) (by decide) (fun K hK => ?_)
   refine box_step ?hg (N := 9) ?hd (cs := #[.int .i64 0, .slice none 0 0, .slice none 0 0]) (t := 49) ?hr ?_; (case hd => rfl); (case hg => rfl); (case hr => (go_simp; done))
   intro gb1228 hg w49 hbox hb
   replace HO1193 := ak (Kd.R_below (rk HO1193) hb)
   replace HO1196 := ak (Kd.R_below (rk HO1196) hb)
   replace HO1203 := ak (Kd.R_below (rk HO1203) hb)
   replace HO1206 := ak (Kd.R_below (rk HO1206) hb)
   replace HO1212 := ak (Kd.R_below (rk HO1212) hb)
   replace HO1215 := ak (Kd.R_below (rk HO1215) hb)
   replace HO1223 := ak (Kd.R_below (rk HO1223) hb)
   replace HO1226 := ak (Kd.R_below (rk HO1226) hb)
   have BK1228 := ak (hbox)
   have GW1228 := ak ((by rw [hg]; exact (below_size (bl4 HB GE1187 GE1188 GE1208 GE1216)) : w.heap.size ≤ gb1228))
   have GE1228 := ak ((by rw [hg]; exact (below_size (bl4 HB GE1187 GE1188 GE1208 GE1216)) : w.heap.size ≤ gb1228))
   replace HB := ak (below_step (bl4 HB GE1187 GE1188 GE1208 GE1216) hb)
   have NB1187_1228 := ak ((by rw [hg]; exact Nat.ne_of_lt (blk_lt (bk BK1187)) : gb1187 ≠ gb1228))
   have NB1228_1187 := ak ((by rw [hg]; exact Nat.ne_of_gt (blk_lt (bk BK1187)) : gb1228 ≠ gb1187))
   replace BK1187 := ak (blk_below (bk BK1187) hb)
   have NB1188_1228 := ak ((by rw [hg]; exact Nat.ne_of_lt (blk_lt (bk BK1188)) : gb1188 ≠ gb1228))
   have NB1228_1188 := ak ((by rw [hg]; exact Nat.ne_of_gt (blk_lt (bk BK1188)) : gb1228 ≠ gb1188))
   replace BK1188 := ak (blk_below (bk BK1188) hb)
   have NB1208_1228 := ak ((by rw [hg]; exact Nat.ne_of_lt (blk_lt (bk BK1208)) : gb1208 ≠ gb1228))
   have NB1228_1208 := ak ((by rw [hg]; exact Nat.ne_of_gt (blk_lt (bk BK1208)) : gb1228 ≠ gb1208))
   replace BK1208 := ak (blk_below (bk BK1208) hb)
   have NB1216_1228 := ak ((by rw [hg]; exact Nat.ne_of_lt (blk_lt (bk BK1216)) : gb1216 ≠ gb1228))
   have NB1228_1216 := ak ((by rw [hg]; exact Nat.ne_of_gt (blk_lt (bk BK1216)) : gb1228 ≠ gb1216))
   replace BK1216 := ak (blk_below (bk BK1216) hb)
   clear hb hbox hg
   refine hK.out _ _ ⟨(blk_cell BK1216.out 0).trans rfl, (blk_cell BK1216.out 1).trans rfl, (blk_cell BK1216.out 2).trans rfl, (blk_cell BK1188.out 0).trans rfl, (blk_cell BK1188.out 1).trans rfl, (blk_cell BK1188.out 2).trans rfl⟩ (fun hHeld => ?_)
   clear hK K
   refine norm_ (a' := ?_) ?_ ?_
   rotate_left
   ·show Act.put _ (some 9) _ = _
    simp only [SX]
    rfl
   exact norm_ (by simp only [putAll, Act.put, List.setIfInBounds_toArray, List.set_cons_zero, List.set_cons_succ]) (hCont (v1222, v1225, gb1228) _ ⟨hHeld, (by exact Kd.R_mono HO1193.out (fun _ hk => ⟨hk.1.1, ⟨hk.1.2, hk.2⟩⟩)), (by exact Kd.R_mono HO1196.out (fun _ hk => ⟨hk.1.1, ⟨hk.1.2, hk.2⟩⟩)), (by exact Kd.R_mono HO1203.out (fun _ hk => ⟨hk.1.1, ⟨hk.1.2, hk.2⟩⟩)), (by exact Kd.R_mono HO1206.out (fun _ hk => ⟨hk.1.1, ⟨hk.1.2, hk.2⟩⟩)), (by exact Kd.R_mono HO1212.out (fun _ hk => ⟨hk.1.1, ⟨hk.1.2, hk.2⟩⟩)), (by exact Kd.R_mono HO1215.out (fun _ hk => ⟨hk.1.1, ⟨hk.1.2, hk.2⟩⟩)), (by exact Kd.R_mono HO1223.out (fun _ hk => ⟨hk.1.1.2, ⟨hk.1.2, hk.2⟩⟩)), (by exact Kd.R_mono HO1226.out (fun _ hk => ⟨hk.1.1.2, ⟨hk.1.2, hk.2⟩⟩)), (bk BK1187), (bk BK1188), (bk BK1208), (bk BK1216), (bk BK1228), GW1228.out, GE1228.out, NB1187_1228.out, NB1228_1187.out, NB1188_1228.out, NB1228_1188.out, NB1208_1228.out, NB1228_1208.out, NB1216_1228.out, NB1228_1216.out, (by repeat ((with_reducible exact HB.out)))⟩)
  skip
  refine box_step ?hg (N := 9) ?hd (cs := #[.int .i64 0, .slice none 0 0, .slice none 0 0]) (t := 49) ?hr ?_; (case hd => rfl); (case hg => rfl); (case hr => (go_simp; done))
  intro gb1228 hg w48 hbox hb
  replace HO1193 := ak (Kd.R_below (rk HO1193) hb)
  replace HO1196 := ak (Kd.R_below (rk HO1196) hb)
  replace HO1203 := ak (Kd.R_below (rk HO1203) hb)
  replace HO1206 := ak (Kd.R_below (rk HO1206) hb)
  replace HO1212 := ak (Kd.R_below (rk HO1212) hb)
  replace HO1215 := ak (Kd.R_below (rk HO1215) hb)
  have BK1228 := ak (hbox)
  have GW1228 := ak ((by rw [hg]; exact (below_size (bl4 HB GE1187 GE1188 GE1208 GE1216)) : w.heap.size ≤ gb1228))
  have GE1228 := ak ((by rw [hg]; exact (below_size (bl4 HB GE1187 GE1188 GE1208 GE1216)) : w.heap.size ≤ gb1228))
  replace HB := ak (below_step (bl4 HB GE1187 GE1188 GE1208 GE1216) hb)
  have NB1187_1228 := ak ((by rw [hg]; exact Nat.ne_of_lt (blk_lt (bk BK1187)) : gb1187 ≠ gb1228))
  have NB1228_1187 := ak ((by rw [hg]; exact Nat.ne_of_gt (blk_lt (bk BK1187)) : gb1228 ≠ gb1187))
  replace BK1187 := ak (blk_below (bk BK1187) hb)
  have NB1188_1228 := ak ((by rw [hg]; exact Nat.ne_of_lt (blk_lt (bk BK1188)) : gb1188 ≠ gb1228))
  have NB1228_1188 := ak ((by rw [hg]; exact Nat.ne_of_gt (blk_lt (bk BK1188)) : gb1228 ≠ gb1188))
  replace BK1188 := ak (blk_below (bk BK1188) hb)
  have NB1208_1228 := ak ((by rw [hg]; exact Nat.ne_of_lt (blk_lt (bk BK1208)) : gb1208 ≠ gb1228))
  have NB1228_1208 := ak ((by rw [hg]; exact Nat.ne_of_gt (blk_lt (bk BK1208)) : gb1228 ≠ gb1208))
  replace BK1208 := ak (blk_below (bk BK1208) hb)
  have NB1216_1228 := ak ((by rw [hg]; exact Nat.ne_of_lt (blk_lt (bk BK1216)) : gb1216 ≠ gb1228))
  have NB1228_1216 := ak ((by rw [hg]; exact Nat.ne_of_gt (blk_lt (bk BK1216)) : gb1228 ≠ gb1216))
  replace BK1216 := ak (blk_below (bk BK1216) hb)
  clear hb hbox hg
  refine hK.out _ _ ⟨(blk_cell BK1216.out 0).trans rfl, (blk_cell BK1216.out 1).trans rfl, (blk_cell BK1216.out 2).trans rfl, (blk_cell BK1188.out 0).trans rfl, (blk_cell BK1188.out 1).trans rfl, (blk_cell BK1188.out 2).trans rfl⟩ (fun hHeld => ?_)
  clear hK K
  refine norm_ (a' := ?_) ?_ ?_
  rotate_left
  ·show Act.put _ (some 9) _ = _
   simp only [SX]
   rfl
  refine one_ (i := 3) (N := some 35) (ms 10 143) rfl rfl (one_of HT_.out (by kernel_rfl)) (by decide) (fun K hK => ?_)
  refine goes_ Try.func49 (by kernel_rfl) rfl #[.agg #[.int .i64 t1209, .slice Ao43 t1210.length co43, .slice Ao44 t1213.length co44], .agg #[.int .i64 t1217, .int .i64 t1218, .int .i64 t1219]] (by rfl) rfl rfl (by (try simp only [List.map_toArray, List.map_cons, List.map_nil]); rfl) ?_
  with_reducible refine (impl_LiveTell.calls k t1209 _ _ t1210 _ _ t1213 t1217 t1218 t1219 t1220 t1221 t1224 t1227 _ ?side1 ?side2 ?side3 ?side4 A15.out).mono ?_
  (case side1 => repeat (exact (Kd.R_reads' HO1212.out).2.2))
  (case side2 => exact (Kd.R_reads' HO1212.out).2.1)
  (case side3 => repeat (exact (Kd.R_reads' HO1215.out).2.2))
  (case side4 => exact (Kd.R_reads' HO1215.out).2.1)
  rintro e w49 ⟨v1222, v1225, rfl, ho0, ho1, hb⟩
  refine ⟨_, rfl, ?_⟩
  have HO1223 := ak (Kd.R_lower (Kd.R_new' (Kd.R_new' (Kd.R_new' ho0 (Kd.R_lt (rk HO1193))) (Kd.R_lt (rk HO1203))) (Kd.R_lt (rk HO1212))) (below_size (by repeat ((with_reducible exact HB.out)))))
  replace HO1193 := ak (Kd.R_elder' (rk HO1193) (Kd.R_base ho0) hb)
  replace HO1203 := ak (Kd.R_elder' (rk HO1203) (Kd.R_base ho0) hb)
  replace HO1212 := ak (Kd.R_elder' (rk HO1212) (Kd.R_base ho0) hb)
  have HO1226 := ak (Kd.R_lower (Kd.R_new' (Kd.R_new' (Kd.R_new' ho1 (Kd.R_lt (rk HO1196))) (Kd.R_lt (rk HO1206))) (Kd.R_lt (rk HO1215))) (below_size (by repeat ((with_reducible exact HB.out)))))
  replace HO1196 := ak (Kd.R_elder' (rk HO1196) (Kd.R_base ho1) hb)
  replace HO1206 := ak (Kd.R_elder' (rk HO1206) (Kd.R_base ho1) hb)
  replace HO1215 := ak (Kd.R_elder' (rk HO1215) (Kd.R_base ho1) hb)
  replace BK1187 := ak (blk_below (bk BK1187) hb)
  replace BK1188 := ak (blk_below (bk BK1188) hb)
  replace BK1208 := ak (blk_below (bk BK1208) hb)
  replace BK1216 := ak (blk_below (bk BK1216) hb)
  replace BK1228 := ak (blk_below (bk BK1228) hb)
  replace HB := ak (below_step (by repeat ((with_reducible exact HB.out))) hb)
  (try clear hb)
  (try clear hb2)
  (try clear hk)
  (try clear hi)
  (try clear ho0)
  (try clear ho1)
  refine hK.out _ _ ⟨(blk_cell BK1216.out 0).trans rfl, (blk_cell BK1216.out 1).trans rfl, (blk_cell BK1216.out 2).trans rfl, (blk_cell BK1188.out 0).trans rfl, (blk_cell BK1188.out 1).trans rfl, (blk_cell BK1188.out 2).trans rfl⟩ (fun hHeld => ?_)
  clear hK K
  refine norm_ (a' := ?_) ?_ ?_
  rotate_left
  ·show Act.put _ (some 35) _ = _
   simp only [SX]
   rfl
  refine pu 4 31 ?_ (ms 10 159) rfl rfl HT_ (by kernel_rfl) (fun _ _ _ h => h) (by rfl) ?_ ?_ ?_ ?_
  rotate_left
  ·intro w'
   go_simp
   with_reducible rfl
  rotate_left
  ·simp only [SX]
   rfl
  refine pu 5 36 ?_ (ms 10 191) rfl rfl HT_ (by kernel_rfl) (fun _ _ _ h => h) (by rfl) ?_ ?_ ?_ ?_
  rotate_left
  ·intro w'
   go_simp
   with_reducible rfl
  rotate_left
  ·simp only [SX]
   rfl
  refine pu 6 37 ?_ (ms 10 255) rfl rfl HT_ (by kernel_rfl) (fun _ _ _ h => h) (by rfl) ?_ ?_ ?_ ?_
  rotate_left
  ·intro w'
   go_simp
   with_reducible rfl
  rotate_left
  ·simp only [SX]
   rfl
  exact norm_ (by simp only [putAll, Act.put, List.setIfInBounds_toArray, List.set_cons_zero, List.set_cons_succ]) (hCont (v1222, v1225, gb1228) _ ⟨hHeld, (by exact Kd.R_mono HO1193.out (fun _ hk => ⟨hk.1.1, ⟨hk.1.2, hk.2⟩⟩)), (by exact Kd.R_mono HO1196.out (fun _ hk => ⟨hk.1.1, ⟨hk.1.2, hk.2⟩⟩)), (by exact Kd.R_mono HO1203.out (fun _ hk => ⟨hk.1.1, ⟨hk.1.2, hk.2⟩⟩)), (by exact Kd.R_mono HO1206.out (fun _ hk => ⟨hk.1.1, ⟨hk.1.2, hk.2⟩⟩)), (by exact Kd.R_mono HO1212.out (fun _ hk => ⟨hk.1.1, ⟨hk.1.2, hk.2⟩⟩)), (by exact Kd.R_mono HO1215.out (fun _ hk => ⟨hk.1.1, ⟨hk.1.2, hk.2⟩⟩)), (by exact Kd.R_mono HO1223.out (fun _ hk => ⟨hk.1.1.2, ⟨hk.1.2, hk.2⟩⟩)), (by exact Kd.R_mono HO1226.out (fun _ hk => ⟨hk.1.1.2, ⟨hk.1.2, hk.2⟩⟩)), (bk BK1187), (bk BK1188), (bk BK1208), (bk BK1216), (bk BK1228), GW1228.out, GE1228.out, NB1187_1228.out, NB1228_1187.out, NB1188_1228.out, NB1228_1188.out, NB1208_1228.out, NB1228_1208.out, NB1216_1228.out, NB1228_1216.out, (by repeat ((with_reducible exact HB.out)))⟩)
 rintro ⟨v1222, v1225, gb1228⟩ w50 ⟨hS_, h0_, h1_, h2_, h3_, h4_, h5_, h6_, h7_, h8_, h9_, h10_, h11_, h12_, h13_, h14_, h15_, h16_, h17_, h18_, h19_, h20_, h21_, h22_, h23_⟩
 replace HO1193 : Aside0 (Kd.R k100 100 w50 w.heap.size (fun k_ => some k_ ≠ (.slice Ao31 t1201.length co31 : Value).ownBlock ∧ some k_ ≠ (.slice Ao43 t1210.length co43 : Value).ownBlock ∧ some k_ ≠ (v1222 : Value).ownBlock) v1192 t1191) := ⟨h0_⟩
 replace HO1196 : Aside0 (Kd.R k70 70 w50 w.heap.size (fun k_ => some k_ ≠ (.slice Ao33 t1204.length co33 : Value).ownBlock ∧ some k_ ≠ (.slice Ao44 t1213.length co44 : Value).ownBlock ∧ some k_ ≠ (v1225 : Value).ownBlock) v1195 t1194) := ⟨h1_⟩
 replace HO1203 : Aside0 (Kd.R k100 100 w50 w.heap.size (fun k_ => some k_ ≠ (v1192 : Value).ownBlock ∧ some k_ ≠ (.slice Ao43 t1210.length co43 : Value).ownBlock ∧ some k_ ≠ (v1222 : Value).ownBlock) (.slice Ao31 t1201.length co31) t1201) := ⟨h2_⟩
 replace HO1206 : Aside0 (Kd.R k70 70 w50 w.heap.size (fun k_ => some k_ ≠ (v1195 : Value).ownBlock ∧ some k_ ≠ (.slice Ao44 t1213.length co44 : Value).ownBlock ∧ some k_ ≠ (v1225 : Value).ownBlock) (.slice Ao33 t1204.length co33) t1204) := ⟨h3_⟩
 replace HO1212 : Aside0 (Kd.R k100 100 w50 w.heap.size (fun k_ => some k_ ≠ (v1192 : Value).ownBlock ∧ some k_ ≠ (.slice Ao31 t1201.length co31 : Value).ownBlock ∧ some k_ ≠ (v1222 : Value).ownBlock) (.slice Ao43 t1210.length co43) t1210) := ⟨h4_⟩
 replace HO1215 : Aside0 (Kd.R k70 70 w50 w.heap.size (fun k_ => some k_ ≠ (v1195 : Value).ownBlock ∧ some k_ ≠ (.slice Ao33 t1204.length co33 : Value).ownBlock ∧ some k_ ≠ (v1225 : Value).ownBlock) (.slice Ao44 t1213.length co44) t1213) := ⟨h5_⟩
 have HO1223 : Aside0 (Kd.R k100 100 w50 w.heap.size (fun k_ => some k_ ≠ (v1192 : Value).ownBlock ∧ some k_ ≠ (.slice Ao31 t1201.length co31 : Value).ownBlock ∧ some k_ ≠ (.slice Ao43 t1210.length co43 : Value).ownBlock) v1222 t1221) := ⟨h6_⟩
 have HO1226 : Aside0 (Kd.R k70 70 w50 w.heap.size (fun k_ => some k_ ≠ (v1195 : Value).ownBlock ∧ some k_ ≠ (.slice Ao33 t1204.length co33 : Value).ownBlock ∧ some k_ ≠ (.slice Ao44 t1213.length co44 : Value).ownBlock) v1225 t1224) := ⟨h7_⟩
 replace BK1187 : Aside0 (w50.heap[gb1187]? = some (.cells #[.int .i64 a0_0, .slice A0_1 l0_1.length c0_1, .slice A0_2 l0_2.length c0_2] 44 (0, 0))) := ⟨h8_⟩
 replace BK1188 : Aside0 (w50.heap[gb1188]? = some (.cells #[.int .i64 a1_0, .int .i64 a1_1, .int .i64 a1_2] 68 (0, 0))) := ⟨h9_⟩
 replace BK1208 : Aside0 (w50.heap[gb1208]? = some (.cells #[.int .i64 t1200, .slice Ao31 t1201.length co31, .slice Ao33 t1204.length co33] 49 (0, 0))) := ⟨h10_⟩
 replace BK1216 : Aside0 (w50.heap[gb1216]? = some (.cells #[.int .i64 t1209, .slice Ao43 t1210.length co43, .slice Ao44 t1213.length co44] 49 (0, 0))) := ⟨h11_⟩
 have BK1228 : Aside0 (w50.heap[gb1228]? = some (.cells #[.int .i64 0, .slice none 0 0, .slice none 0 0] 49 (0, 0))) := ⟨h12_⟩
 have GW1228 : Aside0 (w.heap.size ≤ gb1228) := ⟨h13_⟩
 have GE1228 : Aside0 (w.heap.size ≤ gb1228) := ⟨h14_⟩
 have NB1187_1228 : Aside0 (gb1187 ≠ gb1228) := ⟨h15_⟩
 have NB1228_1187 : Aside0 (gb1228 ≠ gb1187) := ⟨h16_⟩
 have NB1188_1228 : Aside0 (gb1188 ≠ gb1228) := ⟨h17_⟩
 have NB1228_1188 : Aside0 (gb1228 ≠ gb1188) := ⟨h18_⟩
 have NB1208_1228 : Aside0 (gb1208 ≠ gb1228) := ⟨h19_⟩
 have NB1228_1208 : Aside0 (gb1228 ≠ gb1208) := ⟨h20_⟩
 have NB1216_1228 : Aside0 (gb1216 ≠ gb1228) := ⟨h21_⟩
 have NB1228_1216 : Aside0 (gb1228 ≠ gb1216) := ⟨h22_⟩
 replace HB : Aside0 (Below w.heap.size w w50) := ⟨h23_⟩
 clear h0_ h1_ h2_ h3_ h4_ h5_ h6_ h7_ h8_ h9_ h10_ h11_ h12_ h13_ h14_ h15_ h16_ h17_ h18_ h19_ h20_ h21_ h22_ h23_
 have hHeld : w50.cell? ⟨gb1216, 0, none⟩ = some (.int .i64 t1209) ∧ w50.cell? ⟨gb1216, 1, none⟩ = some (.slice Ao43 t1210.length co43) ∧ w50.cell? ⟨gb1216, 2, none⟩ = some (.slice Ao44 t1213.length co44) ∧ w50.cell? ⟨gb1188, 0, none⟩ = some (.int .i64 a1_0) ∧ w50.cell? ⟨gb1188, 1, none⟩ = some (.int .i64 a1_1) ∧ w50.cell? ⟨gb1188, 2, none⟩ = some (.int .i64 a1_2) := hS_
 obtain ⟨Ao52, co52, eo52⟩ := Kd.R_slice HO1223.out
 (subst eo52)
 obtain ⟨Ao54, co54, eo54⟩ := Kd.R_slice HO1226.out
 (subst eo54)
 refine norm_ (a' := ?_) ?_ ?_
 rotate_left
 ·simp only [putAll, Act.put, List.setIfInBounds_toArray, List.set_cons_zero, List.set_cons_succ]
  rfl
 refine one_ (i := 8) (N := none) (ms 10 511) rfl rfl (one_of HT_.out (by kernel_rfl)) (by decide) (fun K hK => ?_)
 have hs51 : w50.cell? ⟨gb1228, 0, none⟩ = some (.int .i64 0) := (blk_cell BK1228.out 0).trans rfl
 have hfs51 := blk_frozen BK1228.out 0
 have hns51_0 := NB1187_1228.out
 have hns51_1 := NB1188_1228.out
 have hns51_2 := NB1208_1228.out
 have hns51_3 := NB1216_1228.out
 have hms51_0 := NB1228_1187.out
 have hms51_1 := NB1228_1188.out
 have hms51_2 := NB1228_1208.out
 have hms51_3 := NB1228_1216.out
 have hs53 : w50.cell? ⟨gb1228, 1, none⟩ = some (.slice none 0 0) := (blk_cell BK1228.out 1).trans rfl
 have hfs53 := blk_frozen BK1228.out 1
 have hns53_0 := NB1187_1228.out
 have hns53_1 := NB1188_1228.out
 have hns53_2 := NB1208_1228.out
 have hns53_3 := NB1216_1228.out
 have hms53_0 := NB1228_1187.out
 have hms53_1 := NB1228_1188.out
 have hms53_2 := NB1228_1208.out
 have hms53_3 := NB1228_1216.out
 have hs55 : w50.cell? ⟨gb1228, 2, none⟩ = some (.slice none 0 0) := (blk_cell BK1228.out 2).trans rfl
 have hfs55 := blk_frozen BK1228.out 2
 have hns55_0 := NB1187_1228.out
 have hns55_1 := NB1188_1228.out
 have hns55_2 := NB1208_1228.out
 have hns55_3 := NB1216_1228.out
 have hms55_0 := NB1228_1187.out
 have hms55_1 := NB1228_1188.out
 have hms55_2 := NB1228_1208.out
 have hms55_3 := NB1228_1216.out
 refine skip_ (w1 := ?_) (by rfl) rfl ?_ ?_
 rotate_left
 ·go_simp
  rfl
 refine hK.out _ _ ⟨((cell_far (p := ⟨gb1228, _, none⟩) NB1216_1228.out _).trans (((cell_far (p := ⟨gb1228, _, none⟩) NB1216_1228.out _).trans (((cell_far (p := ⟨gb1228, _, none⟩) NB1216_1228.out _).trans (hHeld.1)))))), ((cell_far (p := ⟨gb1228, _, none⟩) NB1216_1228.out _).trans (((cell_far (p := ⟨gb1228, _, none⟩) NB1216_1228.out _).trans (((cell_far (p := ⟨gb1228, _, none⟩) NB1216_1228.out _).trans (hHeld.2.1)))))), ((cell_far (p := ⟨gb1228, _, none⟩) NB1216_1228.out _).trans (((cell_far (p := ⟨gb1228, _, none⟩) NB1216_1228.out _).trans (((cell_far (p := ⟨gb1228, _, none⟩) NB1216_1228.out _).trans (hHeld.2.2.1)))))), ((cell_far (p := ⟨gb1228, _, none⟩) NB1188_1228.out _).trans (((cell_far (p := ⟨gb1228, _, none⟩) NB1188_1228.out _).trans (((cell_far (p := ⟨gb1228, _, none⟩) NB1188_1228.out _).trans (hHeld.2.2.2.1)))))), ((cell_far (p := ⟨gb1228, _, none⟩) NB1188_1228.out _).trans (((cell_far (p := ⟨gb1228, _, none⟩) NB1188_1228.out _).trans (((cell_far (p := ⟨gb1228, _, none⟩) NB1188_1228.out _).trans (hHeld.2.2.2.2.1)))))), ((cell_far (p := ⟨gb1228, _, none⟩) NB1188_1228.out _).trans (((cell_far (p := ⟨gb1228, _, none⟩) NB1188_1228.out _).trans (((cell_far (p := ⟨gb1228, _, none⟩) NB1188_1228.out _).trans (hHeld.2.2.2.2.2))))))⟩ (fun hHeld => ?_)
 clear hK K
 refine pu 9 10 ?_ (ms 10 1023) rfl rfl HT_ (by kernel_rfl) (fun _ _ _ h => h) (by rfl) ?_ ?_ ?_ ?_
 rotate_left
 ·intro w'
  go_simp
  with_reducible rfl
 rotate_left
 ·simp only [SX]
  rfl
 refine done_ (done_of HT_.out (by kernel_rfl)) ?_
 go_upto_region 8 with (fail)
 go_cut [46] (fun v46 wc => ∃ (kq : Nat) (x46_15 : Bool), v46 = .bool x46_15 ∧ Aside0 (laws_FnExactLiveTell.j0 kq t1207 t1227 x46_15 a0_0 l0_1 l0_2 a1_0 a1_1 a1_2 t1200 t1201 t1204 t1209 t1210 t1213 t1220 t1221 t1224 = some r) ∧ Aside0 (kq ≤ k) ∧ Aside0 (Kd.R k100 100 wc w.heap.size (fun k_ => some k_ ≠ ((.slice Ao43 t1210.length co43) : Value).ownBlock ∧ some k_ ≠ ((.slice Ao52 t1221.length co52) : Value).ownBlock) (.slice Ao31 t1201.length co31) t1201) ∧ Aside0 (Kd.R k70 70 wc w.heap.size (fun k_ => some k_ ≠ ((.slice Ao44 t1213.length co44) : Value).ownBlock ∧ some k_ ≠ ((.slice Ao54 t1224.length co54) : Value).ownBlock) (.slice Ao33 t1204.length co33) t1204) ∧ Aside0 (Kd.R k100 100 wc w.heap.size (fun k_ => some k_ ≠ ((.slice Ao31 t1201.length co31) : Value).ownBlock ∧ some k_ ≠ ((.slice Ao52 t1221.length co52) : Value).ownBlock) (.slice Ao43 t1210.length co43) t1210) ∧ Aside0 (Kd.R k70 70 wc w.heap.size (fun k_ => some k_ ≠ ((.slice Ao33 t1204.length co33) : Value).ownBlock ∧ some k_ ≠ ((.slice Ao54 t1224.length co54) : Value).ownBlock) (.slice Ao44 t1213.length co44) t1213) ∧ Aside0 (Kd.R k100 100 wc w.heap.size (fun k_ => some k_ ≠ ((.slice Ao31 t1201.length co31) : Value).ownBlock ∧ some k_ ≠ ((.slice Ao43 t1210.length co43) : Value).ownBlock) (.slice Ao52 t1221.length co52) t1221) ∧ Aside0 (Kd.R k70 70 wc w.heap.size (fun k_ => some k_ ≠ ((.slice Ao33 t1204.length co33) : Value).ownBlock ∧ some k_ ≠ ((.slice Ao44 t1213.length co44) : Value).ownBlock) (.slice Ao54 t1224.length co54) t1224) ∧ Aside0 (wc.heap[gb1187]? = some (.cells #[.int .i64 a0_0, (.slice A0_1 l0_1.length c0_1), (.slice A0_2 l0_2.length c0_2)] 44 (0, 0))) ∧ Aside0 (wc.heap[gb1188]? = some (.cells #[.int .i64 a1_0, .int .i64 a1_1, .int .i64 a1_2] 68 (0, 0))) ∧ Aside0 (wc.heap[gb1208]? = some (.cells #[.int .i64 t1200, (.slice Ao31 t1201.length co31), (.slice Ao33 t1204.length co33)] 49 (0, 0))) ∧ Aside0 (wc.heap[gb1216]? = some (.cells #[.int .i64 t1209, (.slice Ao43 t1210.length co43), (.slice Ao44 t1213.length co44)] 49 (0, 0))) ∧ Aside0 (wc.heap[gb1228]? = some (.cells #[.int .i64 t1220, (.slice Ao52 t1221.length co52), (.slice Ao54 t1224.length co54)] 49 (0, 0))) ∧ Aside0 (Below w.heap.size w wc))
 case first =>
  have H := HC16.out
  clear HC16
  replace H := Option.bind_eq_some_iff.mp H
  obtain ⟨t1229, A560, H⟩ := H
  have A56 := ak A560
  clear A560
  by_cases c57 : t1229 = true
  ·subst c57
   rw [if_pos rfl] at H
   have H' := ak H
   clear H
   have hnb58 := NB1228_1187.out
   have hnc58 := NB1187_1228.out
   have hnb59 := NB1228_1188.out
   have hnc59 := NB1188_1228.out
   have hnb60 := NB1228_1208.out
   have hnc60 := NB1208_1228.out
   have hnb61 := NB1228_1216.out
   have hnc61 := NB1216_1228.out
   have hcz62_0 := bc w50 BK1228 0 (.int .i64 0) rfl
   have hcz62_1 := bc w50 BK1228 1 (.slice none 0 0) rfl
   have hcz62_2 := bc w50 BK1228 2 (.slice none 0 0) rfl
   have hfz62_0 := fz BK1228 0
   have hfz62_1 := fz BK1228 1
   have hfz62_2 := fz BK1228 2
   have hnb63 := NB1208_1187.out
   have hnc63 := NB1187_1208.out
   have hnb64 := NB1208_1188.out
   have hnc64 := NB1188_1208.out
   have hnb65 := NB1208_1216.out
   have hnc65 := NB1216_1208.out
   have hcz66_0 := bc w50 BK1208 0 (.int .i64 t1200) rfl
   have hcz66_1 := bc w50 BK1208 1 (.slice Ao31 t1201.length co31) rfl
   have hcz66_2 := bc w50 BK1208 2 (.slice Ao33 t1204.length co33) rfl
   have hfz66_0 := fz BK1208 0
   have hfz66_1 := fz BK1208 1
   have hfz66_2 := fz BK1208 2
   go_wp2_with (((with_reducible refine gate_callee (f := 33) rfl ?_); refine goesL_ (some 40) rfl rfl Try.func33 (by kernel_rfl) rfl #[.agg #[.int .i64 t1220, .slice Ao52 t1221.length co52, .slice Ao54 t1224.length co54], .agg #[.int .i64 t1200, .slice Ao31 t1201.length co31, .slice Ao33 t1204.length co33]] rfl (by (try simp only [List.map_toArray, List.map_cons, List.map_nil]); rfl) ?_; (with_reducible refine (laws_eqLive.calls k t1220 _ _ t1221 _ _ t1224 t1200 _ _ t1201 _ _ t1204 true _ ?side1 ?side2 ?side3 ?side4 ?side5 ?side6 ?side7 ?side8 A56.out).mono ?_); (case side1 => refine (Kd.R_reads' (e := 100) (base := w.heap.size) (ok := fun k_ => (some k_ ≠ (v1192 : Value).ownBlock ∧ (some k_ ≠ (.slice Ao31 t1201.length co31 : Value).ownBlock ∧ some k_ ≠ (.slice Ao43 t1210.length co43 : Value).ownBlock))) (n := t1221.length) (c := co52) ?_).2.2; exact (by exact (Kd.R_mono (Kd.R_far (p := ⟨gb1228, 2, none⟩) (Kd.R_far (p := ⟨gb1228, 1, none⟩) (Kd.R_far (p := ⟨gb1228, 0, none⟩) (Kd.R_types HO1223.out BK1228.out (by decide)) (fun _ hk => hk.2) (.int .i64 t1220)) (fun _ hk => hk.2) (.slice Ao52 t1221.length co52)) (fun _ hk => hk.2) (.slice Ao54 t1224.length co54)) (fun _ h_ => h_.1)))); (case side2 => exact (Kd.R_reads' HO1223.out).2.1); (case side3 => refine (Kd.R_reads' (e := 70) (base := w.heap.size) (ok := fun k_ => (some k_ ≠ (v1195 : Value).ownBlock ∧ (some k_ ≠ (.slice Ao33 t1204.length co33 : Value).ownBlock ∧ some k_ ≠ (.slice Ao44 t1213.length co44 : Value).ownBlock))) (n := t1224.length) (c := co54) ?_).2.2; exact (by exact (Kd.R_mono (Kd.R_far (p := ⟨gb1228, 2, none⟩) (Kd.R_far (p := ⟨gb1228, 1, none⟩) (Kd.R_far (p := ⟨gb1228, 0, none⟩) (Kd.R_types HO1226.out BK1228.out (by decide)) (fun _ hk => hk.2) (.int .i64 t1220)) (fun _ hk => hk.2) (.slice Ao52 t1221.length co52)) (fun _ hk => hk.2) (.slice Ao54 t1224.length co54)) (fun _ h_ => h_.1)))); (case side4 => exact (Kd.R_reads' HO1226.out).2.1); (case side5 => refine (Kd.R_reads' (e := 100) (base := w.heap.size) (ok := fun k_ => (some k_ ≠ (v1192 : Value).ownBlock ∧ (some k_ ≠ (.slice Ao43 t1210.length co43 : Value).ownBlock ∧ some k_ ≠ (.slice Ao52 t1221.length co52 : Value).ownBlock))) (n := t1201.length) (c := co31) ?_).2.2; exact (by exact (Kd.R_mono (Kd.R_far (p := ⟨gb1228, 2, none⟩) (Kd.R_far (p := ⟨gb1228, 1, none⟩) (Kd.R_far (p := ⟨gb1228, 0, none⟩) (Kd.R_types HO1203.out BK1228.out (by decide)) (fun _ hk => hk.2) (.int .i64 t1220)) (fun _ hk => hk.2) (.slice Ao52 t1221.length co52)) (fun _ hk => hk.2) (.slice Ao54 t1224.length co54)) (fun _ h_ => h_.1)))); (case side6 => exact (Kd.R_reads' HO1203.out).2.1); (case side7 => refine (Kd.R_reads' (e := 70) (base := w.heap.size) (ok := fun k_ => (some k_ ≠ (v1195 : Value).ownBlock ∧ (some k_ ≠ (.slice Ao44 t1213.length co44 : Value).ownBlock ∧ some k_ ≠ (.slice Ao54 t1224.length co54 : Value).ownBlock))) (n := t1204.length) (c := co33) ?_).2.2; exact (by exact (Kd.R_mono (Kd.R_far (p := ⟨gb1228, 2, none⟩) (Kd.R_far (p := ⟨gb1228, 1, none⟩) (Kd.R_far (p := ⟨gb1228, 0, none⟩) (Kd.R_types HO1206.out BK1228.out (by decide)) (fun _ hk => hk.2) (.int .i64 t1220)) (fun _ hk => hk.2) (.slice Ao52 t1221.length co52)) (fun _ hk => hk.2) (.slice Ao54 t1224.length co54)) (fun _ h_ => h_.1)))); (case side8 => exact (Kd.R_reads' HO1206.out).2.1); rintro e w67 ⟨rfl, hb⟩; refine ⟨_, rfl, ?_⟩; replace HO1193 := ak (Kd.R_below (by exact (Kd.R_mono (Kd.R_far (p := ⟨gb1228, 2, none⟩) (Kd.R_far (p := ⟨gb1228, 1, none⟩) (Kd.R_far (p := ⟨gb1228, 0, none⟩) (Kd.R_types HO1193.out BK1228.out (by decide)) (fun _ hk => hk.2) (.int .i64 t1220)) (fun _ hk => hk.2) (.slice Ao52 t1221.length co52)) (fun _ hk => hk.2) (.slice Ao54 t1224.length co54)) (fun _ h_ => h_.1))) hb); replace HO1196 := ak (Kd.R_below (by exact (Kd.R_mono (Kd.R_far (p := ⟨gb1228, 2, none⟩) (Kd.R_far (p := ⟨gb1228, 1, none⟩) (Kd.R_far (p := ⟨gb1228, 0, none⟩) (Kd.R_types HO1196.out BK1228.out (by decide)) (fun _ hk => hk.2) (.int .i64 t1220)) (fun _ hk => hk.2) (.slice Ao52 t1221.length co52)) (fun _ hk => hk.2) (.slice Ao54 t1224.length co54)) (fun _ h_ => h_.1))) hb); replace HO1203 := ak (Kd.R_below (by exact (Kd.R_mono (Kd.R_far (p := ⟨gb1228, 2, none⟩) (Kd.R_far (p := ⟨gb1228, 1, none⟩) (Kd.R_far (p := ⟨gb1228, 0, none⟩) (Kd.R_types HO1203.out BK1228.out (by decide)) (fun _ hk => hk.2) (.int .i64 t1220)) (fun _ hk => hk.2) (.slice Ao52 t1221.length co52)) (fun _ hk => hk.2) (.slice Ao54 t1224.length co54)) (fun _ h_ => h_.1))) hb); replace HO1206 := ak (Kd.R_below (by exact (Kd.R_mono (Kd.R_far (p := ⟨gb1228, 2, none⟩) (Kd.R_far (p := ⟨gb1228, 1, none⟩) (Kd.R_far (p := ⟨gb1228, 0, none⟩) (Kd.R_types HO1206.out BK1228.out (by decide)) (fun _ hk => hk.2) (.int .i64 t1220)) (fun _ hk => hk.2) (.slice Ao52 t1221.length co52)) (fun _ hk => hk.2) (.slice Ao54 t1224.length co54)) (fun _ h_ => h_.1))) hb); replace HO1212 := ak (Kd.R_below (by exact (Kd.R_mono (Kd.R_far (p := ⟨gb1228, 2, none⟩) (Kd.R_far (p := ⟨gb1228, 1, none⟩) (Kd.R_far (p := ⟨gb1228, 0, none⟩) (Kd.R_types HO1212.out BK1228.out (by decide)) (fun _ hk => hk.2) (.int .i64 t1220)) (fun _ hk => hk.2) (.slice Ao52 t1221.length co52)) (fun _ hk => hk.2) (.slice Ao54 t1224.length co54)) (fun _ h_ => h_.1))) hb); replace HO1215 := ak (Kd.R_below (by exact (Kd.R_mono (Kd.R_far (p := ⟨gb1228, 2, none⟩) (Kd.R_far (p := ⟨gb1228, 1, none⟩) (Kd.R_far (p := ⟨gb1228, 0, none⟩) (Kd.R_types HO1215.out BK1228.out (by decide)) (fun _ hk => hk.2) (.int .i64 t1220)) (fun _ hk => hk.2) (.slice Ao52 t1221.length co52)) (fun _ hk => hk.2) (.slice Ao54 t1224.length co54)) (fun _ h_ => h_.1))) hb); replace HO1223 := ak (Kd.R_below (by exact (Kd.R_mono (Kd.R_far (p := ⟨gb1228, 2, none⟩) (Kd.R_far (p := ⟨gb1228, 1, none⟩) (Kd.R_far (p := ⟨gb1228, 0, none⟩) (Kd.R_types HO1223.out BK1228.out (by decide)) (fun _ hk => hk.2) (.int .i64 t1220)) (fun _ hk => hk.2) (.slice Ao52 t1221.length co52)) (fun _ hk => hk.2) (.slice Ao54 t1224.length co54)) (fun _ h_ => h_.1))) hb); replace HO1226 := ak (Kd.R_below (by exact (Kd.R_mono (Kd.R_far (p := ⟨gb1228, 2, none⟩) (Kd.R_far (p := ⟨gb1228, 1, none⟩) (Kd.R_far (p := ⟨gb1228, 0, none⟩) (Kd.R_types HO1226.out BK1228.out (by decide)) (fun _ hk => hk.2) (.int .i64 t1220)) (fun _ hk => hk.2) (.slice Ao52 t1221.length co52)) (fun _ hk => hk.2) (.slice Ao54 t1224.length co54)) (fun _ h_ => h_.1))) hb); replace BK1187 := ak (blk_below (g := gb1187) (o := .cells #[.int .i64 a0_0, .slice A0_1 l0_1.length c0_1, .slice A0_2 l0_2.length c0_2] 44 (0, 0)) (by refine blk_far ?_ NB1187_1228.out _; refine blk_far ?_ NB1187_1228.out _; refine blk_far ?_ NB1187_1228.out _; exact BK1187.out) hb); replace BK1188 := ak (blk_below (g := gb1188) (o := .cells #[.int .i64 a1_0, .int .i64 a1_1, .int .i64 a1_2] 68 (0, 0)) (by refine blk_far ?_ NB1188_1228.out _; refine blk_far ?_ NB1188_1228.out _; refine blk_far ?_ NB1188_1228.out _; exact BK1188.out) hb); replace BK1208 := ak (blk_below (g := gb1208) (o := .cells #[.int .i64 t1200, .slice Ao31 t1201.length co31, .slice Ao33 t1204.length co33] 49 (0, 0)) (by refine blk_far ?_ NB1208_1228.out _; refine blk_far ?_ NB1208_1228.out _; refine blk_far ?_ NB1208_1228.out _; exact BK1208.out) hb); replace BK1216 := ak (blk_below (g := gb1216) (o := .cells #[.int .i64 t1209, .slice Ao43 t1210.length co43, .slice Ao44 t1213.length co44] 49 (0, 0)) (by refine blk_far ?_ NB1216_1228.out _; refine blk_far ?_ NB1216_1228.out _; refine blk_far ?_ NB1216_1228.out _; exact BK1216.out) hb); replace BK1228 := ak (blk_below (g := gb1228) (o := .cells #[.int .i64 t1220, .slice Ao52 t1221.length co52, .slice Ao54 t1224.length co54] 49 (0, 0)) (by refine blk_put (cs := #[.int .i64 t1220, .slice Ao52 t1221.length co52, .slice none 0 0]) ?_ 2 _ rfl; refine blk_put (cs := #[.int .i64 t1220, .slice none 0 0, .slice none 0 0]) ?_ 1 _ rfl; refine blk_put (cs := #[.int .i64 0, .slice none 0 0, .slice none 0 0]) ?_ 0 _ rfl; exact BK1228.out) hb); replace HB := ak (below_step (by repeat ((with_reducible first | exact HB.out | refine below_set ?_ GE1228.out))) hb); (try clear hb); (try clear hb2); (try clear hk); (try clear hi)))
   go_meet
   case rel => exact ⟨_, ((t1227 != t1207)), (by rfl), H', ⟨by omega⟩, ⟨by exact Kd.R_mono HO1203.out (fun _ hk => ⟨hk.2.1, hk.2.2⟩)⟩, ⟨by exact Kd.R_mono HO1206.out (fun _ hk => ⟨hk.2.1, hk.2.2⟩)⟩, ⟨by exact Kd.R_mono HO1212.out (fun _ hk => ⟨hk.2.1, hk.2.2⟩)⟩, ⟨by exact Kd.R_mono HO1215.out (fun _ hk => ⟨hk.2.1, hk.2.2⟩)⟩, ⟨by exact Kd.R_mono HO1223.out (fun _ hk => ⟨hk.2.1, hk.2.2⟩)⟩, ⟨by exact Kd.R_mono HO1226.out (fun _ hk => ⟨hk.2.1, hk.2.2⟩)⟩, ⟨bk BK1187⟩, ⟨bk BK1188⟩, ⟨bk BK1208⟩, ⟨bk BK1216⟩, ⟨bk BK1228⟩, ⟨by repeat ((with_reducible exact HB.out))⟩⟩
  replace c57 := Bool.eq_false_iff.mpr c57
  subst c57
  rw [if_neg (show ¬ (false = true) by decide)] at H
  have H' := ak H
  clear H
  have hnb68 := NB1228_1187.out
  have hnc68 := NB1187_1228.out
  have hnb69 := NB1228_1188.out
  have hnc69 := NB1188_1228.out
  have hnb70 := NB1228_1208.out
  have hnc70 := NB1208_1228.out
  have hnb71 := NB1228_1216.out
  have hnc71 := NB1216_1228.out
  have hcz72_0 := bc w50 BK1228 0 (.int .i64 0) rfl
  have hcz72_1 := bc w50 BK1228 1 (.slice none 0 0) rfl
  have hcz72_2 := bc w50 BK1228 2 (.slice none 0 0) rfl
  have hfz72_0 := fz BK1228 0
  have hfz72_1 := fz BK1228 1
  have hfz72_2 := fz BK1228 2
  have hnb73 := NB1208_1187.out
  have hnc73 := NB1187_1208.out
  have hnb74 := NB1208_1188.out
  have hnc74 := NB1188_1208.out
  have hnb75 := NB1208_1216.out
  have hnc75 := NB1216_1208.out
  have hcz76_0 := bc w50 BK1208 0 (.int .i64 t1200) rfl
  have hcz76_1 := bc w50 BK1208 1 (.slice Ao31 t1201.length co31) rfl
  have hcz76_2 := bc w50 BK1208 2 (.slice Ao33 t1204.length co33) rfl
  have hfz76_0 := fz BK1208 0
  have hfz76_1 := fz BK1208 1
  have hfz76_2 := fz BK1208 2
  go_wp2_with (((with_reducible refine gate_callee (f := 33) rfl ?_); refine goesL_ (some 40) rfl rfl Try.func33 (by kernel_rfl) rfl #[.agg #[.int .i64 t1220, .slice Ao52 t1221.length co52, .slice Ao54 t1224.length co54], .agg #[.int .i64 t1200, .slice Ao31 t1201.length co31, .slice Ao33 t1204.length co33]] rfl (by (try simp only [List.map_toArray, List.map_cons, List.map_nil]); rfl) ?_; (with_reducible refine (laws_eqLive.calls k t1220 _ _ t1221 _ _ t1224 t1200 _ _ t1201 _ _ t1204 false _ ?side1 ?side2 ?side3 ?side4 ?side5 ?side6 ?side7 ?side8 A56.out).mono ?_); (case side1 => refine (Kd.R_reads' (e := 100) (base := w.heap.size) (ok := fun k_ => (some k_ ≠ (v1192 : Value).ownBlock ∧ (some k_ ≠ (.slice Ao31 t1201.length co31 : Value).ownBlock ∧ some k_ ≠ (.slice Ao43 t1210.length co43 : Value).ownBlock))) (n := t1221.length) (c := co52) ?_).2.2; exact (by exact (Kd.R_mono (Kd.R_far (p := ⟨gb1228, 2, none⟩) (Kd.R_far (p := ⟨gb1228, 1, none⟩) (Kd.R_far (p := ⟨gb1228, 0, none⟩) (Kd.R_types HO1223.out BK1228.out (by decide)) (fun _ hk => hk.2) (.int .i64 t1220)) (fun _ hk => hk.2) (.slice Ao52 t1221.length co52)) (fun _ hk => hk.2) (.slice Ao54 t1224.length co54)) (fun _ h_ => h_.1)))); (case side2 => exact (Kd.R_reads' HO1223.out).2.1); (case side3 => refine (Kd.R_reads' (e := 70) (base := w.heap.size) (ok := fun k_ => (some k_ ≠ (v1195 : Value).ownBlock ∧ (some k_ ≠ (.slice Ao33 t1204.length co33 : Value).ownBlock ∧ some k_ ≠ (.slice Ao44 t1213.length co44 : Value).ownBlock))) (n := t1224.length) (c := co54) ?_).2.2; exact (by exact (Kd.R_mono (Kd.R_far (p := ⟨gb1228, 2, none⟩) (Kd.R_far (p := ⟨gb1228, 1, none⟩) (Kd.R_far (p := ⟨gb1228, 0, none⟩) (Kd.R_types HO1226.out BK1228.out (by decide)) (fun _ hk => hk.2) (.int .i64 t1220)) (fun _ hk => hk.2) (.slice Ao52 t1221.length co52)) (fun _ hk => hk.2) (.slice Ao54 t1224.length co54)) (fun _ h_ => h_.1)))); (case side4 => exact (Kd.R_reads' HO1226.out).2.1); (case side5 => refine (Kd.R_reads' (e := 100) (base := w.heap.size) (ok := fun k_ => (some k_ ≠ (v1192 : Value).ownBlock ∧ (some k_ ≠ (.slice Ao43 t1210.length co43 : Value).ownBlock ∧ some k_ ≠ (.slice Ao52 t1221.length co52 : Value).ownBlock))) (n := t1201.length) (c := co31) ?_).2.2; exact (by exact (Kd.R_mono (Kd.R_far (p := ⟨gb1228, 2, none⟩) (Kd.R_far (p := ⟨gb1228, 1, none⟩) (Kd.R_far (p := ⟨gb1228, 0, none⟩) (Kd.R_types HO1203.out BK1228.out (by decide)) (fun _ hk => hk.2) (.int .i64 t1220)) (fun _ hk => hk.2) (.slice Ao52 t1221.length co52)) (fun _ hk => hk.2) (.slice Ao54 t1224.length co54)) (fun _ h_ => h_.1)))); (case side6 => exact (Kd.R_reads' HO1203.out).2.1); (case side7 => refine (Kd.R_reads' (e := 70) (base := w.heap.size) (ok := fun k_ => (some k_ ≠ (v1195 : Value).ownBlock ∧ (some k_ ≠ (.slice Ao44 t1213.length co44 : Value).ownBlock ∧ some k_ ≠ (.slice Ao54 t1224.length co54 : Value).ownBlock))) (n := t1204.length) (c := co33) ?_).2.2; exact (by exact (Kd.R_mono (Kd.R_far (p := ⟨gb1228, 2, none⟩) (Kd.R_far (p := ⟨gb1228, 1, none⟩) (Kd.R_far (p := ⟨gb1228, 0, none⟩) (Kd.R_types HO1206.out BK1228.out (by decide)) (fun _ hk => hk.2) (.int .i64 t1220)) (fun _ hk => hk.2) (.slice Ao52 t1221.length co52)) (fun _ hk => hk.2) (.slice Ao54 t1224.length co54)) (fun _ h_ => h_.1)))); (case side8 => exact (Kd.R_reads' HO1206.out).2.1); rintro e w77 ⟨rfl, hb⟩; refine ⟨_, rfl, ?_⟩; replace HO1193 := ak (Kd.R_below (by exact (Kd.R_mono (Kd.R_far (p := ⟨gb1228, 2, none⟩) (Kd.R_far (p := ⟨gb1228, 1, none⟩) (Kd.R_far (p := ⟨gb1228, 0, none⟩) (Kd.R_types HO1193.out BK1228.out (by decide)) (fun _ hk => hk.2) (.int .i64 t1220)) (fun _ hk => hk.2) (.slice Ao52 t1221.length co52)) (fun _ hk => hk.2) (.slice Ao54 t1224.length co54)) (fun _ h_ => h_.1))) hb); replace HO1196 := ak (Kd.R_below (by exact (Kd.R_mono (Kd.R_far (p := ⟨gb1228, 2, none⟩) (Kd.R_far (p := ⟨gb1228, 1, none⟩) (Kd.R_far (p := ⟨gb1228, 0, none⟩) (Kd.R_types HO1196.out BK1228.out (by decide)) (fun _ hk => hk.2) (.int .i64 t1220)) (fun _ hk => hk.2) (.slice Ao52 t1221.length co52)) (fun _ hk => hk.2) (.slice Ao54 t1224.length co54)) (fun _ h_ => h_.1))) hb); replace HO1203 := ak (Kd.R_below (by exact (Kd.R_mono (Kd.R_far (p := ⟨gb1228, 2, none⟩) (Kd.R_far (p := ⟨gb1228, 1, none⟩) (Kd.R_far (p := ⟨gb1228, 0, none⟩) (Kd.R_types HO1203.out BK1228.out (by decide)) (fun _ hk => hk.2) (.int .i64 t1220)) (fun _ hk => hk.2) (.slice Ao52 t1221.length co52)) (fun _ hk => hk.2) (.slice Ao54 t1224.length co54)) (fun _ h_ => h_.1))) hb); replace HO1206 := ak (Kd.R_below (by exact (Kd.R_mono (Kd.R_far (p := ⟨gb1228, 2, none⟩) (Kd.R_far (p := ⟨gb1228, 1, none⟩) (Kd.R_far (p := ⟨gb1228, 0, none⟩) (Kd.R_types HO1206.out BK1228.out (by decide)) (fun _ hk => hk.2) (.int .i64 t1220)) (fun _ hk => hk.2) (.slice Ao52 t1221.length co52)) (fun _ hk => hk.2) (.slice Ao54 t1224.length co54)) (fun _ h_ => h_.1))) hb); replace HO1212 := ak (Kd.R_below (by exact (Kd.R_mono (Kd.R_far (p := ⟨gb1228, 2, none⟩) (Kd.R_far (p := ⟨gb1228, 1, none⟩) (Kd.R_far (p := ⟨gb1228, 0, none⟩) (Kd.R_types HO1212.out BK1228.out (by decide)) (fun _ hk => hk.2) (.int .i64 t1220)) (fun _ hk => hk.2) (.slice Ao52 t1221.length co52)) (fun _ hk => hk.2) (.slice Ao54 t1224.length co54)) (fun _ h_ => h_.1))) hb); replace HO1215 := ak (Kd.R_below (by exact (Kd.R_mono (Kd.R_far (p := ⟨gb1228, 2, none⟩) (Kd.R_far (p := ⟨gb1228, 1, none⟩) (Kd.R_far (p := ⟨gb1228, 0, none⟩) (Kd.R_types HO1215.out BK1228.out (by decide)) (fun _ hk => hk.2) (.int .i64 t1220)) (fun _ hk => hk.2) (.slice Ao52 t1221.length co52)) (fun _ hk => hk.2) (.slice Ao54 t1224.length co54)) (fun _ h_ => h_.1))) hb); replace HO1223 := ak (Kd.R_below (by exact (Kd.R_mono (Kd.R_far (p := ⟨gb1228, 2, none⟩) (Kd.R_far (p := ⟨gb1228, 1, none⟩) (Kd.R_far (p := ⟨gb1228, 0, none⟩) (Kd.R_types HO1223.out BK1228.out (by decide)) (fun _ hk => hk.2) (.int .i64 t1220)) (fun _ hk => hk.2) (.slice Ao52 t1221.length co52)) (fun _ hk => hk.2) (.slice Ao54 t1224.length co54)) (fun _ h_ => h_.1))) hb); replace HO1226 := ak (Kd.R_below (by exact (Kd.R_mono (Kd.R_far (p := ⟨gb1228, 2, none⟩) (Kd.R_far (p := ⟨gb1228, 1, none⟩) (Kd.R_far (p := ⟨gb1228, 0, none⟩) (Kd.R_types HO1226.out BK1228.out (by decide)) (fun _ hk => hk.2) (.int .i64 t1220)) (fun _ hk => hk.2) (.slice Ao52 t1221.length co52)) (fun _ hk => hk.2) (.slice Ao54 t1224.length co54)) (fun _ h_ => h_.1))) hb); replace BK1187 := ak (blk_below (g := gb1187) (o := .cells #[.int .i64 a0_0, .slice A0_1 l0_1.length c0_1, .slice A0_2 l0_2.length c0_2] 44 (0, 0)) (by refine blk_far ?_ NB1187_1228.out _; refine blk_far ?_ NB1187_1228.out _; refine blk_far ?_ NB1187_1228.out _; exact BK1187.out) hb); replace BK1188 := ak (blk_below (g := gb1188) (o := .cells #[.int .i64 a1_0, .int .i64 a1_1, .int .i64 a1_2] 68 (0, 0)) (by refine blk_far ?_ NB1188_1228.out _; refine blk_far ?_ NB1188_1228.out _; refine blk_far ?_ NB1188_1228.out _; exact BK1188.out) hb); replace BK1208 := ak (blk_below (g := gb1208) (o := .cells #[.int .i64 t1200, .slice Ao31 t1201.length co31, .slice Ao33 t1204.length co33] 49 (0, 0)) (by refine blk_far ?_ NB1208_1228.out _; refine blk_far ?_ NB1208_1228.out _; refine blk_far ?_ NB1208_1228.out _; exact BK1208.out) hb); replace BK1216 := ak (blk_below (g := gb1216) (o := .cells #[.int .i64 t1209, .slice Ao43 t1210.length co43, .slice Ao44 t1213.length co44] 49 (0, 0)) (by refine blk_far ?_ NB1216_1228.out _; refine blk_far ?_ NB1216_1228.out _; refine blk_far ?_ NB1216_1228.out _; exact BK1216.out) hb); replace BK1228 := ak (blk_below (g := gb1228) (o := .cells #[.int .i64 t1220, .slice Ao52 t1221.length co52, .slice Ao54 t1224.length co54] 49 (0, 0)) (by refine blk_put (cs := #[.int .i64 t1220, .slice Ao52 t1221.length co52, .slice none 0 0]) ?_ 2 _ rfl; refine blk_put (cs := #[.int .i64 t1220, .slice none 0 0, .slice none 0 0]) ?_ 1 _ rfl; refine blk_put (cs := #[.int .i64 0, .slice none 0 0, .slice none 0 0]) ?_ 0 _ rfl; exact BK1228.out) hb); replace HB := ak (below_step (by repeat ((with_reducible first | exact HB.out | refine below_set ?_ GE1228.out))) hb); (try clear hb); (try clear hb2); (try clear hk); (try clear hi)))
  go_meet
  case rel => exact ⟨_, (true), (by rfl), H', ⟨by omega⟩, ⟨by exact Kd.R_mono HO1203.out (fun _ hk => ⟨hk.2.1, hk.2.2⟩)⟩, ⟨by exact Kd.R_mono HO1206.out (fun _ hk => ⟨hk.2.1, hk.2.2⟩)⟩, ⟨by exact Kd.R_mono HO1212.out (fun _ hk => ⟨hk.2.1, hk.2.2⟩)⟩, ⟨by exact Kd.R_mono HO1215.out (fun _ hk => ⟨hk.2.1, hk.2.2⟩)⟩, ⟨by exact Kd.R_mono HO1223.out (fun _ hk => ⟨hk.2.1, hk.2.2⟩)⟩, ⟨by exact Kd.R_mono HO1226.out (fun _ hk => ⟨hk.2.1, hk.2.2⟩)⟩, ⟨bk BK1187⟩, ⟨bk BK1188⟩, ⟨bk BK1208⟩, ⟨bk BK1216⟩, ⟨bk BK1228⟩, ⟨by repeat ((with_reducible exact HB.out))⟩⟩
 clear HC16
 try clear p2
 try clear c3
 try clear c4
 try clear c5
 try clear c6
 try clear c7
 try clear c33
 try clear c48
 try clear c49
 try clear c57
 try clear c58
 try clear c59
 try clear c60
 try clear c61
 try clear c63
 try clear c64
 try clear c65
 try clear c68
 try clear c69
 try clear c70
 try clear c71
 try clear c73
 try clear c74
 try clear c75
 try clear hcz62_0
 try clear hcz62_1
 try clear hcz62_2
 try clear hcz66_0
 try clear hcz66_1
 try clear hcz66_2
 try clear hcz72_0
 try clear hcz72_1
 try clear hcz72_2
 try clear hcz76_0
 try clear hcz76_1
 try clear hcz76_2
 try clear hfz62_0
 try clear hfz62_1
 try clear hfz62_2
 try clear hfz66_0
 try clear hfz66_1
 try clear hfz66_2
 try clear hfz72_0
 try clear hfz72_1
 try clear hfz72_2
 try clear hfz76_0
 try clear hfz76_1
 try clear hfz76_2
 obtain ⟨kq, x46_15, rfl, HA, HJ15, HO_1209001, HO_1209002, HO_1217001, HO_1217002, HO_1229001, HO_1229002, BK1187, BK1188, BK1208, BK1216, BK1228, HB⟩ := hcut
 cases kq with
 | zero => exact absurd HA.out (by simp [laws_FnExactLiveTell.j0])
 | succ kj15 =>
  have H := HA.out
  clear HA
  simp only [laws_FnExactLiveTell.j0] at H
  by_cases c78 : x46_15 = true
  ·subst c78
   rw [if_pos rfl] at H
   exact absurd ((Option.some.inj H).trans hr_) Bool.false_ne_true
  replace c78 := Bool.eq_false_iff.mpr c78
  subst c78
  rw [if_neg (show ¬ (false = true) by decide)] at H
  replace H := Option.bind_eq_some_iff.mp H
  obtain ⟨⟨t1230, t1231, t1234⟩, A790, H⟩ := H
  have A79 := ak A790
  clear A790
  replace H := Option.bind_eq_some_iff.mp H
  obtain ⟨t1237, A800, H⟩ := H
  have A80 := ak A800
  clear A800
  by_cases c81 : t1237 = true
  rotate_left
  ·replace c81 := Bool.eq_false_iff.mpr c81
   subst c81
   rw [if_neg (show ¬ (false = true) by decide)] at H
   exact absurd ((Option.some.inj H).trans hr_) Bool.false_ne_true
  subst c81
  rw [if_pos rfl] at H
  replace H := Option.bind_eq_some_iff.mp H
  obtain ⟨⟨t1238, t1239, t1240⟩, A820, H⟩ := H
  have A82 := ak A820
  clear A820
  have HC83 := ak H
  clear H
  try go_wp2
  replace HO_1209001 := ak (Kd.R_drew HO_1209001.out)
  replace HO_1209002 := ak (Kd.R_drew HO_1209002.out)
  replace HO_1217001 := ak (Kd.R_drew HO_1217001.out)
  replace HO_1217002 := ak (Kd.R_drew HO_1217002.out)
  replace HO_1229001 := ak (Kd.R_drew HO_1229001.out)
  replace HO_1229002 := ak (Kd.R_drew HO_1229002.out)
  replace BK1187 := ak (blk_drew BK1187.out)
  replace BK1188 := ak (blk_drew BK1188.out)
  replace BK1208 := ak (blk_drew BK1208.out)
  replace BK1216 := ak (blk_drew BK1216.out)
  replace BK1228 := ak (blk_drew BK1228.out)
  replace HB := ak (below_drew1 HB.out)
  refine start_ (n := 5) (S := fun w' => w'.cell? ⟨gb1216, 0, none⟩ = some (.int .i64 t1209) ∧ w'.cell? ⟨gb1216, 1, none⟩ = some (.slice Ao43 t1210.length co43) ∧ w'.cell? ⟨gb1216, 2, none⟩ = some (.slice Ao44 t1213.length co44) ∧ w'.cell? ⟨gb1187, 0, none⟩ = some (.int .i64 a0_0) ∧ w'.cell? ⟨gb1187, 1, none⟩ = some (.slice A0_1 l0_1.length c0_1) ∧ w'.cell? ⟨gb1187, 2, none⟩ = some (.slice A0_2 l0_2.length c0_2)) (ds := []) (ms 5 0) (by kernel_rfl) rfl (by kernel_rfl) ⟨(blk_cell BK1216.out 0).trans rfl, (blk_cell BK1216.out 1).trans rfl, (blk_cell BK1216.out 2).trans rfl, (blk_cell BK1187.out 0).trans rfl, (blk_cell BK1187.out 1).trans rfl, (blk_cell BK1187.out 2).trans rfl⟩ (fun hHeld => ?_)
  generalize wc.drew = w84 at HO_1209001 HO_1209002 HO_1217001 HO_1217002 HO_1229001 HO_1229002 BK1187 BK1188 BK1208 BK1216 BK1228 HB hHeld ⊢
  refine take_ (i := 0) (N := some 47) (v := ?_) (a' := ?_) (ms 5 1) rfl rfl (by kernel_rfl) (fun _ _ _ h => h) (Or.inl ⟨by rfl, ?_⟩) hHeld ?_ ?_
  rotate_left
  ·rintro w' ⟨s0, s1, s2, s3, s4, s5⟩
   go_simp
   with_reducible rfl
  rotate_left
  ·simp only [SX]
   rfl
  refine take_ (i := 1) (N := some 48) (v := ?_) (a' := ?_) (ms 5 3) rfl rfl (by kernel_rfl) (fun _ _ _ h => h) (Or.inl ⟨by rfl, ?_⟩) hHeld ?_ ?_
  rotate_left
  ·rintro w' ⟨s0, s1, s2, s3, s4, s5⟩
   go_simp
   with_reducible rfl
  rotate_left
  ·simp only [SX]
   rfl
  refine one_ (i := 2) (N := some 49) (ms 5 7) rfl rfl (by kernel_rfl) (by decide) (fun K hK => ?_)
  refine goes_ Try.func31 (by kernel_rfl) rfl #[.agg #[.int .i64 a0_0, .slice A0_1 l0_1.length c0_1, .slice A0_2 l0_2.length c0_2]] (by rfl) rfl rfl (by (try simp only [List.map_toArray, List.map_cons, List.map_nil]); rfl) ?_
  with_reducible refine (laws_toLive.calls kj15 a0_0 _ _ l0_1 _ _ l0_2 t1230 t1231 t1234 _ ?side1 ?side2 ?side3 ?side4 A79.out).mono ?_
  (case side1 => repeat (exact (Kd.C_below HR0_1.out HB.out)))
  (case side2 => exact HC0_1.out)
  (case side3 => repeat (exact (Kd.C_below HR0_2.out HB.out)))
  (case side4 => exact HC0_2.out)
  rintro e w85 ⟨v1232, v1235, rfl, ho0, ho1, hb⟩
  refine ⟨_, rfl, ?_⟩
  have HO1233 := ak (Kd.R_lower (Kd.R_new' (Kd.R_new' (Kd.R_new' ho0 (Kd.R_lt (rk HO_1209001))) (Kd.R_lt (rk HO_1217001))) (Kd.R_lt (rk HO_1229001))) (below_size (by repeat ((with_reducible exact HB.out)))))
  replace HO_1209001 := ak (Kd.R_elder' (rk HO_1209001) (Kd.R_base ho0) hb)
  replace HO_1217001 := ak (Kd.R_elder' (rk HO_1217001) (Kd.R_base ho0) hb)
  replace HO_1229001 := ak (Kd.R_elder' (rk HO_1229001) (Kd.R_base ho0) hb)
  have HO1236 := ak (Kd.R_lower (Kd.R_new' (Kd.R_new' (Kd.R_new' ho1 (Kd.R_lt (rk HO_1209002))) (Kd.R_lt (rk HO_1217002))) (Kd.R_lt (rk HO_1229002))) (below_size (by repeat ((with_reducible exact HB.out)))))
  replace HO_1209002 := ak (Kd.R_elder' (rk HO_1209002) (Kd.R_base ho1) hb)
  replace HO_1217002 := ak (Kd.R_elder' (rk HO_1217002) (Kd.R_base ho1) hb)
  replace HO_1229002 := ak (Kd.R_elder' (rk HO_1229002) (Kd.R_base ho1) hb)
  replace BK1187 := ak (blk_below (bk BK1187) hb)
  replace BK1188 := ak (blk_below (bk BK1188) hb)
  replace BK1208 := ak (blk_below (bk BK1208) hb)
  replace BK1216 := ak (blk_below (bk BK1216) hb)
  replace BK1228 := ak (blk_below (bk BK1228) hb)
  replace HB := ak (below_step (by repeat ((with_reducible exact HB.out))) hb)
  (try clear hb)
  (try clear hb2)
  (try clear hk)
  (try clear hi)
  (try clear ho0)
  (try clear ho1)
  obtain ⟨Ao86, co86, eo86⟩ := Kd.R_slice HO1233.out
  (subst eo86)
  obtain ⟨Ao87, co87, eo87⟩ := Kd.R_slice HO1236.out
  (subst eo87)
  refine hK.out _ _ ⟨(blk_cell BK1216.out 0).trans rfl, (blk_cell BK1216.out 1).trans rfl, (blk_cell BK1216.out 2).trans rfl, (blk_cell BK1187.out 0).trans rfl, (blk_cell BK1187.out 1).trans rfl, (blk_cell BK1187.out 2).trans rfl⟩ (fun hHeld => ?_)
  clear hK K
  refine norm_ (a' := ?_) ?_ ?_
  rotate_left
  ·show Act.put _ (some 49) _ = _
   simp only [SX]
   rfl
  refine one_ (i := 3) (N := some 50) (ms 5 15) rfl rfl (by kernel_rfl) (by decide) (fun K hK => ?_)
  refine goes_ Try.func33 (by kernel_rfl) rfl #[.agg #[.int .i64 t1209, .slice Ao43 t1210.length co43, .slice Ao44 t1213.length co44], .agg #[.int .i64 t1230, .slice Ao86 t1231.length co86, .slice Ao87 t1234.length co87]] (by rfl) rfl rfl (by (try simp only [List.map_toArray, List.map_cons, List.map_nil]); rfl) ?_
  with_reducible refine (laws_eqLive.calls kj15 t1209 _ _ t1210 _ _ t1213 t1230 _ _ t1231 _ _ t1234 true _ ?side1 ?side2 ?side3 ?side4 ?side5 ?side6 ?side7 ?side8 A80.out).mono ?_
  (case side1 => repeat (exact (Kd.R_reads' HO_1217001.out).2.2))
  (case side2 => exact (Kd.R_reads' HO_1217001.out).2.1)
  (case side3 => repeat (exact (Kd.R_reads' HO_1217002.out).2.2))
  (case side4 => exact (Kd.R_reads' HO_1217002.out).2.1)
  (case side5 => repeat (exact (Kd.R_reads' HO1233.out).2.2))
  (case side6 => exact (Kd.R_reads' HO1233.out).2.1)
  (case side7 => repeat (exact (Kd.R_reads' HO1236.out).2.2))
  (case side8 => exact (Kd.R_reads' HO1236.out).2.1)
  rintro e w88 ⟨rfl, hb⟩
  refine ⟨_, rfl, ?_⟩
  replace HO_1209001 := ak (Kd.R_below (rk HO_1209001) hb)
  replace HO_1209002 := ak (Kd.R_below (rk HO_1209002) hb)
  replace HO_1217001 := ak (Kd.R_below (rk HO_1217001) hb)
  replace HO_1217002 := ak (Kd.R_below (rk HO_1217002) hb)
  replace HO_1229001 := ak (Kd.R_below (rk HO_1229001) hb)
  replace HO_1229002 := ak (Kd.R_below (rk HO_1229002) hb)
  replace HO1233 := ak (Kd.R_below (rk HO1233) hb)
  replace HO1236 := ak (Kd.R_below (rk HO1236) hb)
  replace BK1187 := ak (blk_below (bk BK1187) hb)
  replace BK1188 := ak (blk_below (bk BK1188) hb)
  replace BK1208 := ak (blk_below (bk BK1208) hb)
  replace BK1216 := ak (blk_below (bk BK1216) hb)
  replace BK1228 := ak (blk_below (bk BK1228) hb)
  replace HB := ak (below_step (by repeat ((with_reducible exact HB.out))) hb)
  (try clear hb)
  (try clear hb2)
  (try clear hk)
  (try clear hi)
  refine hK.out _ _ ⟨(blk_cell BK1216.out 0).trans rfl, (blk_cell BK1216.out 1).trans rfl, (blk_cell BK1216.out 2).trans rfl, (blk_cell BK1187.out 0).trans rfl, (blk_cell BK1187.out 1).trans rfl, (blk_cell BK1187.out 2).trans rfl⟩ (fun hHeld => ?_)
  clear hK K
  refine norm_ (a' := ?_) ?_ ?_
  rotate_left
  ·show Act.put _ (some 50) _ = _
   simp only [SX]
   rfl
  refine pure_ (i := 4) (N := some 51) (v := ?_) (a' := ?_) (ms 5 31) rfl rfl (by kernel_rfl) (fun _ _ _ h => h) (Or.inl ⟨by rfl, ?_⟩) ?_ ?_
  rotate_left
  ·intro w'
   go_simp
   with_reducible rfl
  rotate_left
  ·simp only [SX]
   rfl
  refine done_ (by kernel_rfl) ?_
  have hnb89 := NB1216_1187.out
  have hnc89 := NB1187_1216.out
  have hnb90 := NB1216_1188.out
  have hnc90 := NB1188_1216.out
  have hnb91 := NB1216_1208.out
  have hnc91 := NB1208_1216.out
  have hnb92 := NB1216_1228.out
  have hnc92 := NB1228_1216.out
  have hcz93_0 := bc w88 BK1216 0 (.int .i64 t1209) rfl
  have hcz93_1 := bc w88 BK1216 1 (.slice Ao43 t1210.length co43) rfl
  have hcz93_2 := bc w88 BK1216 2 (.slice Ao44 t1213.length co44) rfl
  have hfz93_0 := fz BK1216 0
  have hfz93_1 := fz BK1216 1
  have hfz93_2 := fz BK1216 2
  go_upto_region 14 with (((with_reducible refine gate_callee (f := 45) rfl ?_); refine goesL_ (some 54) rfl rfl Try.func45 (by kernel_rfl) rfl #[.agg #[.int .i64 t1209, .slice Ao43 t1210.length co43, .slice Ao44 t1213.length co44], .int .i64 1] rfl (by (try simp only [List.map_toArray, List.map_cons, List.map_nil]); rfl) ?_; (with_reducible refine (laws_markLive.calls kj15 t1209 (fun k_ => some k_ = (.slice Ao43 t1210.length co43 : Value).ownBlock) (.slice Ao43 t1210.length co43) t1210 (fun k_ => some k_ = (.slice Ao44 t1213.length co44 : Value).ownBlock) (.slice Ao44 t1213.length co44) t1213 1 t1238 t1239 t1240 w _ ?side1 ?side2 ?side3 A82.out).mono ?_); (case side1 => repeat ((with_reducible exact HB.out))); (case side2 => exact Kd.R_tight rfl HO_1217001.out); (case side3 => exact Kd.R_tight rfl HO_1217002.out); rintro e w94 ⟨rfl, hy0, hy1, hb, hkp⟩; refine ⟨_, rfl, ?_⟩; replace HO_1209001 := ak (Kd.R_mono (ok' := fun k_ => some k_ ≠ (.slice Ao43 t1210.length co43 : Value).ownBlock ∧ some k_ ≠ (.slice Ao52 t1221.length co52 : Value).ownBlock ∧ some k_ ≠ (.slice Ao86 t1231.length co86 : Value).ownBlock) (Kd.R_keptB ((Kd.R_apart' HO_1209001.out (Kd.R_typed HO_1217002.out) (by decide))) hkp (fun k_ hk_ hs_ => Or.elim hs_ (fun e_ => (hk_.1.1.1) e_) (fun e_ => (hk_.2) e_))) (fun k_ hk_ => ⟨hk_.1.1.1.1, hk_.1.1.1.2, hk_.1.1.2⟩)); replace HO_1209002 := ak (Kd.R_mono (ok' := fun k_ => some k_ ≠ (.slice Ao44 t1213.length co44 : Value).ownBlock ∧ some k_ ≠ (.slice Ao54 t1224.length co54 : Value).ownBlock ∧ some k_ ≠ (.slice Ao87 t1234.length co87 : Value).ownBlock) (Kd.R_keptB ((Kd.R_apart' HO_1209002.out (Kd.R_typed HO_1217001.out) (by decide))) hkp (fun k_ hk_ hs_ => Or.elim hs_ (fun e_ => (hk_.2) e_) (fun e_ => (hk_.1.1.1) e_))) (fun k_ hk_ => ⟨hk_.1.1.1.1, hk_.1.1.1.2, hk_.1.1.2⟩)); replace HO_1229001 := ak (Kd.R_mono (ok' := fun k_ => some k_ ≠ (.slice Ao31 t1201.length co31 : Value).ownBlock ∧ some k_ ≠ (.slice Ao43 t1210.length co43 : Value).ownBlock ∧ some k_ ≠ (.slice Ao86 t1231.length co86 : Value).ownBlock) (Kd.R_keptB ((Kd.R_apart' HO_1229001.out (Kd.R_typed HO_1217002.out) (by decide))) hkp (fun k_ hk_ hs_ => Or.elim hs_ (fun e_ => (hk_.1.1.2) e_) (fun e_ => (hk_.2) e_))) (fun k_ hk_ => ⟨hk_.1.1.1.1, hk_.1.1.1.2, hk_.1.1.2⟩)); replace HO_1229002 := ak (Kd.R_mono (ok' := fun k_ => some k_ ≠ (.slice Ao33 t1204.length co33 : Value).ownBlock ∧ some k_ ≠ (.slice Ao44 t1213.length co44 : Value).ownBlock ∧ some k_ ≠ (.slice Ao87 t1234.length co87 : Value).ownBlock) (Kd.R_keptB ((Kd.R_apart' HO_1229002.out (Kd.R_typed HO_1217001.out) (by decide))) hkp (fun k_ hk_ hs_ => Or.elim hs_ (fun e_ => (hk_.2) e_) (fun e_ => (hk_.1.1.2) e_))) (fun k_ hk_ => ⟨hk_.1.1.1.1, hk_.1.1.1.2, hk_.1.1.2⟩)); replace BK1187 := ak (blk_kept (bk BK1187) hkp (fun hs_ => Or.elim hs_ (fun e_ => (fun e_ => (Kd.R_ne HO_1217001.out BK1187.out (by decide)) e_) e_) (fun e_ => (fun e_ => (Kd.R_ne HO_1217002.out BK1187.out (by decide)) e_) e_))); replace BK1188 := ak (blk_kept (bk BK1188) hkp (fun hs_ => Or.elim hs_ (fun e_ => (fun e_ => (Kd.R_ne HO_1217001.out BK1188.out (by decide)) e_) e_) (fun e_ => (fun e_ => (Kd.R_ne HO_1217002.out BK1188.out (by decide)) e_) e_))); replace BK1208 := ak (blk_kept (bk BK1208) hkp (fun hs_ => Or.elim hs_ (fun e_ => (fun e_ => (Kd.R_ne HO_1217001.out BK1208.out (by decide)) e_) e_) (fun e_ => (fun e_ => (Kd.R_ne HO_1217002.out BK1208.out (by decide)) e_) e_))); replace BK1216 := ak (blk_kept (bk BK1216) hkp (fun hs_ => Or.elim hs_ (fun e_ => (fun e_ => (Kd.R_ne HO_1217001.out BK1216.out (by decide)) e_) e_) (fun e_ => (fun e_ => (Kd.R_ne HO_1217002.out BK1216.out (by decide)) e_) e_))); replace BK1228 := ak (blk_kept (bk BK1228) hkp (fun hs_ => Or.elim hs_ (fun e_ => (fun e_ => (Kd.R_ne HO_1217001.out BK1228.out (by decide)) e_) e_) (fun e_ => (fun e_ => (Kd.R_ne HO_1217002.out BK1228.out (by decide)) e_) e_))); replace HO1233 := ak (Kd.R_mono (ok' := fun k_ => some k_ ≠ (.slice Ao31 t1201.length co31 : Value).ownBlock ∧ some k_ ≠ (.slice Ao43 t1210.length co43 : Value).ownBlock ∧ some k_ ≠ (.slice Ao52 t1221.length co52 : Value).ownBlock) (Kd.R_keptB ((Kd.R_apart' HO1233.out (Kd.R_typed HO_1217002.out) (by decide))) hkp (fun k_ hk_ hs_ => Or.elim hs_ (fun e_ => (hk_.1.1.2) e_) (fun e_ => (hk_.2) e_))) (fun k_ hk_ => ⟨hk_.1.1.1.1.2, hk_.1.1.1.2, hk_.1.1.2⟩)); replace HO_1217002 := ak (Kd.R_reok rfl hy1 (fun k_ e_ => HO_1217002.out.1 k_ e_)); replace HO1236 := ak (Kd.R_mono (ok' := fun k_ => some k_ ≠ (.slice Ao33 t1204.length co33 : Value).ownBlock ∧ some k_ ≠ (.slice Ao44 t1213.length co44 : Value).ownBlock ∧ some k_ ≠ (.slice Ao54 t1224.length co54 : Value).ownBlock) (Kd.R_keptB ((Kd.R_apart' HO1236.out (Kd.R_typed HO_1217001.out) (by decide))) hkp (fun k_ hk_ hs_ => Or.elim hs_ (fun e_ => (hk_.2) e_) (fun e_ => (hk_.1.1.2) e_))) (fun k_ hk_ => ⟨hk_.1.1.1.1.2, hk_.1.1.1.2, hk_.1.1.2⟩)); replace HO_1217001 := ak (Kd.R_reok rfl hy0 (fun k_ e_ => HO_1217001.out.1 k_ e_)); replace HB := ak (hb); (try clear hb); (try clear hkp); (try clear hy0); (try clear hy1)))
  (try simp only [Act.put, List.setIfInBounds_toArray, List.set_cons_zero, List.set_cons_succ])
  go_cut [67] (fun v67 wc => ∃ (kq : Nat) (x67_82 : Bool), v67 = .bool x67_82 ∧ Aside0 (laws_FnExactLiveTell.j1 kq t1207 x67_82 a0_0 l0_1 l0_2 a1_0 a1_1 a1_2 t1200 t1201 t1204 t1220 t1221 t1224 = some r) ∧ Aside0 (kq ≤ kj15) ∧ Aside0 (Kd.R k100 100 wc w.heap.size (fun k_ => some k_ ≠ ((.slice Ao43 t1210.length co43) : Value).ownBlock ∧ some k_ ≠ ((.slice Ao52 t1221.length co52) : Value).ownBlock) (.slice Ao31 t1201.length co31) t1201) ∧ Aside0 (Kd.R k70 70 wc w.heap.size (fun k_ => some k_ ≠ ((.slice Ao44 t1213.length co44) : Value).ownBlock ∧ some k_ ≠ ((.slice Ao54 t1224.length co54) : Value).ownBlock) (.slice Ao33 t1204.length co33) t1204) ∧ Aside0 (Kd.R k100 100 wc w.heap.size (fun k_ => some k_ ≠ ((.slice Ao31 t1201.length co31) : Value).ownBlock ∧ some k_ ≠ ((.slice Ao52 t1221.length co52) : Value).ownBlock) (.slice Ao43 t1210.length co43) t1239) ∧ Aside0 (Kd.R k70 70 wc w.heap.size (fun k_ => some k_ ≠ ((.slice Ao33 t1204.length co33) : Value).ownBlock ∧ some k_ ≠ ((.slice Ao54 t1224.length co54) : Value).ownBlock) (.slice Ao44 t1213.length co44) t1240) ∧ Aside0 (Kd.R k100 100 wc w.heap.size (fun k_ => some k_ ≠ ((.slice Ao31 t1201.length co31) : Value).ownBlock ∧ some k_ ≠ ((.slice Ao43 t1210.length co43) : Value).ownBlock) (.slice Ao52 t1221.length co52) t1221) ∧ Aside0 (Kd.R k70 70 wc w.heap.size (fun k_ => some k_ ≠ ((.slice Ao33 t1204.length co33) : Value).ownBlock ∧ some k_ ≠ ((.slice Ao44 t1213.length co44) : Value).ownBlock) (.slice Ao54 t1224.length co54) t1224) ∧ Aside0 (wc.heap[gb1187]? = some (.cells #[.int .i64 a0_0, (.slice A0_1 l0_1.length c0_1), (.slice A0_2 l0_2.length c0_2)] 44 (0, 0))) ∧ Aside0 (wc.heap[gb1188]? = some (.cells #[.int .i64 a1_0, .int .i64 a1_1, .int .i64 a1_2] 68 (0, 0))) ∧ Aside0 (wc.heap[gb1208]? = some (.cells #[.int .i64 t1200, (.slice Ao31 t1201.length co31), (.slice Ao33 t1204.length co33)] 49 (0, 0))) ∧ Aside0 (wc.heap[gb1216]? = some (.cells #[.int .i64 t1209, (.slice Ao43 t1210.length co43), (.slice Ao44 t1213.length co44)] 49 (0, 0))) ∧ Aside0 (wc.heap[gb1228]? = some (.cells #[.int .i64 t1220, (.slice Ao52 t1221.length co52), (.slice Ao54 t1224.length co54)] 49 (0, 0))) ∧ Aside0 (Below w.heap.size w wc))
  case first =>
   have H := HC83.out
   clear HC83
   by_cases c95 : t1238 < 0
   ·rw [if_pos c95] at H
    have c95b0 : decide (t1238 < 0) = true := decide_eq_true c95
    clear c95
    (skip)
    have H' := ak H
    clear H
    go_wp2
    go_meet
    case rel => exact ⟨_, (true), (by rfl), H', ⟨by have := HJ15.out; omega⟩, ⟨by exact Kd.R_mono HO_1209001.out (fun _ hk => ⟨hk.1, hk.2.1⟩)⟩, ⟨by exact Kd.R_mono HO_1209002.out (fun _ hk => ⟨hk.1, hk.2.1⟩)⟩, ⟨by exact Kd.R_mono HO_1217001.out (fun _ hk => ⟨hk.1.1, hk.1.2⟩)⟩, ⟨by exact Kd.R_mono HO_1217002.out (fun _ hk => ⟨hk.1.1, hk.1.2⟩)⟩, ⟨by exact Kd.R_mono HO_1229001.out (fun _ hk => ⟨hk.1, hk.2.1⟩)⟩, ⟨by exact Kd.R_mono HO_1229002.out (fun _ hk => ⟨hk.1, hk.2.1⟩)⟩, ⟨bk BK1187⟩, ⟨bk BK1188⟩, ⟨bk BK1208⟩, ⟨bk BK1216⟩, ⟨bk BK1228⟩, ⟨by repeat ((with_reducible exact HB.out))⟩⟩
   rw [if_neg c95] at H
   have c95b0 : decide (t1238 < 0) = false := decide_eq_false c95
   clear c95
   (skip)
   replace H := Option.bind_eq_some_iff.mp H
   obtain ⟨t1241, A960, H⟩ := H
   have A96 := ak A960
   clear A960
   by_cases c97 : t1241 = true
   ·subst c97
    rw [if_pos rfl] at H
    have H' := ak H
    clear H
    have hnb98 := NB1228_1187.out
    have hnc98 := NB1187_1228.out
    have hnb99 := NB1228_1188.out
    have hnc99 := NB1188_1228.out
    have hnb100 := NB1228_1208.out
    have hnc100 := NB1208_1228.out
    have hnb101 := NB1228_1216.out
    have hnc101 := NB1216_1228.out
    have hcz102_0 := bc w94 BK1228 0 (.int .i64 t1220) rfl
    have hcz102_1 := bc w94 BK1228 1 (.slice Ao52 t1221.length co52) rfl
    have hcz102_2 := bc w94 BK1228 2 (.slice Ao54 t1224.length co54) rfl
    have hfz102_0 := fz BK1228 0
    have hfz102_1 := fz BK1228 1
    have hfz102_2 := fz BK1228 2
    have hnb103 := NB1208_1187.out
    have hnc103 := NB1187_1208.out
    have hnb104 := NB1208_1188.out
    have hnc104 := NB1188_1208.out
    have hnb105 := NB1208_1216.out
    have hnc105 := NB1216_1208.out
    have hcz106_0 := bc w94 BK1208 0 (.int .i64 t1200) rfl
    have hcz106_1 := bc w94 BK1208 1 (.slice Ao31 t1201.length co31) rfl
    have hcz106_2 := bc w94 BK1208 2 (.slice Ao33 t1204.length co33) rfl
    have hfz106_0 := fz BK1208 0
    have hfz106_1 := fz BK1208 1
    have hfz106_2 := fz BK1208 2
    go_wp2_with ((go_at_call 33; (with_reducible refine (laws_eqLive.calls kj15 t1220 _ _ t1221 _ _ t1224 t1200 _ _ t1201 _ _ t1204 true _ ?side1 ?side2 ?side3 ?side4 ?side5 ?side6 ?side7 ?side8 A96.out).mono ?_); (case side1 => repeat (exact (Kd.R_reads' HO_1229001.out).2.2)); (case side2 => exact (Kd.R_reads' HO_1229001.out).2.1); (case side3 => repeat (exact (Kd.R_reads' HO_1229002.out).2.2)); (case side4 => exact (Kd.R_reads' HO_1229002.out).2.1); (case side5 => repeat (exact (Kd.R_reads' HO_1209001.out).2.2)); (case side6 => exact (Kd.R_reads' HO_1209001.out).2.1); (case side7 => repeat (exact (Kd.R_reads' HO_1209002.out).2.2)); (case side8 => exact (Kd.R_reads' HO_1209002.out).2.1); rintro e w107 ⟨rfl, hb⟩; have n0_ := ak (Kd.R_below (rk HO_1209001) hb); have n1_ := ak (Kd.R_below (rk HO_1209002) hb); have n2_ := ak (Kd.R_below (rk HO_1217001) hb); have n3_ := ak (Kd.R_below (rk HO_1217002) hb); have n4_ := ak (Kd.R_below (rk HO_1229001) hb); have n5_ := ak (Kd.R_below (rk HO_1229002) hb); have n6_ := ak (Kd.R_below (rk HO1233) hb); have n7_ := ak (Kd.R_below (rk HO1236) hb); have n8_ := ak (blk_below (bk BK1187) hb); have n9_ := ak (blk_below (bk BK1188) hb); have n10_ := ak (blk_below (bk BK1208) hb); have n11_ := ak (blk_below (bk BK1216) hb); have n12_ := ak (blk_below (bk BK1228) hb); have n13_ := ak (below_step (by repeat ((with_reducible exact HB.out))) hb); clear HO_1209001; clear HO_1209002; clear HO_1217001; clear HO_1217002; clear HO_1229001; clear HO_1229002; clear HO1233; clear HO1236; clear BK1187; clear BK1188; clear BK1208; clear BK1216; clear BK1228; clear HB; have HO_1209001 := n0_; have HO_1209002 := n1_; have HO_1217001 := n2_; have HO_1217002 := n3_; have HO_1229001 := n4_; have HO_1229002 := n5_; have HO1233 := n6_; have HO1236 := n7_; have BK1187 := n8_; have BK1188 := n9_; have BK1208 := n10_; have BK1216 := n11_; have BK1228 := n12_; have HB := n13_; clear n0_ n1_ n2_ n3_ n4_ n5_ n6_ n7_ n8_ n9_ n10_ n11_ n12_ n13_; (try clear hb); (try clear hb2); (try clear hk); (try clear hi)))
    go_meet
    case rel => exact ⟨_, ((t1227 != t1207)), (by rfl), H', ⟨by have := HJ15.out; omega⟩, ⟨by exact Kd.R_mono HO_1209001.out (fun _ hk => ⟨hk.1, hk.2.1⟩)⟩, ⟨by exact Kd.R_mono HO_1209002.out (fun _ hk => ⟨hk.1, hk.2.1⟩)⟩, ⟨by exact Kd.R_mono HO_1217001.out (fun _ hk => ⟨hk.1.1, hk.1.2⟩)⟩, ⟨by exact Kd.R_mono HO_1217002.out (fun _ hk => ⟨hk.1.1, hk.1.2⟩)⟩, ⟨by exact Kd.R_mono HO_1229001.out (fun _ hk => ⟨hk.1, hk.2.1⟩)⟩, ⟨by exact Kd.R_mono HO_1229002.out (fun _ hk => ⟨hk.1, hk.2.1⟩)⟩, ⟨bk BK1187⟩, ⟨bk BK1188⟩, ⟨bk BK1208⟩, ⟨bk BK1216⟩, ⟨bk BK1228⟩, ⟨by repeat ((with_reducible exact HB.out))⟩⟩
   replace c97 := Bool.eq_false_iff.mpr c97
   subst c97
   rw [if_neg (show ¬ (false = true) by decide)] at H
   have H' := ak H
   clear H
   have hnb108 := NB1228_1187.out
   have hnc108 := NB1187_1228.out
   have hnb109 := NB1228_1188.out
   have hnc109 := NB1188_1228.out
   have hnb110 := NB1228_1208.out
   have hnc110 := NB1208_1228.out
   have hnb111 := NB1228_1216.out
   have hnc111 := NB1216_1228.out
   have hcz112_0 := bc w94 BK1228 0 (.int .i64 t1220) rfl
   have hcz112_1 := bc w94 BK1228 1 (.slice Ao52 t1221.length co52) rfl
   have hcz112_2 := bc w94 BK1228 2 (.slice Ao54 t1224.length co54) rfl
   have hfz112_0 := fz BK1228 0
   have hfz112_1 := fz BK1228 1
   have hfz112_2 := fz BK1228 2
   have hnb113 := NB1208_1187.out
   have hnc113 := NB1187_1208.out
   have hnb114 := NB1208_1188.out
   have hnc114 := NB1188_1208.out
   have hnb115 := NB1208_1216.out
   have hnc115 := NB1216_1208.out
   have hcz116_0 := bc w94 BK1208 0 (.int .i64 t1200) rfl
   have hcz116_1 := bc w94 BK1208 1 (.slice Ao31 t1201.length co31) rfl
   have hcz116_2 := bc w94 BK1208 2 (.slice Ao33 t1204.length co33) rfl
   have hfz116_0 := fz BK1208 0
   have hfz116_1 := fz BK1208 1
   have hfz116_2 := fz BK1208 2
   go_wp2_with ((go_at_call 33; (with_reducible refine (laws_eqLive.calls kj15 t1220 _ _ t1221 _ _ t1224 t1200 _ _ t1201 _ _ t1204 false _ ?side1 ?side2 ?side3 ?side4 ?side5 ?side6 ?side7 ?side8 A96.out).mono ?_); (case side1 => repeat (exact (Kd.R_reads' HO_1229001.out).2.2)); (case side2 => exact (Kd.R_reads' HO_1229001.out).2.1); (case side3 => repeat (exact (Kd.R_reads' HO_1229002.out).2.2)); (case side4 => exact (Kd.R_reads' HO_1229002.out).2.1); (case side5 => repeat (exact (Kd.R_reads' HO_1209001.out).2.2)); (case side6 => exact (Kd.R_reads' HO_1209001.out).2.1); (case side7 => repeat (exact (Kd.R_reads' HO_1209002.out).2.2)); (case side8 => exact (Kd.R_reads' HO_1209002.out).2.1); rintro e w117 ⟨rfl, hb⟩; have n0_ := ak (Kd.R_below (rk HO_1209001) hb); have n1_ := ak (Kd.R_below (rk HO_1209002) hb); have n2_ := ak (Kd.R_below (rk HO_1217001) hb); have n3_ := ak (Kd.R_below (rk HO_1217002) hb); have n4_ := ak (Kd.R_below (rk HO_1229001) hb); have n5_ := ak (Kd.R_below (rk HO_1229002) hb); have n6_ := ak (Kd.R_below (rk HO1233) hb); have n7_ := ak (Kd.R_below (rk HO1236) hb); have n8_ := ak (blk_below (bk BK1187) hb); have n9_ := ak (blk_below (bk BK1188) hb); have n10_ := ak (blk_below (bk BK1208) hb); have n11_ := ak (blk_below (bk BK1216) hb); have n12_ := ak (blk_below (bk BK1228) hb); have n13_ := ak (below_step (by repeat ((with_reducible exact HB.out))) hb); clear HO_1209001; clear HO_1209002; clear HO_1217001; clear HO_1217002; clear HO_1229001; clear HO_1229002; clear HO1233; clear HO1236; clear BK1187; clear BK1188; clear BK1208; clear BK1216; clear BK1228; clear HB; have HO_1209001 := n0_; have HO_1209002 := n1_; have HO_1217001 := n2_; have HO_1217002 := n3_; have HO_1229001 := n4_; have HO_1229002 := n5_; have HO1233 := n6_; have HO1236 := n7_; have BK1187 := n8_; have BK1188 := n9_; have BK1208 := n10_; have BK1216 := n11_; have BK1228 := n12_; have HB := n13_; clear n0_ n1_ n2_ n3_ n4_ n5_ n6_ n7_ n8_ n9_ n10_ n11_ n12_ n13_; (try clear hb); (try clear hb2); (try clear hk); (try clear hi)))
   go_meet
   case rel => exact ⟨_, (true), (by rfl), H', ⟨by have := HJ15.out; omega⟩, ⟨by exact Kd.R_mono HO_1209001.out (fun _ hk => ⟨hk.1, hk.2.1⟩)⟩, ⟨by exact Kd.R_mono HO_1209002.out (fun _ hk => ⟨hk.1, hk.2.1⟩)⟩, ⟨by exact Kd.R_mono HO_1217001.out (fun _ hk => ⟨hk.1.1, hk.1.2⟩)⟩, ⟨by exact Kd.R_mono HO_1217002.out (fun _ hk => ⟨hk.1.1, hk.1.2⟩)⟩, ⟨by exact Kd.R_mono HO_1229001.out (fun _ hk => ⟨hk.1, hk.2.1⟩)⟩, ⟨by exact Kd.R_mono HO_1229002.out (fun _ hk => ⟨hk.1, hk.2.1⟩)⟩, ⟨bk BK1187⟩, ⟨bk BK1188⟩, ⟨bk BK1208⟩, ⟨bk BK1216⟩, ⟨bk BK1228⟩, ⟨by repeat ((with_reducible exact HB.out))⟩⟩
  clear HC83
  try clear c1
  try clear p2
  try clear c3
  try clear c4
  try clear c5
  try clear c6
  try clear c7
  try clear c8
  try clear c9
  try clear c10
  try clear c11
  try clear c31
  try clear c33
  try clear c45
  try clear c48
  try clear c49
  try clear c57
  try clear c58
  try clear c59
  try clear c60
  try clear c61
  try clear c63
  try clear c64
  try clear c65
  try clear c68
  try clear c69
  try clear c70
  try clear c71
  try clear c73
  try clear c74
  try clear c75
  try clear c78
  try clear c81
  try clear c89
  try clear c90
  try clear c91
  try clear c92
  try clear c95
  try clear c95b0
  try clear c97
  try clear c98
  try clear c99
  try clear c100
  try clear c101
  try clear c103
  try clear c104
  try clear c105
  try clear c108
  try clear c109
  try clear c110
  try clear c111
  try clear c113
  try clear c114
  try clear c115
  try clear hcz102_0
  try clear hcz102_1
  try clear hcz102_2
  try clear hcz106_0
  try clear hcz106_1
  try clear hcz106_2
  try clear hcz112_0
  try clear hcz112_1
  try clear hcz112_2
  try clear hcz116_0
  try clear hcz116_1
  try clear hcz116_2
  try clear hcz62_0
  try clear hcz62_1
  try clear hcz62_2
  try clear hcz66_0
  try clear hcz66_1
  try clear hcz66_2
  try clear hcz72_0
  try clear hcz72_1
  try clear hcz72_2
  try clear hcz76_0
  try clear hcz76_1
  try clear hcz76_2
  try clear hcz93_0
  try clear hcz93_1
  try clear hcz93_2
  try clear hfz102_0
  try clear hfz102_1
  try clear hfz102_2
  try clear hfz106_0
  try clear hfz106_1
  try clear hfz106_2
  try clear hfz112_0
  try clear hfz112_1
  try clear hfz112_2
  try clear hfz116_0
  try clear hfz116_1
  try clear hfz116_2
  try clear hfz62_0
  try clear hfz62_1
  try clear hfz62_2
  try clear hfz66_0
  try clear hfz66_1
  try clear hfz66_2
  try clear hfz72_0
  try clear hfz72_1
  try clear hfz72_2
  try clear hfz76_0
  try clear hfz76_1
  try clear hfz76_2
  try clear hfz93_0
  try clear hfz93_1
  try clear hfz93_2
  try clear p2
  obtain ⟨kq, x67_82, rfl, HA, HJ82, HO_1209001, HO_1209002, HO_1217001, HO_1217002, HO_1229001, HO_1229002, BK1187, BK1188, BK1208, BK1216, BK1228, HB⟩ := hcut
  have hl1217001_82 := (Kd.R_reads' HO_1217001.out).1
  rw [hl1217001_82] at HO_1217001
  (try simp only [hl1217001_82])
  (try simp only [hl1217001_82] at BK1187)
  (try simp only [hl1217001_82] at BK1188)
  (try simp only [hl1217001_82] at BK1208)
  (try simp only [hl1217001_82] at BK1216)
  (try simp only [hl1217001_82] at BK1228)
  (try simp only [hl1217001_82] at HO_1209001)
  (try simp only [hl1217001_82] at HO_1209002)
  (try simp only [hl1217001_82] at HO_1217002)
  (try simp only [hl1217001_82] at HO_1229001)
  (try simp only [hl1217001_82] at HO_1229002)
  have hl1217002_82 := (Kd.R_reads' HO_1217002.out).1
  rw [hl1217002_82] at HO_1217002
  (try simp only [hl1217002_82])
  (try simp only [hl1217002_82] at BK1187)
  (try simp only [hl1217002_82] at BK1188)
  (try simp only [hl1217002_82] at BK1208)
  (try simp only [hl1217002_82] at BK1216)
  (try simp only [hl1217002_82] at BK1228)
  (try simp only [hl1217002_82] at HO_1209001)
  (try simp only [hl1217002_82] at HO_1209002)
  (try simp only [hl1217002_82] at HO_1217001)
  (try simp only [hl1217002_82] at HO_1229001)
  (try simp only [hl1217002_82] at HO_1229002)
  cases kq with
  | zero => exact absurd HA.out (by simp [laws_FnExactLiveTell.j1])
  | succ kj82 =>
   have H := HA.out
   clear HA
   simp only [laws_FnExactLiveTell.j1] at H
   by_cases c118 : x67_82 = true
   ·subst c118
    rw [if_pos rfl] at H
    exact absurd ((Option.some.inj H).trans hr_) Bool.false_ne_true
   replace c118 := Bool.eq_false_iff.mpr c118
   subst c118
   rw [if_neg (show ¬ (false = true) by decide)] at H
   replace H := Option.bind_eq_some_iff.mp H
   obtain ⟨⟨t1242, t1243, t1244⟩, A1190, H⟩ := H
   have A119 := ak A1190
   clear A1190
   replace H := Option.bind_eq_some_iff.mp H
   obtain ⟨t1245, A1200, H⟩ := H
   have A120 := ak A1200
   clear A1200
   by_cases c121 : t1245 < 0
   ·rw [if_pos c121] at H
    have c121b0 : decide (t1245 < 0) = true := decide_eq_true c121
    clear c121
    exact absurd ((Option.some.inj H).trans hr_) Bool.false_ne_true
   rw [if_neg c121] at H
   have c121b0 : decide (t1245 < 0) = false := decide_eq_false c121
   clear c121
   by_cases c122 : t1245 = t1242
   rotate_left
   ·rw [if_neg c122] at H
    have c122b0 : (t1245 == t1242) = false := beq_eq_false_iff_ne.mpr c122
    have c122b1 : (t1245 != t1242) = true := bne_iff_ne.mpr c122
    exact absurd ((Option.some.inj H).trans hr_) Bool.false_ne_true
   rw [if_pos c122] at H
   have c122b0 : (t1245 == t1242) = true := beq_iff_eq.mpr c122
   have c122b1 : (t1245 != t1242) = false := bne_eq_false_iff_eq.mpr c122
   clear c122
   replace H := Option.bind_eq_some_iff.mp H
   obtain ⟨⟨t1246, t1247, t1250⟩, A1230, H⟩ := H
   have A123 := ak A1230
   clear A1230
   replace H := Option.bind_eq_some_iff.mp H
   obtain ⟨⟨t1253, t1254, t1255⟩, A1240, H⟩ := H
   have A124 := ak A1240
   clear A1240
   replace H := Option.bind_eq_some_iff.mp H
   obtain ⟨⟨t1256, t1257, t1260, t1263⟩, A1250, H⟩ := H
   have A125 := ak A1250
   clear A1250
   have HC126 := ak H
   clear H
   have hnb127 := NB1228_1187.out
   have hnc127 := NB1187_1228.out
   have hnb128 := NB1228_1188.out
   have hnc128 := NB1188_1228.out
   have hnb129 := NB1228_1208.out
   have hnc129 := NB1208_1228.out
   have hnb130 := NB1228_1216.out
   have hnc130 := NB1216_1228.out
   have hcz131_0 := bc wc BK1228 0 (.int .i64 t1220) rfl
   have hcz131_1 := bc wc BK1228 1 (.slice Ao52 t1221.length co52) rfl
   have hcz131_2 := bc wc BK1228 2 (.slice Ao54 t1224.length co54) rfl
   have hfz131_0 := fz BK1228 0
   have hfz131_1 := fz BK1228 1
   have hfz131_2 := fz BK1228 2
   try go_wp2_with (first | ((with_reducible refine gate_callee (f := 45) rfl ?_); refine goesL_ (some 70) rfl rfl Try.func45 (by kernel_rfl) rfl #[.agg #[.int .i64 t1220, .slice Ao52 t1221.length co52, .slice Ao54 t1224.length co54], .int .i64 1] rfl (by (try simp only [List.map_toArray, List.map_cons, List.map_nil]); rfl) ?_; (with_reducible refine (laws_markLive.calls kj82 t1220 (fun k_ => some k_ = (.slice Ao52 t1221.length co52 : Value).ownBlock) (.slice Ao52 t1221.length co52) t1221 (fun k_ => some k_ = (.slice Ao54 t1224.length co54 : Value).ownBlock) (.slice Ao54 t1224.length co54) t1224 1 t1242 t1243 t1244 w _ ?side1 ?side2 ?side3 A119.out).mono ?_); (case side1 => repeat ((with_reducible exact HB.out))); (case side2 => exact Kd.R_tight rfl HO_1229001.out); (case side3 => exact Kd.R_tight rfl HO_1229002.out); rintro e w132 ⟨rfl, hy0, hy1, hb, hkp⟩; refine ⟨_, rfl, ?_⟩; replace HO_1209001 := ak (Kd.R_mono (ok' := fun k_ => some k_ ≠ (.slice Ao43 t1239.length co43 : Value).ownBlock ∧ some k_ ≠ (.slice Ao52 t1221.length co52 : Value).ownBlock) (Kd.R_keptB ((Kd.R_apart' HO_1209001.out (Kd.R_typed HO_1229002.out) (by decide))) hkp (fun k_ hk_ hs_ => Or.elim hs_ (fun e_ => (hk_.1.2) e_) (fun e_ => (hk_.2) e_))) (fun k_ hk_ => ⟨hk_.1.1.1, hk_.1.1.2⟩)); replace HO_1209002 := ak (Kd.R_mono (ok' := fun k_ => some k_ ≠ (.slice Ao44 t1240.length co44 : Value).ownBlock ∧ some k_ ≠ (.slice Ao54 t1224.length co54 : Value).ownBlock) (Kd.R_keptB ((Kd.R_apart' HO_1209002.out (Kd.R_typed HO_1229001.out) (by decide))) hkp (fun k_ hk_ hs_ => Or.elim hs_ (fun e_ => (hk_.2) e_) (fun e_ => (hk_.1.2) e_))) (fun k_ hk_ => ⟨hk_.1.1.1, hk_.1.1.2⟩)); replace HO_1217001 := ak (Kd.R_mono (ok' := fun k_ => some k_ ≠ (.slice Ao31 t1201.length co31 : Value).ownBlock ∧ some k_ ≠ (.slice Ao52 t1221.length co52 : Value).ownBlock) (Kd.R_keptB ((Kd.R_apart' HO_1217001.out (Kd.R_typed HO_1229002.out) (by decide))) hkp (fun k_ hk_ hs_ => Or.elim hs_ (fun e_ => (hk_.1.2) e_) (fun e_ => (hk_.2) e_))) (fun k_ hk_ => ⟨hk_.1.1.1, hk_.1.1.2⟩)); replace HO_1217002 := ak (Kd.R_mono (ok' := fun k_ => some k_ ≠ (.slice Ao33 t1204.length co33 : Value).ownBlock ∧ some k_ ≠ (.slice Ao54 t1224.length co54 : Value).ownBlock) (Kd.R_keptB ((Kd.R_apart' HO_1217002.out (Kd.R_typed HO_1229001.out) (by decide))) hkp (fun k_ hk_ hs_ => Or.elim hs_ (fun e_ => (hk_.2) e_) (fun e_ => (hk_.1.2) e_))) (fun k_ hk_ => ⟨hk_.1.1.1, hk_.1.1.2⟩)); replace BK1187 := ak (blk_kept (bk BK1187) hkp (fun hs_ => Or.elim hs_ (fun e_ => (fun e_ => (Kd.R_ne HO_1229001.out BK1187.out (by decide)) e_) e_) (fun e_ => (fun e_ => (Kd.R_ne HO_1229002.out BK1187.out (by decide)) e_) e_))); replace BK1188 := ak (blk_kept (bk BK1188) hkp (fun hs_ => Or.elim hs_ (fun e_ => (fun e_ => (Kd.R_ne HO_1229001.out BK1188.out (by decide)) e_) e_) (fun e_ => (fun e_ => (Kd.R_ne HO_1229002.out BK1188.out (by decide)) e_) e_))); replace BK1208 := ak (blk_kept (bk BK1208) hkp (fun hs_ => Or.elim hs_ (fun e_ => (fun e_ => (Kd.R_ne HO_1229001.out BK1208.out (by decide)) e_) e_) (fun e_ => (fun e_ => (Kd.R_ne HO_1229002.out BK1208.out (by decide)) e_) e_))); replace BK1216 := ak (blk_kept (bk BK1216) hkp (fun hs_ => Or.elim hs_ (fun e_ => (fun e_ => (Kd.R_ne HO_1229001.out BK1216.out (by decide)) e_) e_) (fun e_ => (fun e_ => (Kd.R_ne HO_1229002.out BK1216.out (by decide)) e_) e_))); replace BK1228 := ak (blk_kept (bk BK1228) hkp (fun hs_ => Or.elim hs_ (fun e_ => (fun e_ => (Kd.R_ne HO_1229001.out BK1228.out (by decide)) e_) e_) (fun e_ => (fun e_ => (Kd.R_ne HO_1229002.out BK1228.out (by decide)) e_) e_))); replace HO_1229001 := ak (Kd.R_reok rfl hy0 (fun k_ e_ => HO_1229001.out.1 k_ e_)); replace HO_1229002 := ak (Kd.R_reok rfl hy1 (fun k_ e_ => HO_1229002.out.1 k_ e_)); replace HB := ak (hb); (try clear hb); (try clear hkp); (try clear hy0); (try clear hy1); have hcz133_0 := bc w132 BK1228 0 (.int .i64 t1220) rfl; have hcz133_1 := bc w132 BK1228 1 (.slice Ao52 t1221.length co52) rfl; have hcz133_2 := bc w132 BK1228 2 (.slice Ao54 t1224.length co54) rfl; have hfz133_0 := fz BK1228 0; have hfz133_1 := fz BK1228 1; have hfz133_2 := fz BK1228 2) | ((with_reducible refine gate_callee (f := 46) rfl ?_); refine goesL_ (some 73) rfl rfl Try.func46 (by kernel_rfl) rfl #[.agg #[.int .i64 t1220, .slice Ao52 t1243.length co52, .slice Ao54 t1244.length co54], .int .i64 1] rfl (by (try simp only [List.map_toArray, List.map_cons, List.map_nil]); (rw [show t1243.length = t1221.length from (Kd.R_reads' HO_1229001.out).1.symm, show t1244.length = t1224.length from (Kd.R_reads' HO_1229002.out).1.symm] <;> rfl)) ?_; (with_reducible refine (laws_heldLive.calls kj82 t1220 _ _ t1243 _ _ t1244 1 t1245 _ ?side1 ?side2 ?side3 ?side4 A120.out).mono ?_); (case side1 => repeat (exact (Kd.R_reads' HO_1229001.out).2.2)); (case side2 => rw [show t1243.length = t1221.length from (Kd.R_reads' HO_1229001.out).1.symm]; exact (Kd.R_reads' HO_1229001.out).2.1); (case side3 => repeat (exact (Kd.R_reads' HO_1229002.out).2.2)); (case side4 => rw [show t1244.length = t1224.length from (Kd.R_reads' HO_1229002.out).1.symm]; exact (Kd.R_reads' HO_1229002.out).2.1); rintro e w134 ⟨rfl, hb⟩; refine ⟨_, rfl, ?_⟩; replace HO_1209001 := ak (Kd.R_below (rk HO_1209001) hb); replace HO_1209002 := ak (Kd.R_below (rk HO_1209002) hb); replace HO_1217001 := ak (Kd.R_below (rk HO_1217001) hb); replace HO_1217002 := ak (Kd.R_below (rk HO_1217002) hb); replace HO_1229001 := ak (Kd.R_below (rk HO_1229001) hb); replace HO_1229002 := ak (Kd.R_below (rk HO_1229002) hb); replace BK1187 := ak (blk_below (bk BK1187) hb); replace BK1188 := ak (blk_below (bk BK1188) hb); replace BK1208 := ak (blk_below (bk BK1208) hb); replace BK1216 := ak (blk_below (bk BK1216) hb); replace BK1228 := ak (blk_below (bk BK1228) hb); replace HB := ak (below_step (by repeat ((with_reducible exact HB.out))) hb); (try clear hb); (try clear hb2); (try clear hk); (try clear hi)))
   replace HO_1209001 := ak (Kd.R_drew HO_1209001.out)
   replace HO_1209002 := ak (Kd.R_drew HO_1209002.out)
   replace HO_1217001 := ak (Kd.R_drew HO_1217001.out)
   replace HO_1217002 := ak (Kd.R_drew HO_1217002.out)
   replace HO_1229001 := ak (Kd.R_drew HO_1229001.out)
   replace HO_1229002 := ak (Kd.R_drew HO_1229002.out)
   replace BK1187 := ak (blk_drew BK1187.out)
   replace BK1188 := ak (blk_drew BK1188.out)
   replace BK1208 := ak (blk_drew BK1208.out)
   replace BK1216 := ak (blk_drew BK1216.out)
   replace BK1228 := ak (blk_drew BK1228.out)
   replace HB := ak (below_drew1 HB.out)
   refine start_ (n := 11) (S := fun w' => w'.cell? ⟨gb1187, 0, none⟩ = some (.int .i64 a0_0) ∧ w'.cell? ⟨gb1187, 1, none⟩ = some (.slice A0_1 l0_1.length c0_1) ∧ w'.cell? ⟨gb1187, 2, none⟩ = some (.slice A0_2 l0_2.length c0_2) ∧ w'.cell? ⟨gb1188, 0, none⟩ = some (.int .i64 a1_0) ∧ w'.cell? ⟨gb1188, 1, none⟩ = some (.int .i64 a1_1) ∧ w'.cell? ⟨gb1188, 2, none⟩ = some (.int .i64 a1_2)) (ds := []) (ms 11 0) (by kernel_rfl) rfl (by kernel_rfl) ⟨(blk_cell BK1187.out 0).trans rfl, (blk_cell BK1187.out 1).trans rfl, (blk_cell BK1187.out 2).trans rfl, (blk_cell BK1188.out 0).trans rfl, (blk_cell BK1188.out 1).trans rfl, (blk_cell BK1188.out 2).trans rfl⟩ (fun hHeld => ?_); refine with_tabW laws_FnExactLiveTell.tab24 laws_FnExactLiveTell.bits24 (fun HT_ HW_ => ?_)
   generalize w134.drew = w135 at HO_1209001 HO_1209002 HO_1217001 HO_1217002 HO_1229001 HO_1229002 BK1187 BK1188 BK1208 BK1216 BK1228 HB hHeld ⊢
   refine tk 0 80 ?_ (ms 11 1) rfl rfl HT_ HW_ (by kernel_rfl) (fun _ _ _ h => h) (by rfl) ?_ hHeld ?_ ?_ ?_
   rotate_left
   ·rintro w' ⟨s0, s1, s2, s3, s4, s5⟩
    go_simp
    with_reducible rfl
   rotate_left
   ·simp only [SX]
    rfl
   refine tk 2 82 ?_ (ms 11 5) rfl rfl HT_ HW_ (by kernel_rfl) (fun _ _ _ h => h) (by rfl) ?_ hHeld ?_ ?_ ?_
   rotate_left
   ·rintro w' ⟨s0, s1, s2, s3, s4, s5⟩
    go_simp
    with_reducible rfl
   rotate_left
   ·simp only [SX]
    rfl
   refine join_ (σ := Value × Value × Value × Value × Nat) 2 (ms 11 511) (fun s_ => [(81, .agg #[.int .i64 t1246, s_.1, s_.2.1]), (83, .agg #[.int .i64 t1253, .int .i64 t1254, .int .i64 t1255]), (84, .tuple #[.agg #[.int .i64 t1256, s_.2.2.1, s_.2.2.2.1], .bool t1263]), (14, .pointer (some ⟨s_.2.2.2.2, 0, none⟩)), (79, .tuple #[.agg #[.int .i64 t1256, s_.2.2.1, s_.2.2.2.1], .bool t1263]), (85, .agg #[.int .i64 t1256, s_.2.2.1, s_.2.2.2.1]), (86, .bool t1263)]) (fun s_ w' => (w'.cell? ⟨gb1187, 0, none⟩ = some (.int .i64 a0_0) ∧ w'.cell? ⟨gb1187, 1, none⟩ = some (.slice A0_1 l0_1.length c0_1) ∧ w'.cell? ⟨gb1187, 2, none⟩ = some (.slice A0_2 l0_2.length c0_2) ∧ w'.cell? ⟨gb1188, 0, none⟩ = some (.int .i64 a1_0) ∧ w'.cell? ⟨gb1188, 1, none⟩ = some (.int .i64 a1_1) ∧ w'.cell? ⟨gb1188, 2, none⟩ = some (.int .i64 a1_2)) ∧ (Kd.R k100 100 w' w.heap.size (fun k_ => some k_ ≠ (s_.2.2.1 : Value).ownBlock ∧ some k_ ≠ (.slice Ao31 t1201.length co31 : Value).ownBlock ∧ some k_ ≠ (.slice Ao43 t1239.length co43 : Value).ownBlock ∧ some k_ ≠ (.slice Ao52 t1221.length co52 : Value).ownBlock) s_.1 t1247) ∧ (Kd.R k70 70 w' w.heap.size (fun k_ => some k_ ≠ (s_.2.2.2.1 : Value).ownBlock ∧ some k_ ≠ (.slice Ao33 t1204.length co33 : Value).ownBlock ∧ some k_ ≠ (.slice Ao44 t1240.length co44 : Value).ownBlock ∧ some k_ ≠ (.slice Ao54 t1224.length co54 : Value).ownBlock) s_.2.1 t1250) ∧ (Kd.R k100 100 w' w.heap.size (fun k_ => some k_ ≠ (s_.1 : Value).ownBlock ∧ some k_ ≠ (.slice Ao31 t1201.length co31 : Value).ownBlock ∧ some k_ ≠ (.slice Ao43 t1239.length co43 : Value).ownBlock ∧ some k_ ≠ (.slice Ao52 t1221.length co52 : Value).ownBlock) s_.2.2.1 t1257) ∧ (Kd.R k70 70 w' w.heap.size (fun k_ => some k_ ≠ (s_.2.1 : Value).ownBlock ∧ some k_ ≠ (.slice Ao33 t1204.length co33 : Value).ownBlock ∧ some k_ ≠ (.slice Ao44 t1240.length co44 : Value).ownBlock ∧ some k_ ≠ (.slice Ao54 t1224.length co54 : Value).ownBlock) s_.2.2.2.1 t1260) ∧ (Kd.R k100 100 w' w.heap.size (fun k_ => some k_ ≠ (s_.1 : Value).ownBlock ∧ some k_ ≠ (s_.2.2.1 : Value).ownBlock ∧ some k_ ≠ (.slice Ao43 t1239.length co43 : Value).ownBlock ∧ some k_ ≠ (.slice Ao52 t1221.length co52 : Value).ownBlock) (.slice Ao31 t1201.length co31) t1201) ∧ (Kd.R k70 70 w' w.heap.size (fun k_ => some k_ ≠ (s_.2.1 : Value).ownBlock ∧ some k_ ≠ (s_.2.2.2.1 : Value).ownBlock ∧ some k_ ≠ (.slice Ao44 t1240.length co44 : Value).ownBlock ∧ some k_ ≠ (.slice Ao54 t1224.length co54 : Value).ownBlock) (.slice Ao33 t1204.length co33) t1204) ∧ (Kd.R k100 100 w' w.heap.size (fun k_ => some k_ ≠ (s_.1 : Value).ownBlock ∧ some k_ ≠ (s_.2.2.1 : Value).ownBlock ∧ some k_ ≠ (.slice Ao31 t1201.length co31 : Value).ownBlock ∧ some k_ ≠ (.slice Ao52 t1221.length co52 : Value).ownBlock) (.slice Ao43 t1239.length co43) t1239) ∧ (Kd.R k70 70 w' w.heap.size (fun k_ => some k_ ≠ (s_.2.1 : Value).ownBlock ∧ some k_ ≠ (s_.2.2.2.1 : Value).ownBlock ∧ some k_ ≠ (.slice Ao33 t1204.length co33 : Value).ownBlock ∧ some k_ ≠ (.slice Ao54 t1224.length co54 : Value).ownBlock) (.slice Ao44 t1240.length co44) t1240) ∧ (Kd.R k100 100 w' w.heap.size (fun k_ => some k_ ≠ (s_.1 : Value).ownBlock ∧ some k_ ≠ (s_.2.2.1 : Value).ownBlock ∧ some k_ ≠ (.slice Ao31 t1201.length co31 : Value).ownBlock ∧ some k_ ≠ (.slice Ao43 t1239.length co43 : Value).ownBlock) (.slice Ao52 t1221.length co52) t1243) ∧ (Kd.R k70 70 w' w.heap.size (fun k_ => some k_ ≠ (s_.2.1 : Value).ownBlock ∧ some k_ ≠ (s_.2.2.2.1 : Value).ownBlock ∧ some k_ ≠ (.slice Ao33 t1204.length co33 : Value).ownBlock ∧ some k_ ≠ (.slice Ao44 t1240.length co44 : Value).ownBlock) (.slice Ao54 t1224.length co54) t1244) ∧ (w'.heap[gb1187]? = some (.cells #[.int .i64 a0_0, .slice A0_1 l0_1.length c0_1, .slice A0_2 l0_2.length c0_2] 44 (0, 0))) ∧ (w'.heap[gb1188]? = some (.cells #[.int .i64 a1_0, .int .i64 a1_1, .int .i64 a1_2] 68 (0, 0))) ∧ (w'.heap[gb1208]? = some (.cells #[.int .i64 t1200, .slice Ao31 t1201.length co31, .slice Ao33 t1204.length co33] 49 (0, 0))) ∧ (w'.heap[gb1216]? = some (.cells #[.int .i64 t1209, .slice Ao43 t1239.length co43, .slice Ao44 t1240.length co44] 49 (0, 0))) ∧ (w'.heap[gb1228]? = some (.cells #[.int .i64 t1220, .slice Ao52 t1221.length co52, .slice Ao54 t1224.length co54] 49 (0, 0))) ∧ (w'.heap[s_.2.2.2.2]? = some (.cells #[.int .i64 0, .slice none 0 0, .slice none 0 0] 49 (0, 0))) ∧ (w.heap.size ≤ s_.2.2.2.2) ∧ (w.heap.size ≤ s_.2.2.2.2) ∧ (gb1187 ≠ s_.2.2.2.2) ∧ (s_.2.2.2.2 ≠ gb1187) ∧ (gb1188 ≠ s_.2.2.2.2) ∧ (s_.2.2.2.2 ≠ gb1188) ∧ (gb1208 ≠ s_.2.2.2.2) ∧ (s_.2.2.2.2 ≠ gb1208) ∧ (gb1216 ≠ s_.2.2.2.2) ∧ (s_.2.2.2.2 ≠ gb1216) ∧ (gb1228 ≠ s_.2.2.2.2) ∧ (s_.2.2.2.2 ≠ gb1228) ∧ (Below w.heap.size w w')) ?_ ?_
   rotate_left
   ·intro hCont
    refine two_ (i := 1) (j := 8) (Ni := some 81) (Nj := some 14) (ms 11 7) (ms 11 261) rfl rfl rfl rfl (two_of HT_.out (by kernel_rfl)) (by decide) (by decide) (fun K hK => ?_) (fun K hK => ?_)
    rotate_left
    ·skip
     refine box_step ?hg (N := 14) ?hd (cs := #[.int .i64 0, .slice none 0 0, .slice none 0 0]) (t := 49) ?hr ?_; (case hd => rfl); (case hg => rfl); (case hr => (go_simp; done))
     intro gb1264 hg w136 hbox hb
     replace HO_1209001 := ak (Kd.R_below (rk HO_1209001) hb)
     replace HO_1209002 := ak (Kd.R_below (rk HO_1209002) hb)
     replace HO_1217001 := ak (Kd.R_below (rk HO_1217001) hb)
     replace HO_1217002 := ak (Kd.R_below (rk HO_1217002) hb)
     replace HO_1229001 := ak (Kd.R_below (rk HO_1229001) hb)
     replace HO_1229002 := ak (Kd.R_below (rk HO_1229002) hb)
     have BK1264 := ak (hbox)
     have GW1264 := ak ((by rw [hg]; exact (below_size (by repeat ((with_reducible exact HB.out)))) : w.heap.size ≤ gb1264))
     have GE1264 := ak ((by rw [hg]; exact (below_size (by repeat ((with_reducible exact HB.out)))) : w.heap.size ≤ gb1264))
     replace HB := ak (below_step (by repeat ((with_reducible exact HB.out))) hb)
     have NB1187_1264 := ak ((by rw [hg]; exact Nat.ne_of_lt (blk_lt (bk BK1187)) : gb1187 ≠ gb1264))
     have NB1264_1187 := ak ((by rw [hg]; exact Nat.ne_of_gt (blk_lt (bk BK1187)) : gb1264 ≠ gb1187))
     replace BK1187 := ak (blk_below (bk BK1187) hb)
     have NB1188_1264 := ak ((by rw [hg]; exact Nat.ne_of_lt (blk_lt (bk BK1188)) : gb1188 ≠ gb1264))
     have NB1264_1188 := ak ((by rw [hg]; exact Nat.ne_of_gt (blk_lt (bk BK1188)) : gb1264 ≠ gb1188))
     replace BK1188 := ak (blk_below (bk BK1188) hb)
     have NB1208_1264 := ak ((by rw [hg]; exact Nat.ne_of_lt (blk_lt (bk BK1208)) : gb1208 ≠ gb1264))
     have NB1264_1208 := ak ((by rw [hg]; exact Nat.ne_of_gt (blk_lt (bk BK1208)) : gb1264 ≠ gb1208))
     replace BK1208 := ak (blk_below (bk BK1208) hb)
     have NB1216_1264 := ak ((by rw [hg]; exact Nat.ne_of_lt (blk_lt (bk BK1216)) : gb1216 ≠ gb1264))
     have NB1264_1216 := ak ((by rw [hg]; exact Nat.ne_of_gt (blk_lt (bk BK1216)) : gb1264 ≠ gb1216))
     replace BK1216 := ak (blk_below (bk BK1216) hb)
     have NB1228_1264 := ak ((by rw [hg]; exact Nat.ne_of_lt (blk_lt (bk BK1228)) : gb1228 ≠ gb1264))
     have NB1264_1228 := ak ((by rw [hg]; exact Nat.ne_of_gt (blk_lt (bk BK1228)) : gb1264 ≠ gb1228))
     replace BK1228 := ak (blk_below (bk BK1228) hb)
     clear hb hbox hg
     refine hK.out _ _ ⟨(blk_cell BK1187.out 0).trans rfl, (blk_cell BK1187.out 1).trans rfl, (blk_cell BK1187.out 2).trans rfl, (blk_cell BK1188.out 0).trans rfl, (blk_cell BK1188.out 1).trans rfl, (blk_cell BK1188.out 2).trans rfl⟩ (fun hHeld => ?_)
     clear hK K
     refine norm_ (a' := ?_) ?_ ?_
     rotate_left
     ·show Act.put _ (some 14) _ = _
      simp only [SX]
      rfl
     refine one_ (i := 1) (N := some 81) (ms 11 263) rfl rfl (one_of HT_.out (by kernel_rfl)) (by decide) (fun K hK => ?_)
     refine goes_ Try.func31 (by kernel_rfl) rfl #[.agg #[.int .i64 a0_0, .slice A0_1 l0_1.length c0_1, .slice A0_2 l0_2.length c0_2]] (by rfl) rfl rfl (by (try simp only [List.map_toArray, List.map_cons, List.map_nil]); rfl) ?_
     with_reducible refine (laws_toLive.calls kj82 a0_0 _ _ l0_1 _ _ l0_2 t1246 t1247 t1250 _ ?side1 ?side2 ?side3 ?side4 A123.out).mono ?_
     (case side1 => repeat (exact (Kd.C_below HR0_1.out HB.out)))
     (case side2 => exact HC0_1.out)
     (case side3 => repeat (exact (Kd.C_below HR0_2.out HB.out)))
     (case side4 => exact HC0_2.out)
     rintro e w137 ⟨v1248, v1251, rfl, ho0, ho1, hb⟩
     refine ⟨_, rfl, ?_⟩
     have HO1249 := ak (Kd.R_lower (Kd.R_new' (Kd.R_new' (Kd.R_new' ho0 (Kd.R_lt (rk HO_1209001))) (Kd.R_lt (rk HO_1217001))) (Kd.R_lt (rk HO_1229001))) (below_size (by repeat ((with_reducible exact HB.out)))))
     replace HO_1209001 := ak (Kd.R_elder' (rk HO_1209001) (Kd.R_base ho0) hb)
     replace HO_1217001 := ak (Kd.R_elder' (rk HO_1217001) (Kd.R_base ho0) hb)
     replace HO_1229001 := ak (Kd.R_elder' (rk HO_1229001) (Kd.R_base ho0) hb)
     have HO1252 := ak (Kd.R_lower (Kd.R_new' (Kd.R_new' (Kd.R_new' ho1 (Kd.R_lt (rk HO_1209002))) (Kd.R_lt (rk HO_1217002))) (Kd.R_lt (rk HO_1229002))) (below_size (by repeat ((with_reducible exact HB.out)))))
     replace HO_1209002 := ak (Kd.R_elder' (rk HO_1209002) (Kd.R_base ho1) hb)
     replace HO_1217002 := ak (Kd.R_elder' (rk HO_1217002) (Kd.R_base ho1) hb)
     replace HO_1229002 := ak (Kd.R_elder' (rk HO_1229002) (Kd.R_base ho1) hb)
     replace BK1187 := ak (blk_below (bk BK1187) hb)
     replace BK1188 := ak (blk_below (bk BK1188) hb)
     replace BK1208 := ak (blk_below (bk BK1208) hb)
     replace BK1216 := ak (blk_below (bk BK1216) hb)
     replace BK1228 := ak (blk_below (bk BK1228) hb)
     replace BK1264 := ak (blk_below (bk BK1264) hb)
     replace HB := ak (below_step (by repeat ((with_reducible exact HB.out))) hb)
     (try clear hb)
     (try clear hb2)
     (try clear hk)
     (try clear hi)
     (try clear ho0)
     (try clear ho1)
     refine hK.out _ _ ⟨(blk_cell BK1187.out 0).trans rfl, (blk_cell BK1187.out 1).trans rfl, (blk_cell BK1187.out 2).trans rfl, (blk_cell BK1188.out 0).trans rfl, (blk_cell BK1188.out 1).trans rfl, (blk_cell BK1188.out 2).trans rfl⟩ (fun hHeld => ?_)
     clear hK K
     refine norm_ (a' := ?_) ?_ ?_
     rotate_left
     ·show Act.put _ (some 81) _ = _
      simp only [SX]
      rfl
     refine one_ (i := 3) (N := some 83) (ms 11 271) rfl rfl (one_of HT_.out (by kernel_rfl)) (by decide) (fun K hK => ?_)
     refine goes_ Try.func48 (by kernel_rfl) rfl #[.agg #[.int .i64 a1_0, .int .i64 a1_1, .int .i64 a1_2]] (by rfl) rfl rfl (by (try simp only [List.map_toArray, List.map_cons, List.map_nil]); rfl) ?_
     with_reducible refine (laws_toNews.calls a1_0 a1_1 a1_2 t1253 t1254 t1255 _ A124.out).mono ?_
     rintro e w138 ⟨rfl, hb⟩
     refine ⟨_, rfl, ?_⟩
     replace HO_1209001 := ak (Kd.R_below (rk HO_1209001) hb)
     replace HO_1209002 := ak (Kd.R_below (rk HO_1209002) hb)
     replace HO_1217001 := ak (Kd.R_below (rk HO_1217001) hb)
     replace HO_1217002 := ak (Kd.R_below (rk HO_1217002) hb)
     replace HO_1229001 := ak (Kd.R_below (rk HO_1229001) hb)
     replace HO_1229002 := ak (Kd.R_below (rk HO_1229002) hb)
     replace HO1249 := ak (Kd.R_below (rk HO1249) hb)
     replace HO1252 := ak (Kd.R_below (rk HO1252) hb)
     replace BK1187 := ak (blk_below (bk BK1187) hb)
     replace BK1188 := ak (blk_below (bk BK1188) hb)
     replace BK1208 := ak (blk_below (bk BK1208) hb)
     replace BK1216 := ak (blk_below (bk BK1216) hb)
     replace BK1228 := ak (blk_below (bk BK1228) hb)
     replace BK1264 := ak (blk_below (bk BK1264) hb)
     replace HB := ak (below_step (by repeat ((with_reducible exact HB.out))) hb)
     (try clear hb)
     (try clear hb2)
     (try clear hk)
     (try clear hi)
     obtain ⟨Ao139, co139, eo139⟩ := Kd.R_slice HO1249.out
     (subst eo139)
     obtain ⟨Ao140, co140, eo140⟩ := Kd.R_slice HO1252.out
     (subst eo140)
     refine hK.out _ _ ⟨(blk_cell BK1187.out 0).trans rfl, (blk_cell BK1187.out 1).trans rfl, (blk_cell BK1187.out 2).trans rfl, (blk_cell BK1188.out 0).trans rfl, (blk_cell BK1188.out 1).trans rfl, (blk_cell BK1188.out 2).trans rfl⟩ (fun hHeld => ?_)
     clear hK K
     refine norm_ (a' := ?_) ?_ ?_
     rotate_left
     ·show Act.put _ (some 83) _ = _
      simp only [SX]
      rfl
     refine one_ (i := 4) (N := some 84) (ms 11 287) rfl rfl (one_of HT_.out (by kernel_rfl)) (by decide) (fun K hK => ?_)
     refine goes_ Try.func49 (by kernel_rfl) rfl #[.agg #[.int .i64 t1246, .slice Ao139 t1247.length co139, .slice Ao140 t1250.length co140], .agg #[.int .i64 t1253, .int .i64 t1254, .int .i64 t1255]] (by rfl) rfl rfl (by (try simp only [List.map_toArray, List.map_cons, List.map_nil]); rfl) ?_
     with_reducible refine (impl_LiveTell.calls kj82 t1246 _ _ t1247 _ _ t1250 t1253 t1254 t1255 t1256 t1257 t1260 t1263 _ ?side1 ?side2 ?side3 ?side4 A125.out).mono ?_
     (case side1 => repeat (exact (Kd.R_reads' HO1249.out).2.2))
     (case side2 => exact (Kd.R_reads' HO1249.out).2.1)
     (case side3 => repeat (exact (Kd.R_reads' HO1252.out).2.2))
     (case side4 => exact (Kd.R_reads' HO1252.out).2.1)
     rintro e w141 ⟨v1258, v1261, rfl, ho0, ho1, hb⟩
     refine ⟨_, rfl, ?_⟩
     have HO1259 := ak (Kd.R_lower (Kd.R_new' (Kd.R_new' (Kd.R_new' (Kd.R_new' ho0 (Kd.R_lt (rk HO_1209001))) (Kd.R_lt (rk HO_1217001))) (Kd.R_lt (rk HO_1229001))) (Kd.R_lt (rk HO1249))) (below_size (by repeat ((with_reducible exact HB.out)))))
     replace HO_1209001 := ak (Kd.R_elder' (rk HO_1209001) (Kd.R_base ho0) hb)
     replace HO_1217001 := ak (Kd.R_elder' (rk HO_1217001) (Kd.R_base ho0) hb)
     replace HO_1229001 := ak (Kd.R_elder' (rk HO_1229001) (Kd.R_base ho0) hb)
     replace HO1249 := ak (Kd.R_elder' (rk HO1249) (Kd.R_base ho0) hb)
     have HO1262 := ak (Kd.R_lower (Kd.R_new' (Kd.R_new' (Kd.R_new' (Kd.R_new' ho1 (Kd.R_lt (rk HO_1209002))) (Kd.R_lt (rk HO_1217002))) (Kd.R_lt (rk HO_1229002))) (Kd.R_lt (rk HO1252))) (below_size (by repeat ((with_reducible exact HB.out)))))
     replace HO_1209002 := ak (Kd.R_elder' (rk HO_1209002) (Kd.R_base ho1) hb)
     replace HO_1217002 := ak (Kd.R_elder' (rk HO_1217002) (Kd.R_base ho1) hb)
     replace HO_1229002 := ak (Kd.R_elder' (rk HO_1229002) (Kd.R_base ho1) hb)
     replace HO1252 := ak (Kd.R_elder' (rk HO1252) (Kd.R_base ho1) hb)
     replace BK1187 := ak (blk_below (bk BK1187) hb)
     replace BK1188 := ak (blk_below (bk BK1188) hb)
     replace BK1208 := ak (blk_below (bk BK1208) hb)
     replace BK1216 := ak (blk_below (bk BK1216) hb)
     replace BK1228 := ak (blk_below (bk BK1228) hb)
     replace BK1264 := ak (blk_below (bk BK1264) hb)
     replace HB := ak (below_step (by repeat ((with_reducible exact HB.out))) hb)
     (try clear hb)
     (try clear hb2)
     (try clear hk)
     (try clear hi)
     (try clear ho0)
     (try clear ho1)
     refine hK.out _ _ ⟨(blk_cell BK1187.out 0).trans rfl, (blk_cell BK1187.out 1).trans rfl, (blk_cell BK1187.out 2).trans rfl, (blk_cell BK1188.out 0).trans rfl, (blk_cell BK1188.out 1).trans rfl, (blk_cell BK1188.out 2).trans rfl⟩ (fun hHeld => ?_)
     clear hK K
     refine norm_ (a' := ?_) ?_ ?_
     rotate_left
     ·show Act.put _ (some 84) _ = _
      simp only [SX]
      rfl
     refine pu 5 79 ?_ (ms 11 319) rfl rfl HT_ (by kernel_rfl) (fun _ _ _ h => h) (by rfl) ?_ ?_ ?_ ?_
     rotate_left
     ·intro w'
      go_simp
      with_reducible rfl
     rotate_left
     ·simp only [SX]
      rfl
     refine pu 6 85 ?_ (ms 11 383) rfl rfl HT_ (by kernel_rfl) (fun _ _ _ h => h) (by rfl) ?_ ?_ ?_ ?_
     rotate_left
     ·intro w'
      go_simp
      with_reducible rfl
     rotate_left
     ·simp only [SX]
      rfl
     refine pu 7 86 ?_ (ms 11 511) rfl rfl HT_ (by kernel_rfl) (fun _ _ _ h => h) (by rfl) ?_ ?_ ?_ ?_
     rotate_left
     ·intro w'
      go_simp
      with_reducible rfl
     rotate_left
     ·simp only [SX]
      rfl
     exact norm_ (by simp only [putAll, Act.put, List.setIfInBounds_toArray, List.set_cons_zero, List.set_cons_succ]) (hCont (.slice Ao139 t1247.length co139, .slice Ao140 t1250.length co140, v1258, v1261, gb1264) _ ⟨hHeld, (by exact Kd.R_mono HO1249.out (fun _ hk => ⟨hk.2, ⟨hk.1.1.1.2, ⟨hk.1.1.2, hk.1.2⟩⟩⟩)), (by exact Kd.R_mono HO1252.out (fun _ hk => ⟨hk.2, ⟨hk.1.1.1.2, ⟨hk.1.1.2, hk.1.2⟩⟩⟩)), (by exact Kd.R_mono HO1259.out (fun _ hk => ⟨hk.2, ⟨hk.1.1.1.2, ⟨hk.1.1.2, hk.1.2⟩⟩⟩)), (by exact Kd.R_mono HO1262.out (fun _ hk => ⟨hk.2, ⟨hk.1.1.1.2, ⟨hk.1.1.2, hk.1.2⟩⟩⟩)), (by exact Kd.R_mono HO_1209001.out (fun _ hk => ⟨hk.1.2, ⟨hk.2, ⟨hk.1.1.1, hk.1.1.2⟩⟩⟩)), (by exact Kd.R_mono HO_1209002.out (fun _ hk => ⟨hk.1.2, ⟨hk.2, ⟨hk.1.1.1, hk.1.1.2⟩⟩⟩)), (by exact Kd.R_mono HO_1217001.out (fun _ hk => ⟨hk.1.2, ⟨hk.2, ⟨hk.1.1.1, hk.1.1.2⟩⟩⟩)), (by exact Kd.R_mono HO_1217002.out (fun _ hk => ⟨hk.1.2, ⟨hk.2, ⟨hk.1.1.1, hk.1.1.2⟩⟩⟩)), (by exact Kd.R_mono HO_1229001.out (fun _ hk => ⟨hk.1.2, ⟨hk.2, ⟨hk.1.1.1, hk.1.1.2⟩⟩⟩)), (by exact Kd.R_mono HO_1229002.out (fun _ hk => ⟨hk.1.2, ⟨hk.2, ⟨hk.1.1.1, hk.1.1.2⟩⟩⟩)), (bk BK1187), (bk BK1188), (bk BK1208), (bk BK1216), (bk BK1228), (bk BK1264), GW1264.out, GE1264.out, NB1187_1264.out, NB1264_1187.out, NB1188_1264.out, NB1264_1188.out, NB1208_1264.out, NB1264_1208.out, NB1216_1264.out, NB1264_1216.out, NB1228_1264.out, NB1264_1228.out, (by repeat ((with_reducible exact HB.out)))⟩)
    skip
    refine goes_ Try.func31 (by kernel_rfl) rfl #[.agg #[.int .i64 a0_0, .slice A0_1 l0_1.length c0_1, .slice A0_2 l0_2.length c0_2]] (by rfl) rfl rfl (by (try simp only [List.map_toArray, List.map_cons, List.map_nil]); rfl) ?_
    with_reducible refine (laws_toLive.calls kj82 a0_0 _ _ l0_1 _ _ l0_2 t1246 t1247 t1250 _ ?side1 ?side2 ?side3 ?side4 A123.out).mono ?_
    (case side1 => repeat (exact (Kd.C_below HR0_1.out HB.out)))
    (case side2 => exact HC0_1.out)
    (case side3 => repeat (exact (Kd.C_below HR0_2.out HB.out)))
    (case side4 => exact HC0_2.out)
    rintro e w136 ⟨v1248, v1251, rfl, ho0, ho1, hb⟩
    refine ⟨_, rfl, ?_⟩
    have HO1249 := ak (Kd.R_lower (Kd.R_new' (Kd.R_new' (Kd.R_new' ho0 (Kd.R_lt (rk HO_1209001))) (Kd.R_lt (rk HO_1217001))) (Kd.R_lt (rk HO_1229001))) (below_size (by repeat ((with_reducible exact HB.out)))))
    replace HO_1209001 := ak (Kd.R_elder' (rk HO_1209001) (Kd.R_base ho0) hb)
    replace HO_1217001 := ak (Kd.R_elder' (rk HO_1217001) (Kd.R_base ho0) hb)
    replace HO_1229001 := ak (Kd.R_elder' (rk HO_1229001) (Kd.R_base ho0) hb)
    have HO1252 := ak (Kd.R_lower (Kd.R_new' (Kd.R_new' (Kd.R_new' ho1 (Kd.R_lt (rk HO_1209002))) (Kd.R_lt (rk HO_1217002))) (Kd.R_lt (rk HO_1229002))) (below_size (by repeat ((with_reducible exact HB.out)))))
    replace HO_1209002 := ak (Kd.R_elder' (rk HO_1209002) (Kd.R_base ho1) hb)
    replace HO_1217002 := ak (Kd.R_elder' (rk HO_1217002) (Kd.R_base ho1) hb)
    replace HO_1229002 := ak (Kd.R_elder' (rk HO_1229002) (Kd.R_base ho1) hb)
    replace BK1187 := ak (blk_below (bk BK1187) hb)
    replace BK1188 := ak (blk_below (bk BK1188) hb)
    replace BK1208 := ak (blk_below (bk BK1208) hb)
    replace BK1216 := ak (blk_below (bk BK1216) hb)
    replace BK1228 := ak (blk_below (bk BK1228) hb)
    replace HB := ak (below_step (by repeat ((with_reducible exact HB.out))) hb)
    (try clear hb)
    (try clear hb2)
    (try clear hk)
    (try clear hi)
    (try clear ho0)
    (try clear ho1)
    refine hK.out _ _ ⟨(blk_cell BK1187.out 0).trans rfl, (blk_cell BK1187.out 1).trans rfl, (blk_cell BK1187.out 2).trans rfl, (blk_cell BK1188.out 0).trans rfl, (blk_cell BK1188.out 1).trans rfl, (blk_cell BK1188.out 2).trans rfl⟩ (fun hHeld => ?_)
    clear hK K
    refine norm_ (a' := ?_) ?_ ?_
    rotate_left
    ·show Act.put _ (some 81) _ = _
     simp only [SX]
     rfl
    refine two_ (i := 3) (j := 8) (Ni := some 83) (Nj := some 14) (ms 11 15) (ms 11 263) rfl rfl rfl rfl (two_of HT_.out (by kernel_rfl)) (by decide) (by decide) (fun K hK => ?_) (fun K hK => ?_)
    rotate_left
    ·skip
     refine box_step ?hg (N := 14) ?hd (cs := #[.int .i64 0, .slice none 0 0, .slice none 0 0]) (t := 49) ?hr ?_; (case hd => rfl); (case hg => rfl); (case hr => (go_simp; done))
     intro gb1264 hg w137 hbox hb
     replace HO_1209001 := ak (Kd.R_below (rk HO_1209001) hb)
     replace HO_1209002 := ak (Kd.R_below (rk HO_1209002) hb)
     replace HO_1217001 := ak (Kd.R_below (rk HO_1217001) hb)
     replace HO_1217002 := ak (Kd.R_below (rk HO_1217002) hb)
     replace HO_1229001 := ak (Kd.R_below (rk HO_1229001) hb)
     replace HO_1229002 := ak (Kd.R_below (rk HO_1229002) hb)
     replace HO1249 := ak (Kd.R_below (rk HO1249) hb)
     replace HO1252 := ak (Kd.R_below (rk HO1252) hb)
     have BK1264 := ak (hbox)
     have GW1264 := ak ((by rw [hg]; exact (below_size (by repeat ((with_reducible exact HB.out)))) : w.heap.size ≤ gb1264))
     have GE1264 := ak ((by rw [hg]; exact (below_size (by repeat ((with_reducible exact HB.out)))) : w.heap.size ≤ gb1264))
     replace HB := ak (below_step (by repeat ((with_reducible exact HB.out))) hb)
     have NB1187_1264 := ak ((by rw [hg]; exact Nat.ne_of_lt (blk_lt (bk BK1187)) : gb1187 ≠ gb1264))
     have NB1264_1187 := ak ((by rw [hg]; exact Nat.ne_of_gt (blk_lt (bk BK1187)) : gb1264 ≠ gb1187))
     replace BK1187 := ak (blk_below (bk BK1187) hb)
     have NB1188_1264 := ak ((by rw [hg]; exact Nat.ne_of_lt (blk_lt (bk BK1188)) : gb1188 ≠ gb1264))
     have NB1264_1188 := ak ((by rw [hg]; exact Nat.ne_of_gt (blk_lt (bk BK1188)) : gb1264 ≠ gb1188))
     replace BK1188 := ak (blk_below (bk BK1188) hb)
     have NB1208_1264 := ak ((by rw [hg]; exact Nat.ne_of_lt (blk_lt (bk BK1208)) : gb1208 ≠ gb1264))
     have NB1264_1208 := ak ((by rw [hg]; exact Nat.ne_of_gt (blk_lt (bk BK1208)) : gb1264 ≠ gb1208))
     replace BK1208 := ak (blk_below (bk BK1208) hb)
     have NB1216_1264 := ak ((by rw [hg]; exact Nat.ne_of_lt (blk_lt (bk BK1216)) : gb1216 ≠ gb1264))
     have NB1264_1216 := ak ((by rw [hg]; exact Nat.ne_of_gt (blk_lt (bk BK1216)) : gb1264 ≠ gb1216))
     replace BK1216 := ak (blk_below (bk BK1216) hb)
     have NB1228_1264 := ak ((by rw [hg]; exact Nat.ne_of_lt (blk_lt (bk BK1228)) : gb1228 ≠ gb1264))
     have NB1264_1228 := ak ((by rw [hg]; exact Nat.ne_of_gt (blk_lt (bk BK1228)) : gb1264 ≠ gb1228))
     replace BK1228 := ak (blk_below (bk BK1228) hb)
     clear hb hbox hg
     refine hK.out _ _ ⟨(blk_cell BK1187.out 0).trans rfl, (blk_cell BK1187.out 1).trans rfl, (blk_cell BK1187.out 2).trans rfl, (blk_cell BK1188.out 0).trans rfl, (blk_cell BK1188.out 1).trans rfl, (blk_cell BK1188.out 2).trans rfl⟩ (fun hHeld => ?_)
     clear hK K
     refine norm_ (a' := ?_) ?_ ?_
     rotate_left
     ·show Act.put _ (some 14) _ = _
      simp only [SX]
      rfl
     refine one_ (i := 3) (N := some 83) (ms 11 271) rfl rfl (one_of HT_.out (by kernel_rfl)) (by decide) (fun K hK => ?_)
     refine goes_ Try.func48 (by kernel_rfl) rfl #[.agg #[.int .i64 a1_0, .int .i64 a1_1, .int .i64 a1_2]] (by rfl) rfl rfl (by (try simp only [List.map_toArray, List.map_cons, List.map_nil]); rfl) ?_
     with_reducible refine (laws_toNews.calls a1_0 a1_1 a1_2 t1253 t1254 t1255 _ A124.out).mono ?_
     rintro e w138 ⟨rfl, hb⟩
     refine ⟨_, rfl, ?_⟩
     replace HO_1209001 := ak (Kd.R_below (rk HO_1209001) hb)
     replace HO_1209002 := ak (Kd.R_below (rk HO_1209002) hb)
     replace HO_1217001 := ak (Kd.R_below (rk HO_1217001) hb)
     replace HO_1217002 := ak (Kd.R_below (rk HO_1217002) hb)
     replace HO_1229001 := ak (Kd.R_below (rk HO_1229001) hb)
     replace HO_1229002 := ak (Kd.R_below (rk HO_1229002) hb)
     replace HO1249 := ak (Kd.R_below (rk HO1249) hb)
     replace HO1252 := ak (Kd.R_below (rk HO1252) hb)
     replace BK1187 := ak (blk_below (bk BK1187) hb)
     replace BK1188 := ak (blk_below (bk BK1188) hb)
     replace BK1208 := ak (blk_below (bk BK1208) hb)
     replace BK1216 := ak (blk_below (bk BK1216) hb)
     replace BK1228 := ak (blk_below (bk BK1228) hb)
     replace BK1264 := ak (blk_below (bk BK1264) hb)
     replace HB := ak (below_step (by repeat ((with_reducible exact HB.out))) hb)
     (try clear hb)
     (try clear hb2)
     (try clear hk)
     (try clear hi)
     obtain ⟨Ao139, co139, eo139⟩ := Kd.R_slice HO1249.out
     (subst eo139)
     obtain ⟨Ao140, co140, eo140⟩ := Kd.R_slice HO1252.out
     (subst eo140)
     refine hK.out _ _ ⟨(blk_cell BK1187.out 0).trans rfl, (blk_cell BK1187.out 1).trans rfl, (blk_cell BK1187.out 2).trans rfl, (blk_cell BK1188.out 0).trans rfl, (blk_cell BK1188.out 1).trans rfl, (blk_cell BK1188.out 2).trans rfl⟩ (fun hHeld => ?_)
     clear hK K
     refine norm_ (a' := ?_) ?_ ?_
     rotate_left
     ·show Act.put _ (some 83) _ = _
      simp only [SX]
      rfl
     refine one_ (i := 4) (N := some 84) (ms 11 287) rfl rfl (one_of HT_.out (by kernel_rfl)) (by decide) (fun K hK => ?_)
     refine goes_ Try.func49 (by kernel_rfl) rfl #[.agg #[.int .i64 t1246, .slice Ao139 t1247.length co139, .slice Ao140 t1250.length co140], .agg #[.int .i64 t1253, .int .i64 t1254, .int .i64 t1255]] (by rfl) rfl rfl (by (try simp only [List.map_toArray, List.map_cons, List.map_nil]); rfl) ?_
     with_reducible refine (impl_LiveTell.calls kj82 t1246 _ _ t1247 _ _ t1250 t1253 t1254 t1255 t1256 t1257 t1260 t1263 _ ?side1 ?side2 ?side3 ?side4 A125.out).mono ?_
     (case side1 => repeat (exact (Kd.R_reads' HO1249.out).2.2))
     (case side2 => exact (Kd.R_reads' HO1249.out).2.1)
     (case side3 => repeat (exact (Kd.R_reads' HO1252.out).2.2))
     (case side4 => exact (Kd.R_reads' HO1252.out).2.1)
     rintro e w141 ⟨v1258, v1261, rfl, ho0, ho1, hb⟩
     refine ⟨_, rfl, ?_⟩
     have HO1259 := ak (Kd.R_lower (Kd.R_new' (Kd.R_new' (Kd.R_new' (Kd.R_new' ho0 (Kd.R_lt (rk HO_1209001))) (Kd.R_lt (rk HO_1217001))) (Kd.R_lt (rk HO_1229001))) (Kd.R_lt (rk HO1249))) (below_size (by repeat ((with_reducible exact HB.out)))))
     replace HO_1209001 := ak (Kd.R_elder' (rk HO_1209001) (Kd.R_base ho0) hb)
     replace HO_1217001 := ak (Kd.R_elder' (rk HO_1217001) (Kd.R_base ho0) hb)
     replace HO_1229001 := ak (Kd.R_elder' (rk HO_1229001) (Kd.R_base ho0) hb)
     replace HO1249 := ak (Kd.R_elder' (rk HO1249) (Kd.R_base ho0) hb)
     have HO1262 := ak (Kd.R_lower (Kd.R_new' (Kd.R_new' (Kd.R_new' (Kd.R_new' ho1 (Kd.R_lt (rk HO_1209002))) (Kd.R_lt (rk HO_1217002))) (Kd.R_lt (rk HO_1229002))) (Kd.R_lt (rk HO1252))) (below_size (by repeat ((with_reducible exact HB.out)))))
     replace HO_1209002 := ak (Kd.R_elder' (rk HO_1209002) (Kd.R_base ho1) hb)
     replace HO_1217002 := ak (Kd.R_elder' (rk HO_1217002) (Kd.R_base ho1) hb)
     replace HO_1229002 := ak (Kd.R_elder' (rk HO_1229002) (Kd.R_base ho1) hb)
     replace HO1252 := ak (Kd.R_elder' (rk HO1252) (Kd.R_base ho1) hb)
     replace BK1187 := ak (blk_below (bk BK1187) hb)
     replace BK1188 := ak (blk_below (bk BK1188) hb)
     replace BK1208 := ak (blk_below (bk BK1208) hb)
     replace BK1216 := ak (blk_below (bk BK1216) hb)
     replace BK1228 := ak (blk_below (bk BK1228) hb)
     replace BK1264 := ak (blk_below (bk BK1264) hb)
     replace HB := ak (below_step (by repeat ((with_reducible exact HB.out))) hb)
     (try clear hb)
     (try clear hb2)
     (try clear hk)
     (try clear hi)
     (try clear ho0)
     (try clear ho1)
     refine hK.out _ _ ⟨(blk_cell BK1187.out 0).trans rfl, (blk_cell BK1187.out 1).trans rfl, (blk_cell BK1187.out 2).trans rfl, (blk_cell BK1188.out 0).trans rfl, (blk_cell BK1188.out 1).trans rfl, (blk_cell BK1188.out 2).trans rfl⟩ (fun hHeld => ?_)
     clear hK K
     refine norm_ (a' := ?_) ?_ ?_
     rotate_left
     ·show Act.put _ (some 84) _ = _
      simp only [SX]
      rfl
     refine pu 5 79 ?_ (ms 11 319) rfl rfl HT_ (by kernel_rfl) (fun _ _ _ h => h) (by rfl) ?_ ?_ ?_ ?_
     rotate_left
     ·intro w'
      go_simp
      with_reducible rfl
     rotate_left
     ·simp only [SX]
      rfl
     refine pu 6 85 ?_ (ms 11 383) rfl rfl HT_ (by kernel_rfl) (fun _ _ _ h => h) (by rfl) ?_ ?_ ?_ ?_
     rotate_left
     ·intro w'
      go_simp
      with_reducible rfl
     rotate_left
     ·simp only [SX]
      rfl
     refine pu 7 86 ?_ (ms 11 511) rfl rfl HT_ (by kernel_rfl) (fun _ _ _ h => h) (by rfl) ?_ ?_ ?_ ?_
     rotate_left
     ·intro w'
      go_simp
      with_reducible rfl
     rotate_left
     ·simp only [SX]
      rfl
     exact norm_ (by simp only [putAll, Act.put, List.setIfInBounds_toArray, List.set_cons_zero, List.set_cons_succ]) (hCont (.slice Ao139 t1247.length co139, .slice Ao140 t1250.length co140, v1258, v1261, gb1264) _ ⟨hHeld, (by exact Kd.R_mono HO1249.out (fun _ hk => ⟨hk.2, ⟨hk.1.1.1.2, ⟨hk.1.1.2, hk.1.2⟩⟩⟩)), (by exact Kd.R_mono HO1252.out (fun _ hk => ⟨hk.2, ⟨hk.1.1.1.2, ⟨hk.1.1.2, hk.1.2⟩⟩⟩)), (by exact Kd.R_mono HO1259.out (fun _ hk => ⟨hk.2, ⟨hk.1.1.1.2, ⟨hk.1.1.2, hk.1.2⟩⟩⟩)), (by exact Kd.R_mono HO1262.out (fun _ hk => ⟨hk.2, ⟨hk.1.1.1.2, ⟨hk.1.1.2, hk.1.2⟩⟩⟩)), (by exact Kd.R_mono HO_1209001.out (fun _ hk => ⟨hk.1.2, ⟨hk.2, ⟨hk.1.1.1, hk.1.1.2⟩⟩⟩)), (by exact Kd.R_mono HO_1209002.out (fun _ hk => ⟨hk.1.2, ⟨hk.2, ⟨hk.1.1.1, hk.1.1.2⟩⟩⟩)), (by exact Kd.R_mono HO_1217001.out (fun _ hk => ⟨hk.1.2, ⟨hk.2, ⟨hk.1.1.1, hk.1.1.2⟩⟩⟩)), (by exact Kd.R_mono HO_1217002.out (fun _ hk => ⟨hk.1.2, ⟨hk.2, ⟨hk.1.1.1, hk.1.1.2⟩⟩⟩)), (by exact Kd.R_mono HO_1229001.out (fun _ hk => ⟨hk.1.2, ⟨hk.2, ⟨hk.1.1.1, hk.1.1.2⟩⟩⟩)), (by exact Kd.R_mono HO_1229002.out (fun _ hk => ⟨hk.1.2, ⟨hk.2, ⟨hk.1.1.1, hk.1.1.2⟩⟩⟩)), (bk BK1187), (bk BK1188), (bk BK1208), (bk BK1216), (bk BK1228), (bk BK1264), GW1264.out, GE1264.out, NB1187_1264.out, NB1264_1187.out, NB1188_1264.out, NB1264_1188.out, NB1208_1264.out, NB1264_1208.out, NB1216_1264.out, NB1264_1216.out, NB1228_1264.out, NB1264_1228.out, (by repeat ((with_reducible exact HB.out)))⟩)
    skip
    refine goes_ Try.func48 (by kernel_rfl) rfl #[.agg #[.int .i64 a1_0, .int .i64 a1_1, .int .i64 a1_2]] (by rfl) rfl rfl (by (try simp only [List.map_toArray, List.map_cons, List.map_nil]); rfl) ?_
    with_reducible refine (laws_toNews.calls a1_0 a1_1 a1_2 t1253 t1254 t1255 _ A124.out).mono ?_
    rintro e w137 ⟨rfl, hb⟩
    refine ⟨_, rfl, ?_⟩
    replace HO_1209001 := ak (Kd.R_below (rk HO_1209001) hb)
    replace HO_1209002 := ak (Kd.R_below (rk HO_1209002) hb)
    replace HO_1217001 := ak (Kd.R_below (rk HO_1217001) hb)
    replace HO_1217002 := ak (Kd.R_below (rk HO_1217002) hb)
    replace HO_1229001 := ak (Kd.R_below (rk HO_1229001) hb)
    replace HO_1229002 := ak (Kd.R_below (rk HO_1229002) hb)
    replace HO1249 := ak (Kd.R_below (rk HO1249) hb)
    replace HO1252 := ak (Kd.R_below (rk HO1252) hb)
    replace BK1187 := ak (blk_below (bk BK1187) hb)
    replace BK1188 := ak (blk_below (bk BK1188) hb)
    replace BK1208 := ak (blk_below (bk BK1208) hb)
    replace BK1216 := ak (blk_below (bk BK1216) hb)
    replace BK1228 := ak (blk_below (bk BK1228) hb)
    replace HB := ak (below_step (by repeat ((with_reducible exact HB.out))) hb)
    (try clear hb)
    (try clear hb2)
    (try clear hk)
    (try clear hi)
    obtain ⟨Ao138, co138, eo138⟩ := Kd.R_slice HO1249.out
    (subst eo138)
    obtain ⟨Ao139, co139, eo139⟩ := Kd.R_slice HO1252.out
    (subst eo139)
    refine hK.out _ _ ⟨(blk_cell BK1187.out 0).trans rfl, (blk_cell BK1187.out 1).trans rfl, (blk_cell BK1187.out 2).trans rfl, (blk_cell BK1188.out 0).trans rfl, (blk_cell BK1188.out 1).trans rfl, (blk_cell BK1188.out 2).trans rfl⟩ (fun hHeld => ?_)
    clear hK K
    refine norm_ (a' := ?_) ?_ ?_
    rotate_left
    ·show Act.put _ (some 83) _ = _
     simp only [SX]
     rfl
    refine two_ (i := 4) (j := 8) (Ni := some 84) (Nj := some 14) (ms 11 31) (ms 11 271) rfl rfl rfl rfl (two_of HT_.out (by kernel_rfl)) (by decide) (by decide) (fun K hK => ?_) (fun K hK => ?_)
    ·skip
     refine goes_ Try.func49 (by kernel_rfl) rfl #[.agg #[.int .i64 t1246, .slice Ao138 t1247.length co138, .slice Ao139 t1250.length co139], .agg #[.int .i64 t1253, .int .i64 t1254, .int .i64 t1255]] (by rfl) rfl rfl (by (try simp only [List.map_toArray, List.map_cons, List.map_nil]); rfl) ?_
     with_reducible refine (impl_LiveTell.calls kj82 t1246 _ _ t1247 _ _ t1250 t1253 t1254 t1255 t1256 t1257 t1260 t1263 _ ?side1 ?side2 ?side3 ?side4 A125.out).mono ?_
     (case side1 => repeat (exact (Kd.R_reads' HO1249.out).2.2))
     (case side2 => exact (Kd.R_reads' HO1249.out).2.1)
     (case side3 => repeat (exact (Kd.R_reads' HO1252.out).2.2))
     (case side4 => exact (Kd.R_reads' HO1252.out).2.1)
     rintro e w140 ⟨v1258, v1261, rfl, ho0, ho1, hb⟩
     refine ⟨_, rfl, ?_⟩
     have HO1259 := ak (Kd.R_lower (Kd.R_new' (Kd.R_new' (Kd.R_new' (Kd.R_new' ho0 (Kd.R_lt (rk HO_1209001))) (Kd.R_lt (rk HO_1217001))) (Kd.R_lt (rk HO_1229001))) (Kd.R_lt (rk HO1249))) (below_size (by repeat ((with_reducible exact HB.out)))))
     replace HO_1209001 := ak (Kd.R_elder' (rk HO_1209001) (Kd.R_base ho0) hb)
     replace HO_1217001 := ak (Kd.R_elder' (rk HO_1217001) (Kd.R_base ho0) hb)
     replace HO_1229001 := ak (Kd.R_elder' (rk HO_1229001) (Kd.R_base ho0) hb)
     replace HO1249 := ak (Kd.R_elder' (rk HO1249) (Kd.R_base ho0) hb)
     have HO1262 := ak (Kd.R_lower (Kd.R_new' (Kd.R_new' (Kd.R_new' (Kd.R_new' ho1 (Kd.R_lt (rk HO_1209002))) (Kd.R_lt (rk HO_1217002))) (Kd.R_lt (rk HO_1229002))) (Kd.R_lt (rk HO1252))) (below_size (by repeat ((with_reducible exact HB.out)))))
     replace HO_1209002 := ak (Kd.R_elder' (rk HO_1209002) (Kd.R_base ho1) hb)
     replace HO_1217002 := ak (Kd.R_elder' (rk HO_1217002) (Kd.R_base ho1) hb)
     replace HO_1229002 := ak (Kd.R_elder' (rk HO_1229002) (Kd.R_base ho1) hb)
     replace HO1252 := ak (Kd.R_elder' (rk HO1252) (Kd.R_base ho1) hb)
     replace BK1187 := ak (blk_below (bk BK1187) hb)
     replace BK1188 := ak (blk_below (bk BK1188) hb)
     replace BK1208 := ak (blk_below (bk BK1208) hb)
     replace BK1216 := ak (blk_below (bk BK1216) hb)
     replace BK1228 := ak (blk_below (bk BK1228) hb)
     replace HB := ak (below_step (by repeat ((with_reducible exact HB.out))) hb)
     (try clear hb)
     (try clear hb2)
     (try clear hk)
     (try clear hi)
     (try clear ho0)
     (try clear ho1)
     refine hK.out _ _ ⟨(blk_cell BK1187.out 0).trans rfl, (blk_cell BK1187.out 1).trans rfl, (blk_cell BK1187.out 2).trans rfl, (blk_cell BK1188.out 0).trans rfl, (blk_cell BK1188.out 1).trans rfl, (blk_cell BK1188.out 2).trans rfl⟩ (fun hHeld => ?_)
     clear hK K
     refine norm_ (a' := ?_) ?_ ?_
     rotate_left
     ·show Act.put _ (some 84) _ = _
      simp only [SX]
      rfl
     refine pu 5 79 ?_ (ms 11 63) rfl rfl HT_ (by kernel_rfl) (fun _ _ _ h => h) (by rfl) ?_ ?_ ?_ ?_
     rotate_left
     ·intro w'
      go_simp
      with_reducible rfl
     rotate_left
     ·simp only [SX]
      rfl
     refine pu 6 85 ?_ (ms 11 127) rfl rfl HT_ (by kernel_rfl) (fun _ _ _ h => h) (by rfl) ?_ ?_ ?_ ?_
     rotate_left
     ·intro w'
      go_simp
      with_reducible rfl
     rotate_left
     ·simp only [SX]
      rfl
     refine pu 7 86 ?_ (ms 11 255) rfl rfl HT_ (by kernel_rfl) (fun _ _ _ h => h) (by rfl) ?_ ?_ ?_ ?_
     rotate_left
     ·intro w'
      go_simp
      with_reducible rfl
     rotate_left
     ·simp only [SX]
      rfl
     refine one_ (i := 8) (N := some 14) (ms 11 511) rfl rfl (one_of HT_.out (by kernel_rfl)) (by decide) (fun K hK => ?_)
     refine box_step ?hg (N := 14) ?hd (cs := #[.int .i64 0, .slice none 0 0, .slice none 0 0]) (t := 49) ?hr ?_; (case hd => rfl); (case hg => rfl); (case hr => (go_simp; done))
     intro gb1264 hg w141 hbox hb
     replace HO_1209001 := ak (Kd.R_below (rk HO_1209001) hb)
     replace HO_1209002 := ak (Kd.R_below (rk HO_1209002) hb)
     replace HO_1217001 := ak (Kd.R_below (rk HO_1217001) hb)
     replace HO_1217002 := ak (Kd.R_below (rk HO_1217002) hb)
     replace HO_1229001 := ak (Kd.R_below (rk HO_1229001) hb)
     replace HO_1229002 := ak (Kd.R_below (rk HO_1229002) hb)
     replace HO1249 := ak (Kd.R_below (rk HO1249) hb)
     replace HO1252 := ak (Kd.R_below (rk HO1252) hb)
     replace HO1259 := ak (Kd.R_below (rk HO1259) hb)
     replace HO1262 := ak (Kd.R_below (rk HO1262) hb)
     have BK1264 := ak (hbox)
     have GW1264 := ak ((by rw [hg]; exact (below_size (by repeat ((with_reducible exact HB.out)))) : w.heap.size ≤ gb1264))
     have GE1264 := ak ((by rw [hg]; exact (below_size (by repeat ((with_reducible exact HB.out)))) : w.heap.size ≤ gb1264))
     replace HB := ak (below_step (by repeat ((with_reducible exact HB.out))) hb)
     have NB1187_1264 := ak ((by rw [hg]; exact Nat.ne_of_lt (blk_lt (bk BK1187)) : gb1187 ≠ gb1264))
     have NB1264_1187 := ak ((by rw [hg]; exact Nat.ne_of_gt (blk_lt (bk BK1187)) : gb1264 ≠ gb1187))
     replace BK1187 := ak (blk_below (bk BK1187) hb)
     have NB1188_1264 := ak ((by rw [hg]; exact Nat.ne_of_lt (blk_lt (bk BK1188)) : gb1188 ≠ gb1264))
     have NB1264_1188 := ak ((by rw [hg]; exact Nat.ne_of_gt (blk_lt (bk BK1188)) : gb1264 ≠ gb1188))
     replace BK1188 := ak (blk_below (bk BK1188) hb)
     have NB1208_1264 := ak ((by rw [hg]; exact Nat.ne_of_lt (blk_lt (bk BK1208)) : gb1208 ≠ gb1264))
     have NB1264_1208 := ak ((by rw [hg]; exact Nat.ne_of_gt (blk_lt (bk BK1208)) : gb1264 ≠ gb1208))
     replace BK1208 := ak (blk_below (bk BK1208) hb)
     have NB1216_1264 := ak ((by rw [hg]; exact Nat.ne_of_lt (blk_lt (bk BK1216)) : gb1216 ≠ gb1264))
     have NB1264_1216 := ak ((by rw [hg]; exact Nat.ne_of_gt (blk_lt (bk BK1216)) : gb1264 ≠ gb1216))
     replace BK1216 := ak (blk_below (bk BK1216) hb)
     have NB1228_1264 := ak ((by rw [hg]; exact Nat.ne_of_lt (blk_lt (bk BK1228)) : gb1228 ≠ gb1264))
     have NB1264_1228 := ak ((by rw [hg]; exact Nat.ne_of_gt (blk_lt (bk BK1228)) : gb1264 ≠ gb1228))
     replace BK1228 := ak (blk_below (bk BK1228) hb)
     clear hb hbox hg
     refine hK.out _ _ ⟨(blk_cell BK1187.out 0).trans rfl, (blk_cell BK1187.out 1).trans rfl, (blk_cell BK1187.out 2).trans rfl, (blk_cell BK1188.out 0).trans rfl, (blk_cell BK1188.out 1).trans rfl, (blk_cell BK1188.out 2).trans rfl⟩ (fun hHeld => ?_)
     clear hK K
     refine norm_ (a' := ?_) ?_ ?_
     rotate_left
     ·show Act.put _ (some 14) _ = _
      simp only [SX]
      rfl
     exact norm_ (by simp only [putAll, Act.put, List.setIfInBounds_toArray, List.set_cons_zero, List.set_cons_succ]) (hCont (.slice Ao138 t1247.length co138, .slice Ao139 t1250.length co139, v1258, v1261, gb1264) _ ⟨hHeld, (by exact Kd.R_mono HO1249.out (fun _ hk => ⟨hk.2, ⟨hk.1.1.1.2, ⟨hk.1.1.2, hk.1.2⟩⟩⟩)), (by exact Kd.R_mono HO1252.out (fun _ hk => ⟨hk.2, ⟨hk.1.1.1.2, ⟨hk.1.1.2, hk.1.2⟩⟩⟩)), (by exact Kd.R_mono HO1259.out (fun _ hk => ⟨hk.2, ⟨hk.1.1.1.2, ⟨hk.1.1.2, hk.1.2⟩⟩⟩)), (by exact Kd.R_mono HO1262.out (fun _ hk => ⟨hk.2, ⟨hk.1.1.1.2, ⟨hk.1.1.2, hk.1.2⟩⟩⟩)), (by exact Kd.R_mono HO_1209001.out (fun _ hk => ⟨hk.1.2, ⟨hk.2, ⟨hk.1.1.1, hk.1.1.2⟩⟩⟩)), (by exact Kd.R_mono HO_1209002.out (fun _ hk => ⟨hk.1.2, ⟨hk.2, ⟨hk.1.1.1, hk.1.1.2⟩⟩⟩)), (by exact Kd.R_mono HO_1217001.out (fun _ hk => ⟨hk.1.2, ⟨hk.2, ⟨hk.1.1.1, hk.1.1.2⟩⟩⟩)), (by exact Kd.R_mono HO_1217002.out (fun _ hk => ⟨hk.1.2, ⟨hk.2, ⟨hk.1.1.1, hk.1.1.2⟩⟩⟩)), (by exact Kd.R_mono HO_1229001.out (fun _ hk => ⟨hk.1.2, ⟨hk.2, ⟨hk.1.1.1, hk.1.1.2⟩⟩⟩)), (by exact Kd.R_mono HO_1229002.out (fun _ hk => ⟨hk.1.2, ⟨hk.2, ⟨hk.1.1.1, hk.1.1.2⟩⟩⟩)), (bk BK1187), (bk BK1188), (bk BK1208), (bk BK1216), (bk BK1228), (bk BK1264), GW1264.out, GE1264.out, NB1187_1264.out, NB1264_1187.out, NB1188_1264.out, NB1264_1188.out, NB1208_1264.out, NB1264_1208.out, NB1216_1264.out, NB1264_1216.out, NB1228_1264.out, NB1264_1228.out, (by repeat ((with_reducible exact HB.out)))⟩)
    skip
    refine box_step ?hg (N := 14) ?hd (cs := #[.int .i64 0, .slice none 0 0, .slice none 0 0]) (t := 49) ?hr ?_; (case hd => rfl); (case hg => rfl); (case hr => (go_simp; done))
    intro gb1264 hg w138 hbox hb
    replace HO_1209001 := ak (Kd.R_below (rk HO_1209001) hb)
    replace HO_1209002 := ak (Kd.R_below (rk HO_1209002) hb)
    replace HO_1217001 := ak (Kd.R_below (rk HO_1217001) hb)
    replace HO_1217002 := ak (Kd.R_below (rk HO_1217002) hb)
    replace HO_1229001 := ak (Kd.R_below (rk HO_1229001) hb)
    replace HO_1229002 := ak (Kd.R_below (rk HO_1229002) hb)
    replace HO1249 := ak (Kd.R_below (rk HO1249) hb)
    replace HO1252 := ak (Kd.R_below (rk HO1252) hb)
    have BK1264 := ak (hbox)
    have GW1264 := ak ((by rw [hg]; exact (below_size (by repeat ((with_reducible exact HB.out)))) : w.heap.size ≤ gb1264))
    have GE1264 := ak ((by rw [hg]; exact (below_size (by repeat ((with_reducible exact HB.out)))) : w.heap.size ≤ gb1264))
    replace HB := ak (below_step (by repeat ((with_reducible exact HB.out))) hb)
    have NB1187_1264 := ak ((by rw [hg]; exact Nat.ne_of_lt (blk_lt (bk BK1187)) : gb1187 ≠ gb1264))
    have NB1264_1187 := ak ((by rw [hg]; exact Nat.ne_of_gt (blk_lt (bk BK1187)) : gb1264 ≠ gb1187))
    replace BK1187 := ak (blk_below (bk BK1187) hb)
    have NB1188_1264 := ak ((by rw [hg]; exact Nat.ne_of_lt (blk_lt (bk BK1188)) : gb1188 ≠ gb1264))
    have NB1264_1188 := ak ((by rw [hg]; exact Nat.ne_of_gt (blk_lt (bk BK1188)) : gb1264 ≠ gb1188))
    replace BK1188 := ak (blk_below (bk BK1188) hb)
    have NB1208_1264 := ak ((by rw [hg]; exact Nat.ne_of_lt (blk_lt (bk BK1208)) : gb1208 ≠ gb1264))
    have NB1264_1208 := ak ((by rw [hg]; exact Nat.ne_of_gt (blk_lt (bk BK1208)) : gb1264 ≠ gb1208))
    replace BK1208 := ak (blk_below (bk BK1208) hb)
    have NB1216_1264 := ak ((by rw [hg]; exact Nat.ne_of_lt (blk_lt (bk BK1216)) : gb1216 ≠ gb1264))
    have NB1264_1216 := ak ((by rw [hg]; exact Nat.ne_of_gt (blk_lt (bk BK1216)) : gb1264 ≠ gb1216))
    replace BK1216 := ak (blk_below (bk BK1216) hb)
    have NB1228_1264 := ak ((by rw [hg]; exact Nat.ne_of_lt (blk_lt (bk BK1228)) : gb1228 ≠ gb1264))
    have NB1264_1228 := ak ((by rw [hg]; exact Nat.ne_of_gt (blk_lt (bk BK1228)) : gb1264 ≠ gb1228))
    replace BK1228 := ak (blk_below (bk BK1228) hb)
    clear hb hbox hg
    obtain ⟨Ao139, co139, eo139⟩ := Kd.R_slice HO1249.out
    ((injection eo139 with f1_ f2_ f3_; have f4_ := f1_.symm; have f5_ := f3_.symm; clear f1_ f2_ f3_; subst f4_; subst f5_))
    obtain ⟨Ao140, co140, eo140⟩ := Kd.R_slice HO1252.out
    ((injection eo140 with f1_ f2_ f3_; have f4_ := f1_.symm; have f5_ := f3_.symm; clear f1_ f2_ f3_; subst f4_; subst f5_))
    refine hK.out _ _ ⟨(blk_cell BK1187.out 0).trans rfl, (blk_cell BK1187.out 1).trans rfl, (blk_cell BK1187.out 2).trans rfl, (blk_cell BK1188.out 0).trans rfl, (blk_cell BK1188.out 1).trans rfl, (blk_cell BK1188.out 2).trans rfl⟩ (fun hHeld => ?_)
    clear hK K
    refine norm_ (a' := ?_) ?_ ?_
    rotate_left
    ·show Act.put _ (some 14) _ = _
     simp only [SX]
     rfl
    refine one_ (i := 4) (N := some 84) (ms 11 287) rfl rfl (one_of HT_.out (by kernel_rfl)) (by decide) (fun K hK => ?_)
    refine goes_ Try.func49 (by kernel_rfl) rfl #[.agg #[.int .i64 t1246, .slice Ao139 t1247.length co139, .slice Ao140 t1250.length co140], .agg #[.int .i64 t1253, .int .i64 t1254, .int .i64 t1255]] (by rfl) rfl rfl (by (try simp only [List.map_toArray, List.map_cons, List.map_nil]); rfl) ?_
    with_reducible refine (impl_LiveTell.calls kj82 t1246 _ _ t1247 _ _ t1250 t1253 t1254 t1255 t1256 t1257 t1260 t1263 _ ?side1 ?side2 ?side3 ?side4 A125.out).mono ?_
    (case side1 => repeat (exact (Kd.R_reads' HO1249.out).2.2))
    (case side2 => exact (Kd.R_reads' HO1249.out).2.1)
    (case side3 => repeat (exact (Kd.R_reads' HO1252.out).2.2))
    (case side4 => exact (Kd.R_reads' HO1252.out).2.1)
    rintro e w141 ⟨v1258, v1261, rfl, ho0, ho1, hb⟩
    refine ⟨_, rfl, ?_⟩
    have HO1259 := ak (Kd.R_lower (Kd.R_new' (Kd.R_new' (Kd.R_new' (Kd.R_new' ho0 (Kd.R_lt (rk HO_1209001))) (Kd.R_lt (rk HO_1217001))) (Kd.R_lt (rk HO_1229001))) (Kd.R_lt (rk HO1249))) (below_size (by repeat ((with_reducible exact HB.out)))))
    replace HO_1209001 := ak (Kd.R_elder' (rk HO_1209001) (Kd.R_base ho0) hb)
    replace HO_1217001 := ak (Kd.R_elder' (rk HO_1217001) (Kd.R_base ho0) hb)
    replace HO_1229001 := ak (Kd.R_elder' (rk HO_1229001) (Kd.R_base ho0) hb)
    replace HO1249 := ak (Kd.R_elder' (rk HO1249) (Kd.R_base ho0) hb)
    have HO1262 := ak (Kd.R_lower (Kd.R_new' (Kd.R_new' (Kd.R_new' (Kd.R_new' ho1 (Kd.R_lt (rk HO_1209002))) (Kd.R_lt (rk HO_1217002))) (Kd.R_lt (rk HO_1229002))) (Kd.R_lt (rk HO1252))) (below_size (by repeat ((with_reducible exact HB.out)))))
    replace HO_1209002 := ak (Kd.R_elder' (rk HO_1209002) (Kd.R_base ho1) hb)
    replace HO_1217002 := ak (Kd.R_elder' (rk HO_1217002) (Kd.R_base ho1) hb)
    replace HO_1229002 := ak (Kd.R_elder' (rk HO_1229002) (Kd.R_base ho1) hb)
    replace HO1252 := ak (Kd.R_elder' (rk HO1252) (Kd.R_base ho1) hb)
    replace BK1187 := ak (blk_below (bk BK1187) hb)
    replace BK1188 := ak (blk_below (bk BK1188) hb)
    replace BK1208 := ak (blk_below (bk BK1208) hb)
    replace BK1216 := ak (blk_below (bk BK1216) hb)
    replace BK1228 := ak (blk_below (bk BK1228) hb)
    replace BK1264 := ak (blk_below (bk BK1264) hb)
    replace HB := ak (below_step (by repeat ((with_reducible exact HB.out))) hb)
    (try clear hb)
    (try clear hb2)
    (try clear hk)
    (try clear hi)
    (try clear ho0)
    (try clear ho1)
    refine hK.out _ _ ⟨(blk_cell BK1187.out 0).trans rfl, (blk_cell BK1187.out 1).trans rfl, (blk_cell BK1187.out 2).trans rfl, (blk_cell BK1188.out 0).trans rfl, (blk_cell BK1188.out 1).trans rfl, (blk_cell BK1188.out 2).trans rfl⟩ (fun hHeld => ?_)
    clear hK K
    refine norm_ (a' := ?_) ?_ ?_
    rotate_left
    ·show Act.put _ (some 84) _ = _
     simp only [SX]
     rfl
    refine pu 5 79 ?_ (ms 11 319) rfl rfl HT_ (by kernel_rfl) (fun _ _ _ h => h) (by rfl) ?_ ?_ ?_ ?_
    rotate_left
    ·intro w'
     go_simp
     with_reducible rfl
    rotate_left
    ·simp only [SX]
     rfl
    refine pu 6 85 ?_ (ms 11 383) rfl rfl HT_ (by kernel_rfl) (fun _ _ _ h => h) (by rfl) ?_ ?_ ?_ ?_
    rotate_left
    ·intro w'
     go_simp
     with_reducible rfl
    rotate_left
    ·simp only [SX]
     rfl
    refine pu 7 86 ?_ (ms 11 511) rfl rfl HT_ (by kernel_rfl) (fun _ _ _ h => h) (by rfl) ?_ ?_ ?_ ?_
    rotate_left
    ·intro w'
     go_simp
     with_reducible rfl
    rotate_left
    ·simp only [SX]
     rfl
    exact norm_ (by simp only [putAll, Act.put, List.setIfInBounds_toArray, List.set_cons_zero, List.set_cons_succ]) (hCont (.slice Ao139 t1247.length co139, .slice Ao140 t1250.length co140, v1258, v1261, gb1264) _ ⟨hHeld, (by exact Kd.R_mono HO1249.out (fun _ hk => ⟨hk.2, ⟨hk.1.1.1.2, ⟨hk.1.1.2, hk.1.2⟩⟩⟩)), (by exact Kd.R_mono HO1252.out (fun _ hk => ⟨hk.2, ⟨hk.1.1.1.2, ⟨hk.1.1.2, hk.1.2⟩⟩⟩)), (by exact Kd.R_mono HO1259.out (fun _ hk => ⟨hk.2, ⟨hk.1.1.1.2, ⟨hk.1.1.2, hk.1.2⟩⟩⟩)), (by exact Kd.R_mono HO1262.out (fun _ hk => ⟨hk.2, ⟨hk.1.1.1.2, ⟨hk.1.1.2, hk.1.2⟩⟩⟩)), (by exact Kd.R_mono HO_1209001.out (fun _ hk => ⟨hk.1.2, ⟨hk.2, ⟨hk.1.1.1, hk.1.1.2⟩⟩⟩)), (by exact Kd.R_mono HO_1209002.out (fun _ hk => ⟨hk.1.2, ⟨hk.2, ⟨hk.1.1.1, hk.1.1.2⟩⟩⟩)), (by exact Kd.R_mono HO_1217001.out (fun _ hk => ⟨hk.1.2, ⟨hk.2, ⟨hk.1.1.1, hk.1.1.2⟩⟩⟩)), (by exact Kd.R_mono HO_1217002.out (fun _ hk => ⟨hk.1.2, ⟨hk.2, ⟨hk.1.1.1, hk.1.1.2⟩⟩⟩)), (by exact Kd.R_mono HO_1229001.out (fun _ hk => ⟨hk.1.2, ⟨hk.2, ⟨hk.1.1.1, hk.1.1.2⟩⟩⟩)), (by exact Kd.R_mono HO_1229002.out (fun _ hk => ⟨hk.1.2, ⟨hk.2, ⟨hk.1.1.1, hk.1.1.2⟩⟩⟩)), (bk BK1187), (bk BK1188), (bk BK1208), (bk BK1216), (bk BK1228), (bk BK1264), GW1264.out, GE1264.out, NB1187_1264.out, NB1264_1187.out, NB1188_1264.out, NB1264_1188.out, NB1208_1264.out, NB1264_1208.out, NB1216_1264.out, NB1264_1216.out, NB1228_1264.out, NB1264_1228.out, (by repeat ((with_reducible exact HB.out)))⟩)
   rintro ⟨v1248, v1251, v1258, v1261, gb1264⟩ w142 ⟨hS_, h0_, h1_, h2_, h3_, h4_, h5_, h6_, h7_, h8_, h9_, h10_, h11_, h12_, h13_, h14_, h15_, h16_, h17_, h18_, h19_, h20_, h21_, h22_, h23_, h24_, h25_, h26_, h27_, h28_⟩
   have HO1249 : Aside0 (Kd.R k100 100 w142 w.heap.size (fun k_ => some k_ ≠ (v1258 : Value).ownBlock ∧ some k_ ≠ (.slice Ao31 t1201.length co31 : Value).ownBlock ∧ some k_ ≠ (.slice Ao43 t1239.length co43 : Value).ownBlock ∧ some k_ ≠ (.slice Ao52 t1221.length co52 : Value).ownBlock) v1248 t1247) := ⟨h0_⟩
   have HO1252 : Aside0 (Kd.R k70 70 w142 w.heap.size (fun k_ => some k_ ≠ (v1261 : Value).ownBlock ∧ some k_ ≠ (.slice Ao33 t1204.length co33 : Value).ownBlock ∧ some k_ ≠ (.slice Ao44 t1240.length co44 : Value).ownBlock ∧ some k_ ≠ (.slice Ao54 t1224.length co54 : Value).ownBlock) v1251 t1250) := ⟨h1_⟩
   have HO1259 : Aside0 (Kd.R k100 100 w142 w.heap.size (fun k_ => some k_ ≠ (v1248 : Value).ownBlock ∧ some k_ ≠ (.slice Ao31 t1201.length co31 : Value).ownBlock ∧ some k_ ≠ (.slice Ao43 t1239.length co43 : Value).ownBlock ∧ some k_ ≠ (.slice Ao52 t1221.length co52 : Value).ownBlock) v1258 t1257) := ⟨h2_⟩
   have HO1262 : Aside0 (Kd.R k70 70 w142 w.heap.size (fun k_ => some k_ ≠ (v1251 : Value).ownBlock ∧ some k_ ≠ (.slice Ao33 t1204.length co33 : Value).ownBlock ∧ some k_ ≠ (.slice Ao44 t1240.length co44 : Value).ownBlock ∧ some k_ ≠ (.slice Ao54 t1224.length co54 : Value).ownBlock) v1261 t1260) := ⟨h3_⟩
   replace HO_1209001 : Aside0 (Kd.R k100 100 w142 w.heap.size (fun k_ => some k_ ≠ (v1248 : Value).ownBlock ∧ some k_ ≠ (v1258 : Value).ownBlock ∧ some k_ ≠ (.slice Ao43 t1239.length co43 : Value).ownBlock ∧ some k_ ≠ (.slice Ao52 t1221.length co52 : Value).ownBlock) (.slice Ao31 t1201.length co31) t1201) := ⟨h4_⟩
   replace HO_1209002 : Aside0 (Kd.R k70 70 w142 w.heap.size (fun k_ => some k_ ≠ (v1251 : Value).ownBlock ∧ some k_ ≠ (v1261 : Value).ownBlock ∧ some k_ ≠ (.slice Ao44 t1240.length co44 : Value).ownBlock ∧ some k_ ≠ (.slice Ao54 t1224.length co54 : Value).ownBlock) (.slice Ao33 t1204.length co33) t1204) := ⟨h5_⟩
   replace HO_1217001 : Aside0 (Kd.R k100 100 w142 w.heap.size (fun k_ => some k_ ≠ (v1248 : Value).ownBlock ∧ some k_ ≠ (v1258 : Value).ownBlock ∧ some k_ ≠ (.slice Ao31 t1201.length co31 : Value).ownBlock ∧ some k_ ≠ (.slice Ao52 t1221.length co52 : Value).ownBlock) (.slice Ao43 t1239.length co43) t1239) := ⟨h6_⟩
   replace HO_1217002 : Aside0 (Kd.R k70 70 w142 w.heap.size (fun k_ => some k_ ≠ (v1251 : Value).ownBlock ∧ some k_ ≠ (v1261 : Value).ownBlock ∧ some k_ ≠ (.slice Ao33 t1204.length co33 : Value).ownBlock ∧ some k_ ≠ (.slice Ao54 t1224.length co54 : Value).ownBlock) (.slice Ao44 t1240.length co44) t1240) := ⟨h7_⟩
   replace HO_1229001 : Aside0 (Kd.R k100 100 w142 w.heap.size (fun k_ => some k_ ≠ (v1248 : Value).ownBlock ∧ some k_ ≠ (v1258 : Value).ownBlock ∧ some k_ ≠ (.slice Ao31 t1201.length co31 : Value).ownBlock ∧ some k_ ≠ (.slice Ao43 t1239.length co43 : Value).ownBlock) (.slice Ao52 t1221.length co52) t1243) := ⟨h8_⟩
   replace HO_1229002 : Aside0 (Kd.R k70 70 w142 w.heap.size (fun k_ => some k_ ≠ (v1251 : Value).ownBlock ∧ some k_ ≠ (v1261 : Value).ownBlock ∧ some k_ ≠ (.slice Ao33 t1204.length co33 : Value).ownBlock ∧ some k_ ≠ (.slice Ao44 t1240.length co44 : Value).ownBlock) (.slice Ao54 t1224.length co54) t1244) := ⟨h9_⟩
   replace BK1187 : Aside0 (w142.heap[gb1187]? = some (.cells #[.int .i64 a0_0, .slice A0_1 l0_1.length c0_1, .slice A0_2 l0_2.length c0_2] 44 (0, 0))) := ⟨h10_⟩
   replace BK1188 : Aside0 (w142.heap[gb1188]? = some (.cells #[.int .i64 a1_0, .int .i64 a1_1, .int .i64 a1_2] 68 (0, 0))) := ⟨h11_⟩
   replace BK1208 : Aside0 (w142.heap[gb1208]? = some (.cells #[.int .i64 t1200, .slice Ao31 t1201.length co31, .slice Ao33 t1204.length co33] 49 (0, 0))) := ⟨h12_⟩
   replace BK1216 : Aside0 (w142.heap[gb1216]? = some (.cells #[.int .i64 t1209, .slice Ao43 t1239.length co43, .slice Ao44 t1240.length co44] 49 (0, 0))) := ⟨h13_⟩
   replace BK1228 : Aside0 (w142.heap[gb1228]? = some (.cells #[.int .i64 t1220, .slice Ao52 t1221.length co52, .slice Ao54 t1224.length co54] 49 (0, 0))) := ⟨h14_⟩
   have BK1264 : Aside0 (w142.heap[gb1264]? = some (.cells #[.int .i64 0, .slice none 0 0, .slice none 0 0] 49 (0, 0))) := ⟨h15_⟩
   have GW1264 : Aside0 (w.heap.size ≤ gb1264) := ⟨h16_⟩
   have GE1264 : Aside0 (w.heap.size ≤ gb1264) := ⟨h17_⟩
   have NB1187_1264 : Aside0 (gb1187 ≠ gb1264) := ⟨h18_⟩
   have NB1264_1187 : Aside0 (gb1264 ≠ gb1187) := ⟨h19_⟩
   have NB1188_1264 : Aside0 (gb1188 ≠ gb1264) := ⟨h20_⟩
   have NB1264_1188 : Aside0 (gb1264 ≠ gb1188) := ⟨h21_⟩
   have NB1208_1264 : Aside0 (gb1208 ≠ gb1264) := ⟨h22_⟩
   have NB1264_1208 : Aside0 (gb1264 ≠ gb1208) := ⟨h23_⟩
   have NB1216_1264 : Aside0 (gb1216 ≠ gb1264) := ⟨h24_⟩
   have NB1264_1216 : Aside0 (gb1264 ≠ gb1216) := ⟨h25_⟩
   have NB1228_1264 : Aside0 (gb1228 ≠ gb1264) := ⟨h26_⟩
   have NB1264_1228 : Aside0 (gb1264 ≠ gb1228) := ⟨h27_⟩
   replace HB : Aside0 (Below w.heap.size w w142) := ⟨h28_⟩
   clear h0_ h1_ h2_ h3_ h4_ h5_ h6_ h7_ h8_ h9_ h10_ h11_ h12_ h13_ h14_ h15_ h16_ h17_ h18_ h19_ h20_ h21_ h22_ h23_ h24_ h25_ h26_ h27_ h28_
   have hHeld : w142.cell? ⟨gb1187, 0, none⟩ = some (.int .i64 a0_0) ∧ w142.cell? ⟨gb1187, 1, none⟩ = some (.slice A0_1 l0_1.length c0_1) ∧ w142.cell? ⟨gb1187, 2, none⟩ = some (.slice A0_2 l0_2.length c0_2) ∧ w142.cell? ⟨gb1188, 0, none⟩ = some (.int .i64 a1_0) ∧ w142.cell? ⟨gb1188, 1, none⟩ = some (.int .i64 a1_1) ∧ w142.cell? ⟨gb1188, 2, none⟩ = some (.int .i64 a1_2) := hS_
   obtain ⟨Ao144, co144, eo144⟩ := Kd.R_slice HO1259.out
   (subst eo144)
   obtain ⟨Ao146, co146, eo146⟩ := Kd.R_slice HO1262.out
   (subst eo146)
   refine norm_ (a' := ?_) ?_ ?_
   rotate_left
   ·simp only [putAll, Act.put, List.setIfInBounds_toArray, List.set_cons_zero, List.set_cons_succ]
    rfl
   refine one_ (i := 9) (N := none) (ms 11 1023) rfl rfl (one_of HT_.out (by kernel_rfl)) (by decide) (fun K hK => ?_)
   have hs143 : w142.cell? ⟨gb1264, 0, none⟩ = some (.int .i64 0) := (blk_cell BK1264.out 0).trans rfl
   have hfs143 := blk_frozen BK1264.out 0
   have hns143_0 := NB1187_1264.out
   have hns143_1 := NB1188_1264.out
   have hns143_2 := NB1208_1264.out
   have hns143_3 := NB1216_1264.out
   have hns143_4 := NB1228_1264.out
   have hms143_0 := NB1264_1187.out
   have hms143_1 := NB1264_1188.out
   have hms143_2 := NB1264_1208.out
   have hms143_3 := NB1264_1216.out
   have hms143_4 := NB1264_1228.out
   have hs145 : w142.cell? ⟨gb1264, 1, none⟩ = some (.slice none 0 0) := (blk_cell BK1264.out 1).trans rfl
   have hfs145 := blk_frozen BK1264.out 1
   have hns145_0 := NB1187_1264.out
   have hns145_1 := NB1188_1264.out
   have hns145_2 := NB1208_1264.out
   have hns145_3 := NB1216_1264.out
   have hns145_4 := NB1228_1264.out
   have hms145_0 := NB1264_1187.out
   have hms145_1 := NB1264_1188.out
   have hms145_2 := NB1264_1208.out
   have hms145_3 := NB1264_1216.out
   have hms145_4 := NB1264_1228.out
   have hs147 : w142.cell? ⟨gb1264, 2, none⟩ = some (.slice none 0 0) := (blk_cell BK1264.out 2).trans rfl
   have hfs147 := blk_frozen BK1264.out 2
   have hns147_0 := NB1187_1264.out
   have hns147_1 := NB1188_1264.out
   have hns147_2 := NB1208_1264.out
   have hns147_3 := NB1216_1264.out
   have hns147_4 := NB1228_1264.out
   have hms147_0 := NB1264_1187.out
   have hms147_1 := NB1264_1188.out
   have hms147_2 := NB1264_1208.out
   have hms147_3 := NB1264_1216.out
   have hms147_4 := NB1264_1228.out
   refine skip_ (w1 := ?_) (by rfl) rfl ?_ ?_
   rotate_left
   ·go_simp
    rfl
   refine hK.out _ _ ⟨((cell_far (p := ⟨gb1264, _, none⟩) NB1187_1264.out _).trans (((cell_far (p := ⟨gb1264, _, none⟩) NB1187_1264.out _).trans (((cell_far (p := ⟨gb1264, _, none⟩) NB1187_1264.out _).trans (hHeld.1)))))), ((cell_far (p := ⟨gb1264, _, none⟩) NB1187_1264.out _).trans (((cell_far (p := ⟨gb1264, _, none⟩) NB1187_1264.out _).trans (((cell_far (p := ⟨gb1264, _, none⟩) NB1187_1264.out _).trans (hHeld.2.1)))))), ((cell_far (p := ⟨gb1264, _, none⟩) NB1187_1264.out _).trans (((cell_far (p := ⟨gb1264, _, none⟩) NB1187_1264.out _).trans (((cell_far (p := ⟨gb1264, _, none⟩) NB1187_1264.out _).trans (hHeld.2.2.1)))))), ((cell_far (p := ⟨gb1264, _, none⟩) NB1188_1264.out _).trans (((cell_far (p := ⟨gb1264, _, none⟩) NB1188_1264.out _).trans (((cell_far (p := ⟨gb1264, _, none⟩) NB1188_1264.out _).trans (hHeld.2.2.2.1)))))), ((cell_far (p := ⟨gb1264, _, none⟩) NB1188_1264.out _).trans (((cell_far (p := ⟨gb1264, _, none⟩) NB1188_1264.out _).trans (((cell_far (p := ⟨gb1264, _, none⟩) NB1188_1264.out _).trans (hHeld.2.2.2.2.1)))))), ((cell_far (p := ⟨gb1264, _, none⟩) NB1188_1264.out _).trans (((cell_far (p := ⟨gb1264, _, none⟩) NB1188_1264.out _).trans (((cell_far (p := ⟨gb1264, _, none⟩) NB1188_1264.out _).trans (hHeld.2.2.2.2.2))))))⟩ (fun hHeld => ?_)
   clear hK K
   refine pu 10 15 ?_ (ms 11 2047) rfl rfl HT_ (by kernel_rfl) (fun _ _ _ h => h) (by rfl) ?_ ?_ ?_ ?_
   rotate_left
   ·intro w'
    go_simp
    with_reducible rfl
   rotate_left
   ·simp only [SX]
    rfl
   refine done_ (done_of HT_.out (by kernel_rfl)) ?_
   go_upto_region 25 with (fail)
   go_cut [95] (fun v95 wc => ∃ (kq : Nat) (x95_125 : Bool), v95 = .bool x95_125 ∧ Aside0 (laws_FnExactLiveTell.j2 kq t1242 x95_125 t1220 t1243 t1244 = some r) ∧ Aside0 (kq ≤ kj82) ∧ Aside0 (Kd.R k100 100 wc w.heap.size (fun k_ => some k_ ≠ ((.slice Ao43 t1239.length co43) : Value).ownBlock ∧ some k_ ≠ ((.slice Ao52 t1221.length co52) : Value).ownBlock ∧ some k_ ≠ ((.slice Ao144 t1257.length co144) : Value).ownBlock) (.slice Ao31 t1201.length co31) t1201) ∧ Aside0 (Kd.R k70 70 wc w.heap.size (fun k_ => some k_ ≠ ((.slice Ao44 t1240.length co44) : Value).ownBlock ∧ some k_ ≠ ((.slice Ao54 t1224.length co54) : Value).ownBlock ∧ some k_ ≠ ((.slice Ao146 t1260.length co146) : Value).ownBlock) (.slice Ao33 t1204.length co33) t1204) ∧ Aside0 (Kd.R k100 100 wc w.heap.size (fun k_ => some k_ ≠ ((.slice Ao31 t1201.length co31) : Value).ownBlock ∧ some k_ ≠ ((.slice Ao52 t1221.length co52) : Value).ownBlock ∧ some k_ ≠ ((.slice Ao144 t1257.length co144) : Value).ownBlock) (.slice Ao43 t1239.length co43) t1239) ∧ Aside0 (Kd.R k70 70 wc w.heap.size (fun k_ => some k_ ≠ ((.slice Ao33 t1204.length co33) : Value).ownBlock ∧ some k_ ≠ ((.slice Ao54 t1224.length co54) : Value).ownBlock ∧ some k_ ≠ ((.slice Ao146 t1260.length co146) : Value).ownBlock) (.slice Ao44 t1240.length co44) t1240) ∧ Aside0 (Kd.R k100 100 wc w.heap.size (fun k_ => some k_ ≠ ((.slice Ao31 t1201.length co31) : Value).ownBlock ∧ some k_ ≠ ((.slice Ao43 t1239.length co43) : Value).ownBlock ∧ some k_ ≠ ((.slice Ao144 t1257.length co144) : Value).ownBlock) (.slice Ao52 t1221.length co52) t1243) ∧ Aside0 (Kd.R k70 70 wc w.heap.size (fun k_ => some k_ ≠ ((.slice Ao33 t1204.length co33) : Value).ownBlock ∧ some k_ ≠ ((.slice Ao44 t1240.length co44) : Value).ownBlock ∧ some k_ ≠ ((.slice Ao146 t1260.length co146) : Value).ownBlock) (.slice Ao54 t1224.length co54) t1244) ∧ Aside0 (Kd.R k100 100 wc w.heap.size (fun k_ => some k_ ≠ ((.slice Ao31 t1201.length co31) : Value).ownBlock ∧ some k_ ≠ ((.slice Ao43 t1239.length co43) : Value).ownBlock ∧ some k_ ≠ ((.slice Ao52 t1221.length co52) : Value).ownBlock) (.slice Ao144 t1257.length co144) t1257) ∧ Aside0 (Kd.R k70 70 wc w.heap.size (fun k_ => some k_ ≠ ((.slice Ao33 t1204.length co33) : Value).ownBlock ∧ some k_ ≠ ((.slice Ao44 t1240.length co44) : Value).ownBlock ∧ some k_ ≠ ((.slice Ao54 t1224.length co54) : Value).ownBlock) (.slice Ao146 t1260.length co146) t1260) ∧ Aside0 (wc.heap[gb1187]? = some (.cells #[.int .i64 a0_0, (.slice A0_1 l0_1.length c0_1), (.slice A0_2 l0_2.length c0_2)] 44 (0, 0))) ∧ Aside0 (wc.heap[gb1188]? = some (.cells #[.int .i64 a1_0, .int .i64 a1_1, .int .i64 a1_2] 68 (0, 0))) ∧ Aside0 (wc.heap[gb1208]? = some (.cells #[.int .i64 t1200, (.slice Ao31 t1201.length co31), (.slice Ao33 t1204.length co33)] 49 (0, 0))) ∧ Aside0 (wc.heap[gb1216]? = some (.cells #[.int .i64 t1209, (.slice Ao43 t1239.length co43), (.slice Ao44 t1240.length co44)] 49 (0, 0))) ∧ Aside0 (wc.heap[gb1228]? = some (.cells #[.int .i64 t1220, (.slice Ao52 t1221.length co52), (.slice Ao54 t1224.length co54)] 49 (0, 0))) ∧ Aside0 (wc.heap[gb1264]? = some (.cells #[.int .i64 t1256, (.slice Ao144 t1257.length co144), (.slice Ao146 t1260.length co146)] 49 (0, 0))) ∧ Aside0 (Below w.heap.size w wc))
   case first =>
    have H := HC126.out
    clear HC126
    replace H := Option.bind_eq_some_iff.mp H
    obtain ⟨t1265, A1480, H⟩ := H
    have A148 := ak A1480
    clear A1480
    by_cases c149 : t1265 = true
    ·subst c149
     rw [if_pos rfl] at H
     have H' := ak H
     clear H
     have hnb150 := NB1264_1187.out
     have hnc150 := NB1187_1264.out
     have hnb151 := NB1264_1188.out
     have hnc151 := NB1188_1264.out
     have hnb152 := NB1264_1208.out
     have hnc152 := NB1208_1264.out
     have hnb153 := NB1264_1216.out
     have hnc153 := NB1216_1264.out
     have hnb154 := NB1264_1228.out
     have hnc154 := NB1228_1264.out
     have hcz155_0 := bc w142 BK1264 0 (.int .i64 0) rfl
     have hcz155_1 := bc w142 BK1264 1 (.slice none 0 0) rfl
     have hcz155_2 := bc w142 BK1264 2 (.slice none 0 0) rfl
     have hfz155_0 := fz BK1264 0
     have hfz155_1 := fz BK1264 1
     have hfz155_2 := fz BK1264 2
     have hnb156 := NB1208_1187.out
     have hnc156 := NB1187_1208.out
     have hnb157 := NB1208_1188.out
     have hnc157 := NB1188_1208.out
     have hnb158 := NB1208_1216.out
     have hnc158 := NB1216_1208.out
     have hnb159 := NB1208_1228.out
     have hnc159 := NB1228_1208.out
     have hcz160_0 := bc w142 BK1208 0 (.int .i64 t1200) rfl
     have hcz160_1 := bc w142 BK1208 1 (.slice Ao31 t1201.length co31) rfl
     have hcz160_2 := bc w142 BK1208 2 (.slice Ao33 t1204.length co33) rfl
     have hfz160_0 := fz BK1208 0
     have hfz160_1 := fz BK1208 1
     have hfz160_2 := fz BK1208 2
     go_wp2_with (((with_reducible refine gate_callee (f := 33) rfl ?_); refine goesL_ (some 89) rfl rfl Try.func33 (by kernel_rfl) rfl #[.agg #[.int .i64 t1256, .slice Ao144 t1257.length co144, .slice Ao146 t1260.length co146], .agg #[.int .i64 t1200, .slice Ao31 t1201.length co31, .slice Ao33 t1204.length co33]] rfl (by (try simp only [List.map_toArray, List.map_cons, List.map_nil]); rfl) ?_; (with_reducible refine (laws_eqLive.calls kj82 t1256 _ _ t1257 _ _ t1260 t1200 _ _ t1201 _ _ t1204 true _ ?side1 ?side2 ?side3 ?side4 ?side5 ?side6 ?side7 ?side8 A148.out).mono ?_); (case side1 => refine (Kd.R_reads' (e := 100) (base := w.heap.size) (ok := fun k_ => (some k_ ≠ (v1248 : Value).ownBlock ∧ (some k_ ≠ (.slice Ao31 t1201.length co31 : Value).ownBlock ∧ (some k_ ≠ (.slice Ao43 t1239.length co43 : Value).ownBlock ∧ some k_ ≠ (.slice Ao52 t1221.length co52 : Value).ownBlock)))) (n := t1257.length) (c := co144) ?_).2.2; exact (by exact (Kd.R_mono (Kd.R_far (p := ⟨gb1264, 2, none⟩) (Kd.R_far (p := ⟨gb1264, 1, none⟩) (Kd.R_far (p := ⟨gb1264, 0, none⟩) (Kd.R_types HO1259.out BK1264.out (by decide)) (fun _ hk => hk.2) (.int .i64 t1256)) (fun _ hk => hk.2) (.slice Ao144 t1257.length co144)) (fun _ hk => hk.2) (.slice Ao146 t1260.length co146)) (fun _ h_ => h_.1)))); (case side2 => exact (Kd.R_reads' HO1259.out).2.1); (case side3 => refine (Kd.R_reads' (e := 70) (base := w.heap.size) (ok := fun k_ => (some k_ ≠ (v1251 : Value).ownBlock ∧ (some k_ ≠ (.slice Ao33 t1204.length co33 : Value).ownBlock ∧ (some k_ ≠ (.slice Ao44 t1240.length co44 : Value).ownBlock ∧ some k_ ≠ (.slice Ao54 t1224.length co54 : Value).ownBlock)))) (n := t1260.length) (c := co146) ?_).2.2; exact (by exact (Kd.R_mono (Kd.R_far (p := ⟨gb1264, 2, none⟩) (Kd.R_far (p := ⟨gb1264, 1, none⟩) (Kd.R_far (p := ⟨gb1264, 0, none⟩) (Kd.R_types HO1262.out BK1264.out (by decide)) (fun _ hk => hk.2) (.int .i64 t1256)) (fun _ hk => hk.2) (.slice Ao144 t1257.length co144)) (fun _ hk => hk.2) (.slice Ao146 t1260.length co146)) (fun _ h_ => h_.1)))); (case side4 => exact (Kd.R_reads' HO1262.out).2.1); (case side5 => refine (Kd.R_reads' (e := 100) (base := w.heap.size) (ok := fun k_ => (some k_ ≠ (v1248 : Value).ownBlock ∧ (some k_ ≠ (.slice Ao144 t1257.length co144 : Value).ownBlock ∧ (some k_ ≠ (.slice Ao43 t1239.length co43 : Value).ownBlock ∧ some k_ ≠ (.slice Ao52 t1221.length co52 : Value).ownBlock)))) (n := t1201.length) (c := co31) ?_).2.2; exact (by exact (Kd.R_mono (Kd.R_far (p := ⟨gb1264, 2, none⟩) (Kd.R_far (p := ⟨gb1264, 1, none⟩) (Kd.R_far (p := ⟨gb1264, 0, none⟩) (Kd.R_types HO_1209001.out BK1264.out (by decide)) (fun _ hk => hk.2) (.int .i64 t1256)) (fun _ hk => hk.2) (.slice Ao144 t1257.length co144)) (fun _ hk => hk.2) (.slice Ao146 t1260.length co146)) (fun _ h_ => h_.1)))); (case side6 => exact (Kd.R_reads' HO_1209001.out).2.1); (case side7 => refine (Kd.R_reads' (e := 70) (base := w.heap.size) (ok := fun k_ => (some k_ ≠ (v1251 : Value).ownBlock ∧ (some k_ ≠ (.slice Ao146 t1260.length co146 : Value).ownBlock ∧ (some k_ ≠ (.slice Ao44 t1240.length co44 : Value).ownBlock ∧ some k_ ≠ (.slice Ao54 t1224.length co54 : Value).ownBlock)))) (n := t1204.length) (c := co33) ?_).2.2; exact (by exact (Kd.R_mono (Kd.R_far (p := ⟨gb1264, 2, none⟩) (Kd.R_far (p := ⟨gb1264, 1, none⟩) (Kd.R_far (p := ⟨gb1264, 0, none⟩) (Kd.R_types HO_1209002.out BK1264.out (by decide)) (fun _ hk => hk.2) (.int .i64 t1256)) (fun _ hk => hk.2) (.slice Ao144 t1257.length co144)) (fun _ hk => hk.2) (.slice Ao146 t1260.length co146)) (fun _ h_ => h_.1)))); (case side8 => exact (Kd.R_reads' HO_1209002.out).2.1); rintro e w161 ⟨rfl, hb⟩; refine ⟨_, rfl, ?_⟩; replace HO_1209001 := ak (Kd.R_below (by exact (Kd.R_mono (Kd.R_far (p := ⟨gb1264, 2, none⟩) (Kd.R_far (p := ⟨gb1264, 1, none⟩) (Kd.R_far (p := ⟨gb1264, 0, none⟩) (Kd.R_types HO_1209001.out BK1264.out (by decide)) (fun _ hk => hk.2) (.int .i64 t1256)) (fun _ hk => hk.2) (.slice Ao144 t1257.length co144)) (fun _ hk => hk.2) (.slice Ao146 t1260.length co146)) (fun _ h_ => h_.1))) hb); replace HO_1209002 := ak (Kd.R_below (by exact (Kd.R_mono (Kd.R_far (p := ⟨gb1264, 2, none⟩) (Kd.R_far (p := ⟨gb1264, 1, none⟩) (Kd.R_far (p := ⟨gb1264, 0, none⟩) (Kd.R_types HO_1209002.out BK1264.out (by decide)) (fun _ hk => hk.2) (.int .i64 t1256)) (fun _ hk => hk.2) (.slice Ao144 t1257.length co144)) (fun _ hk => hk.2) (.slice Ao146 t1260.length co146)) (fun _ h_ => h_.1))) hb); replace HO_1217001 := ak (Kd.R_below (by exact (Kd.R_mono (Kd.R_far (p := ⟨gb1264, 2, none⟩) (Kd.R_far (p := ⟨gb1264, 1, none⟩) (Kd.R_far (p := ⟨gb1264, 0, none⟩) (Kd.R_types HO_1217001.out BK1264.out (by decide)) (fun _ hk => hk.2) (.int .i64 t1256)) (fun _ hk => hk.2) (.slice Ao144 t1257.length co144)) (fun _ hk => hk.2) (.slice Ao146 t1260.length co146)) (fun _ h_ => h_.1))) hb); replace HO_1217002 := ak (Kd.R_below (by exact (Kd.R_mono (Kd.R_far (p := ⟨gb1264, 2, none⟩) (Kd.R_far (p := ⟨gb1264, 1, none⟩) (Kd.R_far (p := ⟨gb1264, 0, none⟩) (Kd.R_types HO_1217002.out BK1264.out (by decide)) (fun _ hk => hk.2) (.int .i64 t1256)) (fun _ hk => hk.2) (.slice Ao144 t1257.length co144)) (fun _ hk => hk.2) (.slice Ao146 t1260.length co146)) (fun _ h_ => h_.1))) hb); replace HO_1229001 := ak (Kd.R_below (by exact (Kd.R_mono (Kd.R_far (p := ⟨gb1264, 2, none⟩) (Kd.R_far (p := ⟨gb1264, 1, none⟩) (Kd.R_far (p := ⟨gb1264, 0, none⟩) (Kd.R_types HO_1229001.out BK1264.out (by decide)) (fun _ hk => hk.2) (.int .i64 t1256)) (fun _ hk => hk.2) (.slice Ao144 t1257.length co144)) (fun _ hk => hk.2) (.slice Ao146 t1260.length co146)) (fun _ h_ => h_.1))) hb); replace HO_1229002 := ak (Kd.R_below (by exact (Kd.R_mono (Kd.R_far (p := ⟨gb1264, 2, none⟩) (Kd.R_far (p := ⟨gb1264, 1, none⟩) (Kd.R_far (p := ⟨gb1264, 0, none⟩) (Kd.R_types HO_1229002.out BK1264.out (by decide)) (fun _ hk => hk.2) (.int .i64 t1256)) (fun _ hk => hk.2) (.slice Ao144 t1257.length co144)) (fun _ hk => hk.2) (.slice Ao146 t1260.length co146)) (fun _ h_ => h_.1))) hb); replace HO1249 := ak (Kd.R_below (by exact (Kd.R_mono (Kd.R_far (p := ⟨gb1264, 2, none⟩) (Kd.R_far (p := ⟨gb1264, 1, none⟩) (Kd.R_far (p := ⟨gb1264, 0, none⟩) (Kd.R_types HO1249.out BK1264.out (by decide)) (fun _ hk => hk.2) (.int .i64 t1256)) (fun _ hk => hk.2) (.slice Ao144 t1257.length co144)) (fun _ hk => hk.2) (.slice Ao146 t1260.length co146)) (fun _ h_ => h_.1))) hb); replace HO1252 := ak (Kd.R_below (by exact (Kd.R_mono (Kd.R_far (p := ⟨gb1264, 2, none⟩) (Kd.R_far (p := ⟨gb1264, 1, none⟩) (Kd.R_far (p := ⟨gb1264, 0, none⟩) (Kd.R_types HO1252.out BK1264.out (by decide)) (fun _ hk => hk.2) (.int .i64 t1256)) (fun _ hk => hk.2) (.slice Ao144 t1257.length co144)) (fun _ hk => hk.2) (.slice Ao146 t1260.length co146)) (fun _ h_ => h_.1))) hb); replace HO1259 := ak (Kd.R_below (by exact (Kd.R_mono (Kd.R_far (p := ⟨gb1264, 2, none⟩) (Kd.R_far (p := ⟨gb1264, 1, none⟩) (Kd.R_far (p := ⟨gb1264, 0, none⟩) (Kd.R_types HO1259.out BK1264.out (by decide)) (fun _ hk => hk.2) (.int .i64 t1256)) (fun _ hk => hk.2) (.slice Ao144 t1257.length co144)) (fun _ hk => hk.2) (.slice Ao146 t1260.length co146)) (fun _ h_ => h_.1))) hb); replace HO1262 := ak (Kd.R_below (by exact (Kd.R_mono (Kd.R_far (p := ⟨gb1264, 2, none⟩) (Kd.R_far (p := ⟨gb1264, 1, none⟩) (Kd.R_far (p := ⟨gb1264, 0, none⟩) (Kd.R_types HO1262.out BK1264.out (by decide)) (fun _ hk => hk.2) (.int .i64 t1256)) (fun _ hk => hk.2) (.slice Ao144 t1257.length co144)) (fun _ hk => hk.2) (.slice Ao146 t1260.length co146)) (fun _ h_ => h_.1))) hb); replace BK1187 := ak (blk_below (g := gb1187) (o := .cells #[.int .i64 a0_0, .slice A0_1 l0_1.length c0_1, .slice A0_2 l0_2.length c0_2] 44 (0, 0)) (by refine blk_far ?_ NB1187_1264.out _; refine blk_far ?_ NB1187_1264.out _; refine blk_far ?_ NB1187_1264.out _; exact BK1187.out) hb); replace BK1188 := ak (blk_below (g := gb1188) (o := .cells #[.int .i64 a1_0, .int .i64 a1_1, .int .i64 a1_2] 68 (0, 0)) (by refine blk_far ?_ NB1188_1264.out _; refine blk_far ?_ NB1188_1264.out _; refine blk_far ?_ NB1188_1264.out _; exact BK1188.out) hb); replace BK1208 := ak (blk_below (g := gb1208) (o := .cells #[.int .i64 t1200, .slice Ao31 t1201.length co31, .slice Ao33 t1204.length co33] 49 (0, 0)) (by refine blk_far ?_ NB1208_1264.out _; refine blk_far ?_ NB1208_1264.out _; refine blk_far ?_ NB1208_1264.out _; exact BK1208.out) hb); replace BK1216 := ak (blk_below (g := gb1216) (o := .cells #[.int .i64 t1209, .slice Ao43 t1239.length co43, .slice Ao44 t1240.length co44] 49 (0, 0)) (by refine blk_far ?_ NB1216_1264.out _; refine blk_far ?_ NB1216_1264.out _; refine blk_far ?_ NB1216_1264.out _; exact BK1216.out) hb); replace BK1228 := ak (blk_below (g := gb1228) (o := .cells #[.int .i64 t1220, .slice Ao52 t1221.length co52, .slice Ao54 t1224.length co54] 49 (0, 0)) (by refine blk_far ?_ NB1228_1264.out _; refine blk_far ?_ NB1228_1264.out _; refine blk_far ?_ NB1228_1264.out _; exact BK1228.out) hb); replace BK1264 := ak (blk_below (g := gb1264) (o := .cells #[.int .i64 t1256, .slice Ao144 t1257.length co144, .slice Ao146 t1260.length co146] 49 (0, 0)) (by refine blk_put (cs := #[.int .i64 t1256, .slice Ao144 t1257.length co144, .slice none 0 0]) ?_ 2 _ rfl; refine blk_put (cs := #[.int .i64 t1256, .slice none 0 0, .slice none 0 0]) ?_ 1 _ rfl; refine blk_put (cs := #[.int .i64 0, .slice none 0 0, .slice none 0 0]) ?_ 0 _ rfl; exact BK1264.out) hb); replace HB := ak (below_step (by repeat ((with_reducible first | exact HB.out | refine below_set ?_ GE1264.out))) hb); (try clear hb); (try clear hb2); (try clear hk); (try clear hi)))
     go_meet
     case rel => exact ⟨_, ((t1263 != t1207)), (by rfl), H', ⟨by have := HJ15.out; have := HJ82.out; omega⟩, ⟨by (try simp only [hl1217001_82]); (try simp only [hl1217002_82]); exact Kd.R_mono HO_1209001.out (fun _ hk => ⟨hk.2.2.1, ⟨hk.2.2.2, hk.2.1⟩⟩)⟩, ⟨by (try simp only [hl1217001_82]); (try simp only [hl1217002_82]); exact Kd.R_mono HO_1209002.out (fun _ hk => ⟨hk.2.2.1, ⟨hk.2.2.2, hk.2.1⟩⟩)⟩, ⟨by (try simp only [hl1217001_82]); (try simp only [hl1217002_82]); exact Kd.R_mono HO_1217001.out (fun _ hk => ⟨hk.2.2.1, ⟨hk.2.2.2, hk.2.1⟩⟩)⟩, ⟨by (try simp only [hl1217001_82]); (try simp only [hl1217002_82]); exact Kd.R_mono HO_1217002.out (fun _ hk => ⟨hk.2.2.1, ⟨hk.2.2.2, hk.2.1⟩⟩)⟩, ⟨by (try simp only [hl1217001_82]); (try simp only [hl1217002_82]); exact Kd.R_mono HO_1229001.out (fun _ hk => ⟨hk.2.2.1, ⟨hk.2.2.2, hk.2.1⟩⟩)⟩, ⟨by (try simp only [hl1217001_82]); (try simp only [hl1217002_82]); exact Kd.R_mono HO_1229002.out (fun _ hk => ⟨hk.2.2.1, ⟨hk.2.2.2, hk.2.1⟩⟩)⟩, ⟨by (try simp only [hl1217001_82]); (try simp only [hl1217002_82]); exact Kd.R_mono HO1259.out (fun _ hk => ⟨hk.2.1, ⟨hk.2.2.1, hk.2.2.2⟩⟩)⟩, ⟨by (try simp only [hl1217001_82]); (try simp only [hl1217002_82]); exact Kd.R_mono HO1262.out (fun _ hk => ⟨hk.2.1, ⟨hk.2.2.1, hk.2.2.2⟩⟩)⟩, ⟨by (try simp only [hl1217001_82]); (try simp only [hl1217002_82]); exact BK1187.out⟩, ⟨by (try simp only [hl1217001_82]); (try simp only [hl1217002_82]); exact BK1188.out⟩, ⟨by (try simp only [hl1217001_82]); (try simp only [hl1217002_82]); exact BK1208.out⟩, ⟨by (try simp only [hl1217001_82]); (try simp only [hl1217002_82]); exact BK1216.out⟩, ⟨by (try simp only [hl1217001_82]); (try simp only [hl1217002_82]); exact BK1228.out⟩, ⟨by (try simp only [hl1217001_82]); (try simp only [hl1217002_82]); exact BK1264.out⟩, ⟨by repeat ((with_reducible exact HB.out))⟩⟩
    replace c149 := Bool.eq_false_iff.mpr c149
    subst c149
    rw [if_neg (show ¬ (false = true) by decide)] at H
    have H' := ak H
    clear H
    have hnb162 := NB1264_1187.out
    have hnc162 := NB1187_1264.out
    have hnb163 := NB1264_1188.out
    have hnc163 := NB1188_1264.out
    have hnb164 := NB1264_1208.out
    have hnc164 := NB1208_1264.out
    have hnb165 := NB1264_1216.out
    have hnc165 := NB1216_1264.out
    have hnb166 := NB1264_1228.out
    have hnc166 := NB1228_1264.out
    have hcz167_0 := bc w142 BK1264 0 (.int .i64 0) rfl
    have hcz167_1 := bc w142 BK1264 1 (.slice none 0 0) rfl
    have hcz167_2 := bc w142 BK1264 2 (.slice none 0 0) rfl
    have hfz167_0 := fz BK1264 0
    have hfz167_1 := fz BK1264 1
    have hfz167_2 := fz BK1264 2
    have hnb168 := NB1208_1187.out
    have hnc168 := NB1187_1208.out
    have hnb169 := NB1208_1188.out
    have hnc169 := NB1188_1208.out
    have hnb170 := NB1208_1216.out
    have hnc170 := NB1216_1208.out
    have hnb171 := NB1208_1228.out
    have hnc171 := NB1228_1208.out
    have hcz172_0 := bc w142 BK1208 0 (.int .i64 t1200) rfl
    have hcz172_1 := bc w142 BK1208 1 (.slice Ao31 t1201.length co31) rfl
    have hcz172_2 := bc w142 BK1208 2 (.slice Ao33 t1204.length co33) rfl
    have hfz172_0 := fz BK1208 0
    have hfz172_1 := fz BK1208 1
    have hfz172_2 := fz BK1208 2
    go_wp2_with (((with_reducible refine gate_callee (f := 33) rfl ?_); refine goesL_ (some 89) rfl rfl Try.func33 (by kernel_rfl) rfl #[.agg #[.int .i64 t1256, .slice Ao144 t1257.length co144, .slice Ao146 t1260.length co146], .agg #[.int .i64 t1200, .slice Ao31 t1201.length co31, .slice Ao33 t1204.length co33]] rfl (by (try simp only [List.map_toArray, List.map_cons, List.map_nil]); rfl) ?_; (with_reducible refine (laws_eqLive.calls kj82 t1256 _ _ t1257 _ _ t1260 t1200 _ _ t1201 _ _ t1204 false _ ?side1 ?side2 ?side3 ?side4 ?side5 ?side6 ?side7 ?side8 A148.out).mono ?_); (case side1 => refine (Kd.R_reads' (e := 100) (base := w.heap.size) (ok := fun k_ => (some k_ ≠ (v1248 : Value).ownBlock ∧ (some k_ ≠ (.slice Ao31 t1201.length co31 : Value).ownBlock ∧ (some k_ ≠ (.slice Ao43 t1239.length co43 : Value).ownBlock ∧ some k_ ≠ (.slice Ao52 t1221.length co52 : Value).ownBlock)))) (n := t1257.length) (c := co144) ?_).2.2; exact (by exact (Kd.R_mono (Kd.R_far (p := ⟨gb1264, 2, none⟩) (Kd.R_far (p := ⟨gb1264, 1, none⟩) (Kd.R_far (p := ⟨gb1264, 0, none⟩) (Kd.R_types HO1259.out BK1264.out (by decide)) (fun _ hk => hk.2) (.int .i64 t1256)) (fun _ hk => hk.2) (.slice Ao144 t1257.length co144)) (fun _ hk => hk.2) (.slice Ao146 t1260.length co146)) (fun _ h_ => h_.1)))); (case side2 => exact (Kd.R_reads' HO1259.out).2.1); (case side3 => refine (Kd.R_reads' (e := 70) (base := w.heap.size) (ok := fun k_ => (some k_ ≠ (v1251 : Value).ownBlock ∧ (some k_ ≠ (.slice Ao33 t1204.length co33 : Value).ownBlock ∧ (some k_ ≠ (.slice Ao44 t1240.length co44 : Value).ownBlock ∧ some k_ ≠ (.slice Ao54 t1224.length co54 : Value).ownBlock)))) (n := t1260.length) (c := co146) ?_).2.2; exact (by exact (Kd.R_mono (Kd.R_far (p := ⟨gb1264, 2, none⟩) (Kd.R_far (p := ⟨gb1264, 1, none⟩) (Kd.R_far (p := ⟨gb1264, 0, none⟩) (Kd.R_types HO1262.out BK1264.out (by decide)) (fun _ hk => hk.2) (.int .i64 t1256)) (fun _ hk => hk.2) (.slice Ao144 t1257.length co144)) (fun _ hk => hk.2) (.slice Ao146 t1260.length co146)) (fun _ h_ => h_.1)))); (case side4 => exact (Kd.R_reads' HO1262.out).2.1); (case side5 => refine (Kd.R_reads' (e := 100) (base := w.heap.size) (ok := fun k_ => (some k_ ≠ (v1248 : Value).ownBlock ∧ (some k_ ≠ (.slice Ao144 t1257.length co144 : Value).ownBlock ∧ (some k_ ≠ (.slice Ao43 t1239.length co43 : Value).ownBlock ∧ some k_ ≠ (.slice Ao52 t1221.length co52 : Value).ownBlock)))) (n := t1201.length) (c := co31) ?_).2.2; exact (by exact (Kd.R_mono (Kd.R_far (p := ⟨gb1264, 2, none⟩) (Kd.R_far (p := ⟨gb1264, 1, none⟩) (Kd.R_far (p := ⟨gb1264, 0, none⟩) (Kd.R_types HO_1209001.out BK1264.out (by decide)) (fun _ hk => hk.2) (.int .i64 t1256)) (fun _ hk => hk.2) (.slice Ao144 t1257.length co144)) (fun _ hk => hk.2) (.slice Ao146 t1260.length co146)) (fun _ h_ => h_.1)))); (case side6 => exact (Kd.R_reads' HO_1209001.out).2.1); (case side7 => refine (Kd.R_reads' (e := 70) (base := w.heap.size) (ok := fun k_ => (some k_ ≠ (v1251 : Value).ownBlock ∧ (some k_ ≠ (.slice Ao146 t1260.length co146 : Value).ownBlock ∧ (some k_ ≠ (.slice Ao44 t1240.length co44 : Value).ownBlock ∧ some k_ ≠ (.slice Ao54 t1224.length co54 : Value).ownBlock)))) (n := t1204.length) (c := co33) ?_).2.2; exact (by exact (Kd.R_mono (Kd.R_far (p := ⟨gb1264, 2, none⟩) (Kd.R_far (p := ⟨gb1264, 1, none⟩) (Kd.R_far (p := ⟨gb1264, 0, none⟩) (Kd.R_types HO_1209002.out BK1264.out (by decide)) (fun _ hk => hk.2) (.int .i64 t1256)) (fun _ hk => hk.2) (.slice Ao144 t1257.length co144)) (fun _ hk => hk.2) (.slice Ao146 t1260.length co146)) (fun _ h_ => h_.1)))); (case side8 => exact (Kd.R_reads' HO_1209002.out).2.1); rintro e w173 ⟨rfl, hb⟩; refine ⟨_, rfl, ?_⟩; replace HO_1209001 := ak (Kd.R_below (by exact (Kd.R_mono (Kd.R_far (p := ⟨gb1264, 2, none⟩) (Kd.R_far (p := ⟨gb1264, 1, none⟩) (Kd.R_far (p := ⟨gb1264, 0, none⟩) (Kd.R_types HO_1209001.out BK1264.out (by decide)) (fun _ hk => hk.2) (.int .i64 t1256)) (fun _ hk => hk.2) (.slice Ao144 t1257.length co144)) (fun _ hk => hk.2) (.slice Ao146 t1260.length co146)) (fun _ h_ => h_.1))) hb); replace HO_1209002 := ak (Kd.R_below (by exact (Kd.R_mono (Kd.R_far (p := ⟨gb1264, 2, none⟩) (Kd.R_far (p := ⟨gb1264, 1, none⟩) (Kd.R_far (p := ⟨gb1264, 0, none⟩) (Kd.R_types HO_1209002.out BK1264.out (by decide)) (fun _ hk => hk.2) (.int .i64 t1256)) (fun _ hk => hk.2) (.slice Ao144 t1257.length co144)) (fun _ hk => hk.2) (.slice Ao146 t1260.length co146)) (fun _ h_ => h_.1))) hb); replace HO_1217001 := ak (Kd.R_below (by exact (Kd.R_mono (Kd.R_far (p := ⟨gb1264, 2, none⟩) (Kd.R_far (p := ⟨gb1264, 1, none⟩) (Kd.R_far (p := ⟨gb1264, 0, none⟩) (Kd.R_types HO_1217001.out BK1264.out (by decide)) (fun _ hk => hk.2) (.int .i64 t1256)) (fun _ hk => hk.2) (.slice Ao144 t1257.length co144)) (fun _ hk => hk.2) (.slice Ao146 t1260.length co146)) (fun _ h_ => h_.1))) hb); replace HO_1217002 := ak (Kd.R_below (by exact (Kd.R_mono (Kd.R_far (p := ⟨gb1264, 2, none⟩) (Kd.R_far (p := ⟨gb1264, 1, none⟩) (Kd.R_far (p := ⟨gb1264, 0, none⟩) (Kd.R_types HO_1217002.out BK1264.out (by decide)) (fun _ hk => hk.2) (.int .i64 t1256)) (fun _ hk => hk.2) (.slice Ao144 t1257.length co144)) (fun _ hk => hk.2) (.slice Ao146 t1260.length co146)) (fun _ h_ => h_.1))) hb); replace HO_1229001 := ak (Kd.R_below (by exact (Kd.R_mono (Kd.R_far (p := ⟨gb1264, 2, none⟩) (Kd.R_far (p := ⟨gb1264, 1, none⟩) (Kd.R_far (p := ⟨gb1264, 0, none⟩) (Kd.R_types HO_1229001.out BK1264.out (by decide)) (fun _ hk => hk.2) (.int .i64 t1256)) (fun _ hk => hk.2) (.slice Ao144 t1257.length co144)) (fun _ hk => hk.2) (.slice Ao146 t1260.length co146)) (fun _ h_ => h_.1))) hb); replace HO_1229002 := ak (Kd.R_below (by exact (Kd.R_mono (Kd.R_far (p := ⟨gb1264, 2, none⟩) (Kd.R_far (p := ⟨gb1264, 1, none⟩) (Kd.R_far (p := ⟨gb1264, 0, none⟩) (Kd.R_types HO_1229002.out BK1264.out (by decide)) (fun _ hk => hk.2) (.int .i64 t1256)) (fun _ hk => hk.2) (.slice Ao144 t1257.length co144)) (fun _ hk => hk.2) (.slice Ao146 t1260.length co146)) (fun _ h_ => h_.1))) hb); replace HO1249 := ak (Kd.R_below (by exact (Kd.R_mono (Kd.R_far (p := ⟨gb1264, 2, none⟩) (Kd.R_far (p := ⟨gb1264, 1, none⟩) (Kd.R_far (p := ⟨gb1264, 0, none⟩) (Kd.R_types HO1249.out BK1264.out (by decide)) (fun _ hk => hk.2) (.int .i64 t1256)) (fun _ hk => hk.2) (.slice Ao144 t1257.length co144)) (fun _ hk => hk.2) (.slice Ao146 t1260.length co146)) (fun _ h_ => h_.1))) hb); replace HO1252 := ak (Kd.R_below (by exact (Kd.R_mono (Kd.R_far (p := ⟨gb1264, 2, none⟩) (Kd.R_far (p := ⟨gb1264, 1, none⟩) (Kd.R_far (p := ⟨gb1264, 0, none⟩) (Kd.R_types HO1252.out BK1264.out (by decide)) (fun _ hk => hk.2) (.int .i64 t1256)) (fun _ hk => hk.2) (.slice Ao144 t1257.length co144)) (fun _ hk => hk.2) (.slice Ao146 t1260.length co146)) (fun _ h_ => h_.1))) hb); replace HO1259 := ak (Kd.R_below (by exact (Kd.R_mono (Kd.R_far (p := ⟨gb1264, 2, none⟩) (Kd.R_far (p := ⟨gb1264, 1, none⟩) (Kd.R_far (p := ⟨gb1264, 0, none⟩) (Kd.R_types HO1259.out BK1264.out (by decide)) (fun _ hk => hk.2) (.int .i64 t1256)) (fun _ hk => hk.2) (.slice Ao144 t1257.length co144)) (fun _ hk => hk.2) (.slice Ao146 t1260.length co146)) (fun _ h_ => h_.1))) hb); replace HO1262 := ak (Kd.R_below (by exact (Kd.R_mono (Kd.R_far (p := ⟨gb1264, 2, none⟩) (Kd.R_far (p := ⟨gb1264, 1, none⟩) (Kd.R_far (p := ⟨gb1264, 0, none⟩) (Kd.R_types HO1262.out BK1264.out (by decide)) (fun _ hk => hk.2) (.int .i64 t1256)) (fun _ hk => hk.2) (.slice Ao144 t1257.length co144)) (fun _ hk => hk.2) (.slice Ao146 t1260.length co146)) (fun _ h_ => h_.1))) hb); replace BK1187 := ak (blk_below (g := gb1187) (o := .cells #[.int .i64 a0_0, .slice A0_1 l0_1.length c0_1, .slice A0_2 l0_2.length c0_2] 44 (0, 0)) (by refine blk_far ?_ NB1187_1264.out _; refine blk_far ?_ NB1187_1264.out _; refine blk_far ?_ NB1187_1264.out _; exact BK1187.out) hb); replace BK1188 := ak (blk_below (g := gb1188) (o := .cells #[.int .i64 a1_0, .int .i64 a1_1, .int .i64 a1_2] 68 (0, 0)) (by refine blk_far ?_ NB1188_1264.out _; refine blk_far ?_ NB1188_1264.out _; refine blk_far ?_ NB1188_1264.out _; exact BK1188.out) hb); replace BK1208 := ak (blk_below (g := gb1208) (o := .cells #[.int .i64 t1200, .slice Ao31 t1201.length co31, .slice Ao33 t1204.length co33] 49 (0, 0)) (by refine blk_far ?_ NB1208_1264.out _; refine blk_far ?_ NB1208_1264.out _; refine blk_far ?_ NB1208_1264.out _; exact BK1208.out) hb); replace BK1216 := ak (blk_below (g := gb1216) (o := .cells #[.int .i64 t1209, .slice Ao43 t1239.length co43, .slice Ao44 t1240.length co44] 49 (0, 0)) (by refine blk_far ?_ NB1216_1264.out _; refine blk_far ?_ NB1216_1264.out _; refine blk_far ?_ NB1216_1264.out _; exact BK1216.out) hb); replace BK1228 := ak (blk_below (g := gb1228) (o := .cells #[.int .i64 t1220, .slice Ao52 t1221.length co52, .slice Ao54 t1224.length co54] 49 (0, 0)) (by refine blk_far ?_ NB1228_1264.out _; refine blk_far ?_ NB1228_1264.out _; refine blk_far ?_ NB1228_1264.out _; exact BK1228.out) hb); replace BK1264 := ak (blk_below (g := gb1264) (o := .cells #[.int .i64 t1256, .slice Ao144 t1257.length co144, .slice Ao146 t1260.length co146] 49 (0, 0)) (by refine blk_put (cs := #[.int .i64 t1256, .slice Ao144 t1257.length co144, .slice none 0 0]) ?_ 2 _ rfl; refine blk_put (cs := #[.int .i64 t1256, .slice none 0 0, .slice none 0 0]) ?_ 1 _ rfl; refine blk_put (cs := #[.int .i64 0, .slice none 0 0, .slice none 0 0]) ?_ 0 _ rfl; exact BK1264.out) hb); replace HB := ak (below_step (by repeat ((with_reducible first | exact HB.out | refine below_set ?_ GE1264.out))) hb); (try clear hb); (try clear hb2); (try clear hk); (try clear hi)))
    go_meet
    case rel => exact ⟨_, (true), (by rfl), H', ⟨by have := HJ15.out; have := HJ82.out; omega⟩, ⟨by (try simp only [hl1217001_82]); (try simp only [hl1217002_82]); exact Kd.R_mono HO_1209001.out (fun _ hk => ⟨hk.2.2.1, ⟨hk.2.2.2, hk.2.1⟩⟩)⟩, ⟨by (try simp only [hl1217001_82]); (try simp only [hl1217002_82]); exact Kd.R_mono HO_1209002.out (fun _ hk => ⟨hk.2.2.1, ⟨hk.2.2.2, hk.2.1⟩⟩)⟩, ⟨by (try simp only [hl1217001_82]); (try simp only [hl1217002_82]); exact Kd.R_mono HO_1217001.out (fun _ hk => ⟨hk.2.2.1, ⟨hk.2.2.2, hk.2.1⟩⟩)⟩, ⟨by (try simp only [hl1217001_82]); (try simp only [hl1217002_82]); exact Kd.R_mono HO_1217002.out (fun _ hk => ⟨hk.2.2.1, ⟨hk.2.2.2, hk.2.1⟩⟩)⟩, ⟨by (try simp only [hl1217001_82]); (try simp only [hl1217002_82]); exact Kd.R_mono HO_1229001.out (fun _ hk => ⟨hk.2.2.1, ⟨hk.2.2.2, hk.2.1⟩⟩)⟩, ⟨by (try simp only [hl1217001_82]); (try simp only [hl1217002_82]); exact Kd.R_mono HO_1229002.out (fun _ hk => ⟨hk.2.2.1, ⟨hk.2.2.2, hk.2.1⟩⟩)⟩, ⟨by (try simp only [hl1217001_82]); (try simp only [hl1217002_82]); exact Kd.R_mono HO1259.out (fun _ hk => ⟨hk.2.1, ⟨hk.2.2.1, hk.2.2.2⟩⟩)⟩, ⟨by (try simp only [hl1217001_82]); (try simp only [hl1217002_82]); exact Kd.R_mono HO1262.out (fun _ hk => ⟨hk.2.1, ⟨hk.2.2.1, hk.2.2.2⟩⟩)⟩, ⟨by (try simp only [hl1217001_82]); (try simp only [hl1217002_82]); exact BK1187.out⟩, ⟨by (try simp only [hl1217001_82]); (try simp only [hl1217002_82]); exact BK1188.out⟩, ⟨by (try simp only [hl1217001_82]); (try simp only [hl1217002_82]); exact BK1208.out⟩, ⟨by (try simp only [hl1217001_82]); (try simp only [hl1217002_82]); exact BK1216.out⟩, ⟨by (try simp only [hl1217001_82]); (try simp only [hl1217002_82]); exact BK1228.out⟩, ⟨by (try simp only [hl1217001_82]); (try simp only [hl1217002_82]); exact BK1264.out⟩, ⟨by repeat ((with_reducible exact HB.out))⟩⟩
   clear HC126
   try clear c1
   try clear p2
   try clear c3
   try clear c4
   try clear c14
   try clear c15
   try clear c16
   try clear c17
   try clear c31
   try clear c33
   try clear c48
   try clear c49
   try clear c149
   try clear c150
   try clear c151
   try clear c152
   try clear c153
   try clear c154
   try clear c156
   try clear c157
   try clear c158
   try clear c159
   try clear c162
   try clear c163
   try clear c164
   try clear c165
   try clear c166
   try clear c168
   try clear c169
   try clear c170
   try clear c171
   try clear hcz155_0
   try clear hcz155_1
   try clear hcz155_2
   try clear hcz160_0
   try clear hcz160_1
   try clear hcz160_2
   try clear hcz167_0
   try clear hcz167_1
   try clear hcz167_2
   try clear hcz172_0
   try clear hcz172_1
   try clear hcz172_2
   try clear hfz155_0
   try clear hfz155_1
   try clear hfz155_2
   try clear hfz160_0
   try clear hfz160_1
   try clear hfz160_2
   try clear hfz167_0
   try clear hfz167_1
   try clear hfz167_2
   try clear hfz172_0
   try clear hfz172_1
   try clear hfz172_2
   obtain ⟨kq, x95_125, rfl, HA, HJ125, HO_1209001, HO_1209002, HO_1217001, HO_1217002, HO_1229001, HO_1229002, HO_1265001, HO_1265002, BK1187, BK1188, BK1208, BK1216, BK1228, BK1264, HB⟩ := hcut
   have hl1229001_125 := (Kd.R_reads' HO_1229001.out).1
   rw [hl1229001_125] at HO_1229001
   (try simp only [hl1229001_125])
   (try simp only [hl1229001_125] at BK1187)
   (try simp only [hl1229001_125] at BK1188)
   (try simp only [hl1229001_125] at BK1208)
   (try simp only [hl1229001_125] at BK1216)
   (try simp only [hl1229001_125] at BK1228)
   (try simp only [hl1229001_125] at BK1264)
   (try simp only [hl1229001_125] at HO_1209001)
   (try simp only [hl1229001_125] at HO_1209002)
   (try simp only [hl1229001_125] at HO_1217001)
   (try simp only [hl1229001_125] at HO_1217002)
   (try simp only [hl1229001_125] at HO_1229002)
   (try simp only [hl1229001_125] at HO_1265001)
   (try simp only [hl1229001_125] at HO_1265002)
   have hl1229002_125 := (Kd.R_reads' HO_1229002.out).1
   rw [hl1229002_125] at HO_1229002
   (try simp only [hl1229002_125])
   (try simp only [hl1229002_125] at BK1187)
   (try simp only [hl1229002_125] at BK1188)
   (try simp only [hl1229002_125] at BK1208)
   (try simp only [hl1229002_125] at BK1216)
   (try simp only [hl1229002_125] at BK1228)
   (try simp only [hl1229002_125] at BK1264)
   (try simp only [hl1229002_125] at HO_1209001)
   (try simp only [hl1229002_125] at HO_1209002)
   (try simp only [hl1229002_125] at HO_1217001)
   (try simp only [hl1229002_125] at HO_1217002)
   (try simp only [hl1229002_125] at HO_1229001)
   (try simp only [hl1229002_125] at HO_1265001)
   (try simp only [hl1229002_125] at HO_1265002)
   cases kq with
   | zero => exact absurd HA.out (by simp [laws_FnExactLiveTell.j2])
   | succ kj125 =>
    have H := HA.out
    clear HA
    simp only [laws_FnExactLiveTell.j2] at H
    by_cases c174 : x95_125 = true
    ·subst c174
     rw [if_pos rfl] at H
     exact absurd ((Option.some.inj H).trans hr_) Bool.false_ne_true
    replace c174 := Bool.eq_false_iff.mpr c174
    subst c174
    rw [if_neg (show ¬ (false = true) by decide)] at H
    replace H := Option.bind_eq_some_iff.mp H
    obtain ⟨t1266, A1750, H⟩ := H
    have A175 := ak A1750
    clear A1750
    by_cases c176 : t1266 < 0
    ·rw [if_pos c176] at H
     have c176b0 : decide (t1266 < 0) = true := decide_eq_true c176
     clear c176
     exact absurd ((Option.some.inj H).trans hr_) Bool.false_ne_true
    rw [if_neg c176] at H
    have c176b0 : decide (t1266 < 0) = false := decide_eq_false c176
    clear c176
    by_cases c177 : t1266 = t1242
    rotate_left
    ·rw [if_neg c177] at H
     have c177b0 : (t1266 == t1242) = false := beq_eq_false_iff_ne.mpr c177
     have c177b1 : (t1266 != t1242) = true := bne_iff_ne.mpr c177
     exact absurd ((Option.some.inj H).trans hr_) Bool.false_ne_true
    rw [if_pos c177] at H
    have c177b0 : (t1266 == t1242) = true := beq_iff_eq.mpr c177
    have c177b1 : (t1266 != t1242) = false := bne_eq_false_iff_eq.mpr c177
    clear c177
    obtain rfl := Option.some.inj H
    have hnb178 := NB1228_1187.out
    have hnc178 := NB1187_1228.out
    have hnb179 := NB1228_1188.out
    have hnc179 := NB1188_1228.out
    have hnb180 := NB1228_1208.out
    have hnc180 := NB1208_1228.out
    have hnb181 := NB1228_1216.out
    have hnc181 := NB1216_1228.out
    have hnb182 := NB1228_1264.out
    have hnc182 := NB1264_1228.out
    have hcz183_0 := bc wc BK1228 0 (.int .i64 t1220) rfl
    have hcz183_1 := bc wc BK1228 1 (.slice Ao52 t1243.length co52) rfl
    have hcz183_2 := bc wc BK1228 2 (.slice Ao54 t1244.length co54) rfl
    have hfz183_0 := fz BK1228 0
    have hfz183_1 := fz BK1228 1
    have hfz183_2 := fz BK1228 2
    go_wp2_with (((with_reducible refine gate_callee (f := 46) rfl ?_); refine goesL_ (some 98) rfl rfl Try.func46 (by kernel_rfl) rfl #[.agg #[.int .i64 t1220, .slice Ao52 t1243.length co52, .slice Ao54 t1244.length co54], .int .i64 1] rfl (by (try simp only [List.map_toArray, List.map_cons, List.map_nil]); rfl) ?_; (with_reducible refine (laws_heldLive.calls kj125 t1220 _ _ t1243 _ _ t1244 1 t1266 _ ?side1 ?side2 ?side3 ?side4 A175.out).mono ?_); (case side1 => repeat (exact (Kd.R_reads' HO_1229001.out).2.2)); (case side2 => exact (Kd.R_reads' HO_1229001.out).2.1); (case side3 => repeat (exact (Kd.R_reads' HO_1229002.out).2.2)); (case side4 => exact (Kd.R_reads' HO_1229002.out).2.1); rintro e w184 ⟨rfl, hb⟩; refine ⟨_, rfl, ?_⟩; replace HO_1209001 := ak (Kd.R_below (rk HO_1209001) hb); replace HO_1209002 := ak (Kd.R_below (rk HO_1209002) hb); replace HO_1217001 := ak (Kd.R_below (rk HO_1217001) hb); replace HO_1217002 := ak (Kd.R_below (rk HO_1217002) hb); replace HO_1229001 := ak (Kd.R_below (rk HO_1229001) hb); replace HO_1229002 := ak (Kd.R_below (rk HO_1229002) hb); replace HO_1265001 := ak (Kd.R_below (rk HO_1265001) hb); replace HO_1265002 := ak (Kd.R_below (rk HO_1265002) hb); replace BK1187 := ak (blk_below (bk BK1187) hb); replace BK1188 := ak (blk_below (bk BK1188) hb); replace BK1208 := ak (blk_below (bk BK1208) hb); replace BK1216 := ak (blk_below (bk BK1216) hb); replace BK1228 := ak (blk_below (bk BK1228) hb); replace BK1264 := ak (blk_below (bk BK1264) hb); replace HB := ak (below_step (by repeat ((with_reducible exact HB.out))) hb); (try clear hb); (try clear hb2); (try clear hk); (try clear hi)))
    go_ret
    exact ⟨by rfl, by repeat ((with_reducible exact HB.out))⟩
/-- THE ONE PURE STATEMENT of laws_FnExactLiveTell. -/
def laws_FnExactLiveTell.Pure : Prop := ∀ (a0_0 : Int) (l0_1 : List (S132)) (l0_2 : List (S68)) (a1_0 : Int) (a1_1 : Int) (a1_2 : Int), (Lit.int .i64 a0_0).wf = true → (l0_1.length ≤ 9223372036854775807 ∧ ∀ y_ ∈ l0_1, ((Lit.int .i64 y_.f0).wf = true ∧ ((Lit.int .i64 y_.f1).wf = true ∧ ((Lit.int .i64 y_.f2).wf = true ∧ ((Lit.int .i64 y_.f3).wf = true ∧ ((Lit.int .i64 y_.f4).wf = true)))))) → (l0_2.length ≤ 9223372036854775807 ∧ ∀ y_ ∈ l0_2, ((Lit.int .i64 y_.f0).wf = true ∧ ((Lit.int .i64 y_.f1).wf = true ∧ ((Lit.int .i64 y_.f2).wf = true)))) → (Lit.int .i64 a1_0).wf = true → (Lit.int .i64 a1_1).wf = true → (Lit.int .i64 a1_2).wf = true → ∃ k, laws_FnExactLiveTell.f k a0_0 l0_1 l0_2 a1_0 a1_1 a1_2 = some true

end Go.Proofs.Ytbappbbljncdeaa.F
