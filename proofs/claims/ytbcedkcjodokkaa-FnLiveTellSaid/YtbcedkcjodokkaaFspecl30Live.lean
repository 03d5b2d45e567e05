-- Printed by wip/px/px.py of this claim's repository (the kit's printer, extended there). Lean checks it.
import Derived.Test.YtbcedkcjodokkaaFKinds
import Derived.Test.YtbcedkcjodokkaaFspecl30Open
import Derived.Test.YtbcedkcjodokkaaFspecl16Copy
import Derived.Test.YtbcedkcjodokkaaFspecLiveTell
import Derived.Test.YtbcedkcjodokkaaFspecl30Rdpick
import Derived.Test.YtbcedkcjodokkaaFspecl30Rdone
import Derived.Test.YtbcedkcjodokkaaFspecl30News
import Derived.Test.YtbcedkcjodokkaaFspecl30Net
namespace Go.Proofs.Ytbcedkcjodokkaa.F
open Go.RowKit Go.Proofs.YtbcedkcjodokkaaW.PrintWords Go.Proofs.YtbcedkcjodokkaaW.PrintLast Go.Proofs.YtbcedkcjodokkaaW.PrintMore
attribute [local go_sem] max2_int min2_int max_two min_two max_three min_three max_four min_four   -- for this text's walks alone
set_option linter.unusedVariables false
set_option linter.unusedSimpArgs false

/-! ### spec_l30Live: function 15 -/
def spec_l30Live.l0 : Nat → Int → List Int → Int → Int → List (S65) → List (S30) → Option (Int × (List (S65)) × (List (S30)) × Int)
 | 0, _, _, _, _, _, _ => none
 | k + 1, x4, x1000, x1001, x238000, x238001, x238002 => if x4 > 0 then ((spec_l30News.f k x1000 x1001 x238000 x238001).bind fun bt240 => ((spec_LiveTell.f k x238000 x238001 x238002 bt240.1 bt240.2.1 bt240.2.2.1).bind fun bt244 => (spec_l30Live.l0 k (wrap64 (x4 - 1)) x1000 bt240.2.2.2 bt244.1 bt244.2.1 bt244.2.2.1))) else (if (x238002.length : Int) > 0 then ((spec_l30Rd_pick.f k x1000 x1001 (x238002.length : Int)).bind fun bt253 => ((spec_l30Rd_pick.f k x1000 bt253.2 14).bind fun bt255 => (if bt255.1 = 0 then ((spec_l30Rd_one.f k x1000 bt255.2 (([(-2), 100] : List Int))).bind fun bt260 => (if 0 ≤ bt253.1 then (if bt253.1 < (x238002.length : Int) then ((spec_l16Copy.f x238000 x238001 (x238002.set (bt253.1 : Int).toNat (⟨(rd_T30 x238002 bt253.1).f0, (rd_T30 x238002 bt253.1).f1, bt260.1⟩ : S30))).bind fun bt263 => (some (bt263.1, bt263.2.1, bt263.2.2, bt260.2))) else (none)) else (none))) else (if bt255.1 = 1 then (if 0 ≤ bt253.1 then (if bt253.1 < (x238002.length : Int) then (if x238002.length < 5864062014805 then ((spec_l16Copy.f x238000 x238001 (x238002 ++ [(⟨(rd_T30 x238002 bt253.1).f0, (rd_T30 x238002 bt253.1).f1, (rd_T30 x238002 bt253.1).f2⟩ : S30)])).bind fun bt274 => (some (bt274.1, bt274.2.1, bt274.2.2, bt255.2))) else (none)) else (none)) else (none)) else ((spec_l16Copy.f x238000 x238001 x238002).bind fun bt281 => (some (bt281.1, bt281.2.1, bt281.2.2, bt255.2))))))) else ((spec_l16Copy.f x238000 x238001 x238002).bind fun bt288 => (some (bt288.1, bt288.2.1, bt288.2.2, x1001))))
def spec_l30Live.f (k : Nat) (s0_0 : List Int) (s0_1 : Int) : Option (Int × (List (S65)) × (List (S30)) × Int) := (spec_l30Net.f k s0_0 s0_1).bind fun bt232 => ((spec_l30Rd_pick.f k s0_0 bt232.2.2 7).bind fun bt238 => (spec_l30Live.l0 k bt238.1 s0_0 bt238.2 bt232.1 bt232.2.1 ([] : List (S30))))
theorem spec_l30Live.mono_l : ∀ k, (∀ y0 y1 y2 y3 y4 y5, LeO (spec_l30Live.l0 k y0 y1 y2 y3 y4 y5) (spec_l30Live.l0 (k + 1) y0 y1 y2 y3 y4 y5))
 | 0 => fun _ _ _ _ _ _ r h => by simp [spec_l30Live.l0] at h
 | k + 1 => by
  have ih0 := spec_l30Live.mono_l k
  ·intro y0 y1 y2 y3 y4 y5
   unfold spec_l30Live.l0
   repeat' first | (with_reducible exact ih0 _ _ _ _ _ _) | (with_reducible exact spec_LiveTell.mono _ _ _ _ _ _ _) | (with_reducible exact spec_l30News.mono _ _ _ _ _) | (with_reducible exact spec_l30Rd_one.mono _ _ _ _) | (with_reducible exact spec_l30Rd_pick.mono _ _ _ _) | (with_reducible exact LeO.refl _) | (with_reducible refine LeO.ite ?_ ?_) | (with_reducible refine LeO.bind ?_ (fun _ => ?_))
theorem spec_l30Live.mono : ∀ a0 a1 k, LeO (spec_l30Live.f k a0 a1) (spec_l30Live.f (k + 1) a0 a1) := by
 intro a0 a1 k
 have ih0 := spec_l30Live.mono_l k
 unfold spec_l30Live.f
 repeat' first | (with_reducible exact ih0 _ _ _ _ _ _) | (with_reducible exact spec_l30Net.mono _ _ _) | (with_reducible exact spec_l30Rd_pick.mono _ _ _ _) | (with_reducible refine LeO.bind ?_ (fun _ => ?_))
def spec_l30Live.T5 : Bool × List (List Nat × List Nat) := (true, [([], []), ([], []), ([], []), ([2], [2]), ([1, 3], [1, 3]), ([0, 4, 4], [0, 4]), ([5], [5]), ([6], [6]), ([6], [6]), ([], []), ([9, 7, 5, 0, 1, 2, 3, 4, 5, 6, 7, 9], [7, 9]), ([8, 10, 0, 1, 2, 3, 4, 5, 6, 7, 8, 9, 10], [8])])
def spec_l30Live.B5 : List Nat := [0, 0, 0, 4, 14, 31, 63, 127, 127, 0, 767, 2047]
theorem spec_l30Live.tab5 : rtab .any (opsOf Try.f15 5) = spec_l30Live.T5 := by kernel_rfl
theorem spec_l30Live.bits5 : waitsOk spec_l30Live.T5.2 spec_l30Live.B5 = true := by kernel_rfl
def spec_l30Live.T11 : Bool × List (List Nat × List Nat) := (true, [([], []), ([0], [0]), ([], []), ([], []), ([], []), ([3, 4], [3, 4]), ([1, 2, 0, 1, 2, 3, 4, 5], [1, 2]), ([6, 0, 1, 2, 3, 4, 5], [6]), ([7, 5, 5, 0, 1, 2, 3, 4, 5], [5, 7])])
def spec_l30Live.B11 : List Nat := [0, 1, 0, 0, 0, 24, 63, 127, 255]
theorem spec_l30Live.tab11 : rtab .any (opsOf Try.f15 11) = spec_l30Live.T11 := by kernel_rfl
theorem spec_l30Live.bits11 : waitsOk spec_l30Live.T11.2 spec_l30Live.B11 = true := by kernel_rfl
def spec_l30Live.T13 : Bool × List (List Nat × List Nat) := (true, [([], []), ([0], [0]), ([], []), ([2], [2]), ([], []), ([3, 4], [3, 4]), ([5], [5]), ([6], [6]), ([1, 7], [1, 7]), ([0, 1, 2, 3, 4, 5, 6, 7, 8], []), ([9, 8, 8, 0, 1, 2, 3, 4, 5, 6, 7, 8], [8, 9])])
def spec_l30Live.B13 : List Nat := [0, 1, 0, 4, 0, 28, 60, 124, 255, 511, 1023]
theorem spec_l30Live.tab13 : rtab .any (opsOf Try.f15 13) = spec_l30Live.T13 := by kernel_rfl
theorem spec_l30Live.bits13 : waitsOk spec_l30Live.T13.2 spec_l30Live.B13 = true := by kernel_rfl
set_option maxHeartbeats 8000000 in
set_option maxRecDepth 100000 in
theorem spec_l30Live.calls (k : Nat) (g : Nat) (s0_0 : List Int) (s0_1 : Int) (r1 : Int) (r2 : List (S65)) (r3 : List (S30)) (r4 : Int) (w0 w : World) (hI : IsS59 w0 w g s0_0 s0_1) (hB : Below w0.heap.size w0 w) (h : spec_l30Live.f k s0_0 s0_1 = some (r1, r2, r3, r4)) :
  Calls Try.prog 15 #[.pointer (some ⟨g, 0, none⟩)] w fun e w' => ∃ v1_ v2_ : Value, e = .returned (.agg #[.int .i64 r1, v1_, v2_]) ∧ Kd.R k65 65 w' w.heap.size (fun _ => True) v1_ r2 ∧ Kd.R k30 30 w' w.heap.size (fun _ => True) v2_ r3 ∧ IsS59 w0 w' g s0_0 r4 ∧ Below w0.heap.size w0 w' ∧ KeepBut w w' g none := by
 have hu28 := Try.underlying28
 have hu25 := Try.underlying25
 have hu30 := Try.underlying30
 have HI0 := ak hI
 have HK := ak (KeepBut.refl w g none)
 have HL := ak hB.size
 clear hI
 have HW0 := ak hB.size
 have HB := ak hB
 clear hB
 have H : ((spec_l30Net.f k s0_0 s0_1).bind fun bt232 => ((spec_l30Rd_pick.f k s0_0 bt232.2.2 7).bind fun bt238 => (spec_l30Live.l0 k bt238.1 s0_0 bt238.2 bt232.1 bt232.2.1 ([] : List (S30))))) = some (r1, r2, r3, r4) := h
 clear h
 replace H := Option.bind_eq_some_iff.mp H
 obtain ⟨⟨t232, t233, t236⟩, A20, H⟩ := H
 have A2 := ak A20
 clear A20
 replace H := Option.bind_eq_some_iff.mp H
 obtain ⟨⟨t238, t239⟩, A30, H⟩ := H
 have A3 := ak A30
 clear A30
 have H' := ak H
 clear H
 go_enter Try.func15, Try.ntmps15
 go_wp2_with (first | ((with_reducible refine gate_dst (N := 2) rfl ?_); refine box_event ?hg (N := 2) ?hd (cs := #[.int .i64 0, .slice none 0 0, .slice none 0 0]) (t := 28) ?hr ?_; (case hd => rfl); (case hg => rfl); (case hr => (go_simp; done)); intro gb231 hg w4 hbox hb; replace HB := ak (below_step (by repeat ((with_reducible exact HB.out))) hb); have BK231 := ak (hbox); have GW231 := ak ((by rw [hg]; exact (keep_size (w := w) (g := g) (row := none) (by repeat ((with_reducible exact HK.out)))) : w.heap.size ≤ gb231)); have GE231 := ak ((Nat.le_trans HW0.out (by rw [hg]; exact (keep_size (w := w) (g := g) (row := none) (by repeat ((with_reducible exact HK.out)))) : w.heap.size ≤ gb231) : w0.heap.size ≤ gb231)); replace HK := ak (KeepBut.trans (by repeat ((with_reducible exact HK.out))) (KeepBut.of_below hb g none) (.inl rfl)); have NB0_231 := ak ((by rw [hg]; exact Nat.ne_of_lt (IsS59.lt (show IsS59 w0 _ g s0_0 s0_1 from by repeat ((with_reducible exact HI0.out)))) : g ≠ gb231)); have NB231_0 := ak ((by rw [hg]; exact Nat.ne_of_gt (IsS59.lt (show IsS59 w0 _ g s0_0 s0_1 from by repeat ((with_reducible exact HI0.out)))) : gb231 ≠ g)); replace HI0 := ak (IsS59.below (by repeat ((with_reducible exact HI0.out))) hb); clear hb hbox hg) | ((with_reducible refine gate_callee (f := 29) rfl ?_); refine goesL_ (some 9) rfl rfl Try.func29 (by kernel_rfl) rfl #[.pointer (some ⟨g, 0, none⟩)] rfl (by (try simp only [List.map_toArray, List.map_cons, List.map_nil]); rfl) ?_; (with_reducible refine (spec_l30Net.calls k g s0_0 s0_1 t232 t233 t236 w0 _ ?side1 ?side2 A2.out).mono ?_); (case side1 => repeat ((with_reducible exact HI0.out))); (case side2 => repeat ((with_reducible exact HB.out))); rintro e w5 ⟨v234, rfl, ho0, hi, hb, hk⟩; refine ⟨_, rfl, ?_⟩; replace BK231 := ak (KeepBut.blk hk (g' := gb231) (o := .cells #[.int .i64 0, .slice none 0 0, .slice none 0 0] 28 (0, 0)) (bk BK231) NB231_0.out (by simp)); have HO235 := ak (Kd.R_lower ho0 (keep_size (w := w) (g := g) (row := none) (by repeat ((with_reducible exact HK.out))))); replace HK := ak (KeepBut.trans (by repeat ((with_reducible exact HK.out))) hk (.inl rfl)); replace HB := ak (hb); replace HI0 := ak (hi); (try clear hb); (try clear hb2); (try clear hk); (try clear hi); (try clear ho0); obtain ⟨Ao6, co6, eo6⟩ := Kd.R_slice HO235.out; subst eo6) | ((with_reducible refine gate_dst (N := 3) rfl ?_); refine box_event ?hg (N := 3) ?hd (cs := #[.int .i64 0, .slice none 0 0, .slice none 0 0]) (t := 28) ?hr ?_; (case hd => rfl); (case hg => rfl); (case hr => (go_simp; done)); intro gb237 hg w7 hbox hb; replace HO235 := ak (Kd.R_below (rk HO235) hb); replace HB := ak (below_step (by repeat ((with_reducible exact HB.out))) hb); have BK237 := ak (hbox); have GW237 := ak ((by rw [hg]; exact (keep_size (w := w) (g := g) (row := none) (by repeat ((with_reducible exact HK.out)))) : w.heap.size ≤ gb237)); have GE237 := ak ((Nat.le_trans HW0.out (by rw [hg]; exact (keep_size (w := w) (g := g) (row := none) (by repeat ((with_reducible exact HK.out)))) : w.heap.size ≤ gb237) : w0.heap.size ≤ gb237)); replace HK := ak (KeepBut.trans (by repeat ((with_reducible exact HK.out))) (KeepBut.of_below hb g none) (.inl rfl)); have NB231_237 := ak ((by rw [hg]; exact Nat.ne_of_lt (blk_lt (bk BK231)) : gb231 ≠ gb237)); have NB237_231 := ak ((by rw [hg]; exact Nat.ne_of_gt (blk_lt (bk BK231)) : gb237 ≠ gb231)); replace BK231 := ak (blk_below (bk BK231) hb); have NB0_237 := ak ((by rw [hg]; exact Nat.ne_of_lt (IsS59.lt (show IsS59 w0 _ g s0_0 t236 from by repeat ((with_reducible exact HI0.out)))) : g ≠ gb237)); have NB237_0 := ak ((by rw [hg]; exact Nat.ne_of_gt (IsS59.lt (show IsS59 w0 _ g s0_0 t236 from by repeat ((with_reducible exact HI0.out)))) : gb237 ≠ g)); replace HI0 := ak (IsS59.below (by repeat ((with_reducible exact HI0.out))) hb); clear hb hbox hg; have hnb8 := NB237_231.out; have hnc8 := NB231_237.out; have hnb9 := NB237_0.out; have hnc9 := NB0_237.out; have hcz10_0 := bc w7 BK237 0 (.int .i64 0) rfl; have hcz10_1 := bc w7 BK237 1 (.slice none 0 0) rfl; have hcz10_2 := bc w7 BK237 2 (.slice none 0 0) rfl; have hfz10_0 := fz BK237 0; have hfz10_1 := fz BK237 1; have hfz10_2 := fz BK237 2) | ((with_reducible refine gate_callee (f := 27) rfl ?_); refine goesL_ (some 12) rfl rfl Try.func27 (by kernel_rfl) rfl #[.pointer (some ⟨g, 0, none⟩), .int .i64 7] rfl (by (try simp only [List.map_toArray, List.map_cons, List.map_nil]); rfl) ?_; (with_reducible refine (spec_l30Rd_pick.calls k g s0_0 t236 7 t238 t239 w0 _ ?side1 ?side2 A3.out).mono ?_); (case side1 => repeat ((with_reducible first | exact HI0.out | refine IsS59.far ?_ NB0_237.out _))); (case side2 => repeat ((with_reducible first | exact HB.out | refine below_set ?_ GE237.out))); rintro e w11 ⟨rfl, hi, hb, hk⟩; refine ⟨_, rfl, ?_⟩; replace BK231 := ak (KeepBut.blk hk (g' := gb231) (o := .cells #[.int .i64 0, .slice none 0 0, .slice none 0 0] 28 (0, 0)) (by refine blk_far ?_ NB231_237.out _; refine blk_far ?_ NB231_237.out _; refine blk_far ?_ NB231_237.out _; exact BK231.out) NB231_0.out (by simp)); replace HO235 := ak (Kd.R_mono (Kd.R_keep (IsS59.apart (show IsS59 w0 _ g s0_0 t236 from by repeat ((with_reducible first | exact HI0.out | refine IsS59.far ?_ NB0_237.out _))) (by exact (Kd.R_mono (Kd.R_far (p := ⟨gb237, 2, none⟩) (Kd.R_far (p := ⟨gb237, 1, none⟩) (Kd.R_far (p := ⟨gb237, 0, none⟩) (Kd.R_types HO235.out BK237.out (by decide)) (fun _ hk => hk.2) (.int .i64 t232)) (fun _ hk => hk.2) (.slice Ao6 t233.length co6)) (fun _ hk => hk.2) (.slice none 0 0)) (fun _ h_ => h_.1))) (by decide)) hk (fun _ h => h.2)) (fun _ h => h.1)); replace BK237 := ak (KeepBut.blk hk (g' := gb237) (o := .cells #[.int .i64 t232, .slice Ao6 t233.length co6, .slice none 0 0] 28 (0, 0)) (by refine blk_put (cs := #[.int .i64 t232, .slice Ao6 t233.length co6, .slice none 0 0]) ?_ 2 _ rfl; refine blk_put (cs := #[.int .i64 t232, .slice none 0 0, .slice none 0 0]) ?_ 1 _ rfl; refine blk_put (cs := #[.int .i64 0, .slice none 0 0, .slice none 0 0]) ?_ 0 _ rfl; exact BK237.out) NB237_0.out (by simp)); replace HK := ak (KeepBut.trans (by repeat ((with_reducible first | exact HK.out | refine keep_far ?_ GW237.out _))) hk (.inl rfl)); replace HB := ak (hb); replace HI0 := ak (hi); (try clear hb); (try clear hb2); (try clear hk); (try clear hi)))
 go_loopg [4] k (fun kq v4 w' => ∃ (x4_1 : Int) (x1001_1 : Int) (x238000_1 : Int) (x238001_1 : List (S65)) (x238002_1 : List (S30)) (u238001 : Value) (u238002 : Value), v4 = .int .i64 x4_1 ∧ Aside0 (spec_l30Live.l0 kq x4_1 s0_0 x1001_1 x238000_1 x238001_1 x238002_1 = some (r1, r2, r3, r4)) ∧ Aside0 (kq ≤ k) ∧ Aside0 (Kd.R k65 65 w' w.heap.size (fun _ => True) u238001 x238001_1) ∧ Aside0 (Kd.R k30 30 w' w.heap.size (fun _ => True) u238002 x238002_1) ∧ Aside0 (w'.heap[gb231]? = some (.cells #[.int .i64 0, (.slice none 0 0), (.slice none 0 0)] 28 (0, 0))) ∧ Aside0 (w'.heap[gb237]? = some (.cells #[.int .i64 x238000_1, u238001, u238002] 28 (0, 0))) ∧ Aside0 (IsS59 w0 w' g s0_0 x1001_1) ∧ Aside0 (KeepBut w w' g none) ∧ Aside0 (Below w0.heap.size w0 w'))
 case atStart => exact ⟨(t238), (t239), (t232), (t233), (([] : List (S30))), (.slice Ao6 t233.length co6), (.slice none 0 0), (by rfl), H', ⟨Nat.le_refl _⟩, ⟨rk HO235⟩, ⟨by exact Kd.R_nil _ _ _ _ _⟩, ⟨bk BK231⟩, ⟨bk BK237⟩, ⟨by repeat ((with_reducible exact HI0.out))⟩, ⟨by repeat ((with_reducible exact HK.out))⟩, ⟨by repeat ((with_reducible exact HB.out))⟩⟩
 clear H'
 try clear c1
 try clear c2
 try clear p2
 try clear c8
 try clear c9
 try clear hcz10_0
 try clear hcz10_1
 try clear hcz10_2
 try clear hfz10_0
 try clear hfz10_1
 try clear hfz10_2
 obtain ⟨x4_1, x1001_1, x238000_1, x238001_1, x238002_1, u238001, u238002, rfl, HA, HK1, HO_238001, HO_238002, BK231, BK237, HI0, HK, HB⟩ := hrel
 cases gk with
 | zero => exact absurd HA.out (by simp [spec_l30Live.l0])
 | succ k1 =>
  have H := HA.out
  clear HA
  simp only [spec_l30Live.l0] at H
  by_cases c12 : x4_1 > 0
  ·rw [if_pos c12] at H
   have c12b0 : decide (0 < x4_1) = true := decide_eq_true c12
   clear c12
   replace H := Option.bind_eq_some_iff.mp H
   obtain ⟨⟨t240, t241, t242, t243⟩, A130, H⟩ := H
   have A13 := ak A130
   clear A130
   replace H := Option.bind_eq_some_iff.mp H
   obtain ⟨⟨t244, t245, t248, t251⟩, A140, H⟩ := H
   have A14 := ak A140
   clear A140
   have H' := ak H
   clear H
   obtain ⟨Ao15, co15, eo15⟩ := Kd.R_slice HO_238001.out
   subst eo15
   obtain ⟨Ao16, co16, eo16⟩ := Kd.R_slice HO_238002.out
   subst eo16
   try go_wp2
   replace HO_238001 := ak (Kd.R_drew HO_238001.out)
   replace HO_238002 := ak (Kd.R_drew HO_238002.out)
   replace BK231 := ak (blk_drew BK231.out)
   replace BK237 := ak (blk_drew BK237.out)
   replace HI0 := ak (IsS59.drew HI0.out)
   replace HK := ak (keep_drew HK.out)
   replace HB := ak (below_drew1 HB.out)
   refine start_ (n := 12) (S := fun w' => w'.cell? ⟨gb237, 0, none⟩ = some (.int .i64 x238000_1) ∧ w'.cell? ⟨gb237, 1, none⟩ = some (.slice Ao15 x238001_1.length co15) ∧ w'.cell? ⟨gb237, 2, none⟩ = some (.slice Ao16 x238002_1.length co16)) (ds := []) (ms 12 0) (by kernel_rfl) rfl (by kernel_rfl) ⟨(blk_cell BK237.out 0).trans rfl, (blk_cell BK237.out 1).trans rfl, (blk_cell BK237.out 2).trans rfl⟩ (fun hHeld => ?_); refine with_tabW spec_l30Live.tab5 spec_l30Live.bits5 (fun HT_ HW_ => ?_)
   generalize wr.drew = w17 at HO_238001 HO_238002 BK231 BK237 HI0 HK HB hHeld ⊢
   refine pu 1 19 ?_ (ms 12 2) rfl rfl HT_ (by kernel_rfl) (fun _ _ _ h => h) (by rfl) ?_ ?_ ?_ ?_
   rotate_left
   ·intro w'
    go_simp
    with_reducible rfl
   rotate_left
   ·simp only [SX]
    rfl
   refine pu 2 20 ?_ (ms 12 6) rfl rfl HT_ (by kernel_rfl) (fun _ _ _ h => h) (by rfl) ?_ ?_ ?_ ?_
   rotate_left
   ·intro w'
    go_simp
    with_reducible rfl
   rotate_left
   ·simp only [SX]
    rfl
   refine tk 0 18 ?_ (ms 12 7) rfl rfl HT_ HW_ (by kernel_rfl) (fun _ _ _ h => h) (by rfl) ?_ hHeld ?_ ?_ ?_
   rotate_left
   ·rintro w' ⟨s0, s1, s2⟩
    go_simp
    with_reducible rfl
   rotate_left
   ·simp only [SX]
    rfl
   refine tk 3 21 ?_ (ms 12 15) rfl rfl HT_ HW_ (by kernel_rfl) (fun _ _ _ h => h) (by rfl) ?_ hHeld ?_ ?_ ?_
   rotate_left
   ·rintro w' ⟨s0, s1, s2⟩
    go_simp
    with_reducible rfl
   rotate_left
   ·simp only [SX]
    rfl
   refine join_ (σ := Value × Value × Nat) 2 (ms 12 1023) (fun s_ => [(22, .agg #[.int .i64 t240, .int .i64 t241, .int .i64 t242]), (23, .tuple #[.agg #[.int .i64 t244, s_.1, s_.2.1], .bool t251]), (5, .pointer (some ⟨s_.2.2, 0, none⟩)), (17, .tuple #[.agg #[.int .i64 t244, s_.1, s_.2.1], .bool t251]), (24, .agg #[.int .i64 t244, s_.1, s_.2.1]), (25, .bool t251)]) (fun s_ w' => (w'.cell? ⟨gb237, 0, none⟩ = some (.int .i64 x238000_1) ∧ w'.cell? ⟨gb237, 1, none⟩ = some (.slice Ao15 x238001_1.length co15) ∧ w'.cell? ⟨gb237, 2, none⟩ = some (.slice Ao16 x238002_1.length co16)) ∧ (Kd.R k65 65 w' w.heap.size (fun k_ => some k_ ≠ (.slice Ao15 x238001_1.length co15 : Value).ownBlock) s_.1 t245) ∧ (Kd.R k30 30 w' w.heap.size (fun k_ => some k_ ≠ (.slice Ao16 x238002_1.length co16 : Value).ownBlock) s_.2.1 t248) ∧ (Kd.R k65 65 w' w.heap.size (fun k_ => some k_ ≠ (s_.1 : Value).ownBlock) (.slice Ao15 x238001_1.length co15) x238001_1) ∧ (Kd.R k30 30 w' w.heap.size (fun k_ => some k_ ≠ (s_.2.1 : Value).ownBlock) (.slice Ao16 x238002_1.length co16) x238002_1) ∧ (w'.heap[gb231]? = some (.cells #[.int .i64 0, .slice none 0 0, .slice none 0 0] 28 (0, 0))) ∧ (w'.heap[gb237]? = some (.cells #[.int .i64 x238000_1, .slice Ao15 x238001_1.length co15, .slice Ao16 x238002_1.length co16] 28 (0, 0))) ∧ (w'.heap[s_.2.2]? = some (.cells #[.int .i64 0, .slice none 0 0, .slice none 0 0] 28 (0, 0))) ∧ (w.heap.size ≤ s_.2.2) ∧ (w0.heap.size ≤ s_.2.2) ∧ (g ≠ s_.2.2) ∧ (s_.2.2 ≠ g) ∧ (gb231 ≠ s_.2.2) ∧ (s_.2.2 ≠ gb231) ∧ (gb237 ≠ s_.2.2) ∧ (s_.2.2 ≠ gb237) ∧ (IsS59 w0 w' g s0_0 t243) ∧ (KeepBut w w' g none) ∧ (Below w0.heap.size w0 w')) ?_ ?_
   rotate_left
   ·intro hCont
    refine two_ (i := 4) (j := 9) (Ni := some 22) (Nj := some 5) (ms 12 31) (ms 12 527) rfl rfl rfl rfl (two_of HT_.out (by kernel_rfl)) (by decide) (by decide) (fun K hK => ?_) (fun K hK => ?_)
    rotate_left
    ·skip
     refine box_step ?hg (N := 5) ?hd (cs := #[.int .i64 0, .slice none 0 0, .slice none 0 0]) (t := 28) ?hr ?_; (case hd => rfl); (case hg => rfl); (case hr => (go_simp; done))
     intro gb252 hg w18 hbox hb
     replace HO_238001 := ak (Kd.R_below (rk HO_238001) hb)
     replace HO_238002 := ak (Kd.R_below (rk HO_238002) hb)
     replace HB := ak (below_step (by repeat ((with_reducible exact HB.out))) hb)
     have BK252 := ak (hbox)
     have GW252 := ak ((by rw [hg]; exact (keep_size (w := w) (g := g) (row := none) (by repeat ((with_reducible exact HK.out)))) : w.heap.size ≤ gb252))
     have GE252 := ak ((Nat.le_trans HW0.out (by rw [hg]; exact (keep_size (w := w) (g := g) (row := none) (by repeat ((with_reducible exact HK.out)))) : w.heap.size ≤ gb252) : w0.heap.size ≤ gb252))
     replace HK := ak (KeepBut.trans (by repeat ((with_reducible exact HK.out))) (KeepBut.of_below hb g none) (.inl rfl))
     have NB231_252 := ak ((by rw [hg]; exact Nat.ne_of_lt (blk_lt (bk BK231)) : gb231 ≠ gb252))
     have NB252_231 := ak ((by rw [hg]; exact Nat.ne_of_gt (blk_lt (bk BK231)) : gb252 ≠ gb231))
     replace BK231 := ak (blk_below (bk BK231) hb)
     have NB237_252 := ak ((by rw [hg]; exact Nat.ne_of_lt (blk_lt (bk BK237)) : gb237 ≠ gb252))
     have NB252_237 := ak ((by rw [hg]; exact Nat.ne_of_gt (blk_lt (bk BK237)) : gb252 ≠ gb237))
     replace BK237 := ak (blk_below (bk BK237) hb)
     have NB0_252 := ak ((by rw [hg]; exact Nat.ne_of_lt (IsS59.lt (show IsS59 w0 _ g s0_0 x1001_1 from by repeat ((with_reducible exact HI0.out)))) : g ≠ gb252))
     have NB252_0 := ak ((by rw [hg]; exact Nat.ne_of_gt (IsS59.lt (show IsS59 w0 _ g s0_0 x1001_1 from by repeat ((with_reducible exact HI0.out)))) : gb252 ≠ g))
     replace HI0 := ak (IsS59.below (by repeat ((with_reducible exact HI0.out))) hb)
     clear hb hbox hg
     refine hK.out _ _ ⟨(blk_cell BK237.out 0).trans rfl, (blk_cell BK237.out 1).trans rfl, (blk_cell BK237.out 2).trans rfl⟩ (fun hHeld => ?_)
     clear hK K
     refine norm_ (a' := ?_) ?_ ?_
     rotate_left
     ·show Act.put _ (some 5) _ = _
      simp only [SX]
      rfl
     refine one_ (i := 4) (N := some 22) (ms 12 543) rfl rfl (one_of HT_.out (by kernel_rfl)) (by decide) (fun K hK => ?_)
     refine goes_ Try.func16 (by kernel_rfl) rfl #[.pointer (some ⟨g, 0, none⟩), .agg #[.int .i64 x238000_1, .slice Ao15 x238001_1.length co15]] (by rfl) rfl rfl (by (try simp only [List.map_toArray, List.map_cons, List.map_nil]); rfl) ?_
     with_reducible refine (spec_l30News.calls k1 g s0_0 x1001_1 x238000_1 _ _ x238001_1 t240 t241 t242 t243 w0 _ ?side1 ?side2 ?side3 ?side4 A13.out).mono ?_
     (case side1 => repeat ((with_reducible exact HI0.out)))
     (case side2 => repeat ((with_reducible exact HB.out)))
     (case side3 => exact Kd.C_foot_own (IsS59.apart (show IsS59 w0 _ g s0_0 x1001_1 from by repeat ((with_reducible exact HI0.out))) (rk HO_238001) (by decide)) (fun _ h_ => h_.2))
     (case side4 => exact (Kd.R_reads' HO_238001.out).2.1)
     rintro e w19 ⟨rfl, hi, hb, hk⟩
     refine ⟨_, rfl, ?_⟩
     replace HO_238001 := ak (Kd.R_mono (Kd.R_keep (IsS59.apart (show IsS59 w0 _ g s0_0 x1001_1 from by repeat ((with_reducible exact HI0.out))) (rk HO_238001) (by decide)) hk (fun _ h => h.2)) (fun _ h => h.1))
     replace HO_238002 := ak (Kd.R_mono (Kd.R_keep (IsS59.apart (show IsS59 w0 _ g s0_0 x1001_1 from by repeat ((with_reducible exact HI0.out))) (rk HO_238002) (by decide)) hk (fun _ h => h.2)) (fun _ h => h.1))
     replace BK231 := ak (KeepBut.blk hk (g' := gb231) (o := .cells #[.int .i64 0, .slice none 0 0, .slice none 0 0] 28 (0, 0)) (bk BK231) NB231_0.out (by simp))
     replace BK237 := ak (KeepBut.blk hk (g' := gb237) (o := .cells #[.int .i64 x238000_1, .slice Ao15 x238001_1.length co15, .slice Ao16 x238002_1.length co16] 28 (0, 0)) (bk BK237) NB237_0.out (by simp))
     replace BK252 := ak (KeepBut.blk hk (g' := gb252) (o := .cells #[.int .i64 0, .slice none 0 0, .slice none 0 0] 28 (0, 0)) (bk BK252) NB252_0.out (by simp))
     replace HK := ak (KeepBut.trans (by repeat ((with_reducible exact HK.out))) hk (.inl rfl))
     replace HB := ak (hb)
     replace HI0 := ak (hi)
     (try clear hb)
     (try clear hb2)
     (try clear hk)
     (try clear hi)
     refine hK.out _ _ ⟨(blk_cell BK237.out 0).trans rfl, (blk_cell BK237.out 1).trans rfl, (blk_cell BK237.out 2).trans rfl⟩ (fun hHeld => ?_)
     clear hK K
     refine norm_ (a' := ?_) ?_ ?_
     rotate_left
     ·show Act.put _ (some 22) _ = _
      simp only [SX]
      rfl
     refine one_ (i := 5) (N := some 23) (ms 12 575) rfl rfl (one_of HT_.out (by kernel_rfl)) (by decide) (fun K hK => ?_)
     refine goes_ Try.func8 (by kernel_rfl) rfl #[.agg #[.int .i64 x238000_1, .slice Ao15 x238001_1.length co15, .slice Ao16 x238002_1.length co16], .agg #[.int .i64 t240, .int .i64 t241, .int .i64 t242]] (by rfl) rfl rfl (by (try simp only [List.map_toArray, List.map_cons, List.map_nil]); rfl) ?_
     with_reducible refine (spec_LiveTell.calls k1 x238000_1 _ _ x238001_1 _ _ x238002_1 t240 t241 t242 t244 t245 t248 t251 _ ?side1 ?side2 ?side3 ?side4 A14.out).mono ?_
     (case side1 => repeat (exact (Kd.R_reads' HO_238001.out).2.2))
     (case side2 => exact (Kd.R_reads' HO_238001.out).2.1)
     (case side3 => repeat (exact (Kd.R_reads' HO_238002.out).2.2))
     (case side4 => exact (Kd.R_reads' HO_238002.out).2.1)
     rintro e w20 ⟨v246, v249, rfl, ho0, ho1, hb⟩
     refine ⟨_, rfl, ?_⟩
     have HO247 := ak (Kd.R_lower (Kd.R_new' ho0 (Kd.R_lt (rk HO_238001))) (keep_size (w := w) (g := g) (row := none) (by repeat ((with_reducible exact HK.out)))))
     replace HO_238001 := ak (Kd.R_elder' (rk HO_238001) (Kd.R_base ho0) hb)
     have HO250 := ak (Kd.R_lower (Kd.R_new' ho1 (Kd.R_lt (rk HO_238002))) (keep_size (w := w) (g := g) (row := none) (by repeat ((with_reducible exact HK.out)))))
     replace HO_238002 := ak (Kd.R_elder' (rk HO_238002) (Kd.R_base ho1) hb)
     replace BK231 := ak (blk_below (bk BK231) hb)
     replace BK237 := ak (blk_below (bk BK237) hb)
     replace BK252 := ak (blk_below (bk BK252) hb)
     replace HK := ak (KeepBut.trans (by repeat ((with_reducible exact HK.out))) (KeepBut.of_below hb g none) (.inl rfl))
     replace HB := ak (below_step (by repeat ((with_reducible exact HB.out))) hb)
     replace HI0 := ak (IsS59.below (by repeat ((with_reducible exact HI0.out))) hb)
     (try clear hb)
     (try clear hb2)
     (try clear hk)
     (try clear hi)
     (try clear ho0)
     (try clear ho1)
     refine hK.out _ _ ⟨(blk_cell BK237.out 0).trans rfl, (blk_cell BK237.out 1).trans rfl, (blk_cell BK237.out 2).trans rfl⟩ (fun hHeld => ?_)
     clear hK K
     refine norm_ (a' := ?_) ?_ ?_
     rotate_left
     ·show Act.put _ (some 23) _ = _
      simp only [SX]
      rfl
     refine pu 6 17 ?_ (ms 12 639) rfl rfl HT_ (by kernel_rfl) (fun _ _ _ h => h) (by rfl) ?_ ?_ ?_ ?_
     rotate_left
     ·intro w'
      go_simp
      with_reducible rfl
     rotate_left
     ·simp only [SX]
      rfl
     refine pu 7 24 ?_ (ms 12 767) rfl rfl HT_ (by kernel_rfl) (fun _ _ _ h => h) (by rfl) ?_ ?_ ?_ ?_
     rotate_left
     ·intro w'
      go_simp
      with_reducible rfl
     rotate_left
     ·simp only [SX]
      rfl
     refine pu 8 25 ?_ (ms 12 1023) rfl rfl HT_ (by kernel_rfl) (fun _ _ _ h => h) (by rfl) ?_ ?_ ?_ ?_
     rotate_left
     ·intro w'
      go_simp
      with_reducible rfl
     rotate_left
     ·simp only [SX]
      rfl
     exact norm_ (by simp only [putAll, Act.put, List.setIfInBounds_toArray, List.set_cons_zero, List.set_cons_succ]) (hCont (v246, v249, gb252) _ ⟨hHeld, (by exact Kd.R_mono HO247.out (fun _ hk => hk.2)), (by exact Kd.R_mono HO250.out (fun _ hk => hk.2)), (by exact Kd.R_mono HO_238001.out (fun _ hk => hk.2)), (by exact Kd.R_mono HO_238002.out (fun _ hk => hk.2)), (bk BK231), (bk BK237), (bk BK252), GW252.out, GE252.out, NB0_252.out, NB252_0.out, NB231_252.out, NB252_231.out, NB237_252.out, NB252_237.out, (by repeat ((with_reducible exact HI0.out))), (by repeat ((with_reducible exact HK.out))), (by repeat ((with_reducible exact HB.out)))⟩)
    skip
    refine goes_ Try.func16 (by kernel_rfl) rfl #[.pointer (some ⟨g, 0, none⟩), .agg #[.int .i64 x238000_1, .slice Ao15 x238001_1.length co15]] (by rfl) rfl rfl (by (try simp only [List.map_toArray, List.map_cons, List.map_nil]); rfl) ?_
    with_reducible refine (spec_l30News.calls k1 g s0_0 x1001_1 x238000_1 _ _ x238001_1 t240 t241 t242 t243 w0 _ ?side1 ?side2 ?side3 ?side4 A13.out).mono ?_
    (case side1 => repeat ((with_reducible exact HI0.out)))
    (case side2 => repeat ((with_reducible exact HB.out)))
    (case side3 => exact Kd.C_foot_own (IsS59.apart (show IsS59 w0 _ g s0_0 x1001_1 from by repeat ((with_reducible exact HI0.out))) (rk HO_238001) (by decide)) (fun _ h_ => h_.2))
    (case side4 => exact (Kd.R_reads' HO_238001.out).2.1)
    rintro e w18 ⟨rfl, hi, hb, hk⟩
    refine ⟨_, rfl, ?_⟩
    replace HO_238001 := ak (Kd.R_mono (Kd.R_keep (IsS59.apart (show IsS59 w0 _ g s0_0 x1001_1 from by repeat ((with_reducible exact HI0.out))) (rk HO_238001) (by decide)) hk (fun _ h => h.2)) (fun _ h => h.1))
    replace HO_238002 := ak (Kd.R_mono (Kd.R_keep (IsS59.apart (show IsS59 w0 _ g s0_0 x1001_1 from by repeat ((with_reducible exact HI0.out))) (rk HO_238002) (by decide)) hk (fun _ h => h.2)) (fun _ h => h.1))
    replace BK231 := ak (KeepBut.blk hk (g' := gb231) (o := .cells #[.int .i64 0, .slice none 0 0, .slice none 0 0] 28 (0, 0)) (bk BK231) NB231_0.out (by simp))
    replace BK237 := ak (KeepBut.blk hk (g' := gb237) (o := .cells #[.int .i64 x238000_1, .slice Ao15 x238001_1.length co15, .slice Ao16 x238002_1.length co16] 28 (0, 0)) (bk BK237) NB237_0.out (by simp))
    replace HK := ak (KeepBut.trans (by repeat ((with_reducible exact HK.out))) hk (.inl rfl))
    replace HB := ak (hb)
    replace HI0 := ak (hi)
    (try clear hb)
    (try clear hb2)
    (try clear hk)
    (try clear hi)
    refine hK.out _ _ ⟨(blk_cell BK237.out 0).trans rfl, (blk_cell BK237.out 1).trans rfl, (blk_cell BK237.out 2).trans rfl⟩ (fun hHeld => ?_)
    clear hK K
    refine norm_ (a' := ?_) ?_ ?_
    rotate_left
    ·show Act.put _ (some 22) _ = _
     simp only [SX]
     rfl
    refine two_ (i := 5) (j := 9) (Ni := some 23) (Nj := some 5) (ms 12 63) (ms 12 543) rfl rfl rfl rfl (two_of HT_.out (by kernel_rfl)) (by decide) (by decide) (fun K hK => ?_) (fun K hK => ?_)
    ·skip
     refine goes_ Try.func8 (by kernel_rfl) rfl #[.agg #[.int .i64 x238000_1, .slice Ao15 x238001_1.length co15, .slice Ao16 x238002_1.length co16], .agg #[.int .i64 t240, .int .i64 t241, .int .i64 t242]] (by rfl) rfl rfl (by (try simp only [List.map_toArray, List.map_cons, List.map_nil]); rfl) ?_
     with_reducible refine (spec_LiveTell.calls k1 x238000_1 _ _ x238001_1 _ _ x238002_1 t240 t241 t242 t244 t245 t248 t251 _ ?side1 ?side2 ?side3 ?side4 A14.out).mono ?_
     (case side1 => repeat (exact (Kd.R_reads' HO_238001.out).2.2))
     (case side2 => exact (Kd.R_reads' HO_238001.out).2.1)
     (case side3 => repeat (exact (Kd.R_reads' HO_238002.out).2.2))
     (case side4 => exact (Kd.R_reads' HO_238002.out).2.1)
     rintro e w19 ⟨v246, v249, rfl, ho0, ho1, hb⟩
     refine ⟨_, rfl, ?_⟩
     have HO247 := ak (Kd.R_lower (Kd.R_new' ho0 (Kd.R_lt (rk HO_238001))) (keep_size (w := w) (g := g) (row := none) (by repeat ((with_reducible exact HK.out)))))
     replace HO_238001 := ak (Kd.R_elder' (rk HO_238001) (Kd.R_base ho0) hb)
     have HO250 := ak (Kd.R_lower (Kd.R_new' ho1 (Kd.R_lt (rk HO_238002))) (keep_size (w := w) (g := g) (row := none) (by repeat ((with_reducible exact HK.out)))))
     replace HO_238002 := ak (Kd.R_elder' (rk HO_238002) (Kd.R_base ho1) hb)
     replace BK231 := ak (blk_below (bk BK231) hb)
     replace BK237 := ak (blk_below (bk BK237) hb)
     replace HK := ak (KeepBut.trans (by repeat ((with_reducible exact HK.out))) (KeepBut.of_below hb g none) (.inl rfl))
     replace HB := ak (below_step (by repeat ((with_reducible exact HB.out))) hb)
     replace HI0 := ak (IsS59.below (by repeat ((with_reducible exact HI0.out))) hb)
     (try clear hb)
     (try clear hb2)
     (try clear hk)
     (try clear hi)
     (try clear ho0)
     (try clear ho1)
     refine hK.out _ _ ⟨(blk_cell BK237.out 0).trans rfl, (blk_cell BK237.out 1).trans rfl, (blk_cell BK237.out 2).trans rfl⟩ (fun hHeld => ?_)
     clear hK K
     refine norm_ (a' := ?_) ?_ ?_
     rotate_left
     ·show Act.put _ (some 23) _ = _
      simp only [SX]
      rfl
     refine pu 6 17 ?_ (ms 12 127) rfl rfl HT_ (by kernel_rfl) (fun _ _ _ h => h) (by rfl) ?_ ?_ ?_ ?_
     rotate_left
     ·intro w'
      go_simp
      with_reducible rfl
     rotate_left
     ·simp only [SX]
      rfl
     refine pu 7 24 ?_ (ms 12 255) rfl rfl HT_ (by kernel_rfl) (fun _ _ _ h => h) (by rfl) ?_ ?_ ?_ ?_
     rotate_left
     ·intro w'
      go_simp
      with_reducible rfl
     rotate_left
     ·simp only [SX]
      rfl
     refine pu 8 25 ?_ (ms 12 511) rfl rfl HT_ (by kernel_rfl) (fun _ _ _ h => h) (by rfl) ?_ ?_ ?_ ?_
     rotate_left
     ·intro w'
      go_simp
      with_reducible rfl
     rotate_left
     ·simp only [SX]
      rfl
     refine one_ (i := 9) (N := some 5) (ms 12 1023) rfl rfl (one_of HT_.out (by kernel_rfl)) (by decide) (fun K hK => ?_)
     refine box_step ?hg (N := 5) ?hd (cs := #[.int .i64 0, .slice none 0 0, .slice none 0 0]) (t := 28) ?hr ?_; (case hd => rfl); (case hg => rfl); (case hr => (go_simp; done))
     intro gb252 hg w20 hbox hb
     replace HO_238001 := ak (Kd.R_below (rk HO_238001) hb)
     replace HO_238002 := ak (Kd.R_below (rk HO_238002) hb)
     replace HO247 := ak (Kd.R_below (rk HO247) hb)
     replace HO250 := ak (Kd.R_below (rk HO250) hb)
     replace HB := ak (below_step (by repeat ((with_reducible exact HB.out))) hb)
     have BK252 := ak (hbox)
     have GW252 := ak ((by rw [hg]; exact (keep_size (w := w) (g := g) (row := none) (by repeat ((with_reducible exact HK.out)))) : w.heap.size ≤ gb252))
     have GE252 := ak ((Nat.le_trans HW0.out (by rw [hg]; exact (keep_size (w := w) (g := g) (row := none) (by repeat ((with_reducible exact HK.out)))) : w.heap.size ≤ gb252) : w0.heap.size ≤ gb252))
     replace HK := ak (KeepBut.trans (by repeat ((with_reducible exact HK.out))) (KeepBut.of_below hb g none) (.inl rfl))
     have NB231_252 := ak ((by rw [hg]; exact Nat.ne_of_lt (blk_lt (bk BK231)) : gb231 ≠ gb252))
     have NB252_231 := ak ((by rw [hg]; exact Nat.ne_of_gt (blk_lt (bk BK231)) : gb252 ≠ gb231))
     replace BK231 := ak (blk_below (bk BK231) hb)
     have NB237_252 := ak ((by rw [hg]; exact Nat.ne_of_lt (blk_lt (bk BK237)) : gb237 ≠ gb252))
     have NB252_237 := ak ((by rw [hg]; exact Nat.ne_of_gt (blk_lt (bk BK237)) : gb252 ≠ gb237))
     replace BK237 := ak (blk_below (bk BK237) hb)
     have NB0_252 := ak ((by rw [hg]; exact Nat.ne_of_lt (IsS59.lt (show IsS59 w0 _ g s0_0 t243 from by repeat ((with_reducible exact HI0.out)))) : g ≠ gb252))
     have NB252_0 := ak ((by rw [hg]; exact Nat.ne_of_gt (IsS59.lt (show IsS59 w0 _ g s0_0 t243 from by repeat ((with_reducible exact HI0.out)))) : gb252 ≠ g))
     replace HI0 := ak (IsS59.below (by repeat ((with_reducible exact HI0.out))) hb)
     clear hb hbox hg
     refine hK.out _ _ ⟨(blk_cell BK237.out 0).trans rfl, (blk_cell BK237.out 1).trans rfl, (blk_cell BK237.out 2).trans rfl⟩ (fun hHeld => ?_)
     clear hK K
     refine norm_ (a' := ?_) ?_ ?_
     rotate_left
     ·show Act.put _ (some 5) _ = _
      simp only [SX]
      rfl
     exact norm_ (by simp only [putAll, Act.put, List.setIfInBounds_toArray, List.set_cons_zero, List.set_cons_succ]) (hCont (v246, v249, gb252) _ ⟨hHeld, (by exact Kd.R_mono HO247.out (fun _ hk => hk.2)), (by exact Kd.R_mono HO250.out (fun _ hk => hk.2)), (by exact Kd.R_mono HO_238001.out (fun _ hk => hk.2)), (by exact Kd.R_mono HO_238002.out (fun _ hk => hk.2)), (bk BK231), (bk BK237), (bk BK252), GW252.out, GE252.out, NB0_252.out, NB252_0.out, NB231_252.out, NB252_231.out, NB237_252.out, NB252_237.out, (by repeat ((with_reducible exact HI0.out))), (by repeat ((with_reducible exact HK.out))), (by repeat ((with_reducible exact HB.out)))⟩)
    skip
    refine box_step ?hg (N := 5) ?hd (cs := #[.int .i64 0, .slice none 0 0, .slice none 0 0]) (t := 28) ?hr ?_; (case hd => rfl); (case hg => rfl); (case hr => (go_simp; done))
    intro gb252 hg w19 hbox hb
    replace HO_238001 := ak (Kd.R_below (rk HO_238001) hb)
    replace HO_238002 := ak (Kd.R_below (rk HO_238002) hb)
    replace HB := ak (below_step (by repeat ((with_reducible exact HB.out))) hb)
    have BK252 := ak (hbox)
    have GW252 := ak ((by rw [hg]; exact (keep_size (w := w) (g := g) (row := none) (by repeat ((with_reducible exact HK.out)))) : w.heap.size ≤ gb252))
    have GE252 := ak ((Nat.le_trans HW0.out (by rw [hg]; exact (keep_size (w := w) (g := g) (row := none) (by repeat ((with_reducible exact HK.out)))) : w.heap.size ≤ gb252) : w0.heap.size ≤ gb252))
    replace HK := ak (KeepBut.trans (by repeat ((with_reducible exact HK.out))) (KeepBut.of_below hb g none) (.inl rfl))
    have NB231_252 := ak ((by rw [hg]; exact Nat.ne_of_lt (blk_lt (bk BK231)) : gb231 ≠ gb252))
    have NB252_231 := ak ((by rw [hg]; exact Nat.ne_of_gt (blk_lt (bk BK231)) : gb252 ≠ gb231))
    replace BK231 := ak (blk_below (bk BK231) hb)
    have NB237_252 := ak ((by rw [hg]; exact Nat.ne_of_lt (blk_lt (bk BK237)) : gb237 ≠ gb252))
    have NB252_237 := ak ((by rw [hg]; exact Nat.ne_of_gt (blk_lt (bk BK237)) : gb252 ≠ gb237))
    replace BK237 := ak (blk_below (bk BK237) hb)
    have NB0_252 := ak ((by rw [hg]; exact Nat.ne_of_lt (IsS59.lt (show IsS59 w0 _ g s0_0 t243 from by repeat ((with_reducible exact HI0.out)))) : g ≠ gb252))
    have NB252_0 := ak ((by rw [hg]; exact Nat.ne_of_gt (IsS59.lt (show IsS59 w0 _ g s0_0 t243 from by repeat ((with_reducible exact HI0.out)))) : gb252 ≠ g))
    replace HI0 := ak (IsS59.below (by repeat ((with_reducible exact HI0.out))) hb)
    clear hb hbox hg
    refine hK.out _ _ ⟨(blk_cell BK237.out 0).trans rfl, (blk_cell BK237.out 1).trans rfl, (blk_cell BK237.out 2).trans rfl⟩ (fun hHeld => ?_)
    clear hK K
    refine norm_ (a' := ?_) ?_ ?_
    rotate_left
    ·show Act.put _ (some 5) _ = _
     simp only [SX]
     rfl
    refine one_ (i := 5) (N := some 23) (ms 12 575) rfl rfl (one_of HT_.out (by kernel_rfl)) (by decide) (fun K hK => ?_)
    refine goes_ Try.func8 (by kernel_rfl) rfl #[.agg #[.int .i64 x238000_1, .slice Ao15 x238001_1.length co15, .slice Ao16 x238002_1.length co16], .agg #[.int .i64 t240, .int .i64 t241, .int .i64 t242]] (by rfl) rfl rfl (by (try simp only [List.map_toArray, List.map_cons, List.map_nil]); rfl) ?_
    with_reducible refine (spec_LiveTell.calls k1 x238000_1 _ _ x238001_1 _ _ x238002_1 t240 t241 t242 t244 t245 t248 t251 _ ?side1 ?side2 ?side3 ?side4 A14.out).mono ?_
    (case side1 => repeat (exact (Kd.R_reads' HO_238001.out).2.2))
    (case side2 => exact (Kd.R_reads' HO_238001.out).2.1)
    (case side3 => repeat (exact (Kd.R_reads' HO_238002.out).2.2))
    (case side4 => exact (Kd.R_reads' HO_238002.out).2.1)
    rintro e w20 ⟨v246, v249, rfl, ho0, ho1, hb⟩
    refine ⟨_, rfl, ?_⟩
    have HO247 := ak (Kd.R_lower (Kd.R_new' ho0 (Kd.R_lt (rk HO_238001))) (keep_size (w := w) (g := g) (row := none) (by repeat ((with_reducible exact HK.out)))))
    replace HO_238001 := ak (Kd.R_elder' (rk HO_238001) (Kd.R_base ho0) hb)
    have HO250 := ak (Kd.R_lower (Kd.R_new' ho1 (Kd.R_lt (rk HO_238002))) (keep_size (w := w) (g := g) (row := none) (by repeat ((with_reducible exact HK.out)))))
    replace HO_238002 := ak (Kd.R_elder' (rk HO_238002) (Kd.R_base ho1) hb)
    replace BK231 := ak (blk_below (bk BK231) hb)
    replace BK237 := ak (blk_below (bk BK237) hb)
    replace BK252 := ak (blk_below (bk BK252) hb)
    replace HK := ak (KeepBut.trans (by repeat ((with_reducible exact HK.out))) (KeepBut.of_below hb g none) (.inl rfl))
    replace HB := ak (below_step (by repeat ((with_reducible exact HB.out))) hb)
    replace HI0 := ak (IsS59.below (by repeat ((with_reducible exact HI0.out))) hb)
    (try clear hb)
    (try clear hb2)
    (try clear hk)
    (try clear hi)
    (try clear ho0)
    (try clear ho1)
    refine hK.out _ _ ⟨(blk_cell BK237.out 0).trans rfl, (blk_cell BK237.out 1).trans rfl, (blk_cell BK237.out 2).trans rfl⟩ (fun hHeld => ?_)
    clear hK K
    refine norm_ (a' := ?_) ?_ ?_
    rotate_left
    ·show Act.put _ (some 23) _ = _
     simp only [SX]
     rfl
    refine pu 6 17 ?_ (ms 12 639) rfl rfl HT_ (by kernel_rfl) (fun _ _ _ h => h) (by rfl) ?_ ?_ ?_ ?_
    rotate_left
    ·intro w'
     go_simp
     with_reducible rfl
    rotate_left
    ·simp only [SX]
     rfl
    refine pu 7 24 ?_ (ms 12 767) rfl rfl HT_ (by kernel_rfl) (fun _ _ _ h => h) (by rfl) ?_ ?_ ?_ ?_
    rotate_left
    ·intro w'
     go_simp
     with_reducible rfl
    rotate_left
    ·simp only [SX]
     rfl
    refine pu 8 25 ?_ (ms 12 1023) rfl rfl HT_ (by kernel_rfl) (fun _ _ _ h => h) (by rfl) ?_ ?_ ?_ ?_
    rotate_left
    ·intro w'
     go_simp
     with_reducible rfl
    rotate_left
    ·simp only [SX]
     rfl
    exact norm_ (by simp only [putAll, Act.put, List.setIfInBounds_toArray, List.set_cons_zero, List.set_cons_succ]) (hCont (v246, v249, gb252) _ ⟨hHeld, (by exact Kd.R_mono HO247.out (fun _ hk => hk.2)), (by exact Kd.R_mono HO250.out (fun _ hk => hk.2)), (by exact Kd.R_mono HO_238001.out (fun _ hk => hk.2)), (by exact Kd.R_mono HO_238002.out (fun _ hk => hk.2)), (bk BK231), (bk BK237), (bk BK252), GW252.out, GE252.out, NB0_252.out, NB252_0.out, NB231_252.out, NB252_231.out, NB237_252.out, NB252_237.out, (by repeat ((with_reducible exact HI0.out))), (by repeat ((with_reducible exact HK.out))), (by repeat ((with_reducible exact HB.out)))⟩)
   rintro ⟨v246, v249, gb252⟩ w21 ⟨hS_, h0_, h1_, h2_, h3_, h4_, h5_, h6_, h7_, h8_, h9_, h10_, h11_, h12_, h13_, h14_, h15_, h16_, h17_⟩
   have HO247 : Aside0 (Kd.R k65 65 w21 w.heap.size (fun k_ => some k_ ≠ (.slice Ao15 x238001_1.length co15 : Value).ownBlock) v246 t245) := ⟨h0_⟩
   have HO250 : Aside0 (Kd.R k30 30 w21 w.heap.size (fun k_ => some k_ ≠ (.slice Ao16 x238002_1.length co16 : Value).ownBlock) v249 t248) := ⟨h1_⟩
   replace HO_238001 : Aside0 (Kd.R k65 65 w21 w.heap.size (fun k_ => some k_ ≠ (v246 : Value).ownBlock) (.slice Ao15 x238001_1.length co15) x238001_1) := ⟨h2_⟩
   replace HO_238002 : Aside0 (Kd.R k30 30 w21 w.heap.size (fun k_ => some k_ ≠ (v249 : Value).ownBlock) (.slice Ao16 x238002_1.length co16) x238002_1) := ⟨h3_⟩
   replace BK231 : Aside0 (w21.heap[gb231]? = some (.cells #[.int .i64 0, .slice none 0 0, .slice none 0 0] 28 (0, 0))) := ⟨h4_⟩
   replace BK237 : Aside0 (w21.heap[gb237]? = some (.cells #[.int .i64 x238000_1, .slice Ao15 x238001_1.length co15, .slice Ao16 x238002_1.length co16] 28 (0, 0))) := ⟨h5_⟩
   have BK252 : Aside0 (w21.heap[gb252]? = some (.cells #[.int .i64 0, .slice none 0 0, .slice none 0 0] 28 (0, 0))) := ⟨h6_⟩
   have GW252 : Aside0 (w.heap.size ≤ gb252) := ⟨h7_⟩
   have GE252 : Aside0 (w0.heap.size ≤ gb252) := ⟨h8_⟩
   have NB0_252 : Aside0 (g ≠ gb252) := ⟨h9_⟩
   have NB252_0 : Aside0 (gb252 ≠ g) := ⟨h10_⟩
   have NB231_252 : Aside0 (gb231 ≠ gb252) := ⟨h11_⟩
   have NB252_231 : Aside0 (gb252 ≠ gb231) := ⟨h12_⟩
   have NB237_252 : Aside0 (gb237 ≠ gb252) := ⟨h13_⟩
   have NB252_237 : Aside0 (gb252 ≠ gb237) := ⟨h14_⟩
   replace HI0 : Aside0 (IsS59 w0 w21 g s0_0 t243) := ⟨h15_⟩
   replace HK : Aside0 (KeepBut w w21 g none) := ⟨h16_⟩
   replace HB : Aside0 (Below w0.heap.size w0 w21) := ⟨h17_⟩
   clear h0_ h1_ h2_ h3_ h4_ h5_ h6_ h7_ h8_ h9_ h10_ h11_ h12_ h13_ h14_ h15_ h16_ h17_
   have hHeld : w21.cell? ⟨gb237, 0, none⟩ = some (.int .i64 x238000_1) ∧ w21.cell? ⟨gb237, 1, none⟩ = some (.slice Ao15 x238001_1.length co15) ∧ w21.cell? ⟨gb237, 2, none⟩ = some (.slice Ao16 x238002_1.length co16) := hS_
   obtain ⟨Ao23, co23, eo23⟩ := Kd.R_slice HO247.out
   (subst eo23)
   obtain ⟨Ao25, co25, eo25⟩ := Kd.R_slice HO250.out
   (subst eo25)
   refine norm_ (a' := ?_) ?_ ?_
   rotate_left
   ·simp only [putAll, Act.put, List.setIfInBounds_toArray, List.set_cons_zero, List.set_cons_succ]
    rfl
   refine one_ (i := 10) (N := none) (ms 12 2047) rfl rfl (one_of HT_.out (by kernel_rfl)) (by decide) (fun K hK => ?_)
   have hs22 : w21.cell? ⟨gb252, 0, none⟩ = some (.int .i64 0) := (blk_cell BK252.out 0).trans rfl
   have hfs22 := blk_frozen BK252.out 0
   have hns22_0 := NB231_252.out
   have hns22_1 := NB237_252.out
   have hms22_0 := NB252_231.out
   have hms22_1 := NB252_237.out
   have hs24 : w21.cell? ⟨gb252, 1, none⟩ = some (.slice none 0 0) := (blk_cell BK252.out 1).trans rfl
   have hfs24 := blk_frozen BK252.out 1
   have hns24_0 := NB231_252.out
   have hns24_1 := NB237_252.out
   have hms24_0 := NB252_231.out
   have hms24_1 := NB252_237.out
   have hs26 : w21.cell? ⟨gb252, 2, none⟩ = some (.slice none 0 0) := (blk_cell BK252.out 2).trans rfl
   have hfs26 := blk_frozen BK252.out 2
   have hns26_0 := NB231_252.out
   have hns26_1 := NB237_252.out
   have hms26_0 := NB252_231.out
   have hms26_1 := NB252_237.out
   refine skip_ (w1 := ?_) (by rfl) rfl ?_ ?_
   rotate_left
   ·go_simp
    rfl
   refine hK.out _ _ ⟨((cell_far (p := ⟨gb252, _, none⟩) NB237_252.out _).trans (((cell_far (p := ⟨gb252, _, none⟩) NB237_252.out _).trans (((cell_far (p := ⟨gb252, _, none⟩) NB237_252.out _).trans (hHeld.1)))))), ((cell_far (p := ⟨gb252, _, none⟩) NB237_252.out _).trans (((cell_far (p := ⟨gb252, _, none⟩) NB237_252.out _).trans (((cell_far (p := ⟨gb252, _, none⟩) NB237_252.out _).trans (hHeld.2.1)))))), ((cell_far (p := ⟨gb252, _, none⟩) NB237_252.out _).trans (((cell_far (p := ⟨gb252, _, none⟩) NB237_252.out _).trans (((cell_far (p := ⟨gb252, _, none⟩) NB237_252.out _).trans (hHeld.2.2))))))⟩ (fun hHeld => ?_)
   clear hK K
   refine pu 11 6 ?_ (ms 12 4095) rfl rfl HT_ (by kernel_rfl) (fun _ _ _ h => h) (by rfl) ?_ ?_ ?_ ?_
   rotate_left
   ·intro w'
    go_simp
    with_reducible rfl
   rotate_left
   ·simp only [SX]
    rfl
   refine done_ (done_of HT_.out (by kernel_rfl)) ?_
   have hnb27 := NB252_231.out
   have hnc27 := NB231_252.out
   have hnb28 := NB252_237.out
   have hnc28 := NB237_252.out
   have hnb29 := NB252_0.out
   have hnc29 := NB0_252.out
   have hcz30_0 := bc w21 BK252 0 (.int .i64 0) rfl
   have hcz30_1 := bc w21 BK252 1 (.slice none 0 0) rfl
   have hcz30_2 := bc w21 BK252 2 (.slice none 0 0) rfl
   have hfz30_0 := fz BK252 0
   have hfz30_1 := fz BK252 1
   have hfz30_2 := fz BK252 2
   have hnb31 := NB237_231.out
   have hnc31 := NB231_237.out
   have hnb32 := NB237_0.out
   have hnc32 := NB0_237.out
   have hcz33_0 := bc w21 BK237 0 (.int .i64 x238000_1) rfl
   have hcz33_1 := bc w21 BK237 1 (.slice Ao15 x238001_1.length co15) rfl
   have hcz33_2 := bc w21 BK237 2 (.slice Ao16 x238002_1.length co16) rfl
   have hfz33_0 := fz BK237 0
   have hfz33_1 := fz BK237 1
   have hfz33_2 := fz BK237 2
   try go_wp2
   go_roundg k1
   case measure => have := HK1.out; omega
   case rel => exact ⟨(wrap64 (x4_1 - 1)), (t243), (t244), (t245), (t248), (.slice Ao23 t245.length co23), (.slice Ao25 t248.length co25), (by rfl), H', ⟨by have := HK1.out; omega⟩, ⟨by exact Kd.R_mono (Kd.R_far (p := ⟨gb237, 2, none⟩) (Kd.R_far (p := ⟨gb237, 1, none⟩) (Kd.R_far (p := ⟨gb237, 0, none⟩) (Kd.R_far (p := ⟨gb252, 2, none⟩) (Kd.R_far (p := ⟨gb252, 1, none⟩) (Kd.R_far (p := ⟨gb252, 0, none⟩) (Kd.R_types (Kd.R_types HO247.out BK252.out (by decide)) BK237.out (by decide)) (fun _ hk => hk.1.2) (.int .i64 t244)) (fun _ hk => hk.1.2) (.slice Ao23 t245.length co23)) (fun _ hk => hk.1.2) (.slice Ao25 t248.length co25)) (fun _ hk => hk.2) (.int .i64 t244)) (fun _ hk => hk.2) (.slice Ao23 t245.length co23)) (fun _ hk => hk.2) (.slice Ao25 t248.length co25)) (fun _ hk => trivial)⟩, ⟨by exact Kd.R_mono (Kd.R_far (p := ⟨gb237, 2, none⟩) (Kd.R_far (p := ⟨gb237, 1, none⟩) (Kd.R_far (p := ⟨gb237, 0, none⟩) (Kd.R_far (p := ⟨gb252, 2, none⟩) (Kd.R_far (p := ⟨gb252, 1, none⟩) (Kd.R_far (p := ⟨gb252, 0, none⟩) (Kd.R_types (Kd.R_types HO250.out BK252.out (by decide)) BK237.out (by decide)) (fun _ hk => hk.1.2) (.int .i64 t244)) (fun _ hk => hk.1.2) (.slice Ao23 t245.length co23)) (fun _ hk => hk.1.2) (.slice Ao25 t248.length co25)) (fun _ hk => hk.2) (.int .i64 t244)) (fun _ hk => hk.2) (.slice Ao23 t245.length co23)) (fun _ hk => hk.2) (.slice Ao25 t248.length co25)) (fun _ hk => trivial)⟩, ⟨by refine blk_far ?_ NB231_237.out _; refine blk_far ?_ NB231_237.out _; refine blk_far ?_ NB231_237.out _; refine blk_far ?_ NB231_252.out _; refine blk_far ?_ NB231_252.out _; refine blk_far ?_ NB231_252.out _; exact BK231.out⟩, ⟨by refine blk_put (cs := #[.int .i64 t244, .slice Ao23 t245.length co23, .slice Ao16 x238002_1.length co16]) ?_ 2 _ rfl; refine blk_put (cs := #[.int .i64 t244, .slice Ao15 x238001_1.length co15, .slice Ao16 x238002_1.length co16]) ?_ 1 _ rfl; refine blk_put (cs := #[.int .i64 x238000_1, .slice Ao15 x238001_1.length co15, .slice Ao16 x238002_1.length co16]) ?_ 0 _ rfl; refine blk_far ?_ NB237_252.out _; refine blk_far ?_ NB237_252.out _; refine blk_far ?_ NB237_252.out _; exact BK237.out⟩, ⟨by repeat ((with_reducible first | exact HI0.out | refine IsS59.far ?_ NB0_237.out _ | refine IsS59.far ?_ NB0_252.out _))⟩, ⟨by repeat ((with_reducible first | exact HK.out | refine keep_far ?_ GW237.out _ | refine keep_far ?_ GW252.out _))⟩, ⟨by repeat ((with_reducible first | exact HB.out | refine below_set ?_ GE237.out | refine below_set ?_ GE252.out))⟩⟩
  rw [if_neg c12] at H
  have c12b0 : decide (0 < x4_1) = false := decide_eq_false c12
  clear c12
  by_cases c34 : (x238002_1.length : Int) > 0
  rotate_left
  ·rw [if_neg c34] at H
   have c34b0 : decide (0 < (x238002_1.length : Int)) = false := decide_eq_false c34
   have c34b1 : decide (0 < x238002_1.length) = false := decide_eq_false (by omega)
   clear c34
   replace H := Option.bind_eq_some_iff.mp H
   obtain ⟨⟨t288, t289, t292⟩, A990, H⟩ := H
   have A99 := ak A990
   clear A990
   simp only [Option.some.injEq, Prod.mk.injEq] at H
   obtain ⟨rfl, rfl, rfl, rfl⟩ := H
   have hnb100 := NB237_231.out
   have hnc100 := NB231_237.out
   have hnb101 := NB237_0.out
   have hnc101 := NB0_237.out
   have hcz102_0 := bc wr BK237 0 (.int .i64 x238000_1) rfl
   have hcz102_1 := bc wr BK237 1 (u238001) rfl
   have hcz102_2 := bc wr BK237 2 (u238002) rfl
   have hfz102_0 := fz BK237 0
   have hfz102_1 := fz BK237 1
   have hfz102_2 := fz BK237 2
   obtain ⟨Ao103, co103, eo103⟩ := Kd.R_slice HO_238002.out
   subst eo103
   obtain ⟨Ao104, co104, eo104⟩ := Kd.R_slice HO_238001.out
   subst eo104
   go_wp2_with (((with_reducible refine gate_callee (f := 23) rfl ?_); refine goesL_ (some 61) rfl rfl Try.func23 (by kernel_rfl) rfl #[.agg #[.int .i64 x238000_1, .slice Ao104 x238001_1.length co104, .slice Ao103 x238002_1.length co103]] rfl (by (try simp only [List.map_toArray, List.map_cons, List.map_nil]); rfl) ?_; (with_reducible refine (spec_l16Copy.calls x238000_1 _ _ x238001_1 _ _ x238002_1 t288 t289 t292 _ ?side1 ?side2 ?side3 ?side4 A99.out).mono ?_); (case side1 => repeat (exact (Kd.R_reads' HO_238001.out).2.2)); (case side2 => exact (Kd.R_reads' HO_238001.out).2.1); (case side3 => repeat (exact (Kd.R_reads' HO_238002.out).2.2)); (case side4 => exact (Kd.R_reads' HO_238002.out).2.1); rintro e w105 ⟨v290, v293, rfl, ho0, ho1, hb⟩; refine ⟨_, rfl, ?_⟩; have HO291 := ak (Kd.R_lower (Kd.R_new' ho0 (Kd.R_lt (rk HO_238001))) (keep_size (w := w) (g := g) (row := none) (by repeat ((with_reducible exact HK.out))))); replace HO_238001 := ak (Kd.R_elder' (rk HO_238001) (Kd.R_base ho0) hb); have HO294 := ak (Kd.R_lower (Kd.R_new' ho1 (Kd.R_lt (rk HO_238002))) (keep_size (w := w) (g := g) (row := none) (by repeat ((with_reducible exact HK.out))))); replace HO_238002 := ak (Kd.R_elder' (rk HO_238002) (Kd.R_base ho1) hb); replace BK231 := ak (blk_below (bk BK231) hb); replace BK237 := ak (blk_below (bk BK237) hb); replace HK := ak (KeepBut.trans (by repeat ((with_reducible exact HK.out))) (KeepBut.of_below hb g none) (.inl rfl)); replace HB := ak (below_step (by repeat ((with_reducible exact HB.out))) hb); replace HI0 := ak (IsS59.below (by repeat ((with_reducible exact HI0.out))) hb); (try clear hb); (try clear hb2); (try clear hk); (try clear hi); (try clear ho0); (try clear ho1); have hnb106 := NB231_0.out; have hnc106 := NB0_231.out; have hcz107_0 := bc w105 BK231 0 (.int .i64 0) rfl; have hcz107_1 := bc w105 BK231 1 (.slice none 0 0) rfl; have hcz107_2 := bc w105 BK231 2 (.slice none 0 0) rfl; have hfz107_0 := fz BK231 0; have hfz107_1 := fz BK231 1; have hfz107_2 := fz BK231 2; obtain ⟨Ao108, co108, eo108⟩ := Kd.R_slice HO291.out; subst eo108; obtain ⟨Ao109, co109, eo109⟩ := Kd.R_slice HO294.out; subst eo109))
   refine bodyPost_ret (results_cell_row rfl _ _ gb231 28 #[.int .i64 t288, .slice Ao108 t289.length co108, .slice Ao109 t292.length co109] (0, 0) _ rfl (by refine blk_put (cs := #[.int .i64 t288, .slice Ao108 t289.length co108, .slice none 0 0]) ?_ 2 _ rfl; refine blk_put (cs := #[.int .i64 t288, .slice none 0 0, .slice none 0 0]) ?_ 1 _ rfl; refine blk_put (cs := #[.int .i64 0, .slice none 0 0, .slice none 0 0]) ?_ 0 _ rfl; exact BK231.out) Try.underlying28 rfl (by kernel_rfl)) rfl ?_
   exact ⟨_, _, by rfl, by exact Kd.R_mono (Kd.R_far (p := ⟨gb231, 2, none⟩) (Kd.R_far (p := ⟨gb231, 1, none⟩) (Kd.R_far (p := ⟨gb231, 0, none⟩) (Kd.R_types HO291.out BK231.out (by decide)) (fun _ hk => hk.2) (.int .i64 t288)) (fun _ hk => hk.2) (.slice Ao108 t289.length co108)) (fun _ hk => hk.2) (.slice Ao109 t292.length co109)) (fun _ hk => trivial), by exact Kd.R_mono (Kd.R_far (p := ⟨gb231, 2, none⟩) (Kd.R_far (p := ⟨gb231, 1, none⟩) (Kd.R_far (p := ⟨gb231, 0, none⟩) (Kd.R_types HO294.out BK231.out (by decide)) (fun _ hk => hk.2) (.int .i64 t288)) (fun _ hk => hk.2) (.slice Ao108 t289.length co108)) (fun _ hk => hk.2) (.slice Ao109 t292.length co109)) (fun _ hk => trivial), by repeat ((with_reducible first | exact HI0.out | refine IsS59.far ?_ NB0_231.out _)), by repeat ((with_reducible first | exact HB.out | refine below_set ?_ GE231.out)), by repeat ((with_reducible first | exact HK.out | refine keep_far ?_ GW231.out _))⟩
  rw [if_pos c34] at H
  have c34b0 : decide (0 < (x238002_1.length : Int)) = true := decide_eq_true c34
  have c34b1 : decide (0 < x238002_1.length) = true := decide_eq_true (by omega)
  clear c34
  replace H := Option.bind_eq_some_iff.mp H
  obtain ⟨⟨t253, t254⟩, A350, H⟩ := H
  have A35 := ak A350
  clear A350
  replace H := Option.bind_eq_some_iff.mp H
  obtain ⟨⟨t255, t256⟩, A360, H⟩ := H
  have A36 := ak A360
  clear A360
  by_cases c37 : t255 = 0
  ·rw [if_pos c37] at H
   have c37b0 : (t255 == 0) = true := beq_iff_eq.mpr c37
   have c37b1 : (t255 != 0) = false := bne_eq_false_iff_eq.mpr c37
   clear c37
   obtain ⟨y257, hy257⟩ : ∃ y_ : List Int, y_ = (([(-2), 100] : List Int)) := ⟨_, rfl⟩
   replace H : ((spec_l30Rd_one.f k1 s0_0 t256 y257).bind fun bt260 => (if 0 ≤ t253 then (if t253 < (x238002_1.length : Int) then ((spec_l16Copy.f x238000_1 x238001_1 (x238002_1.set (t253 : Int).toNat (⟨(rd_T30 x238002_1 t253).f0, (rd_T30 x238002_1 t253).f1, bt260.1⟩ : S30))).bind fun bt263 => (some (bt263.1, bt263.2.1, bt263.2.2, bt260.2))) else (none)) else (none))) = some (r1, r2, r3, r4) := by (rw [hy257]; with_reducible exact H)
   have Ny257 := ak hy257
   clear hy257
   replace H := Option.bind_eq_some_iff.mp H
   obtain ⟨⟨t260, t261⟩, A380, H⟩ := H
   have A38 := ak A380
   clear A380
   by_cases c39 : 0 ≤ t253
   rotate_left
   ·rw [if_neg c39] at H
    exact absurd H (by simp)
   rw [if_pos c39] at H
   have c39b0 : decide (0 ≤ t253) = true := decide_eq_true c39
   clear c39
   by_cases c40 : t253 < (x238002_1.length : Int)
   rotate_left
   ·rw [if_neg c40] at H
    exact absurd H (by simp)
   rw [if_pos c40] at H
   have c40b0 : decide (t253 < (x238002_1.length : Int)) = true := decide_eq_true c40
   clear c40
   obtain ⟨y262, hy262⟩ : ∃ y_ : List (S30), y_ = (x238002_1.set (t253 : Int).toNat (⟨(rd_T30 x238002_1 t253).f0, (rd_T30 x238002_1 t253).f1, t260⟩ : S30)) := ⟨_, rfl⟩
   replace H : ((spec_l16Copy.f x238000_1 x238001_1 y262).bind fun bt263 => (some (bt263.1, bt263.2.1, bt263.2.2, t261))) = some (r1, r2, r3, r4) := by (rw [hy262]; with_reducible exact H)
   have Ny262 := ak hy262
   clear hy262
   replace H := Option.bind_eq_some_iff.mp H
   obtain ⟨⟨t263, t264, t267⟩, A420, H⟩ := H
   have A42 := ak A420
   clear A420
   simp only [Option.some.injEq, Prod.mk.injEq] at H
   obtain ⟨rfl, rfl, rfl, rfl⟩ := H
   have hnb43 := NB237_231.out
   have hnc43 := NB231_237.out
   have hnb44 := NB237_0.out
   have hnc44 := NB0_237.out
   have hcz45_0 := bc wr BK237 0 (.int .i64 x238000_1) rfl
   have hcz45_1 := bc wr BK237 1 (u238001) rfl
   have hcz45_2 := bc wr BK237 2 (u238002) rfl
   have hfz45_0 := fz BK237 0
   have hfz45_1 := fz BK237 1
   have hfz45_2 := fz BK237 2
   obtain ⟨Ao46, co46, eo46⟩ := Kd.R_slice HO_238002.out
   subst eo46
   try go_wp2_with (first | ((with_reducible refine gate_callee (f := 27) rfl ?_); refine goesL_ (some 35) rfl rfl Try.func27 (by kernel_rfl) rfl #[.pointer (some ⟨g, 0, none⟩), .int .i64 (x238002_1.length : Int)] rfl (by (try simp only [List.map_toArray, List.map_cons, List.map_nil]); rfl) ?_; (with_reducible refine (spec_l30Rd_pick.calls k1 g s0_0 x1001_1 (x238002_1.length : Int) t253 t254 w0 _ ?side1 ?side2 A35.out).mono ?_); (case side1 => repeat ((with_reducible exact HI0.out))); (case side2 => repeat ((with_reducible exact HB.out))); rintro e w47 ⟨rfl, hi, hb, hk⟩; refine ⟨_, rfl, ?_⟩; replace HO_238001 := ak (Kd.R_mono (Kd.R_keep (IsS59.apart (show IsS59 w0 _ g s0_0 x1001_1 from by repeat ((with_reducible exact HI0.out))) (rk HO_238001) (by decide)) hk (fun _ h => h.2)) (fun _ h => h.1)); replace HO_238002 := ak (Kd.R_mono (Kd.R_keep (IsS59.apart (show IsS59 w0 _ g s0_0 x1001_1 from by repeat ((with_reducible exact HI0.out))) (rk HO_238002) (by decide)) hk (fun _ h => h.2)) (fun _ h => h.1)); replace BK231 := ak (KeepBut.blk hk (g' := gb231) (o := .cells #[.int .i64 0, .slice none 0 0, .slice none 0 0] 28 (0, 0)) (bk BK231) NB231_0.out (by simp)); replace BK237 := ak (KeepBut.blk hk (g' := gb237) (o := .cells #[.int .i64 x238000_1, u238001, .slice Ao46 x238002_1.length co46] 28 (0, 0)) (bk BK237) NB237_0.out (by simp)); replace HK := ak (KeepBut.trans (by repeat ((with_reducible exact HK.out))) hk (.inl rfl)); replace HB := ak (hb); replace HI0 := ak (hi); (try clear hb); (try clear hb2); (try clear hk); (try clear hi)) | ((with_reducible refine gate_callee (f := 27) rfl ?_); refine goesL_ (some 37) rfl rfl Try.func27 (by kernel_rfl) rfl #[.pointer (some ⟨g, 0, none⟩), .int .i64 14] rfl (by (try simp only [List.map_toArray, List.map_cons, List.map_nil]); rfl) ?_; (with_reducible refine (spec_l30Rd_pick.calls k1 g s0_0 t254 14 t255 t256 w0 _ ?side1 ?side2 A36.out).mono ?_); (case side1 => repeat ((with_reducible exact HI0.out))); (case side2 => repeat ((with_reducible exact HB.out))); rintro e w48 ⟨rfl, hi, hb, hk⟩; refine ⟨_, rfl, ?_⟩; replace HO_238001 := ak (Kd.R_mono (Kd.R_keep (IsS59.apart (show IsS59 w0 _ g s0_0 t254 from by repeat ((with_reducible exact HI0.out))) (rk HO_238001) (by decide)) hk (fun _ h => h.2)) (fun _ h => h.1)); replace HO_238002 := ak (Kd.R_mono (Kd.R_keep (IsS59.apart (show IsS59 w0 _ g s0_0 t254 from by repeat ((with_reducible exact HI0.out))) (rk HO_238002) (by decide)) hk (fun _ h => h.2)) (fun _ h => h.1)); replace BK231 := ak (KeepBut.blk hk (g' := gb231) (o := .cells #[.int .i64 0, .slice none 0 0, .slice none 0 0] 28 (0, 0)) (bk BK231) NB231_0.out (by simp)); replace BK237 := ak (KeepBut.blk hk (g' := gb237) (o := .cells #[.int .i64 x238000_1, u238001, .slice Ao46 x238002_1.length co46] 28 (0, 0)) (bk BK237) NB237_0.out (by simp)); replace HK := ak (KeepBut.trans (by repeat ((with_reducible exact HK.out))) hk (.inl rfl)); replace HB := ak (hb); replace HI0 := ak (hi); (try clear hb); (try clear hb2); (try clear hk); (try clear hi)))
   replace HO_238001 := ak (Kd.R_drew HO_238001.out)
   replace HO_238002 := ak (Kd.R_drew HO_238002.out)
   replace BK231 := ak (blk_drew BK231.out)
   replace BK237 := ak (blk_drew BK237.out)
   replace HI0 := ak (IsS59.drew HI0.out)
   replace HK := ak (keep_drew HK.out)
   replace HB := ak (below_drew1 HB.out)
   refine start_ (n := 9) (S := fun w' => w'.cell? ⟨gb237, 0, none⟩ = some (.int .i64 x238000_1) ∧ w'.cell? ⟨gb237, 1, none⟩ = some (u238001) ∧ w'.cell? ⟨gb237, 2, none⟩ = some (.slice Ao46 x238002_1.length co46)) (ds := [8]) (ms 9 0) (by kernel_rfl) rfl (by kernel_rfl) ⟨(blk_cell BK237.out 0).trans rfl, (blk_cell BK237.out 1).trans rfl, (blk_cell BK237.out 2).trans rfl⟩ (fun hHeld => ?_); refine with_tabW spec_l30Live.tab11 spec_l30Live.bits11 (fun HT_ HW_ => ?_)
   generalize w48.drew = w49 at HO_238001 HO_238002 BK231 BK237 HI0 HK HB hHeld ⊢
   refine pu 0 40 ?_ (ms 9 1) rfl rfl HT_ (by kernel_rfl) (fun _ _ _ h => h) (by rfl) ?_ ?_ ?_ ?_
   rotate_left
   ·intro w'
    go_simp
    with_reducible rfl
   rotate_left
   ·simp only [SX]
    rfl
   refine pu 2 42 ?_ (ms 9 5) rfl rfl HT_ (by kernel_rfl) (fun _ _ _ h => h) (by rfl) ?_ ?_ ?_ ?_
   rotate_left
   ·intro w'
    go_simp
    with_reducible rfl
   rotate_left
   ·simp only [SX]
    rfl
   refine pu 3 43 ?_ (ms 9 13) rfl rfl HT_ (by kernel_rfl) (fun _ _ _ h => h) (by rfl) ?_ ?_ ?_ ?_
   rotate_left
   ·intro w'
    go_simp
    with_reducible rfl
   rotate_left
   ·simp only [SX]
    rfl
   refine tk 1 41 ?_ (ms 9 15) rfl rfl HT_ HW_ (by kernel_rfl) (fun _ _ _ h => h) (by rfl) ?_ hHeld ?_ ?_ ?_
   rotate_left
   ·rintro w' ⟨s0, s1, s2⟩
    go_simp
    with_reducible rfl
   rotate_left
   ·simp only [SX]
    rfl
   refine one_ (i := 4) (N := some 44) (ms 9 31) rfl rfl (one_of HT_.out (by kernel_rfl)) (by decide) (fun K hK => ?_)
   refine Kd.R_lit_step (Kd.int .i64) _ 3 ?hg (N := 44) ?hd (xs := ([(-2), 100] : List Int)) (inner := [.int .i64 (-2), .int .i64 100]) (ok := fun _ => True) (okp := fun _ => True) ?hr ?hp (fun _ hk => hk) trivial (Below.refl _ _) (Nat.le_refl _) (by simp) ?_; (case hd => rfl); (case hg => rfl); (case hr => (go_simp; done)); (case hp => exact (Reps.one (show Kd.M (Kd.int .i64) _ _ _ (-2) [.int .i64 (-2)] from rfl) (Reps.one (show Kd.M (Kd.int .i64) _ _ _ 100 [.int .i64 100] from rfl) (Reps.none _ _))))
   intro v258 w50 ho51 hb hg_ hnew_
   clear hg_ hnew_
   (rw [← Ny257.out] at ho51)
   replace HO_238001 := ak (Kd.R_below (rk HO_238001) hb)
   replace HO_238002 := ak (Kd.R_below (rk HO_238002) hb)
   have HO259 := ak (Kd.R_lower ho51 (keep_size (w := w) (g := g) (row := none) (by repeat ((with_reducible exact HK.out)))))
   replace BK231 := ak (blk_below (bk BK231) hb)
   replace BK237 := ak (blk_below (bk BK237) hb)
   replace HK := ak (KeepBut.trans (by repeat ((with_reducible exact HK.out))) (KeepBut.of_below hb g none) (.inl rfl))
   replace HB := ak (below_step (by repeat ((with_reducible exact HB.out))) hb)
   replace HI0 := ak (IsS59.below (by repeat ((with_reducible exact HI0.out))) hb)
   clear hb ho51
   obtain ⟨Ao52, co52, eo52⟩ := Kd.R_slice HO259.out
   (subst eo52)
   refine hK.out _ _ ⟨(blk_cell BK237.out 0).trans rfl, (blk_cell BK237.out 1).trans rfl, (blk_cell BK237.out 2).trans rfl⟩ (fun hHeld => ?_)
   clear hK K
   refine norm_ (a' := ?_) ?_ ?_
   rotate_left
   ·show Act.put _ (some 44) _ = _
    simp only [SX]
    rfl
   refine one_ (i := 5) (N := some 45) (ms 9 63) rfl rfl (one_of HT_.out (by kernel_rfl)) (by decide) (fun K hK => ?_)
   refine goes_ Try.func30 (by kernel_rfl) rfl #[.pointer (some ⟨g, 0, none⟩), .slice Ao52 y257.length co52] (by rfl) rfl rfl (by (try simp only [List.map_toArray, List.map_cons, List.map_nil]); rfl) ?_
   with_reducible refine (spec_l30Rd_one.calls k1 g s0_0 t256 _ _ y257 t260 t261 w0 _ ?side1 ?side2 ?side3 ?side4 ?side5 A38.out).mono ?_
   (case side1 => repeat ((with_reducible exact HI0.out)))
   (case side2 => repeat ((with_reducible exact HB.out)))
   (case side3 => repeat (exact (Kd.R_reads' HO259.out).2.2))
   (case side4 => exact (Kd.R_reads' HO259.out).2.1)
   (case side5 => exact far_slice (IsS59.own_ne HI0.out HO259.out (by decide)))
   rintro e w53 ⟨rfl, hi, hb, hk⟩
   refine ⟨_, rfl, ?_⟩
   replace HO_238001 := ak (Kd.R_mono (Kd.R_keep (IsS59.apart (show IsS59 w0 _ g s0_0 t256 from by repeat ((with_reducible exact HI0.out))) (rk HO_238001) (by decide)) hk (fun _ h => h.2)) (fun _ h => h.1))
   replace HO_238002 := ak (Kd.R_mono (Kd.R_keep (IsS59.apart (show IsS59 w0 _ g s0_0 t256 from by repeat ((with_reducible exact HI0.out))) (rk HO_238002) (by decide)) hk (fun _ h => h.2)) (fun _ h => h.1))
   replace BK231 := ak (KeepBut.blk hk (g' := gb231) (o := .cells #[.int .i64 0, .slice none 0 0, .slice none 0 0] 28 (0, 0)) (bk BK231) NB231_0.out (by simp))
   replace BK237 := ak (KeepBut.blk hk (g' := gb237) (o := .cells #[.int .i64 x238000_1, u238001, .slice Ao46 x238002_1.length co46] 28 (0, 0)) (bk BK237) NB237_0.out (by simp))
   replace HO259 := ak (Kd.R_mono (Kd.R_keep (IsS59.apart (show IsS59 w0 _ g s0_0 t256 from by repeat ((with_reducible exact HI0.out))) (rk HO259) (by decide)) hk (fun _ h => h.2)) (fun _ h => h.1))
   replace HK := ak (KeepBut.trans (by repeat ((with_reducible exact HK.out))) hk (.inl rfl))
   replace HB := ak (hb)
   replace HI0 := ak (hi)
   (try clear hb)
   (try clear hb2)
   (try clear hk)
   (try clear hi)
   have p41 : 0 ≤ (t253 : Int) := oT (by (with_reducible assumption))
   have q41 : (t253 : Int) < ((x238002_1.length : Int) : Int) := oT (by (with_reducible assumption))
   obtain ⟨go41, co41, eo41, gb41, gl41, cl41, HG41⟩ := Kd.R_form HO_238002.out (by omega)
   (cases eo41)
   have GB41 := ak gb41
   have GG41 := ak HG41
   clear gb41 gl41 HG41
   obtain ⟨ce41, hcl41, hM41, hcc41, hfr41⟩ := Kd.R_elem HO_238002.out z30 (t253 : Int) p41 q41
   obtain rfl := k30_openM hM41
   have hx41_0 : World.cell? _ ⟨go41, (t253 : Int).toNat * 3, none⟩ = some (.int .i64 ((rd_T30 x238002_1 t253).f0)) := hcc41 0 _ rfl
   have hx41_1 : World.cell? _ ⟨go41, (t253 : Int).toNat * 3 + 1, none⟩ = some (.int .i64 ((rd_T30 x238002_1 t253).f1)) := hcc41 1 _ rfl
   have hx41_2 : World.cell? _ ⟨go41, (t253 : Int).toNat * 3 + 2, none⟩ = some (.int .i64 ((rd_T30 x238002_1 t253).f2)) := hcc41 2 _ rfl
   have hf41_0 : World.frozen? _ ⟨go41, (t253 : Int).toNat * 3, none⟩ = false := hfr41 0
   have hf41_1 : World.frozen? _ ⟨go41, (t253 : Int).toNat * 3 + 1, none⟩ = false := hfr41 1
   have hf41_2 : World.frozen? _ ⟨go41, (t253 : Int).toNat * 3 + 2, none⟩ = false := hfr41 2
   clear hcl41 hcc41 hfr41 hM41
   replace p41 := eq_true p41
   replace q41 := eq_true q41
   have HN0_go41 := ak (show g ≠ go41 from by have h_ := IsS59.own_ne HI0.out HO_238002.out (by decide); intro e_; exact h_ (by rw [e_]; rfl))
   obtain ⟨ce54, hcl54, hM54, hcc54, hfr54⟩ := Kd.R_elem HO_238002.out z30 (t253 : Int) (oT (by (with_reducible assumption))) (by have h_ : (t253 : Int) < ((x238002_1.length : Int) : Int) := oT (by (with_reducible assumption)); exact h_)
   obtain rfl := k30_openM hM54
   have HP54 := (Kd.R_seg HO_238002.out (t253 : Int) (oT (by (with_reducible assumption))) (by have h_ : (t253 : Int) < ((x238002_1.length : Int) : Int) := oT (by (with_reducible assumption)); exact h_) (seg := [.int .i64 t260]) (j := 2) hcl54 hcc54 (show 3 ≤ 3 from by decide) (x' := (⟨(rd_T30 x238002_1 t253).f0, (rd_T30 x238002_1 t253).f1, t260⟩ : S30)) (k30_mkM _ _ _ (⟨(rd_T30 x238002_1 t253).f0, (rd_T30 x238002_1 t253).f1, t260⟩ : S30) ) (fun _ hk => hk)).1
   rw [← Ny262.out] at HP54
   have HQ54 := ak HP54
   clear hcl54 hcc54 hfr54 hM54 HP54
   refine hK.out _ _ ⟨(blk_cell BK237.out 0).trans rfl, (blk_cell BK237.out 1).trans rfl, (blk_cell BK237.out 2).trans rfl⟩ (fun hHeld => ?_)
   clear hK K
   refine norm_ (a' := ?_) ?_ ?_
   rotate_left
   ·show Act.put _ (some 45) _ = _
    simp only [SX]
    rfl
   refine pu 6 46 ?_ (ms 9 127) rfl rfl HT_ (by kernel_rfl) (fun _ _ _ h => h) (by rfl) ?_ ?_ ?_ ?_
   rotate_left
   ·intro w'
    go_simp
    with_reducible rfl
   rotate_left
   ·simp only [SX]
    rfl
   refine pu 7 47 ?_ (ms 9 255) rfl rfl HT_ (by kernel_rfl) (fun _ _ _ h => h) (by rfl) ?_ ?_ ?_ ?_
   rotate_left
   ·intro w'
    go_simp
    with_reducible rfl
   rotate_left
   ·simp only [SX]
    rfl
   refine last_ (i := 8) (N := none) (ms 9 511) rfl rfl (one_of HT_.out (by kernel_rfl)) (by decide) (fun K hK => ?_)
   refine skip_ (w1 := ?_) (by rfl) rfl ?_ ?_
   rotate_left
   ·go_simp
    rfl
   refine hK.out _ _ ?_
   clear hK K
   refine done_ (done_of HT_.out (by kernel_rfl)) ?_
   have n0_ : Aside0 (Kd.R k65 65 (w53.setCell ⟨go41, (t253 : Int).toNat * 3 + 2, none⟩ (.int .i64 t260)) w.heap.size (fun _ => True) u238001 x238001_1) := ⟨by exact Kd.R_mono (Kd.R_far (p := ⟨go41, (t253 : Int).toNat * 3 + 2, none⟩) (Kd.R_types HO_238001.out GG41.out (by decide)) (fun _ hk => hk.2) (.int .i64 t260)) (fun _ hk => trivial)⟩
   have n1_ : Aside0 (Kd.R k30 30 (w53.setCell ⟨go41, (t253 : Int).toNat * 3 + 2, none⟩ (.int .i64 t260)) w.heap.size (fun _ => True) (.slice (some ⟨go41, 0, none⟩) x238002_1.length co46) y262) := ⟨by exact HQ54.out⟩
   have n2_ : Aside0 (Kd.R (Kd.int .i64) 3 (w53.setCell ⟨go41, (t253 : Int).toNat * 3 + 2, none⟩ (.int .i64 t260)) w.heap.size (fun _ => True) (.slice Ao52 y257.length co52) y257) := ⟨by exact Kd.R_mono (Kd.R_far (p := ⟨go41, (t253 : Int).toNat * 3 + 2, none⟩) (Kd.R_types HO259.out GG41.out (by decide)) (fun _ hk => hk.2) (.int .i64 t260)) (fun _ hk => trivial)⟩
   have n3_ : Aside0 ((w53.setCell ⟨go41, (t253 : Int).toNat * 3 + 2, none⟩ (.int .i64 t260)).heap[gb231]? = some (.cells #[.int .i64 0, .slice none 0 0, .slice none 0 0] 28 (0, 0))) := ⟨by refine blk_far ?_ (by have h_ := Kd.R_ne HO_238002.out BK231.out (by decide); intro e_; exact h_ (by rw [e_]; rfl)) _; exact BK231.out⟩
   have n4_ : Aside0 ((w53.setCell ⟨go41, (t253 : Int).toNat * 3 + 2, none⟩ (.int .i64 t260)).heap[gb237]? = some (.cells #[.int .i64 x238000_1, u238001, .slice (some ⟨go41, 0, none⟩) x238002_1.length co46] 28 (0, 0))) := ⟨by refine blk_far ?_ (by have h_ := Kd.R_ne HO_238002.out BK237.out (by decide); intro e_; exact h_ (by rw [e_]; rfl)) _; exact BK237.out⟩
   have n5_ : Aside0 (IsS59 w0 (w53.setCell ⟨go41, (t253 : Int).toNat * 3 + 2, none⟩ (.int .i64 t260)) g s0_0 t261) := ⟨by repeat ((with_reducible first | exact HI0.out | refine IsS59.far ?_ HN0_go41.out _))⟩
   have n6_ : Aside0 (KeepBut w (w53.setCell ⟨go41, (t253 : Int).toNat * 3 + 2, none⟩ (.int .i64 t260)) g none) := ⟨by repeat ((with_reducible first | exact HK.out | refine keep_far ?_ GB41.out _))⟩
   have n7_ : Aside0 (Below w0.heap.size w0 (w53.setCell ⟨go41, (t253 : Int).toNat * 3 + 2, none⟩ (.int .i64 t260))) := ⟨by repeat ((with_reducible first | exact HB.out | refine below_set ?_ (Nat.le_trans HL.out GB41.out)))⟩
   (try clear HO_238001)
   (try clear HO_238002)
   (try clear HO259)
   (try clear BK231)
   (try clear BK237)
   (try clear HI0)
   (try clear HK)
   (try clear HB)
   generalize (w53.setCell ⟨go41, (t253 : Int).toNat * 3 + 2, none⟩ (.int .i64 t260)) = w55 at n0_ n1_ n2_ n3_ n4_ n5_ n6_ n7_ ⊢
   have HO_238001 := n0_
   have HO_238002 := n1_
   have HO259 := n2_
   have BK231 := n3_
   have BK237 := n4_
   have HI0 := n5_
   have HK := n6_
   have HB := n7_
   clear n0_ n1_ n2_ n3_ n4_ n5_ n6_ n7_
   have hcz56_0 := bc w55 BK237 0 (.int .i64 x238000_1) rfl
   have hcz56_1 := bc w55 BK237 1 (u238001) rfl
   have hcz56_2 := bc w55 BK237 2 (.slice (some ⟨go41, 0, none⟩) x238002_1.length co46) rfl
   have hfz56_0 := fz BK237 0
   have hfz56_1 := fz BK237 1
   have hfz56_2 := fz BK237 2
   obtain ⟨Ao57, co57, eo57⟩ := Kd.R_slice HO_238001.out
   subst eo57
   try go_wp2_with (((with_reducible refine gate_callee (f := 23) rfl ?_); refine goesL_ (some 61) rfl rfl Try.func23 (by kernel_rfl) rfl #[.agg #[.int .i64 x238000_1, .slice Ao57 x238001_1.length co57, .slice (some ⟨go41, 0, none⟩) y262.length co46]] rfl (by (try simp only [List.map_toArray, List.map_cons, List.map_nil]); (rw [show y262.length = x238002_1.length from (Kd.R_reads' HO_238002.out).1.symm] <;> rfl)) ?_; (with_reducible refine (spec_l16Copy.calls x238000_1 _ _ x238001_1 _ _ y262 t263 t264 t267 _ ?side1 ?side2 ?side3 ?side4 A42.out).mono ?_); (case side1 => repeat (exact (Kd.R_reads' HO_238001.out).2.2)); (case side2 => exact (Kd.R_reads' HO_238001.out).2.1); (case side3 => repeat (exact (Kd.R_reads' HO_238002.out).2.2)); (case side4 => rw [show y262.length = x238002_1.length from (Kd.R_reads' HO_238002.out).1.symm]; exact (Kd.R_reads' HO_238002.out).2.1); rintro e w58 ⟨v265, v268, rfl, ho0, ho1, hb⟩; refine ⟨_, rfl, ?_⟩; replace HO259 := ak (Kd.R_below (rk HO259) hb); have HO266 := ak (Kd.R_lower (Kd.R_new' ho0 (Kd.R_lt (rk HO_238001))) (keep_size (w := w) (g := g) (row := none) (by repeat ((with_reducible exact HK.out))))); replace HO_238001 := ak (Kd.R_elder' (rk HO_238001) (Kd.R_base ho0) hb); have HO269 := ak (Kd.R_lower (Kd.R_new' ho1 (Kd.R_lt (rk HO_238002))) (keep_size (w := w) (g := g) (row := none) (by repeat ((with_reducible exact HK.out))))); replace HO_238002 := ak (Kd.R_elder' (rk HO_238002) (Kd.R_base ho1) hb); replace BK231 := ak (blk_below (bk BK231) hb); replace BK237 := ak (blk_below (bk BK237) hb); replace HK := ak (KeepBut.trans (by repeat ((with_reducible exact HK.out))) (KeepBut.of_below hb g none) (.inl rfl)); replace HB := ak (below_step (by repeat ((with_reducible exact HB.out))) hb); replace HI0 := ak (IsS59.below (by repeat ((with_reducible exact HI0.out))) hb); (try clear hb); (try clear hb2); (try clear hk); (try clear hi); (try clear ho0); (try clear ho1); have hnb59 := NB231_0.out; have hnc59 := NB0_231.out; have hcz60_0 := bc w58 BK231 0 (.int .i64 0) rfl; have hcz60_1 := bc w58 BK231 1 (.slice none 0 0) rfl; have hcz60_2 := bc w58 BK231 2 (.slice none 0 0) rfl; have hfz60_0 := fz BK231 0; have hfz60_1 := fz BK231 1; have hfz60_2 := fz BK231 2; obtain ⟨Ao61, co61, eo61⟩ := Kd.R_slice HO266.out; subst eo61; obtain ⟨Ao62, co62, eo62⟩ := Kd.R_slice HO269.out; subst eo62))
   refine bodyPost_ret (results_cell_row rfl _ _ gb231 28 #[.int .i64 t263, .slice Ao61 t264.length co61, .slice Ao62 t267.length co62] (0, 0) _ rfl (by refine blk_put (cs := #[.int .i64 t263, .slice Ao61 t264.length co61, .slice none 0 0]) ?_ 2 _ rfl; refine blk_put (cs := #[.int .i64 t263, .slice none 0 0, .slice none 0 0]) ?_ 1 _ rfl; refine blk_put (cs := #[.int .i64 0, .slice none 0 0, .slice none 0 0]) ?_ 0 _ rfl; exact BK231.out) Try.underlying28 rfl (by kernel_rfl)) rfl ?_
   exact ⟨_, _, by rfl, by exact Kd.R_mono (Kd.R_far (p := ⟨gb231, 2, none⟩) (Kd.R_far (p := ⟨gb231, 1, none⟩) (Kd.R_far (p := ⟨gb231, 0, none⟩) (Kd.R_types HO266.out BK231.out (by decide)) (fun _ hk => hk.2) (.int .i64 t263)) (fun _ hk => hk.2) (.slice Ao61 t264.length co61)) (fun _ hk => hk.2) (.slice Ao62 t267.length co62)) (fun _ hk => trivial), by exact Kd.R_mono (Kd.R_far (p := ⟨gb231, 2, none⟩) (Kd.R_far (p := ⟨gb231, 1, none⟩) (Kd.R_far (p := ⟨gb231, 0, none⟩) (Kd.R_types HO269.out BK231.out (by decide)) (fun _ hk => hk.2) (.int .i64 t263)) (fun _ hk => hk.2) (.slice Ao61 t264.length co61)) (fun _ hk => hk.2) (.slice Ao62 t267.length co62)) (fun _ hk => trivial), by repeat ((with_reducible first | exact HI0.out | refine IsS59.far ?_ NB0_231.out _)), by repeat ((with_reducible first | exact HB.out | refine below_set ?_ GE231.out)), by repeat ((with_reducible first | exact HK.out | refine keep_far ?_ GW231.out _))⟩
  rw [if_neg c37] at H
  have c37b0 : (t255 == 0) = false := beq_eq_false_iff_ne.mpr c37
  have c37b1 : (t255 != 0) = true := bne_iff_ne.mpr c37
  by_cases c63 : t255 = 1
  rotate_left
  ·rw [if_neg c63] at H
   have c63b0 : (t255 == 1) = false := beq_eq_false_iff_ne.mpr c63
   have c63b1 : (t255 != 1) = true := bne_iff_ne.mpr c63
   replace H := Option.bind_eq_some_iff.mp H
   obtain ⟨⟨t281, t282, t285⟩, A850, H⟩ := H
   have A85 := ak A850
   clear A850
   simp only [Option.some.injEq, Prod.mk.injEq] at H
   obtain ⟨rfl, rfl, rfl, rfl⟩ := H
   have hnb86 := NB237_231.out
   have hnc86 := NB231_237.out
   have hnb87 := NB237_0.out
   have hnc87 := NB0_237.out
   have hcz88_0 := bc wr BK237 0 (.int .i64 x238000_1) rfl
   have hcz88_1 := bc wr BK237 1 (u238001) rfl
   have hcz88_2 := bc wr BK237 2 (u238002) rfl
   have hfz88_0 := fz BK237 0
   have hfz88_1 := fz BK237 1
   have hfz88_2 := fz BK237 2
   obtain ⟨Ao89, co89, eo89⟩ := Kd.R_slice HO_238002.out
   subst eo89
   go_wp2_with (first | ((with_reducible refine gate_callee (f := 27) rfl ?_); refine goesL_ (some 35) rfl rfl Try.func27 (by kernel_rfl) rfl #[.pointer (some ⟨g, 0, none⟩), .int .i64 (x238002_1.length : Int)] rfl (by (try simp only [List.map_toArray, List.map_cons, List.map_nil]); rfl) ?_; (with_reducible refine (spec_l30Rd_pick.calls k1 g s0_0 x1001_1 (x238002_1.length : Int) t253 t254 w0 _ ?side1 ?side2 A35.out).mono ?_); (case side1 => repeat ((with_reducible exact HI0.out))); (case side2 => repeat ((with_reducible exact HB.out))); rintro e w90 ⟨rfl, hi, hb, hk⟩; refine ⟨_, rfl, ?_⟩; replace HO_238001 := ak (Kd.R_mono (Kd.R_keep (IsS59.apart (show IsS59 w0 _ g s0_0 x1001_1 from by repeat ((with_reducible exact HI0.out))) (rk HO_238001) (by decide)) hk (fun _ h => h.2)) (fun _ h => h.1)); replace HO_238002 := ak (Kd.R_mono (Kd.R_keep (IsS59.apart (show IsS59 w0 _ g s0_0 x1001_1 from by repeat ((with_reducible exact HI0.out))) (rk HO_238002) (by decide)) hk (fun _ h => h.2)) (fun _ h => h.1)); replace BK231 := ak (KeepBut.blk hk (g' := gb231) (o := .cells #[.int .i64 0, .slice none 0 0, .slice none 0 0] 28 (0, 0)) (bk BK231) NB231_0.out (by simp)); replace BK237 := ak (KeepBut.blk hk (g' := gb237) (o := .cells #[.int .i64 x238000_1, u238001, .slice Ao89 x238002_1.length co89] 28 (0, 0)) (bk BK237) NB237_0.out (by simp)); replace HK := ak (KeepBut.trans (by repeat ((with_reducible exact HK.out))) hk (.inl rfl)); replace HB := ak (hb); replace HI0 := ak (hi); (try clear hb); (try clear hb2); (try clear hk); (try clear hi)) | ((with_reducible refine gate_callee (f := 27) rfl ?_); refine goesL_ (some 37) rfl rfl Try.func27 (by kernel_rfl) rfl #[.pointer (some ⟨g, 0, none⟩), .int .i64 14] rfl (by (try simp only [List.map_toArray, List.map_cons, List.map_nil]); rfl) ?_; (with_reducible refine (spec_l30Rd_pick.calls k1 g s0_0 t254 14 t255 t256 w0 _ ?side1 ?side2 A36.out).mono ?_); (case side1 => repeat ((with_reducible exact HI0.out))); (case side2 => repeat ((with_reducible exact HB.out))); rintro e w91 ⟨rfl, hi, hb, hk⟩; refine ⟨_, rfl, ?_⟩; replace HO_238001 := ak (Kd.R_mono (Kd.R_keep (IsS59.apart (show IsS59 w0 _ g s0_0 t254 from by repeat ((with_reducible exact HI0.out))) (rk HO_238001) (by decide)) hk (fun _ h => h.2)) (fun _ h => h.1)); replace HO_238002 := ak (Kd.R_mono (Kd.R_keep (IsS59.apart (show IsS59 w0 _ g s0_0 t254 from by repeat ((with_reducible exact HI0.out))) (rk HO_238002) (by decide)) hk (fun _ h => h.2)) (fun _ h => h.1)); replace BK231 := ak (KeepBut.blk hk (g' := gb231) (o := .cells #[.int .i64 0, .slice none 0 0, .slice none 0 0] 28 (0, 0)) (bk BK231) NB231_0.out (by simp)); replace BK237 := ak (KeepBut.blk hk (g' := gb237) (o := .cells #[.int .i64 x238000_1, u238001, .slice Ao89 x238002_1.length co89] 28 (0, 0)) (bk BK237) NB237_0.out (by simp)); replace HK := ak (KeepBut.trans (by repeat ((with_reducible exact HK.out))) hk (.inl rfl)); replace HB := ak (hb); replace HI0 := ak (hi); (try clear hb); (try clear hb2); (try clear hk); (try clear hi); have hcz92_0 := bc w91 BK237 0 (.int .i64 x238000_1) rfl; have hcz92_1 := bc w91 BK237 1 (u238001) rfl; have hcz92_2 := bc w91 BK237 2 (.slice Ao89 x238002_1.length co89) rfl; have hfz92_0 := fz BK237 0; have hfz92_1 := fz BK237 1; have hfz92_2 := fz BK237 2; obtain ⟨Ao93, co93, eo93⟩ := Kd.R_slice HO_238001.out; subst eo93) | ((with_reducible refine gate_callee (f := 23) rfl ?_); refine goesL_ (some 61) rfl rfl Try.func23 (by kernel_rfl) rfl #[.agg #[.int .i64 x238000_1, .slice Ao93 x238001_1.length co93, .slice Ao89 x238002_1.length co89]] rfl (by (try simp only [List.map_toArray, List.map_cons, List.map_nil]); rfl) ?_; (with_reducible refine (spec_l16Copy.calls x238000_1 _ _ x238001_1 _ _ x238002_1 t281 t282 t285 _ ?side1 ?side2 ?side3 ?side4 A85.out).mono ?_); (case side1 => repeat (exact (Kd.R_reads' HO_238001.out).2.2)); (case side2 => exact (Kd.R_reads' HO_238001.out).2.1); (case side3 => repeat (exact (Kd.R_reads' HO_238002.out).2.2)); (case side4 => exact (Kd.R_reads' HO_238002.out).2.1); rintro e w94 ⟨v283, v286, rfl, ho0, ho1, hb⟩; refine ⟨_, rfl, ?_⟩; have HO284 := ak (Kd.R_lower (Kd.R_new' ho0 (Kd.R_lt (rk HO_238001))) (keep_size (w := w) (g := g) (row := none) (by repeat ((with_reducible exact HK.out))))); replace HO_238001 := ak (Kd.R_elder' (rk HO_238001) (Kd.R_base ho0) hb); have HO287 := ak (Kd.R_lower (Kd.R_new' ho1 (Kd.R_lt (rk HO_238002))) (keep_size (w := w) (g := g) (row := none) (by repeat ((with_reducible exact HK.out))))); replace HO_238002 := ak (Kd.R_elder' (rk HO_238002) (Kd.R_base ho1) hb); replace BK231 := ak (blk_below (bk BK231) hb); replace BK237 := ak (blk_below (bk BK237) hb); replace HK := ak (KeepBut.trans (by repeat ((with_reducible exact HK.out))) (KeepBut.of_below hb g none) (.inl rfl)); replace HB := ak (below_step (by repeat ((with_reducible exact HB.out))) hb); replace HI0 := ak (IsS59.below (by repeat ((with_reducible exact HI0.out))) hb); (try clear hb); (try clear hb2); (try clear hk); (try clear hi); (try clear ho0); (try clear ho1); have hnb95 := NB231_0.out; have hnc95 := NB0_231.out; have hcz96_0 := bc w94 BK231 0 (.int .i64 0) rfl; have hcz96_1 := bc w94 BK231 1 (.slice none 0 0) rfl; have hcz96_2 := bc w94 BK231 2 (.slice none 0 0) rfl; have hfz96_0 := fz BK231 0; have hfz96_1 := fz BK231 1; have hfz96_2 := fz BK231 2; obtain ⟨Ao97, co97, eo97⟩ := Kd.R_slice HO284.out; subst eo97; obtain ⟨Ao98, co98, eo98⟩ := Kd.R_slice HO287.out; subst eo98))
   refine bodyPost_ret (results_cell_row rfl _ _ gb231 28 #[.int .i64 t281, .slice Ao97 t282.length co97, .slice Ao98 t285.length co98] (0, 0) _ rfl (by refine blk_put (cs := #[.int .i64 t281, .slice Ao97 t282.length co97, .slice none 0 0]) ?_ 2 _ rfl; refine blk_put (cs := #[.int .i64 t281, .slice none 0 0, .slice none 0 0]) ?_ 1 _ rfl; refine blk_put (cs := #[.int .i64 0, .slice none 0 0, .slice none 0 0]) ?_ 0 _ rfl; exact BK231.out) Try.underlying28 rfl (by kernel_rfl)) rfl ?_
   exact ⟨_, _, by rfl, by exact Kd.R_mono (Kd.R_far (p := ⟨gb231, 2, none⟩) (Kd.R_far (p := ⟨gb231, 1, none⟩) (Kd.R_far (p := ⟨gb231, 0, none⟩) (Kd.R_types HO284.out BK231.out (by decide)) (fun _ hk => hk.2) (.int .i64 t281)) (fun _ hk => hk.2) (.slice Ao97 t282.length co97)) (fun _ hk => hk.2) (.slice Ao98 t285.length co98)) (fun _ hk => trivial), by exact Kd.R_mono (Kd.R_far (p := ⟨gb231, 2, none⟩) (Kd.R_far (p := ⟨gb231, 1, none⟩) (Kd.R_far (p := ⟨gb231, 0, none⟩) (Kd.R_types HO287.out BK231.out (by decide)) (fun _ hk => hk.2) (.int .i64 t281)) (fun _ hk => hk.2) (.slice Ao97 t282.length co97)) (fun _ hk => hk.2) (.slice Ao98 t285.length co98)) (fun _ hk => trivial), by repeat ((with_reducible first | exact HI0.out | refine IsS59.far ?_ NB0_231.out _)), by repeat ((with_reducible first | exact HB.out | refine below_set ?_ GE231.out)), by repeat ((with_reducible first | exact HK.out | refine keep_far ?_ GW231.out _))⟩
  rw [if_pos c63] at H
  have c63b0 : (t255 == 1) = true := beq_iff_eq.mpr c63
  have c63b1 : (t255 != 1) = false := bne_eq_false_iff_eq.mpr c63
  clear c63
  by_cases c64 : 0 ≤ t253
  rotate_left
  ·rw [if_neg c64] at H
   exact absurd H (by simp)
  rw [if_pos c64] at H
  have c64b0 : decide (0 ≤ t253) = true := decide_eq_true c64
  clear c64
  by_cases c65 : t253 < (x238002_1.length : Int)
  rotate_left
  ·rw [if_neg c65] at H
   exact absurd H (by simp)
  rw [if_pos c65] at H
  have c65b0 : decide (t253 < (x238002_1.length : Int)) = true := decide_eq_true c65
  clear c65
  by_cases c66 : x238002_1.length < 5864062014805
  rotate_left
  ·rw [if_neg c66] at H
   exact absurd H (by simp)
  rw [if_pos c66] at H
  have LMc66 := ak c66
  clear c66
  obtain ⟨y271, hy271⟩ : ∃ y_ : List (S30), y_ = (x238002_1 ++ [(⟨(rd_T30 x238002_1 t253).f0, (rd_T30 x238002_1 t253).f1, (rd_T30 x238002_1 t253).f2⟩ : S30)]) := ⟨_, rfl⟩
  replace H : ((spec_l16Copy.f x238000_1 x238001_1 y271).bind fun bt274 => (some (bt274.1, bt274.2.1, bt274.2.2, t256))) = some (r1, r2, r3, r4) := by (rw [hy271]; with_reducible exact H)
  have Ny271 := ak hy271
  clear hy271
  replace H := Option.bind_eq_some_iff.mp H
  obtain ⟨⟨t274, t275, t278⟩, A670, H⟩ := H
  have A67 := ak A670
  clear A670
  simp only [Option.some.injEq, Prod.mk.injEq] at H
  obtain ⟨rfl, rfl, rfl, rfl⟩ := H
  have hnb68 := NB237_231.out
  have hnc68 := NB231_237.out
  have hnb69 := NB237_0.out
  have hnc69 := NB0_237.out
  have hcz70_0 := bc wr BK237 0 (.int .i64 x238000_1) rfl
  have hcz70_1 := bc wr BK237 1 (u238001) rfl
  have hcz70_2 := bc wr BK237 2 (u238002) rfl
  have hfz70_0 := fz BK237 0
  have hfz70_1 := fz BK237 1
  have hfz70_2 := fz BK237 2
  obtain ⟨Ao71, co71, eo71⟩ := Kd.R_slice HO_238002.out
  subst eo71
  try go_wp2_with (first | ((with_reducible refine gate_callee (f := 27) rfl ?_); refine goesL_ (some 35) rfl rfl Try.func27 (by kernel_rfl) rfl #[.pointer (some ⟨g, 0, none⟩), .int .i64 (x238002_1.length : Int)] rfl (by (try simp only [List.map_toArray, List.map_cons, List.map_nil]); rfl) ?_; (with_reducible refine (spec_l30Rd_pick.calls k1 g s0_0 x1001_1 (x238002_1.length : Int) t253 t254 w0 _ ?side1 ?side2 A35.out).mono ?_); (case side1 => repeat ((with_reducible exact HI0.out))); (case side2 => repeat ((with_reducible exact HB.out))); rintro e w72 ⟨rfl, hi, hb, hk⟩; refine ⟨_, rfl, ?_⟩; replace HO_238001 := ak (Kd.R_mono (Kd.R_keep (IsS59.apart (show IsS59 w0 _ g s0_0 x1001_1 from by repeat ((with_reducible exact HI0.out))) (rk HO_238001) (by decide)) hk (fun _ h => h.2)) (fun _ h => h.1)); replace HO_238002 := ak (Kd.R_mono (Kd.R_keep (IsS59.apart (show IsS59 w0 _ g s0_0 x1001_1 from by repeat ((with_reducible exact HI0.out))) (rk HO_238002) (by decide)) hk (fun _ h => h.2)) (fun _ h => h.1)); replace BK231 := ak (KeepBut.blk hk (g' := gb231) (o := .cells #[.int .i64 0, .slice none 0 0, .slice none 0 0] 28 (0, 0)) (bk BK231) NB231_0.out (by simp)); replace BK237 := ak (KeepBut.blk hk (g' := gb237) (o := .cells #[.int .i64 x238000_1, u238001, .slice Ao71 x238002_1.length co71] 28 (0, 0)) (bk BK237) NB237_0.out (by simp)); replace HK := ak (KeepBut.trans (by repeat ((with_reducible exact HK.out))) hk (.inl rfl)); replace HB := ak (hb); replace HI0 := ak (hi); (try clear hb); (try clear hb2); (try clear hk); (try clear hi)) | ((with_reducible refine gate_callee (f := 27) rfl ?_); refine goesL_ (some 37) rfl rfl Try.func27 (by kernel_rfl) rfl #[.pointer (some ⟨g, 0, none⟩), .int .i64 14] rfl (by (try simp only [List.map_toArray, List.map_cons, List.map_nil]); rfl) ?_; (with_reducible refine (spec_l30Rd_pick.calls k1 g s0_0 t254 14 t255 t256 w0 _ ?side1 ?side2 A36.out).mono ?_); (case side1 => repeat ((with_reducible exact HI0.out))); (case side2 => repeat ((with_reducible exact HB.out))); rintro e w73 ⟨rfl, hi, hb, hk⟩; refine ⟨_, rfl, ?_⟩; replace HO_238001 := ak (Kd.R_mono (Kd.R_keep (IsS59.apart (show IsS59 w0 _ g s0_0 t254 from by repeat ((with_reducible exact HI0.out))) (rk HO_238001) (by decide)) hk (fun _ h => h.2)) (fun _ h => h.1)); replace HO_238002 := ak (Kd.R_mono (Kd.R_keep (IsS59.apart (show IsS59 w0 _ g s0_0 t254 from by repeat ((with_reducible exact HI0.out))) (rk HO_238002) (by decide)) hk (fun _ h => h.2)) (fun _ h => h.1)); replace BK231 := ak (KeepBut.blk hk (g' := gb231) (o := .cells #[.int .i64 0, .slice none 0 0, .slice none 0 0] 28 (0, 0)) (bk BK231) NB231_0.out (by simp)); replace BK237 := ak (KeepBut.blk hk (g' := gb237) (o := .cells #[.int .i64 x238000_1, u238001, .slice Ao71 x238002_1.length co71] 28 (0, 0)) (bk BK237) NB237_0.out (by simp)); replace HK := ak (KeepBut.trans (by repeat ((with_reducible exact HK.out))) hk (.inl rfl)); replace HB := ak (hb); replace HI0 := ak (hi); (try clear hb); (try clear hb2); (try clear hk); (try clear hi)))
  replace HO_238001 := ak (Kd.R_drew HO_238001.out)
  replace HO_238002 := ak (Kd.R_drew HO_238002.out)
  replace BK231 := ak (blk_drew BK231.out)
  replace BK237 := ak (blk_drew BK237.out)
  replace HI0 := ak (IsS59.drew HI0.out)
  replace HK := ak (keep_drew HK.out)
  replace HB := ak (below_drew1 HB.out)
  have p270 : 0 ≤ (t253 : Int) := oT (by (with_reducible assumption))
  have q270 : t253 < (x238002_1.length : Int) := oT (by (with_reducible assumption))
  obtain ⟨ad270, e270, hx270_0, hx270_1, hx270_2⟩ := at_T30 (Kd.R_reads' HO_238002.out).2.2 t253 p270 q270
  cases e270
  replace p270 := eq_true p270
  replace q270 := eq_true q270
  refine start_ (n := 11) (S := fun w' => w'.cell? ⟨gb237, 0, none⟩ = some (.int .i64 x238000_1) ∧ w'.cell? ⟨gb237, 1, none⟩ = some (u238001) ∧ w'.cell? ⟨gb237, 2, none⟩ = some (.slice (some ad270) x238002_1.length co71) ∧ w'.cell? (ad270.add ((t253).toNat * 3)) = some (.int .i64 ((rd_T30 x238002_1 t253).f0)) ∧ w'.cell? ⟨(ad270.add ((t253).toNat * 3)).block, (ad270.add ((t253).toNat * 3)).off + 1, none⟩ = some (.int .i64 ((rd_T30 x238002_1 t253).f1)) ∧ w'.cell? ⟨(ad270.add ((t253).toNat * 3)).block, (ad270.add ((t253).toNat * 3)).off + 2, none⟩ = some (.int .i64 ((rd_T30 x238002_1 t253).f2))) (ds := [8, 10]) (ms 11 0) (by kernel_rfl) rfl (by kernel_rfl) ⟨(blk_cell BK237.out 0).trans rfl, (blk_cell BK237.out 1).trans rfl, (blk_cell BK237.out 2).trans rfl, hx270_0, hx270_1, hx270_2⟩ (fun hHeld => ?_); refine with_tabW spec_l30Live.tab13 spec_l30Live.bits13 (fun HT_ HW_ => ?_)
  generalize w73.drew = w74 at HO_238001 HO_238002 BK231 BK237 HI0 HK HB hx270_0 hx270_1 hx270_2 hHeld ⊢
  refine pu 0 50 ?_ (ms 11 1) rfl rfl HT_ (by kernel_rfl) (fun _ _ _ h => h) (by rfl) ?_ ?_ ?_ ?_
  rotate_left
  ·intro w'
   go_simp
   with_reducible rfl
  rotate_left
  ·simp only [SX]
   rfl
  refine pu 2 52 ?_ (ms 11 5) rfl rfl HT_ (by kernel_rfl) (fun _ _ _ h => h) (by rfl) ?_ ?_ ?_ ?_
  rotate_left
  ·intro w'
   go_simp
   with_reducible rfl
  rotate_left
  ·simp only [SX]
   rfl
  refine pu 4 54 ?_ (ms 11 21) rfl rfl HT_ (by kernel_rfl) (fun _ _ _ h => h) (by rfl) ?_ ?_ ?_ ?_
  rotate_left
  ·intro w'
   go_simp
   with_reducible rfl
  rotate_left
  ·simp only [SX]
   rfl
  refine tk 1 51 ?_ (ms 11 23) rfl rfl HT_ HW_ (by kernel_rfl) (fun _ _ _ h => h) (by rfl) ?_ hHeld ?_ ?_ ?_
  rotate_left
  ·rintro w' ⟨s0, s1, s2, s3, s4, s5⟩
   go_simp
   with_reducible rfl
  rotate_left
  ·simp only [SX]
   rfl
  refine tk 3 53 ?_ (ms 11 31) rfl rfl HT_ HW_ (by kernel_rfl) (fun _ _ _ h => h) (by rfl) ?_ hHeld ?_ ?_ ?_
  rotate_left
  ·rintro w' ⟨s0, s1, s2, s3, s4, s5⟩
   go_simp
   with_reducible rfl
  rotate_left
  ·simp only [SX]
   rfl
  refine pu 5 55 ?_ (ms 11 63) rfl rfl HT_ (by kernel_rfl) (fun _ _ _ h => h) (by rfl) ?_ ?_ ?_ ?_
  rotate_left
  ·intro w'
   go_simp
   with_reducible rfl
  rotate_left
  ·simp only [SX]
   rfl
  refine tk 6 56 ?_ (ms 11 127) rfl rfl HT_ HW_ (by kernel_rfl) (fun _ _ _ h => h) (by rfl) ?_ hHeld ?_ ?_ ?_
  rotate_left
  ·rintro w' ⟨s0, s1, s2, s3, s4, s5⟩
   go_simp
   with_reducible rfl
  rotate_left
  ·simp only [SX]
   rfl
  refine one_ (i := 7) (N := some 57) (ms 11 255) rfl rfl (one_of HT_.out (by kernel_rfl)) (by decide) (fun K hK => ?_)
  refine value_ (w1 := ?_) (v := ?_) (by rfl) rfl ?_ ?_
  rotate_left 2
  ·go_simp
   constructor
   rotate_left
   ·rfl
   rfl
  refine hK.out _ _ ⟨(blk_cell (blk_alloc BK237.out _) 0).trans rfl, (blk_cell (blk_alloc BK237.out _) 1).trans rfl, (blk_cell (blk_alloc BK237.out _) 2).trans rfl, (World.cell?_alloc_lt _ _ _ (World.block_lt_of_cell? _ _ (hHeld.2.2.2.1))).trans (hHeld.2.2.2.1), (World.cell?_alloc_lt _ _ _ (World.block_lt_of_cell? _ _ (hHeld.2.2.2.2.1))).trans (hHeld.2.2.2.2.1), (World.cell?_alloc_lt _ _ _ (World.block_lt_of_cell? _ _ (hHeld.2.2.2.2.2))).trans (hHeld.2.2.2.2.2)⟩ (fun hHeld => ?_)
  clear hK K
  refine norm_ (a' := ?_) ?_ ?_
  rotate_left
  ·show Act.put _ (some 57) _ = _
   simp only [SX]
   rfl
  refine last_ (i := 8) (N := some 58) (ms 11 511) rfl rfl (one_of HT_.out (by kernel_rfl)) (by decide) (fun K hK => ?_)
  refine Kd.R_append_step k30 w.heap.size (by rfl) (.tmp 51) (.tmp 57) 26 30 (.agg #[(.int .i64 0), (.int .i64 0), (.int .i64 0)]) 24 rfl Try.underlying26 info30 rfl (by decide) (by omega) (.slice (some ad270) x238002_1.length co71) x238002_1 (⟨(rd_T30 x238002_1 t253).f0, (rd_T30 x238002_1 t253).f1, (rd_T30 x238002_1 t253).f2⟩ : S30) [.int .i64 ((rd_T30 x238002_1 t253).f0), .int .i64 ((rd_T30 x238002_1 t253).f1), .int .i64 ((rd_T30 x238002_1 t253).f2)] (fun _ => True) (fun _ => False) rfl rfl ?aP (fun _ hk => hk.elim) ?aF ?aO (Below.refl _ _) ?aS ?aL ?_
  (case aP => exact k30_mkM _ _ _ (⟨(rd_T30 x238002_1 t253).f0, (rd_T30 x238002_1 t253).f1, (rd_T30 x238002_1 t253).f2⟩ : S30))
  (case aF => exact (fun _ _ => trivial))
  (case aO => exact (rk HO_238002))
  (case aS => exact (keep_size (w := w) (g := g) (row := none) (by repeat ((with_reducible exact HK.out)))))
  (case aL => have := LMc66.out; omega)
  intro v272 w75 ho hb hg hat
  rw [← Ny271.out] at ho
  have n0_ := ak (Kd.R_over' (rk HO_238001) (Kd.R_typed (rk HO_238002)) (by decide) hg)
  have n1_ := ak (blk_grown (bk BK231) hg (Kd.R_ne HO_238002.out BK231.out (by decide)))
  have n2_ := ak (blk_grown (bk BK237) hg (Kd.R_ne HO_238002.out BK237.out (by decide)))
  have n3_ := ak (IsS59.grown (by repeat ((with_reducible exact HI0.out))) hg (IsS59.own_ne HI0.out HO_238002.out (by decide)))
  have n4_ := ak (below_weaken (by repeat ((with_reducible exact HB.out))) HL.out hb)
  have n5_ := ak (KeepBut.trans (by repeat ((with_reducible exact HK.out))) (KeepBut.of_grown hg g) (Kd.R_base2 HO_238002.out))
  have n6_ := ak (ho)
  clear HO_238001
  clear BK231
  clear BK237
  clear HI0
  clear HB
  clear HK
  clear HO_238002
  have HO_238001 := n0_
  have BK231 := n1_
  have BK237 := n2_
  have HI0 := n3_
  have HB := n4_
  have HK := n5_
  have HO273 := n6_
  clear n0_ n1_ n2_ n3_ n4_ n5_ n6_
  clear ho hb hg hat
  obtain ⟨Ao76, co76, eo76⟩ := Kd.R_slice HO273.out
  (subst eo76)
  refine hK.out _ _ ?_
  clear hK K
  refine norm_ (a' := ?_) ?_ ?_
  rotate_left
  ·show Act.put _ (some 58) _ = _
   simp only [SX]
   rfl
  refine pu 9 59 ?_ (ms 11 1023) rfl rfl HT_ (by kernel_rfl) (fun _ _ _ h => h) (by rfl) ?_ ?_ ?_ ?_
  rotate_left
  ·intro w'
   go_simp
   with_reducible rfl
  rotate_left
  ·simp only [SX]
   rfl
  refine last_ (i := 10) (N := none) (ms 11 2047) rfl rfl (one_of HT_.out (by kernel_rfl)) (by decide) (fun K hK => ?_)
  have hs77 : w75.cell? ⟨gb237, 2, none⟩ = some (.slice (some ad270) x238002_1.length co71) := (blk_cell BK237.out 2).trans rfl
  have hfs77 := blk_frozen BK237.out 2
  have hns77_0 := NB231_237.out
  have hms77_0 := NB237_231.out
  refine skip_ (w1 := ?_) (by rfl) rfl ?_ ?_
  rotate_left
  ·go_simp
   rfl
  refine hK.out _ _ ?_
  clear hK K
  refine done_ (done_of HT_.out (by kernel_rfl)) ?_
  have hcz78_0 := bc w75 BK237 0 (.int .i64 x238000_1) rfl
  have hcz78_1 := bc w75 BK237 1 (u238001) rfl
  have hcz78_2 := bc w75 BK237 2 (.slice (some ad270) x238002_1.length co71) rfl
  have hfz78_0 := fz BK237 0
  have hfz78_1 := fz BK237 1
  have hfz78_2 := fz BK237 2
  obtain ⟨Ao79, co79, eo79⟩ := Kd.R_slice HO_238001.out
  subst eo79
  try go_wp2_with (((with_reducible refine gate_callee (f := 23) rfl ?_); refine goesL_ (some 61) rfl rfl Try.func23 (by kernel_rfl) rfl #[.agg #[.int .i64 x238000_1, .slice Ao79 x238001_1.length co79, .slice Ao76 y271.length co76]] rfl (by (try simp only [List.map_toArray, List.map_cons, List.map_nil]); rfl) ?_; (with_reducible refine (spec_l16Copy.calls x238000_1 _ _ x238001_1 _ _ y271 t274 t275 t278 _ ?side1 ?side2 ?side3 ?side4 A67.out).mono ?_); (case side1 => refine (Kd.R_reads' (e := 65) (base := w.heap.size) (ok := fun k_ => True) (n := x238001_1.length) (c := co79) ?_).2.2; exact (by exact (Kd.R_mono (Kd.R_far (p := ⟨gb237, 2, none⟩) (Kd.R_types HO_238001.out BK237.out (by decide)) (fun _ hk => hk.2) (.slice Ao76 y271.length co76)) (fun _ h_ => h_.1)))); (case side2 => exact (Kd.R_reads' HO_238001.out).2.1); (case side3 => refine (Kd.R_reads' (e := 30) (base := w.heap.size) (ok := fun k_ => True) (n := y271.length) (c := co76) ?_).2.2; exact (by exact (Kd.R_mono (Kd.R_far (p := ⟨gb237, 2, none⟩) (Kd.R_types HO273.out BK237.out (by decide)) (fun _ hk => hk.2) (.slice Ao76 y271.length co76)) (fun _ h_ => h_.1)))); (case side4 => exact (Kd.R_reads' HO273.out).2.1); rintro e w80 ⟨v276, v279, rfl, ho0, ho1, hb⟩; refine ⟨_, rfl, ?_⟩; have HO277 := ak (Kd.R_lower (Kd.R_new' ho0 (Kd.R_lt (by exact (Kd.R_mono (Kd.R_far (p := ⟨gb237, 2, none⟩) (Kd.R_types HO_238001.out BK237.out (by decide)) (fun _ hk => hk.2) (.slice Ao76 y271.length co76)) (fun _ h_ => h_.1))))) (keep_size (w := w) (g := g) (row := none) (by repeat ((with_reducible first | exact HK.out | refine keep_far ?_ GW237.out _))))); replace HO_238001 := ak (Kd.R_elder' (by exact (Kd.R_mono (Kd.R_far (p := ⟨gb237, 2, none⟩) (Kd.R_types HO_238001.out BK237.out (by decide)) (fun _ hk => hk.2) (.slice Ao76 y271.length co76)) (fun _ h_ => h_.1))) (Kd.R_base ho0) hb); have HO280 := ak (Kd.R_lower (Kd.R_new' ho1 (Kd.R_lt (by exact (Kd.R_mono (Kd.R_far (p := ⟨gb237, 2, none⟩) (Kd.R_types HO273.out BK237.out (by decide)) (fun _ hk => hk.2) (.slice Ao76 y271.length co76)) (fun _ h_ => h_.1))))) (keep_size (w := w) (g := g) (row := none) (by repeat ((with_reducible first | exact HK.out | refine keep_far ?_ GW237.out _))))); replace HO273 := ak (Kd.R_elder' (by exact (Kd.R_mono (Kd.R_far (p := ⟨gb237, 2, none⟩) (Kd.R_types HO273.out BK237.out (by decide)) (fun _ hk => hk.2) (.slice Ao76 y271.length co76)) (fun _ h_ => h_.1))) (Kd.R_base ho1) hb); replace BK231 := ak (blk_below (g := gb231) (o := .cells #[.int .i64 0, .slice none 0 0, .slice none 0 0] 28 (0, 0)) (by refine blk_far ?_ NB231_237.out _; exact BK231.out) hb); replace BK237 := ak (blk_below (g := gb237) (o := .cells #[.int .i64 x238000_1, .slice Ao79 x238001_1.length co79, .slice Ao76 y271.length co76] 28 (0, 0)) (by refine blk_put (cs := #[.int .i64 x238000_1, .slice Ao79 x238001_1.length co79, .slice (some ad270) x238002_1.length co71]) ?_ 2 _ rfl; exact BK237.out) hb); replace HK := ak (KeepBut.trans (by repeat ((with_reducible first | exact HK.out | refine keep_far ?_ GW237.out _))) (KeepBut.of_below hb g none) (.inl rfl)); replace HB := ak (below_step (by repeat ((with_reducible first | exact HB.out | refine below_set ?_ GE237.out))) hb); replace HI0 := ak (IsS59.below (show IsS59 w0 (w75.setCell ⟨gb237, 2, none⟩ (.slice Ao76 y271.length co76)) g s0_0 t256 from by repeat ((with_reducible first | exact HI0.out | refine IsS59.far ?_ NB0_237.out _))) hb); (try clear hb); (try clear hb2); (try clear hk); (try clear hi); (try clear ho0); (try clear ho1); have hnb81 := NB231_0.out; have hnc81 := NB0_231.out; have hcz82_0 := bc w80 BK231 0 (.int .i64 0) rfl; have hcz82_1 := bc w80 BK231 1 (.slice none 0 0) rfl; have hcz82_2 := bc w80 BK231 2 (.slice none 0 0) rfl; have hfz82_0 := fz BK231 0; have hfz82_1 := fz BK231 1; have hfz82_2 := fz BK231 2; obtain ⟨Ao83, co83, eo83⟩ := Kd.R_slice HO277.out; subst eo83; obtain ⟨Ao84, co84, eo84⟩ := Kd.R_slice HO280.out; subst eo84))
  refine bodyPost_ret (results_cell_row rfl _ _ gb231 28 #[.int .i64 t274, .slice Ao83 t275.length co83, .slice Ao84 t278.length co84] (0, 0) _ rfl (by refine blk_put (cs := #[.int .i64 t274, .slice Ao83 t275.length co83, .slice none 0 0]) ?_ 2 _ rfl; refine blk_put (cs := #[.int .i64 t274, .slice none 0 0, .slice none 0 0]) ?_ 1 _ rfl; refine blk_put (cs := #[.int .i64 0, .slice none 0 0, .slice none 0 0]) ?_ 0 _ rfl; exact BK231.out) Try.underlying28 rfl (by kernel_rfl)) rfl ?_
  exact ⟨_, _, by rfl, by exact Kd.R_mono (Kd.R_far (p := ⟨gb231, 2, none⟩) (Kd.R_far (p := ⟨gb231, 1, none⟩) (Kd.R_far (p := ⟨gb231, 0, none⟩) (Kd.R_types HO277.out BK231.out (by decide)) (fun _ hk => hk.2) (.int .i64 t274)) (fun _ hk => hk.2) (.slice Ao83 t275.length co83)) (fun _ hk => hk.2) (.slice Ao84 t278.length co84)) (fun _ hk => trivial), by exact Kd.R_mono (Kd.R_far (p := ⟨gb231, 2, none⟩) (Kd.R_far (p := ⟨gb231, 1, none⟩) (Kd.R_far (p := ⟨gb231, 0, none⟩) (Kd.R_types HO280.out BK231.out (by decide)) (fun _ hk => hk.2) (.int .i64 t274)) (fun _ hk => hk.2) (.slice Ao83 t275.length co83)) (fun _ hk => hk.2) (.slice Ao84 t278.length co84)) (fun _ hk => trivial), by repeat ((with_reducible first | exact HI0.out | refine IsS59.far ?_ NB0_231.out _)), by repeat ((with_reducible first | exact HB.out | refine below_set ?_ GE231.out)), by repeat ((with_reducible first | exact HK.out | refine keep_far ?_ GW231.out _))⟩

end Go.Proofs.Ytbcedkcjodokkaa.F
