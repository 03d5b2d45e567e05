-- Printed by wip/px/px.py of this claim's repository (the kit's printer, extended there). Lean checks it.
import Derived.Test.YtgickejeakmenaaFKinds
import Derived.Test.YtgickejeakmenaaFspecl30Open
import Derived.Test.YtgickejeakmenaaFspecl30Rdpick
import Derived.Test.YtgickejeakmenaaFspecl12In
namespace Go.Proofs.Ytgickejeakmenaa.F
open Go.RowKit Go.Proofs.YtgickejeakmenaaW.PrintWords Go.Proofs.YtgickejeakmenaaW.PrintLast Go.Proofs.YtgickejeakmenaaW.PrintMore
attribute [local go_sem] max2_int min2_int max_two min_two max_three min_three max_four min_four   -- for this text's walks alone
set_option linter.unusedVariables false
set_option linter.unusedSimpArgs false

/-! ### spec_l30Stops: function 51 -/
def spec_l30Stops.l0 : Nat → List Int → Int → List Int → Int → Int → List (S41) → Option (List Int × Int)
 | 0, _, _, _, _, _, _ => none
 | k + 1, x5, x6, x1000, x1001, x172000, x172001 => if x6 > 0 then ((spec_l30Rd_pick.f k x1000 x1001 x172000).bind fun bt183 => ((spec_l12In.f k x5 bt183.1).bind fun t185 => (if t185 = true then (spec_l30Stops.l0 k x5 (wrap64 (x6 - 1)) x1000 bt183.2 x172000 x172001) else (if x5.length < 17592186044416 then (spec_l30Stops.l0 k (x5 ++ [bt183.1]) (wrap64 (x6 - 1)) x1000 bt183.2 x172000 x172001) else (none))))) else ((spec_l30Rd_pick.f k x1000 x1001 14).bind fun bt177 => (if bt177.1 = 0 then (if 0 < (x5.length : Int) then (if x5.length < 17592186044416 then (some ((x5 ++ [rd x5 0]), bt177.2)) else (none)) else (none)) else (some (x5, bt177.2))))
def spec_l30Stops.f (k : Nat) (s0_0 : List Int) (s0_1 : Int) (a1_0 : Int) (l1_1 : List (S41)) : Option (List Int × Int) := (spec_l30Rd_pick.f k s0_0 s0_1 5).bind fun bt175 => (spec_l30Stops.l0 k (([] : List Int)) (wrap64 (1 + bt175.1)) s0_0 bt175.2 a1_0 l1_1)
theorem spec_l30Stops.mono_l : ∀ k, (∀ y0 y1 y2 y3 y4 y5, LeO (spec_l30Stops.l0 k y0 y1 y2 y3 y4 y5) (spec_l30Stops.l0 (k + 1) y0 y1 y2 y3 y4 y5))
 | 0 => fun _ _ _ _ _ _ r h => by simp [spec_l30Stops.l0] at h
 | k + 1 => by
  have ih0 := spec_l30Stops.mono_l k
  ·intro y0 y1 y2 y3 y4 y5
   unfold spec_l30Stops.l0
   repeat' first | (with_reducible exact ih0 _ _ _ _ _ _) | (with_reducible exact spec_l12In.mono _ _ _) | (with_reducible exact spec_l30Rd_pick.mono _ _ _ _) | (with_reducible exact LeO.refl _) | (with_reducible refine LeO.ite ?_ ?_) | (with_reducible refine LeO.bind ?_ (fun _ => ?_))
theorem spec_l30Stops.mono : ∀ a0 a1 a2 a3 k, LeO (spec_l30Stops.f k a0 a1 a2 a3) (spec_l30Stops.f (k + 1) a0 a1 a2 a3) := by
 intro a0 a1 a2 a3 k
 have ih0 := spec_l30Stops.mono_l k
 unfold spec_l30Stops.f
 repeat' first | (with_reducible exact ih0 _ _ _ _ _ _) | (with_reducible exact spec_l30Rd_pick.mono _ _ _ _) | (with_reducible refine LeO.bind ?_ (fun _ => ?_))
set_option maxHeartbeats 8000000 in
set_option maxRecDepth 100000 in
theorem spec_l30Stops.calls (k : Nat) (g : Nat) (s0_0 : List Int) (s0_1 : Int) (a1_0 : Int) (A1_1 : Option Addr) (c1_1 : Nat) (l1_1 : List (S41)) (r1 : List Int) (r2 : Int) (w0 w : World) (hI : IsS99 w0 w g s0_0 s0_1) (hB : Below w0.heap.size w0 w) (hr1_1 : ∀ W_, KeepBut w W_ g none → Kd.C k41 W_ A1_1 l1_1.length l1_1) (hc1_1 : l1_1.length ≤ c1_1) (h : spec_l30Stops.f k s0_0 s0_1 a1_0 l1_1 = some (r1, r2)) :
  Calls Try.prog 51 #[.pointer (some ⟨g, 0, none⟩), .agg #[.int .i64 a1_0, .slice A1_1 l1_1.length c1_1]] w fun e w' => ∃ v0_ : Value, e = .returned (v0_) ∧ Kd.R (Kd.int .i64) 3 w' w.heap.size (fun _ => True) v0_ r1 ∧ IsS99 w0 w' g s0_0 r2 ∧ Below w0.heap.size w0 w' ∧ KeepBut w w' g none := by
 have hu25 := Try.underlying25
 have HR1_1 := ak hr1_1
 have HC1_1 := ak hc1_1
 clear hr1_1 hc1_1
 have HI0 := ak hI
 have HK := ak (KeepBut.refl w g none)
 have HL := ak hB.size
 clear hI
 have HW0 := ak hB.size
 have HB := ak hB
 clear hB
 have H : ((spec_l30Rd_pick.f k s0_0 s0_1 5).bind fun bt175 => (spec_l30Stops.l0 k (([] : List Int)) (wrap64 (1 + bt175.1)) s0_0 bt175.2 a1_0 l1_1)) = some (r1, r2) := h
 clear h
 obtain ⟨y172, hy172⟩ : ∃ y_ : List Int, y_ = (([] : List Int)) := ⟨_, rfl⟩
 replace H : ((spec_l30Rd_pick.f k s0_0 s0_1 5).bind fun bt175 => (spec_l30Stops.l0 k y172 (wrap64 (1 + bt175.1)) s0_0 bt175.2 a1_0 l1_1)) = some (r1, r2) := by (rw [hy172]; with_reducible exact H)
 have Ny172 := ak hy172
 clear hy172
 replace H := Option.bind_eq_some_iff.mp H
 obtain ⟨⟨t175, t176⟩, A30, H⟩ := H
 have A3 := ak A30
 clear A30
 have H' := ak H
 clear H
 go_enter Try.func51, Try.ntmps51
 go_wp2_with (first | ((with_reducible refine gate_dst (N := 3) rfl ?_); refine box_event ?hg (N := 3) ?hd (cs := #[.int .i64 a1_0, .slice A1_1 l1_1.length c1_1]) (t := 25) ?hr ?_; (case hd => rfl); (case hg => rfl); (case hr => (go_simp; done)); intro gb171 hg w4 hbox hb; replace HB := ak (below_step (by repeat ((with_reducible exact HB.out))) hb); have BK171 := ak (hbox); have GW171 := ak ((by rw [hg]; exact (keep_size (w := w) (g := g) (row := none) (by repeat ((with_reducible exact HK.out)))) : w.heap.size ≤ gb171)); have GE171 := ak ((Nat.le_trans HW0.out (by rw [hg]; exact (keep_size (w := w) (g := g) (row := none) (by repeat ((with_reducible exact HK.out)))) : w.heap.size ≤ gb171) : w0.heap.size ≤ gb171)); replace HK := ak (KeepBut.trans (by repeat ((with_reducible exact HK.out))) (KeepBut.of_below hb g none) (.inl rfl)); have NB0_171 := ak ((by rw [hg]; exact Nat.ne_of_lt (IsS99.lt (show IsS99 w0 _ g s0_0 s0_1 from by repeat ((with_reducible exact HI0.out)))) : g ≠ gb171)); have NB171_0 := ak ((by rw [hg]; exact Nat.ne_of_gt (IsS99.lt (show IsS99 w0 _ g s0_0 s0_1 from by repeat ((with_reducible exact HI0.out)))) : gb171 ≠ g)); replace HI0 := ak (IsS99.below (by repeat ((with_reducible exact HI0.out))) hb); clear hb hbox hg) | ((with_reducible refine gate_dst (N := 8) rfl ?_); refine Kd.R_lit (Kd.int .i64) _ 3 ?hg (N := 8) ?hd (xs := ([] : List Int)) (inner := []) (ok := fun _ => True) (okp := fun _ => True) ?hr ?hp (fun _ hk => hk) trivial (Below.refl _ _) (Nat.le_refl _) (by simp) ?_; (case hd => rfl); (case hg => rfl); (case hr => (go_simp; done)); (case hp => exact (Reps.none _ _)); intro v173 w5 ho6 hb hg_ hnew_; clear hg_ hnew_; (rw [← Ny172.out] at ho6); have HO174 := ak (Kd.R_lower ho6 (keep_size (w := w) (g := g) (row := none) (by repeat ((with_reducible exact HK.out))))); replace BK171 := ak (blk_below (bk BK171) hb); replace HK := ak (KeepBut.trans (by repeat ((with_reducible exact HK.out))) (KeepBut.of_below hb g none) (.inl rfl)); replace HB := ak (below_step (by repeat ((with_reducible exact HB.out))) hb); replace HI0 := ak (IsS99.below (by repeat ((with_reducible exact HI0.out))) hb); clear hb ho6) | ((with_reducible refine gate_callee (f := 102) rfl ?_); refine goesL_ (some 10) rfl rfl Try.func102 (by kernel_rfl) rfl #[.pointer (some ⟨g, 0, none⟩), .int .i64 5] rfl (by (try simp only [List.map_toArray, List.map_cons, List.map_nil]); rfl) ?_; (with_reducible refine (spec_l30Rd_pick.calls k g s0_0 s0_1 5 t175 t176 w0 _ ?side1 ?side2 A3.out).mono ?_); (case side1 => repeat ((with_reducible exact HI0.out))); (case side2 => repeat ((with_reducible exact HB.out))); rintro e w7 ⟨rfl, hi, hb, hk⟩; refine ⟨_, rfl, ?_⟩; replace BK171 := ak (KeepBut.blk hk (g' := gb171) (o := .cells #[.int .i64 a1_0, .slice A1_1 l1_1.length c1_1] 25 (0, 0)) (bk BK171) NB171_0.out (by simp)); replace HO174 := ak (Kd.R_mono (Kd.R_keep (IsS99.apart (show IsS99 w0 _ g s0_0 s0_1 from by repeat ((with_reducible exact HI0.out))) (rk HO174) (by decide)) hk (fun _ h => h.2)) (fun _ h => h.1)); replace HK := ak (KeepBut.trans (by repeat ((with_reducible exact HK.out))) hk (.inl rfl)); replace HB := ak (hb); replace HI0 := ak (hi); (try clear hb); (try clear hb2); (try clear hk); (try clear hi)))
 go_loopg [5, 6] k (fun kq v5 v6 w' => ∃ (x5_1 : List Int) (x6_1 : Int) (x1001_1 : Int), v6 = .int .i64 x6_1 ∧ Aside0 (spec_l30Stops.l0 kq x5_1 x6_1 s0_0 x1001_1 a1_0 l1_1 = some (r1, r2)) ∧ Aside0 (kq ≤ k) ∧ Aside0 (Kd.R (Kd.int .i64) 3 w' w.heap.size (fun _ => True) v5 x5_1) ∧ Aside0 (w'.heap[gb171]? = some (.cells #[.int .i64 a1_0, (.slice A1_1 l1_1.length c1_1)] 25 (0, 0))) ∧ Aside0 (IsS99 w0 w' g s0_0 x1001_1) ∧ Aside0 (KeepBut w w' g none) ∧ Aside0 (Below w0.heap.size w0 w'))
 case atStart => exact ⟨(y172), (wrap64 (1 + t175)), (t176), (by rfl), H', ⟨Nat.le_refl _⟩, ⟨rk HO174⟩, ⟨bk BK171⟩, ⟨by repeat ((with_reducible exact HI0.out))⟩, ⟨by repeat ((with_reducible exact HK.out))⟩, ⟨by repeat ((with_reducible exact HB.out))⟩⟩
 clear H'
 try clear c1
 try clear p2
 try clear c5
 try clear p6
 obtain ⟨x5_1, x6_1, x1001_1, rfl, HA, HK1, HO_5, BK171, HI0, HK, HB⟩ := hrel
 cases gk with
 | zero => exact absurd HA.out (by simp [spec_l30Stops.l0])
 | succ k1 =>
  have H := HA.out
  clear HA
  simp only [spec_l30Stops.l0] at H
  by_cases c8 : x6_1 > 0
  rotate_left
  ·rw [if_neg c8] at H
   have c8b0 : decide (0 < x6_1) = false := decide_eq_false c8
   clear c8
   replace H := Option.bind_eq_some_iff.mp H
   obtain ⟨⟨t177, t178⟩, A220, H⟩ := H
   have A22 := ak A220
   clear A220
   by_cases c23 : t177 = 0
   rotate_left
   ·rw [if_neg c23] at H
    have c23b0 : (t177 == 0) = false := beq_eq_false_iff_ne.mpr c23
    have c23b1 : (t177 != 0) = true := bne_iff_ne.mpr c23
    simp only [Option.some.injEq, Prod.mk.injEq] at H
    obtain ⟨rfl, rfl⟩ := H
    go_wp2_with (((with_reducible refine gate_callee (f := 102) rfl ?_); refine goesL_ (some 29) rfl rfl Try.func102 (by kernel_rfl) rfl #[.pointer (some ⟨g, 0, none⟩), .int .i64 14] rfl (by (try simp only [List.map_toArray, List.map_cons, List.map_nil]); rfl) ?_; (with_reducible refine (spec_l30Rd_pick.calls k1 g s0_0 x1001_1 14 t177 t178 w0 _ ?side1 ?side2 A22.out).mono ?_); (case side1 => repeat ((with_reducible exact HI0.out))); (case side2 => repeat ((with_reducible exact HB.out))); rintro e w29 ⟨rfl, hi, hb, hk⟩; refine ⟨_, rfl, ?_⟩; replace HO_5 := ak (Kd.R_mono (Kd.R_keep (IsS99.apart (show IsS99 w0 _ g s0_0 x1001_1 from by repeat ((with_reducible exact HI0.out))) (rk HO_5) (by decide)) hk (fun _ h => h.2)) (fun _ h => h.1)); replace BK171 := ak (KeepBut.blk hk (g' := gb171) (o := .cells #[.int .i64 a1_0, .slice A1_1 l1_1.length c1_1] 25 (0, 0)) (bk BK171) NB171_0.out (by simp)); replace HK := ak (KeepBut.trans (by repeat ((with_reducible exact HK.out))) hk (.inl rfl)); replace HB := ak (hb); replace HI0 := ak (hi); (try clear hb); (try clear hb2); (try clear hk); (try clear hi)))
    go_ret
    exact ⟨_, by rfl, rk HO_5, by repeat ((with_reducible exact HI0.out)), by repeat ((with_reducible exact HB.out)), by repeat ((with_reducible exact HK.out))⟩
   rw [if_pos c23] at H
   have c23b0 : (t177 == 0) = true := beq_iff_eq.mpr c23
   have c23b1 : (t177 != 0) = false := bne_eq_false_iff_eq.mpr c23
   clear c23
   by_cases c24 : 0 < (x5_1.length : Int)
   rotate_left
   ·rw [if_neg c24] at H
    exact absurd H (by simp)
   rw [if_pos c24] at H
   have c24b0 : decide (0 < (x5_1.length : Int)) = true := decide_eq_true c24
   have c24b1 : decide (0 < x5_1.length) = true := decide_eq_true (by omega)
   clear c24
   by_cases c25 : x5_1.length < 17592186044416
   rotate_left
   ·rw [if_neg c25] at H
    exact absurd H (by simp)
   rw [if_pos c25] at H
   have LMc25 := ak c25
   clear c25
   obtain ⟨y180, hy180⟩ : ∃ y_ : List Int, y_ = (x5_1 ++ [rd x5_1 0]) := ⟨_, rfl⟩
   replace H : (some (y180, t178)) = some (r1, r2) := by (rw [hy180]; with_reducible exact H)
   have Ny180 := ak hy180
   clear hy180
   simp only [Option.some.injEq, Prod.mk.injEq] at H
   obtain ⟨rfl, rfl⟩ := H
   go_wp2_with (first | ((with_reducible refine gate_callee (f := 102) rfl ?_); refine goesL_ (some 29) rfl rfl Try.func102 (by kernel_rfl) rfl #[.pointer (some ⟨g, 0, none⟩), .int .i64 14] rfl (by (try simp only [List.map_toArray, List.map_cons, List.map_nil]); rfl) ?_; (with_reducible refine (spec_l30Rd_pick.calls k1 g s0_0 x1001_1 14 t177 t178 w0 _ ?side1 ?side2 A22.out).mono ?_); (case side1 => repeat ((with_reducible exact HI0.out))); (case side2 => repeat ((with_reducible exact HB.out))); rintro e w26 ⟨rfl, hi, hb, hk⟩; refine ⟨_, rfl, ?_⟩; replace HO_5 := ak (Kd.R_mono (Kd.R_keep (IsS99.apart (show IsS99 w0 _ g s0_0 x1001_1 from by repeat ((with_reducible exact HI0.out))) (rk HO_5) (by decide)) hk (fun _ h => h.2)) (fun _ h => h.1)); replace BK171 := ak (KeepBut.blk hk (g' := gb171) (o := .cells #[.int .i64 a1_0, .slice A1_1 l1_1.length c1_1] 25 (0, 0)) (bk BK171) NB171_0.out (by simp)); replace HK := ak (KeepBut.trans (by repeat ((with_reducible exact HK.out))) hk (.inl rfl)); replace HB := ak (hb); replace HI0 := ak (hi); (try clear hb); (try clear hb2); (try clear hk); (try clear hi); obtain ⟨Ao27, co27, eo27⟩ := Kd.R_slice HO_5.out; subst eo27; have p179 : 0 ≤ (0 : Int) := (by omega); have q179 : 0 < (x5_1.length : Int) := oT (by (with_reducible assumption)); obtain ⟨ad179, e179, hx179_0⟩ := Kd.at_int (Kd.R_reads' HO_5.out).2.2 0 p179 q179; cases e179; have qi179 : (0 < x5_1.length) = True := eq_true (by omega); (try rw [show ((0 : Int)).toNat = 0 from rfl] at hx179_0); (try rw [Addr.add_zero'] at hx179_0); replace p179 := eq_true p179; replace q179 := eq_true q179) | ((with_reducible refine gate_builtin (b := .append) (xs := #[.tmp 31, .tmp 35]) rfl ?_); at_builtin; refine Kd.R_append (Kd.int .i64) w.heap.size rfl (.tmp 31) (.tmp 35) 26 3 (.int .i64 0) 8 rfl Try.underlying26 info3 rfl (by decide) (by omega) (.slice (some ad179) x5_1.length co27) x5_1 (rd x5_1 0) [.int .i64 (rd x5_1 0)] (fun _ => True) (fun _ => False) rfl rfl ?aP (fun _ hk => hk.elim) ?aF ?aO (Below.refl _ _) ?aS ?aL ?_; (case aP => exact rfl); (case aF => exact (fun _ _ => trivial)); (case aO => exact (rk HO_5)); (case aS => exact (keep_size (w := w) (g := g) (row := none) (by repeat ((with_reducible exact HK.out))))); (case aL => have := LMc25.out; omega); intro v181 w28 ho hb hg hat; rw [← Ny180.out] at ho; have n0_ := ak (blk_grown (bk BK171) hg (Kd.R_ne HO_5.out BK171.out (by decide))); have n1_ := ak (IsS99.grown (by repeat ((with_reducible exact HI0.out))) hg (IsS99.own_ne HI0.out HO_5.out (by decide))); have n2_ := ak (below_weaken (by repeat ((with_reducible exact HB.out))) HL.out hb); have n3_ := ak (KeepBut.trans (by repeat ((with_reducible exact HK.out))) (KeepBut.of_grown hg g) (Kd.R_base2 HO_5.out)); have n4_ := ak (ho); clear BK171; clear HI0; clear HB; clear HK; clear HO_5; have BK171 := n0_; have HI0 := n1_; have HB := n2_; have HK := n3_; have HO182 := n4_; clear n0_ n1_ n2_ n3_ n4_; clear ho hb hg hat))
   go_ret
   exact ⟨_, by rfl, rk HO182, by repeat ((with_reducible exact HI0.out)), by repeat ((with_reducible exact HB.out)), by repeat ((with_reducible exact HK.out))⟩
  rw [if_pos c8] at H
  have c8b0 : decide (0 < x6_1) = true := decide_eq_true c8
  clear c8
  replace H := Option.bind_eq_some_iff.mp H
  obtain ⟨⟨t183, t184⟩, A90, H⟩ := H
  have A9 := ak A90
  clear A90
  replace H := Option.bind_eq_some_iff.mp H
  obtain ⟨t185, A100, H⟩ := H
  have A10 := ak A100
  clear A100
  by_cases c11 : t185 = true
  ·subst c11
   rw [if_pos rfl] at H
   have H' := ak H
   clear H
   have hnb12 := NB171_0.out
   have hnc12 := NB0_171.out
   have hcz13_0 := bc wr BK171 0 (.int .i64 a1_0) rfl
   have hcz13_1 := bc wr BK171 1 (.slice A1_1 l1_1.length c1_1) rfl
   have hfz13_0 := fz BK171 0
   have hfz13_1 := fz BK171 1
   go_wp2_with (first | ((with_reducible refine gate_callee (f := 102) rfl ?_); refine goesL_ (some 19) rfl rfl Try.func102 (by kernel_rfl) rfl #[.pointer (some ⟨g, 0, none⟩), .int .i64 a1_0] rfl (by (try simp only [List.map_toArray, List.map_cons, List.map_nil]); rfl) ?_; (with_reducible refine (spec_l30Rd_pick.calls k1 g s0_0 x1001_1 a1_0 t183 t184 w0 _ ?side1 ?side2 A9.out).mono ?_); (case side1 => repeat ((with_reducible exact HI0.out))); (case side2 => repeat ((with_reducible exact HB.out))); rintro e w14 ⟨rfl, hi, hb, hk⟩; refine ⟨_, rfl, ?_⟩; replace HO_5 := ak (Kd.R_mono (Kd.R_keep (IsS99.apart (show IsS99 w0 _ g s0_0 x1001_1 from by repeat ((with_reducible exact HI0.out))) (rk HO_5) (by decide)) hk (fun _ h => h.2)) (fun _ h => h.1)); replace BK171 := ak (KeepBut.blk hk (g' := gb171) (o := .cells #[.int .i64 a1_0, .slice A1_1 l1_1.length c1_1] 25 (0, 0)) (bk BK171) NB171_0.out (by simp)); replace HK := ak (KeepBut.trans (by repeat ((with_reducible exact HK.out))) hk (.inl rfl)); replace HB := ak (hb); replace HI0 := ak (hi); (try clear hb); (try clear hb2); (try clear hk); (try clear hi); obtain ⟨Ao15, co15, eo15⟩ := Kd.R_slice HO_5.out; subst eo15) | ((with_reducible refine gate_callee (f := 81) rfl ?_); refine goesL_ (some 22) rfl rfl Try.func81 (by kernel_rfl) rfl #[.slice Ao15 x5_1.length co15, .int .i64 t183] rfl (by (try simp only [List.map_toArray, List.map_cons, List.map_nil]); rfl) ?_; (with_reducible refine (spec_l12In.calls k1 _ _ x5_1 t183 true _ ?side1 ?side2 A10.out).mono ?_); (case side1 => repeat (exact (Kd.R_reads' HO_5.out).2.2)); (case side2 => exact (Kd.R_reads' HO_5.out).2.1); rintro e w' ⟨rfl, ⟨nd, rfl⟩⟩; refine ⟨_, rfl, ?_⟩))
   go_roundg k1
   case measure => have := HK1.out; omega
   case rel => exact ⟨(x5_1), (wrap64 (x6_1 - 1)), (t184), (by rfl), H', ⟨by have := HK1.out; omega⟩, ⟨rk HO_5⟩, ⟨bk BK171⟩, ⟨by repeat ((with_reducible first | exact HI0.out | apply IsS99.drewN))⟩, ⟨by repeat ((with_reducible first | exact HK.out | apply keep_drewN))⟩, ⟨by repeat ((with_reducible first | exact HB.out | apply pw_below_drewN))⟩⟩
  replace c11 := Bool.eq_false_iff.mpr c11
  subst c11
  rw [if_neg (show ¬ (false = true) by decide)] at H
  by_cases c16 : x5_1.length < 17592186044416
  rotate_left
  ·rw [if_neg c16] at H
   exact absurd H (by simp)
  rw [if_pos c16] at H
  have LMc16 := ak c16
  clear c16
  obtain ⟨y186, hy186⟩ : ∃ y_ : List Int, y_ = (x5_1 ++ [t183]) := ⟨_, rfl⟩
  replace H : (spec_l30Stops.l0 k1 y186 (wrap64 (x6_1 - 1)) s0_0 t184 a1_0 l1_1) = some (r1, r2) := by (rw [hy186]; with_reducible exact H)
  have Ny186 := ak hy186
  clear hy186
  have H' := ak H
  clear H
  have hnb17 := NB171_0.out
  have hnc17 := NB0_171.out
  have hcz18_0 := bc wr BK171 0 (.int .i64 a1_0) rfl
  have hcz18_1 := bc wr BK171 1 (.slice A1_1 l1_1.length c1_1) rfl
  have hfz18_0 := fz BK171 0
  have hfz18_1 := fz BK171 1
  go_wp2_with (first | ((with_reducible refine gate_callee (f := 102) rfl ?_); refine goesL_ (some 19) rfl rfl Try.func102 (by kernel_rfl) rfl #[.pointer (some ⟨g, 0, none⟩), .int .i64 a1_0] rfl (by (try simp only [List.map_toArray, List.map_cons, List.map_nil]); rfl) ?_; (with_reducible refine (spec_l30Rd_pick.calls k1 g s0_0 x1001_1 a1_0 t183 t184 w0 _ ?side1 ?side2 A9.out).mono ?_); (case side1 => repeat ((with_reducible exact HI0.out))); (case side2 => repeat ((with_reducible exact HB.out))); rintro e w19 ⟨rfl, hi, hb, hk⟩; refine ⟨_, rfl, ?_⟩; replace HO_5 := ak (Kd.R_mono (Kd.R_keep (IsS99.apart (show IsS99 w0 _ g s0_0 x1001_1 from by repeat ((with_reducible exact HI0.out))) (rk HO_5) (by decide)) hk (fun _ h => h.2)) (fun _ h => h.1)); replace BK171 := ak (KeepBut.blk hk (g' := gb171) (o := .cells #[.int .i64 a1_0, .slice A1_1 l1_1.length c1_1] 25 (0, 0)) (bk BK171) NB171_0.out (by simp)); replace HK := ak (KeepBut.trans (by repeat ((with_reducible exact HK.out))) hk (.inl rfl)); replace HB := ak (hb); replace HI0 := ak (hi); (try clear hb); (try clear hb2); (try clear hk); (try clear hi); obtain ⟨Ao20, co20, eo20⟩ := Kd.R_slice HO_5.out; subst eo20) | ((with_reducible refine gate_callee (f := 81) rfl ?_); refine goesL_ (some 22) rfl rfl Try.func81 (by kernel_rfl) rfl #[.slice Ao20 x5_1.length co20, .int .i64 t183] rfl (by (try simp only [List.map_toArray, List.map_cons, List.map_nil]); rfl) ?_; (with_reducible refine (spec_l12In.calls k1 _ _ x5_1 t183 false _ ?side1 ?side2 A10.out).mono ?_); (case side1 => repeat (exact (Kd.R_reads' HO_5.out).2.2)); (case side2 => exact (Kd.R_reads' HO_5.out).2.1); rintro e w' ⟨rfl, ⟨nd, rfl⟩⟩; refine ⟨_, rfl, ?_⟩) | ((with_reducible refine gate_builtin (b := .append) (xs := #[.tmp 24, .tmp 26]) rfl ?_); at_builtin; refine Kd.R_append (Kd.int .i64) w.heap.size rfl (.tmp 24) (.tmp 26) 26 3 (.int .i64 0) 8 rfl Try.underlying26 info3 rfl (by decide) (by omega) (.slice Ao20 x5_1.length co20) x5_1 t183 [.int .i64 t183] (fun _ => True) (fun _ => False) rfl rfl ?aP (fun _ hk => hk.elim) ?aF ?aO (Below.refl _ _) ?aS ?aL ?_; (case aP => exact rfl); (case aF => exact (fun _ _ => trivial)); (case aO => exact (rk HO_5)); (case aS => exact (keep_size (w := w) (g := g) (row := none) (by repeat ((with_reducible first | exact HK.out | apply keep_drewN))))); (case aL => have := LMc16.out; omega); intro v187 w21 ho hb hg hat; rw [← Ny186.out] at ho; have n0_ := ak (blk_grown (bk BK171) hg (Kd.R_ne HO_5.out BK171.out (by decide))); have n1_ := ak (IsS99.grown (by repeat ((with_reducible first | exact HI0.out | apply IsS99.drewN))) hg (IsS99.own_ne HI0.out HO_5.out (by decide))); have n2_ := ak (below_weaken (by repeat ((with_reducible first | exact HB.out | apply pw_below_drewN))) HL.out hb); have n3_ := ak (KeepBut.trans (by repeat ((with_reducible first | exact HK.out | apply keep_drewN))) (KeepBut.of_grown hg g) (Kd.R_base2 HO_5.out)); have n4_ := ak (ho); clear BK171; clear HI0; clear HB; clear HK; clear HO_5; have BK171 := n0_; have HI0 := n1_; have HB := n2_; have HK := n3_; have HO188 := n4_; clear n0_ n1_ n2_ n3_ n4_; clear ho hb hg hat))
  go_roundg k1
  case measure => have := HK1.out; omega
  case rel => exact ⟨(y186), (wrap64 (x6_1 - 1)), (t184), (by rfl), H', ⟨by have := HK1.out; omega⟩, ⟨rk HO188⟩, ⟨bk BK171⟩, ⟨by repeat ((with_reducible exact HI0.out))⟩, ⟨by repeat ((with_reducible exact HK.out))⟩, ⟨by repeat ((with_reducible exact HB.out))⟩⟩

end Go.Proofs.Ytgickejeakmenaa.F
