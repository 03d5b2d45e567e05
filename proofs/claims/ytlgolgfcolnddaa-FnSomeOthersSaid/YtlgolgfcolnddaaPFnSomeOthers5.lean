-- Printed by this claim's repository's tools (px.py, pgo.py, pack.py), one text behind the other. Lean checks it.
import Derived.Test.YtlgolgfcolnddaaFKindsPFnSomeOthers
import Derived.Test.YtlgolgfcolnddaaPFnSomeOthers4
namespace Go.Proofs.Ytlgolgfcolnddaa.F
open Go.RowKit Go.Proofs.YtlgolgfcolnddaaW.PrintWords Go.Proofs.YtlgolgfcolnddaaW.PrintLast Go.Proofs.YtlgolgfcolnddaaW.PrintMore
attribute [local go_sem] qQe qQd qQi qQh qZk qZl qQc qQb
set_option linter.unusedVariables false
set_option linter.unusedSimpArgs false
/-! ### spec_l14Go: function 90 -/
mutual
def spec_l14Go.l0 : Nat → Int → Int → Int → List Bool → List (S103) → Int → Int → List (S58) → List Int → Int → Option ((List (S103)) × List Bool)
 | 0, _, _, _, _, _, _, _, _, _, _ => none
 | k + 1, x1, x2, x3, x4, x6, x15, bj, ay, ba, bh => if x15 < (ay.length : Int) then (if 0 ≤ x15 then (if ((qZa ay x15).f0) = x3 then (if 0 ≤ ((qZa ay x15).f1) then (if ((qZa ay x15).f1) < (x4.length : Int) then (if rdOf false x4 ((qZa ay x15).f1) = true then (spec_l14Go.l0 k x1 x2 x3 x4 x6 (wrap64 (x15 + 1)) bj ay ba bh) else (if (x6.length : Int) = x2 then (if 0 ≤ (wrap64 (x2 - 1)) then (if (wrap64 (x2 - 1)) < (x6.length : Int) then (if (wrap64 (bh + ((qZa ay x15).f2))) > ((qQg x6 (wrap64 (x2 - 1))).f1) then (spec_l14Go.l0 k x1 x2 x3 x4 x6 (wrap64 (x15 + 1)) bj ay ba bh) else ((some (([] : List Int) : List Int)).bind fun bm => (if bm.length + ba.length < 17592186044416 then ((some (bm ++ ba : List Int)).bind fun bb => ((some (([x15] : List Int) : List Int)).bind fun aJ => (if bb.length + aJ.length < 17592186044416 then ((spec_l14Go.f k bj ay x1 x2 ((qZa ay x15).f1) (x4.set (((qZa ay x15).f1) : Int).toNat true) (bb ++ aJ) (wrap64 (bh + ((qZa ay x15).f2))) x6).bind fun aH => (spec_l14Go.l0 k x1 x2 x3 (aH.2.set (((qZa ay x15).f1) : Int).toNat false) aH.1 (wrap64 (x15 + 1)) bj ay ba bh)) else (none)))) else (none)))) else (none)) else (none)) else ((some (([] : List Int) : List Int)).bind fun bv => (if bv.length + ba.length < 17592186044416 then ((some (bv ++ ba : List Int)).bind fun bi => ((some (([x15] : List Int) : List Int)).bind fun aT => (if bi.length + aT.length < 17592186044416 then ((spec_l14Go.f k bj ay x1 x2 ((qZa ay x15).f1) (x4.set (((qZa ay x15).f1) : Int).toNat true) (bi ++ aT) (wrap64 (bh + ((qZa ay x15).f2))) x6).bind fun aQ => (spec_l14Go.l0 k x1 x2 x3 (aQ.2.set (((qZa ay x15).f1) : Int).toNat false) aQ.1 (wrap64 (x15 + 1)) bj ay ba bh)) else (none)))) else (none))))) else (none)) else (none)) else (spec_l14Go.l0 k x1 x2 x3 x4 x6 (wrap64 (x15 + 1)) bj ay ba bh)) else (none)) else (some (x6, x4))
def spec_l14Go.f : Nat → Int → List (S58) → Int → Int → Int → List Bool → List Int → Int → List (S103) → Option ((List (S103)) × List Bool)
 | 0, _, _, _, _, _, _, _, _, _ => none
 | k + 1, aw, ab, a1, a2, a3, l4, au, av, l6 => if a3 = a1 then ((some (([] : List Int) : List Int)).bind fun bW => (if bW.length + au.length < 17592186044416 then ((spec_l14Put.f k l6 (bW ++ au) av a2).bind fun cj => (some (cj, l4))) else (none))) else (spec_l14Go.l0 k a1 a2 a3 l4 l6 0 aw ab au av)
end
theorem spec_l14Go.mono_l : ∀ k, (∀ y0 y1 y2 y3 y4 y5 y6 y7 y8, LeO (spec_l14Go.f k y0 y1 y2 y3 y4 y5 y6 y7 y8) (spec_l14Go.f (k + 1) y0 y1 y2 y3 y4 y5 y6 y7 y8)) ∧ (∀ y0 y1 y2 y3 y4 y5 y6 y7 y8 y9, LeO (spec_l14Go.l0 k y0 y1 y2 y3 y4 y5 y6 y7 y8 y9) (spec_l14Go.l0 (k + 1) y0 y1 y2 y3 y4 y5 y6 y7 y8 y9))
 | 0 => ⟨fun _ _ _ _ _ _ _ _ _ r h => by simp [spec_l14Go.f] at h, fun _ _ _ _ _ _ _ _ _ _ r h => by simp [spec_l14Go.l0] at h⟩
 | k + 1 => by
  obtain ⟨ih0, ih1⟩ := spec_l14Go.mono_l k
  refine ⟨?_, ?_⟩
  ·intro y0 y1 y2 y3 y4 y5 y6 y7 y8
   unfold spec_l14Go.f
   repeat' first | (with_reducible exact ih1 _ _ _ _ _ _ _ _ _ _) | (with_reducible exact spec_l14Put.mono _ _ _ _ _) | (with_reducible exact LeO.refl _) | (with_reducible refine LeO.ite ?_ ?_) | (with_reducible refine LeO.bind ?_ (fun _ => ?_))
  ·intro y0 y1 y2 y3 y4 y5 y6 y7 y8 y9
   unfold spec_l14Go.l0
   repeat' first | (with_reducible exact ih0 _ _ _ _ _ _ _ _ _) | (with_reducible exact ih1 _ _ _ _ _ _ _ _ _ _) | (with_reducible exact LeO.refl _) | (with_reducible refine LeO.ite ?_ ?_) | (with_reducible refine LeO.bind ?_ (fun _ => ?_))
theorem spec_l14Go.mono : ∀ a0 a1 a2 a3 a4 a5 a6 a7 a8 k, LeO (spec_l14Go.f k a0 a1 a2 a3 a4 a5 a6 a7 a8) (spec_l14Go.f (k + 1) a0 a1 a2 a3 a4 a5 a6 a7 a8) := by
 intro a0 a1 a2 a3 a4 a5 a6 a7 a8 k
 obtain ⟨ih0, ih1⟩ := spec_l14Go.mono_l k
 exact ih0 a0 a1 a2 a3 a4 a5 a6 a7 a8
def spec_l14Go.T2 : Bool × List (List Nat × List Nat) := (true, [([], []), ([], []), ([], []), ([2], [2]), ([1, 3], [1, 3]), ([], []), ([5], [5]), ([4, 6], [4, 6]), ([], []), ([0, 7, 8, 4], [0, 7, 8]), ([9, 9, 0, 1, 2, 3, 4, 5, 6, 7, 8, 9], [9])])
def spec_l14Go.B2 : List Nat := [0, 0, 0, 4, 14, 0, 32, 126, 0, 511, 1023]
theorem spec_l14Go.tab2 : rtab .any (qKd Try.f90 2) = spec_l14Go.T2 := by kernel_rfl
theorem spec_l14Go.bits2 : qJf spec_l14Go.T2.2 spec_l14Go.B2 = true := by kernel_rfl
def spec_l14Go.T7 : Bool × List (List Nat × List Nat) := (true, [([], []), ([0], [0]), ([], []), ([1, 2], [1, 2]), ([3], [3]), ([4], [4]), ([4], [4]), ([6, 4], [4, 6]), ([5, 7, 4], [4, 5, 7]), ([8, 4], [4, 8]), ([4, 9], [4, 9]), ([10, 4], [10]), ([11], [11]), ([12, 11], [11, 12]), ([11], [11]), ([13, 14, 11], [11, 13, 14]), ([15, 11, 11], [11, 15]), ([16], [16]), ([17, 16], [16, 17]), ([16], [16]), ([19, 16], [16, 19]), ([18, 20, 16], [16, 18, 20]), ([16], [16]), ([16], [16]), ([23, 16], [16, 23]), ([22, 24, 16], [16, 22, 24]), ([25, 16], [16, 25]), ([26, 16], [16, 26]), ([21, 27, 16], [16, 21, 27]), ([16, 28, 11], [11, 16, 28]), ([11, 29], [11, 29])])
def spec_l14Go.B7 : List Nat := [0, 1, 0, 7, 15, 31, 31, 95, 255, 511, 1023, 2047, 4095, 8191, 4095, 32767, 65535, 131071, 262143, 131071, 655359, 2097151, 131071, 131071, 8519679, 29491199, 63045631, 130154495, 268435455, 536870911, 1073741823]
theorem spec_l14Go.tab7 : rtab .any (qKd Try.f90 7) = spec_l14Go.T7 := by kernel_rfl
theorem spec_l14Go.bits7 : qJf spec_l14Go.T7.2 spec_l14Go.B7 = true := by kernel_rfl
def spec_l14Go.T9 : Bool × List (List Nat × List Nat) := (true, [([], []), ([], []), ([], []), ([], []), ([3], [3]), ([], []), ([], []), ([], []), ([7], [7]), ([6, 8], [6, 8]), ([], []), ([10], [10]), ([9, 11, 9], [9, 11]), ([], []), ([13], [13]), ([], []), ([15], [15]), ([14, 16], [14, 16]), ([12, 17], [12, 17]), ([], []), ([0, 1, 2, 4, 5, 18, 19, 12], [0, 1, 2, 4, 5, 18, 19]), ([20, 20, 0, 1, 2, 3, 4, 5, 6, 7, 8, 9, 10, 11, 12, 13, 14, 15, 16, 17, 18, 19, 20], [19, 20])])
def spec_l14Go.B9 : List Nat := [0, 0, 0, 0, 8, 0, 0, 0, 128, 448, 0, 1024, 4032, 0, 8192, 0, 32768, 122880, 262080, 0, 1048575, 2097151]
theorem spec_l14Go.tab9 : rtab .any (qKd Try.f90 9) = spec_l14Go.T9 := by kernel_rfl
theorem spec_l14Go.bits9 : qJf spec_l14Go.T9.2 spec_l14Go.B9 = true := by kernel_rfl
set_option maxHeartbeats 8000000 in
set_option maxRecDepth 100000 in
theorem spec_l14Go.calls (k : Nat) : ∀ (aw : Int) (bP : Option Addr) (aV : Nat) (ab : List (S58)) (a1 : Int) (a2 : Int) (a3 : Int) (P4_ : Nat → Prop) (u9000_ : Value) (l4 : List Bool) (bd : Option Addr) (be : Nat) (au : List Int) (av : Int) (P6_ : Nat → Prop) (A6 : Option Addr) (c6 : Nat) (l6 : List (S103)) (r1 : List (S103)) (r2 : List Bool) (w0 w : World) (hB : Below w0.heap.size w0 w) (cG : ∀ W_, Kept w W_ (fun k_ => P4_ k_) → Kd.C k58 W_ bP ab.length ab) (cH : ab.length ≤ aV) (ho4 : Kd.R Kd.bool 4 w w0.heap.size P4_ u9000_ l4) (cI : ∀ W_, Kept w W_ (fun k_ => P4_ k_) → Kd.C (Kd.int .i64) W_ bd au.length au) (cJ : au.length ≤ be) (hs6 : Kd.V k103 103 w w0.heap.size (fun k_ => P6_ k_ ∧ some k_ ≠ (u9000_ : Value).ownBlock) (.slice A6 l6.length c6) l6) (h : spec_l14Go.f k aw ab a1 a2 a3 l4 au av l6 = some (r1, r2)),
  Calls Try.prog 90 #[.agg #[.int .i64 aw, .slice bP ab.length aV], .int .i64 a1, .int .i64 a2, .int .i64 a3, u9000_, .agg #[.slice bd au.length be, .int .i64 av], .slice A6 l6.length c6] w fun e w' => ∃ v0_ : Value, e = .returned (v0_) ∧ Kd.V k103 103 w' w0.heap.size (fun k_ => ((P4_ k_ ∨ P6_ k_) ∨ w.heap.size ≤ k_) ∧ some k_ ≠ (u9000_ : Value).ownBlock) v0_ r1 ∧ Kd.R Kd.bool 4 w' w0.heap.size (fun k_ => (P4_ k_ ∨ w.heap.size ≤ k_)) u9000_ r2 ∧ Below w0.heap.size w0 w' ∧ Kept w w' (fun k_ => P4_ k_) := by
 induction k using Nat.strongRecOn with
 | _ k ih =>
 intro aw bP aV ab a1 a2 a3 P4_ u9000_ l4 bd be au av P6_ A6 c6 l6 r1 r2 w0 w hB cG cH ho4 cI cJ hs6 h
 cases k with
 | zero => exact absurd h (by simp [spec_l14Go.f])
 | succ k =>
 simp only [spec_l14Go.f] at h
 have ig := Try.underlying25
 have hz := Try.underlying103
 have ii := Try.underlying58
 have bX := ak cG
 have dq := ak cH
 clear cG cH
 have HO4 := ak (show Kd.R Kd.bool 4 w w0.heap.size (fun k_ => (P4_ k_ ∨ w.heap.size ≤ k_)) u9000_ l4 from Kd.R_mono ho4 (fun k_ hk => (.inl hk)))
 have bY := ak cI
 have hA := ak cJ
 clear cI cJ
 have HO6 := ak (show Kd.V k103 103 w w0.heap.size (fun k_ => ((P4_ k_ ∨ P6_ k_) ∨ w.heap.size ≤ k_) ∧ some k_ ≠ (u9000_ : Value).ownBlock) (.slice A6 l6.length c6) l6 from Kd.V_mono hs6 (fun k_ hk => ⟨.inl (.inr hk.1), hk.2⟩))
 have HK := ak (Kept.refl w (fun k_ => P4_ k_))
 have HW0 := ak hB.size
 have HB := ak hB
 clear hB
 have H : (if a3 = a1 then ((some (([] : List Int) : List Int)).bind fun bW => (if bW.length + au.length < 17592186044416 then ((spec_l14Put.f k l6 (bW ++ au) av a2).bind fun cj => (some (cj, l4))) else (none))) else (spec_l14Go.l0 k a1 a2 a3 l4 l6 0 aw ab au av)) = some (r1, r2) := h
 clear h
 by_cases c8 : a3 = a1
 ·rw [if_pos c8] at H
  have c8b0 : (a3 == a1) = true := beq_iff_eq.mpr c8
  have c8b1 : (a3 != a1) = false := bne_eq_false_iff_eq.mpr c8
  clear c8
  obtain ⟨bW, cK⟩ : ∃ y_ : List Int, y_ = (([] : List Int)) := ⟨_, rfl⟩
  replace H : (if bW.length + au.length < 17592186044416 then ((spec_l14Put.f k l6 (bW ++ au) av a2).bind fun cj => (some (cj, l4))) else (none)) = some (r1, r2) := by (have H2_ := (Option.bind_some _ _).symm.trans H; rw [cK]; with_reducible exact H2_)
  have dI := ak cK
  clear cK
  by_cases c9 : bW.length + au.length < 17592186044416
  rotate_left
  ·rw [if_neg c9] at H
   exact absurd H (by simp)
  rw [if_pos c9] at H
  have gA := ak c9
  clear c9
  obtain ⟨cL, cM⟩ : ∃ y_ : List Int, y_ = (bW ++ au) := ⟨_, rfl⟩
  replace H : ((spec_l14Put.f k l6 cL av a2).bind fun cj => (some (cj, l4))) = some (r1, r2) := by (rw [cM]; with_reducible exact H)
  have dJ := ak cM
  clear cM
  replace H := Option.bind_eq_some_iff.mp H
  obtain ⟨cj, dK, H⟩ := H
  have A10 := ak dK
  clear dK
  simp only [Option.some.injEq, Prod.mk.injEq] at H
  obtain ⟨rfl, rfl⟩ := H
  go_enter Try.func90, Try.ntmps90
  try go_wp2_with (first | ((with_reducible refine gate_dst (N := 7) rfl ?_); refine qZj ?hg (N := 7) ?hd (cs := #[.int .i64 aw, .slice bP ab.length aV]) (t := 25) ?hr ?_; (case hd => rfl); (case hg => rfl); (case hr => (go_simp; done)); intro ai hg w11 hbox hb; replace HO4 := ak (Kd.R_below (rk HO4) hb); replace HO6 := ak (Kd.V_below (Kd.V_elderB (by exact HO6.out) ai (Nat.le_of_eq hg.symm)) hb); have ae := ak (hbox); have dL := ak ((by rw [hg]; exact (by exact HK.out.1) : w.heap.size ≤ ai)); replace HK := ak (Kept.below (S := (fun k_ => P4_ k_)) (by repeat ((with_reducible exact HK.out))) hb); have an := ak ((by rw [hg]; exact (qZc (bl HB)) : w0.heap.size ≤ ai)); replace HB := ak (qZd (bl HB) hb); clear hb hbox hg) | ((with_reducible refine gate_dst (N := 12) rfl ?_); refine qZj ?hg (N := 12) ?hd (cs := #[.slice bd au.length be, .int .i64 av]) (t := 103) ?hr ?_; (case hd => rfl); (case hg => rfl); (case hr => (go_simp; done)); intro ah hg w12 hbox hb; replace HO4 := ak (Kd.R_below (rk HO4) hb); replace HO6 := ak (Kd.V_below (Kd.V_elderB (by exact HO6.out) ah (Nat.le_of_eq hg.symm)) hb); have af := ak (hbox); have dM := ak ((by rw [hg]; exact (by exact HK.out.1) : w.heap.size ≤ ah)); replace HK := ak (Kept.below (S := (fun k_ => P4_ k_)) (by repeat ((with_reducible exact HK.out))) hb); have ao := ak ((by rw [hg]; exact (qZc (bl1 HB an)) : w0.heap.size ≤ ah)); replace HB := ak (qZd (bl1 HB an) hb); have aW := ak ((by rw [hg]; exact Nat.ne_of_lt (qZh (bk ae)) : ai ≠ ah)); have aX := ak ((by rw [hg]; exact Nat.ne_of_gt (qZh (bk ae)) : ah ≠ ai)); replace ae := ak (qZe (bk ae) hb); clear hb hbox hg))
  replace HO4 := ak (Kd.R_drew HO4.out)
  replace HO6 := ak (Kd.V_drew HO6.out)
  replace ae := ak (qZp ae.out)
  replace af := ak (qZp af.out)
  replace HK := ak (Kept.drew HK.out)
  replace HB := ak (qZo HB.out)
  refine qJd (n := 11) (S := fun w' => w'.cell? ⟨ah, 0, none⟩ = some (.slice bd au.length be) ∧ w'.cell? ⟨ah, 1, none⟩ = some (.int .i64 av)) (ds := []) (ms 11 0) (by kernel_rfl) rfl (by kernel_rfl) ⟨(qZb af.out 0).trans rfl, (qZb af.out 1).trans rfl⟩ (fun hHeld => ?_); refine qQk spec_l14Go.tab2 spec_l14Go.bits2 (fun HT_ HW_ => ?_)
  generalize w12.drew = w13 at HO4 HO6 ae af HK HB hHeld ⊢
  refine pu 0 20 ?_ (ms 11 1) rfl rfl HT_ (by kernel_rfl) (fun _ _ _ h => h) (by rfl) ?_ ?_ ?_ ?_
  rotate_left
  ·intro w'
   go_simp
   with_reducible rfl
  rotate_left
  ·simp only [SX]
   rfl
  refine pu 2 22 ?_ (ms 11 5) rfl rfl HT_ (by kernel_rfl) (fun _ _ _ h => h) (by rfl) ?_ ?_ ?_ ?_
  rotate_left
  ·intro w'
   go_simp
   with_reducible rfl
  rotate_left
  ·simp only [SX]
   rfl
  refine pu 5 25 ?_ (ms 11 37) rfl rfl HT_ (by kernel_rfl) (fun _ _ _ h => h) (by rfl) ?_ ?_ ?_ ?_
  rotate_left
  ·intro w'
   go_simp
   with_reducible rfl
  rotate_left
  ·simp only [SX]
   rfl
  refine pu 8 28 ?_ (ms 11 293) rfl rfl HT_ (by kernel_rfl) (fun _ _ _ h => h) (by rfl) ?_ ?_ ?_ ?_
  rotate_left
  ·intro w'
   go_simp
   with_reducible rfl
  rotate_left
  ·simp only [SX]
   rfl
  refine tk 3 23 ?_ (ms 11 301) rfl rfl HT_ HW_ (by kernel_rfl) (fun _ _ _ h => h) (by rfl) ?_ hHeld ?_ ?_ ?_
  rotate_left
  ·rintro w' ⟨s0, s1⟩
   go_simp
   with_reducible rfl
  rotate_left
  ·simp only [SX]
   rfl
  refine tk 6 26 ?_ (ms 11 365) rfl rfl HT_ HW_ (by kernel_rfl) (fun _ _ _ h => h) (by rfl) ?_ hHeld ?_ ?_ ?_
  rotate_left
  ·rintro w' ⟨s0, s1⟩
   go_simp
   with_reducible rfl
  rotate_left
  ·simp only [SX]
   rfl
  refine one_ (i := 1) (N := some 21) (ms 11 367) rfl rfl (qJb HT_.out (by kernel_rfl)) (by decide) (fun K hK => ?_)
  refine Kd.R_lit_step (Kd.int .i64) _ 3 ?hg (N := 21) ?hd (xs := ([] : List Int)) (inner := []) (ok := fun _ => True) (okp := fun _ => True) ?hr ?hp (fun _ hk => hk) trivial (Below.refl _ _) (Nat.le_refl _) (by simp) ?_; (case hd => rfl); (case hg => rfl); (case hr => (go_simp; done)); (case hp => exact (Reps.none _ _))
  intro gB w14 dk hb hg_ hnew_
  clear hg_ hnew_
  (rw [← dI.out] at dk)
  replace HO4 := ak (Kd.R_below (rk HO4) hb)
  replace HO6 := ak (Kd.V_elder' (by exact HO6.out) (Kd.R_base dk) hb)
  have ci := ak (Kd.R_lower (Kd.R_newM (M := fun k_ => (P4_ k_ ∨ w.heap.size ≤ k_)) dk (by exact HK.out.1) (fun k_ h_ => .inr h_)) (qZc (bl2 HB an ao)))
  replace ae := ak (qZe (bk ae) hb)
  replace af := ak (qZe (bk af) hb)
  replace HK := ak (Kept.below (S := (fun k_ => P4_ k_)) (by repeat ((with_reducible exact HK.out))) hb)
  replace HB := ak (qZd (bl2 HB an ao) hb)
  clear hb dk
  refine hK.out _ _ ⟨(qZb af.out 0).trans rfl, (qZb af.out 1).trans rfl⟩ (fun hHeld => ?_)
  clear hK K
  refine qJc (a' := ?_) ?_ ?_
  rotate_left
  ·show Act.put _ (some 21) _ = _
   simp only [SX]
   rfl
  refine one_ (i := 4) (N := some 24) (ms 11 383) rfl rfl (qJb HT_.out (by kernel_rfl)) (by decide) (fun K hK => ?_)
  refine Kd.R_append_rows_step (Kd.int .i64) (w0 := w0) w0.heap.size (by rfl) (.tmp 21) (.tmp 23) 33 3 (.int .i64 0) 8 rfl Try.underlying33 qYd rfl (by decide) (by omega) gB bW au _ _ _ (fun k_ => (P4_ k_ ∨ w.heap.size ≤ k_)) (fun _ => False) rfl rfl ?aO ?aR (fun _ _ h => h) (fun _ h => h.elim) ?aF ?aB ?aS ?aL ?_
  (case aR => exact Kd.C_kept_now bY.out (by repeat ((with_reducible exact HK.out))))
  (case aB => exact (bl2 HB an ao))
  (case aF => exact (fun k_ hk => (.inr (Nat.le_trans (by exact HK.out.1) hk))))
  (case aO => exact (by exact Kd.R_mono ci.out (fun _ hk => hk.1)))
  (case aS => exact (qZc (bl2 HB an ao)))
  (case aL => have := gA.out; omega)
  intro ij w16 ho hb hg hat
  rw [← dJ.out] at ho
  have n0_ := ak (Kd.R_over' (rk HO4) (Kd.R_typed (rk ci)) (by decide) hg)
  have n1_ := ak (Kd.V_afterv (ok := (fun k_ => ((P4_ k_ ∨ P6_ k_) ∨ w.heap.size ≤ k_) ∧ some k_ ≠ (u9000_ : Value).ownBlock ∧ k_ ≠ ai ∧ k_ ≠ ah)) (by exact Kd.V_mono HO6.out (fun _ hk => ⟨⟨hk.1.1.1.1, ⟨hk.1.1.1.2, ⟨hk.1.1.2, hk.1.2⟩⟩⟩, hk.2⟩)) hg hat)
  have n2_ := ak (qZg (bk ae) hg (Kd.R_ne ci.out ae.out (by decide)))
  have n3_ := ak (qZg (bk af) hg (Kd.R_ne ci.out af.out (by decide)))
  have n4_ := ak (hb)
  have n5_ := ak (Kept.of_grown (S := (fun k_ => P4_ k_)) hg (by repeat ((with_reducible exact HK.out))) (fun k_ e_ => (ci.out.1 k_ e_).1))
  have n6_ := ak (ho)
  clear HO4
  clear HO6
  clear ae
  clear af
  clear HB
  clear HK
  clear ci
  have HO4 := n0_
  have HO6 := n1_
  have ae := n2_
  have af := n3_
  have HB := n4_
  have HK := n5_
  have bM := n6_
  clear n0_ n1_ n2_ n3_ n4_ n5_ n6_
  clear ho hb hg hat
  obtain ⟨dv, dw, gC⟩ := Kd.R_slice bM.out
  (subst gC)
  refine hK.out _ _ ⟨(qZb af.out 0).trans rfl, (qZb af.out 1).trans rfl⟩ (fun hHeld => ?_)
  clear hK K
  refine qJc (a' := ?_) ?_ ?_
  rotate_left
  ·show Act.put _ (some 24) _ = _
   simp only [SX]
   rfl
  refine pu 7 27 ?_ (ms 11 511) rfl rfl HT_ (by kernel_rfl) (fun _ _ _ h => h) (by rfl) ?_ ?_ ?_ ?_
  rotate_left
  ·intro w'
   go_simp
   with_reducible rfl
  rotate_left
  ·simp only [SX]
   rfl
  refine one_ (i := 9) (N := some 29) (ms 11 1023) rfl rfl (qJb HT_.out (by kernel_rfl)) (by decide) (fun K hK => ?_)
  refine qXg Try.func114 (by kernel_rfl) rfl #[.slice A6 l6.length c6, .agg #[.slice dv cL.length dw, .int .i64 av], .int .i64 a2] (by rfl) rfl rfl (by (try simp only [List.map_toArray, List.map_cons, List.map_nil]); rfl) ?_
  with_reducible refine (spec_l14Put.calls k (fun k_ => ((((P4_ k_ ∨ P6_ k_) ∨ w.heap.size ≤ k_) ∧ (some k_ ≠ (u9000_ : Value).ownBlock ∧ (k_ ≠ ai ∧ k_ ≠ ah))) ∧ some k_ ≠ (.slice dv cL.length dw : Value).ownBlock)) _ _ l6 (fun k_ => some k_ = (.slice dv cL.length dw : Value).ownBlock) _ _ cL av a2 cj _ ?side1 ?side2 A10.out).mono ?_
  (case side1 => exact HO6.out)
  (case side2 => exact Kd.R_V (Kd.R_tight rfl (Kd.R_types (Kd.R_types (Kd.R_apart' (bM.out) (Kd.R_typed HO4.out) (by decide)) ae.out (by decide)) af.out (by decide))))
  rintro e w18 ⟨ik, rfl, ho0, hb⟩
  refine ⟨_, rfl, ?_⟩
  replace HO6 := ak (Kd.V_elder' (by exact HO6.out) (Kd.N_base ho0) hb)
  have dN := ak (Kd.N_lower (Kd.N_mono (ok' := fun k_ => ((P4_ k_ ∨ P6_ k_) ∨ w.heap.size ≤ k_) ∧ some k_ ≠ (u9000_ : Value).ownBlock ∧ k_ ≠ ai ∧ k_ ≠ ah) ho0 (fun k_ hk_ => ⟨Or.elim hk_ (fun hs_ => Or.elim hs_ (fun hs_ => hs_.1.1) (fun hs_ => (Or.imp_left (fun h_ => (.inl h_)) (((Kd.R_types (Kd.R_types (Kd.R_apart' (bM.out) (Kd.R_typed HO4.out) (by decide)) ae.out (by decide)) af.out (by decide)).1 k_ hs_.symm).1.1.1)))) (fun hn_ => (.inr (Nat.le_trans (by exact HK.out.1) hn_))), Or.elim hk_ (fun hs_ => Or.elim hs_ (fun hs_ => hs_.1.2.1) (fun hs_ => ((Kd.R_types (Kd.R_types (Kd.R_apart' (bM.out) (Kd.R_typed HO4.out) (by decide)) ae.out (by decide)) af.out (by decide)).1 k_ hs_.symm).1.1.2)) (fun hn_ => (Kd.fresh' (Kd.R_lt (rk HO4)) k_ hn_)), Or.elim hk_ (fun hs_ => Or.elim hs_ (fun hs_ => hs_.1.2.2.1) (fun hs_ => ((Kd.R_types (Kd.R_types (Kd.R_apart' (bM.out) (Kd.R_typed HO4.out) (by decide)) ae.out (by decide)) af.out (by decide)).1 k_ hs_.symm).1.2)) (fun hn_ => (Kd.freshB (bk ae) k_ hn_)), Or.elim hk_ (fun hs_ => Or.elim hs_ (fun hs_ => hs_.1.2.2.2) (fun hs_ => ((Kd.R_types (Kd.R_types (Kd.R_apart' (bM.out) (Kd.R_typed HO4.out) (by decide)) ae.out (by decide)) af.out (by decide)).1 k_ hs_.symm).2)) (fun hn_ => (Kd.freshB (bk af) k_ hn_))⟩)) (qZc (bl2 HB an ao)))
  replace HO4 := ak (Kd.R_below (rk HO4) hb)
  replace bM := ak (Kd.R_below (rk bM) hb)
  replace ae := ak (qZe (bk ae) hb)
  replace af := ak (qZe (bk af) hb)
  replace HK := ak (Kept.below (S := (fun k_ => P4_ k_)) (by repeat ((with_reducible exact HK.out))) hb)
  replace HB := ak (qZd (bl2 HB an ao) hb)
  (try clear hb)
  (try clear hb2)
  (try clear hk)
  (try clear hi)
  (try clear ho0)
  refine hK.out _ _ ⟨(qZb af.out 0).trans rfl, (qZb af.out 1).trans rfl⟩ (fun hHeld => ?_)
  clear hK K
  refine qJc (a' := ?_) ?_ ?_
  rotate_left
  ·show Act.put _ (some 29) _ = _
   simp only [SX]
   rfl
  refine pu 10 14 ?_ (ms 11 2047) rfl rfl HT_ (by kernel_rfl) (fun _ _ _ h => h) (by rfl) ?_ ?_ ?_ ?_
  rotate_left
  ·intro w'
   go_simp
   with_reducible rfl
  rotate_left
  ·simp only [SX]
   rfl
  refine qXc (qQp HT_.out (by kernel_rfl)) ?_
  try go_wp2
  go_ret
  exact ⟨_, by rfl, Kd.N_V (by exact Kd.N_mono dN.out (fun _ hk => ⟨hk.1, hk.2.1⟩)), rk HO4, bl2 HB an ao, by repeat ((with_reducible exact HK.out))⟩
 rw [if_neg c8] at H
 have c8b0 : (a3 == a1) = false := beq_eq_false_iff_ne.mpr c8
 have c8b1 : (a3 != a1) = true := bne_iff_ne.mpr c8
 have H' := ak H
 clear H
 go_enter Try.func90, Try.ntmps90
 go_wp2_with (first | ((with_reducible refine gate_dst (N := 7) rfl ?_); refine qZj ?hg (N := 7) ?hd (cs := #[.int .i64 aw, .slice bP ab.length aV]) (t := 25) ?hr ?_; (case hd => rfl); (case hg => rfl); (case hr => (go_simp; done)); intro ai hg w19 hbox hb; replace HO4 := ak (Kd.R_below (rk HO4) hb); replace HO6 := ak (Kd.V_below (Kd.V_elderB (by exact HO6.out) ai (Nat.le_of_eq hg.symm)) hb); have ae := ak (hbox); have dL := ak ((by rw [hg]; exact (by exact HK.out.1) : w.heap.size ≤ ai)); replace HK := ak (Kept.below (S := (fun k_ => P4_ k_)) (by repeat ((with_reducible exact HK.out))) hb); have an := ak ((by rw [hg]; exact (qZc (bl HB)) : w0.heap.size ≤ ai)); replace HB := ak (qZd (bl HB) hb); clear hb hbox hg) | ((with_reducible refine gate_dst (N := 12) rfl ?_); refine qZj ?hg (N := 12) ?hd (cs := #[.slice bd au.length be, .int .i64 av]) (t := 103) ?hr ?_; (case hd => rfl); (case hg => rfl); (case hr => (go_simp; done)); intro ah hg w20 hbox hb; replace HO4 := ak (Kd.R_below (rk HO4) hb); replace HO6 := ak (Kd.V_below (Kd.V_elderB (by exact HO6.out) ah (Nat.le_of_eq hg.symm)) hb); have af := ak (hbox); have dM := ak ((by rw [hg]; exact (by exact HK.out.1) : w.heap.size ≤ ah)); replace HK := ak (Kept.below (S := (fun k_ => P4_ k_)) (by repeat ((with_reducible exact HK.out))) hb); have ao := ak ((by rw [hg]; exact (qZc (bl1 HB an)) : w0.heap.size ≤ ah)); replace HB := ak (qZd (bl1 HB an) hb); have aW := ak ((by rw [hg]; exact Nat.ne_of_lt (qZh (bk ae)) : ai ≠ ah)); have aX := ak ((by rw [hg]; exact Nat.ne_of_gt (qZh (bk ae)) : ah ≠ ai)); replace ae := ak (qZe (bk ae) hb); clear hb hbox hg))
 go_loopg [6, 15] k (fun kq v6 v15 w' => ∃ (aq : List Bool) (ax : List (S103)) (aa : Int), v15 = .int .i64 aa ∧ Aside0 (spec_l14Go.l0 kq a1 a2 a3 aq ax aa aw ab au av = some (r1, r2)) ∧ Aside0 (kq ≤ k) ∧ Aside0 (Kd.R Kd.bool 4 w' w0.heap.size (fun k_ => (P4_ k_ ∨ w.heap.size ≤ k_)) u9000_ aq) ∧ Aside0 (Kd.V k103 103 w' w0.heap.size (fun k_ => ((P4_ k_ ∨ P6_ k_) ∨ w.heap.size ≤ k_) ∧ some k_ ≠ (u9000_ : Value).ownBlock ∧ k_ ≠ ai ∧ k_ ≠ ah) v6 ax) ∧ Aside0 (w'.heap[ai]? = some (.cells #[.int .i64 aw, (.slice bP ab.length aV)] 25 (0, 0))) ∧ Aside0 (w'.heap[ah]? = some (.cells #[(.slice bd au.length be), .int .i64 av] 103 (0, 0))) ∧ Aside0 (Kept w w' (fun k_ => P4_ k_)) ∧ Aside0 (Below w0.heap.size w0 w'))
 case atStart => exact ⟨(l4), (l6), (0), (by rfl), H', ⟨Nat.le_refl _⟩, ⟨rk HO4⟩, ⟨by exact Kd.V_mono HO6.out (fun _ hk => ⟨hk.1.1.1, ⟨hk.1.1.2, ⟨hk.1.2, hk.2⟩⟩⟩)⟩, ⟨bk ae⟩, ⟨bk af⟩, ⟨by repeat ((with_reducible exact HK.out))⟩, ⟨bl2 HB an ao⟩⟩
 clear H'
 try clear c1
 try clear p2
 try clear c5
 try clear c6
 try clear c8
 try clear c8b0
 try clear c8b1
 try clear c9
 try clear c11
 obtain ⟨aq, ax, aa, rfl, HA, HK1, ag, aj, ae, af, HK, HB⟩ := hrel
 cases gk with
 | zero => exact absurd HA.out (by simp [spec_l14Go.l0])
 | succ k1 =>
  have H := HA.out
  clear HA
  simp only [spec_l14Go.l0] at H
  by_cases c21 : aa < (ab.length : Int)
  rotate_left
  ·rw [if_neg c21] at H
   have c21b0 : decide (aa < (ab.length : Int)) = false := decide_eq_false c21
   clear c21
   simp only [Option.some.injEq, Prod.mk.injEq] at H
   obtain ⟨rfl, rfl⟩ := H
   have gD := aW.out
   have gE := aX.out
   have dO := bc wr ae 0 (.int .i64 aw) rfl
   have dP := bc wr ae 1 (.slice bP ab.length aV) rfl
   have dQ := fz ae 0
   have dR := fz ae 1
   go_wp2
   go_ret
   exact ⟨_, by rfl, by exact Kd.V_mono aj.out (fun _ hk => ⟨hk.1, hk.2.1⟩), rk ag, bl2 HB an ao, by repeat ((with_reducible exact HK.out))⟩
  rw [if_pos c21] at H
  have c21b0 : decide (aa < (ab.length : Int)) = true := decide_eq_true c21
  clear c21
  by_cases c22 : 0 ≤ aa
  rotate_left
  ·rw [if_neg c22] at H
   exact absurd H (by simp)
  rw [if_pos c22] at H
  have c22b0 : decide (0 ≤ aa) = true := decide_eq_true c22
  clear c22
  by_cases c23 : ((qZa ab aa).f0) = a3
  rotate_left
  ·rw [if_neg c23] at H
   have c23b0 : (((qZa ab aa).f0) == a3) = false := beq_eq_false_iff_ne.mpr c23
   have c23b1 : (((qZa ab aa).f0) != a3) = true := bne_iff_ne.mpr c23
   have H' := ak H
   clear H
   have gF := aW.out
   have gG := aX.out
   have dS := bc wr ae 0 (.int .i64 aw) rfl
   have dT := bc wr ae 1 (.slice bP ab.length aV) rfl
   have dU := fz ae 0
   have dV := fz ae 1
   have bn : 0 ≤ (aa : Int) := oT (by (with_reducible assumption))
   have bo : aa < (ab.length : Int) := oT (by (with_reducible assumption))
   obtain ⟨aN, ck, bQ, bR, bS, bU, bV⟩ := qJk (Kd.C_kept_now bX.out HK.out) aa bn bo
   cases ck
   replace bn := eq_true bn
   replace bo := eq_true bo
   try go_wp2_with (((with_reducible refine gate_dst (N := 16) rfl ?_); refine qZj ?hg (N := 16) ?hd (cs := #[.int .i64 0, .int .i64 0, .int .i64 0, .int .i64 0, .int .i64 0]) (t := 58) ?hr ?_; (case hd => rfl); (case hg => rfl); (case hr => (go_simp; done)); intro ac hg bJ hbox hb; replace ag := ak (Kd.R_below (rk ag) hb); replace aj := ak (Kd.V_below (Kd.V_elderB (by exact aj.out) ac (Nat.le_of_eq hg.symm)) hb); have ad := ak (hbox); have bC := ak ((by rw [hg]; exact (by exact HK.out.1) : w.heap.size ≤ ac)); replace HK := ak (Kept.below (S := (fun k_ => P4_ k_)) (by repeat ((with_reducible exact HK.out))) hb); have ar := ak ((by rw [hg]; exact (qZc (bl2 HB an ao)) : w0.heap.size ≤ ac)); replace HB := ak (qZd (bl2 HB an ao) hb); have al := ak ((by rw [hg]; exact Nat.ne_of_lt (qZh (bk ae)) : ai ≠ ac)); have aK := ak ((by rw [hg]; exact Nat.ne_of_gt (qZh (bk ae)) : ac ≠ ai)); replace ae := ak (qZe (bk ae) hb); have am := ak ((by rw [hg]; exact Nat.ne_of_lt (qZh (bk af)) : ah ≠ ac)); have aM := ak ((by rw [hg]; exact Nat.ne_of_gt (qZh (bk af)) : ac ≠ ah)); replace af := ak (qZe (bk af) hb); clear hb hbox hg; have gH := aK.out; have gI := al.out; have gJ := aM.out; have gK := am.out; have dW := bc bJ ad 0 (.int .i64 0) rfl; have dX := bc bJ ad 1 (.int .i64 0) rfl; have dY := bc bJ ad 2 (.int .i64 0) rfl; have dZ := bc bJ ad 3 (.int .i64 0) rfl; have ea := bc bJ ad 4 (.int .i64 0) rfl; have eb := fz ad 0; have ec := fz ad 1; have ed := fz ad 2; have ee := fz ad 3; have ef := fz ad 4))
   have n0_ : Aside0 (Kd.R Kd.bool 4 (((((bJ.setCell ⟨ac, 0, none⟩ (.int .i64 ((qZa ab aa).f0))).setCell ⟨ac, 1, none⟩ (.int .i64 ((qZa ab aa).f1))).setCell ⟨ac, 2, none⟩ (.int .i64 ((qZa ab aa).f2))).setCell ⟨ac, 3, none⟩ (.int .i64 ((qZa ab aa).f3))).setCell ⟨ac, 4, none⟩ (.int .i64 ((qZa ab aa).f4))) w0.heap.size (fun k_ => (P4_ k_ ∨ w.heap.size ≤ k_)) u9000_ aq) := ⟨by exact Kd.R_mono (Kd.R_far (p := ⟨ac, 4, none⟩) (Kd.R_far (p := ⟨ac, 3, none⟩) (Kd.R_far (p := ⟨ac, 2, none⟩) (Kd.R_far (p := ⟨ac, 1, none⟩) (Kd.R_far (p := ⟨ac, 0, none⟩) (Kd.R_types ag.out ad.out (by decide)) (fun _ hk => hk.2) (.int .i64 ((qZa ab aa).f0))) (fun _ hk => hk.2) (.int .i64 ((qZa ab aa).f1))) (fun _ hk => hk.2) (.int .i64 ((qZa ab aa).f2))) (fun _ hk => hk.2) (.int .i64 ((qZa ab aa).f3))) (fun _ hk => hk.2) (.int .i64 ((qZa ab aa).f4))) (fun _ hk => hk.1)⟩
   have n1_ : Aside0 (Kd.V k103 103 (((((bJ.setCell ⟨ac, 0, none⟩ (.int .i64 ((qZa ab aa).f0))).setCell ⟨ac, 1, none⟩ (.int .i64 ((qZa ab aa).f1))).setCell ⟨ac, 2, none⟩ (.int .i64 ((qZa ab aa).f2))).setCell ⟨ac, 3, none⟩ (.int .i64 ((qZa ab aa).f3))).setCell ⟨ac, 4, none⟩ (.int .i64 ((qZa ab aa).f4))) w0.heap.size (fun k_ => ((P4_ k_ ∨ P6_ k_) ∨ w.heap.size ≤ k_) ∧ some k_ ≠ (u9000_ : Value).ownBlock ∧ k_ ≠ ai ∧ k_ ≠ ah ∧ k_ ≠ ac) u6 ax) := ⟨by exact Kd.V_mono (Kd.V_far (p := ⟨ac, 4, none⟩) (Kd.V_far (p := ⟨ac, 3, none⟩) (Kd.V_far (p := ⟨ac, 2, none⟩) (Kd.V_far (p := ⟨ac, 1, none⟩) (Kd.V_far (p := ⟨ac, 0, none⟩) (Kd.V_mono aj.out (fun k_ hk => (⟨hk, hk.2⟩ : _ ∧ k_ ≠ ac))) (fun _ hk => hk.2) (.int .i64 ((qZa ab aa).f0))) (fun _ hk => hk.2) (.int .i64 ((qZa ab aa).f1))) (fun _ hk => hk.2) (.int .i64 ((qZa ab aa).f2))) (fun _ hk => hk.2) (.int .i64 ((qZa ab aa).f3))) (fun _ hk => hk.2) (.int .i64 ((qZa ab aa).f4))) (fun _ hk => ⟨hk.1.1.1, ⟨hk.1.1.2.1, ⟨hk.1.1.2.2.1, ⟨hk.1.1.2.2.2, hk.1.2⟩⟩⟩⟩)⟩
   have n2_ : Aside0 ((((((bJ.setCell ⟨ac, 0, none⟩ (.int .i64 ((qZa ab aa).f0))).setCell ⟨ac, 1, none⟩ (.int .i64 ((qZa ab aa).f1))).setCell ⟨ac, 2, none⟩ (.int .i64 ((qZa ab aa).f2))).setCell ⟨ac, 3, none⟩ (.int .i64 ((qZa ab aa).f3))).setCell ⟨ac, 4, none⟩ (.int .i64 ((qZa ab aa).f4))).heap[ai]? = some (.cells #[.int .i64 aw, .slice (some aN) ab.length aV] 25 (0, 0))) := ⟨by refine blk_far ?_ al.out _; refine blk_far ?_ al.out _; refine blk_far ?_ al.out _; refine blk_far ?_ al.out _; refine blk_far ?_ al.out _; exact ae.out⟩
   have n3_ : Aside0 ((((((bJ.setCell ⟨ac, 0, none⟩ (.int .i64 ((qZa ab aa).f0))).setCell ⟨ac, 1, none⟩ (.int .i64 ((qZa ab aa).f1))).setCell ⟨ac, 2, none⟩ (.int .i64 ((qZa ab aa).f2))).setCell ⟨ac, 3, none⟩ (.int .i64 ((qZa ab aa).f3))).setCell ⟨ac, 4, none⟩ (.int .i64 ((qZa ab aa).f4))).heap[ah]? = some (.cells #[.slice bd au.length be, .int .i64 av] 103 (0, 0))) := ⟨by refine blk_far ?_ am.out _; refine blk_far ?_ am.out _; refine blk_far ?_ am.out _; refine blk_far ?_ am.out _; refine blk_far ?_ am.out _; exact af.out⟩
   have n4_ : Aside0 ((((((bJ.setCell ⟨ac, 0, none⟩ (.int .i64 ((qZa ab aa).f0))).setCell ⟨ac, 1, none⟩ (.int .i64 ((qZa ab aa).f1))).setCell ⟨ac, 2, none⟩ (.int .i64 ((qZa ab aa).f2))).setCell ⟨ac, 3, none⟩ (.int .i64 ((qZa ab aa).f3))).setCell ⟨ac, 4, none⟩ (.int .i64 ((qZa ab aa).f4))).heap[ac]? = some (.cells #[.int .i64 ((qZa ab aa).f0), .int .i64 ((qZa ab aa).f1), .int .i64 ((qZa ab aa).f2), .int .i64 ((qZa ab aa).f3), .int .i64 ((qZa ab aa).f4)] 58 (0, 0))) := ⟨by refine qZi (cs := #[.int .i64 ((qZa ab aa).f0), .int .i64 ((qZa ab aa).f1), .int .i64 ((qZa ab aa).f2), .int .i64 ((qZa ab aa).f3), .int .i64 0]) ?_ 4 _ rfl; refine qZi (cs := #[.int .i64 ((qZa ab aa).f0), .int .i64 ((qZa ab aa).f1), .int .i64 ((qZa ab aa).f2), .int .i64 0, .int .i64 0]) ?_ 3 _ rfl; refine qZi (cs := #[.int .i64 ((qZa ab aa).f0), .int .i64 ((qZa ab aa).f1), .int .i64 0, .int .i64 0, .int .i64 0]) ?_ 2 _ rfl; refine qZi (cs := #[.int .i64 ((qZa ab aa).f0), .int .i64 0, .int .i64 0, .int .i64 0, .int .i64 0]) ?_ 1 _ rfl; refine qZi (cs := #[.int .i64 0, .int .i64 0, .int .i64 0, .int .i64 0, .int .i64 0]) ?_ 0 _ rfl; exact ad.out⟩
   have n5_ : Aside0 (Kept w (((((bJ.setCell ⟨ac, 0, none⟩ (.int .i64 ((qZa ab aa).f0))).setCell ⟨ac, 1, none⟩ (.int .i64 ((qZa ab aa).f1))).setCell ⟨ac, 2, none⟩ (.int .i64 ((qZa ab aa).f2))).setCell ⟨ac, 3, none⟩ (.int .i64 ((qZa ab aa).f3))).setCell ⟨ac, 4, none⟩ (.int .i64 ((qZa ab aa).f4))) (fun k_ => P4_ k_)) := ⟨by repeat ((with_reducible first | exact HK.out | refine Kept.setCell ?_ (.inr bC.out) _))⟩
   have n6_ : Aside0 (Below w0.heap.size w0 (((((bJ.setCell ⟨ac, 0, none⟩ (.int .i64 ((qZa ab aa).f0))).setCell ⟨ac, 1, none⟩ (.int .i64 ((qZa ab aa).f1))).setCell ⟨ac, 2, none⟩ (.int .i64 ((qZa ab aa).f2))).setCell ⟨ac, 3, none⟩ (.int .i64 ((qZa ab aa).f3))).setCell ⟨ac, 4, none⟩ (.int .i64 ((qZa ab aa).f4)))) := ⟨bl3 HB an ao ar⟩
   (try clear ag)
   (try clear aj)
   (try clear ae)
   (try clear af)
   (try clear ad)
   (try clear HK)
   (try clear HB)
   generalize (((((bJ.setCell ⟨ac, 0, none⟩ (.int .i64 ((qZa ab aa).f0))).setCell ⟨ac, 1, none⟩ (.int .i64 ((qZa ab aa).f1))).setCell ⟨ac, 2, none⟩ (.int .i64 ((qZa ab aa).f2))).setCell ⟨ac, 3, none⟩ (.int .i64 ((qZa ab aa).f3))).setCell ⟨ac, 4, none⟩ (.int .i64 ((qZa ab aa).f4))) = gL at n0_ n1_ n2_ n3_ n4_ n5_ n6_ ⊢
   have ag := n0_
   have aj := n1_
   have ae := n2_
   have af := n3_
   have ad := n4_
   have HK := n5_
   have HB := n6_
   clear n0_ n1_ n2_ n3_ n4_ n5_ n6_
   replace ag := ak (Kd.R_drew ag.out)
   replace aj := ak (Kd.V_drew aj.out)
   replace ae := ak (qZp ae.out)
   replace af := ak (qZp af.out)
   replace ad := ak (qZp ad.out)
   replace HK := ak (Kept.drew HK.out)
   replace HB := ak (qZo HB.out)
   refine qJd (n := 31) (S := fun w' => w'.cell? ⟨ac, 0, none⟩ = some (.int .i64 ((qZa ab aa).f0)) ∧ w'.cell? ⟨ac, 1, none⟩ = some (.int .i64 ((qZa ab aa).f1)) ∧ w'.cell? ⟨ac, 2, none⟩ = some (.int .i64 ((qZa ab aa).f2)) ∧ w'.cell? ⟨ac, 3, none⟩ = some (.int .i64 ((qZa ab aa).f3)) ∧ w'.cell? ⟨ac, 4, none⟩ = some (.int .i64 ((qZa ab aa).f4))) (ds := []) (ms 31 0) (by kernel_rfl) rfl (by kernel_rfl) ⟨(qZb ad.out 0).trans rfl, (qZb ad.out 1).trans rfl, (qZb ad.out 2).trans rfl, (qZb ad.out 3).trans rfl, (qZb ad.out 4).trans rfl⟩ (fun hHeld => ?_); refine qQk spec_l14Go.tab7 spec_l14Go.bits7 (fun HT_ HW_ => ?_)
   generalize gL.drew = w123 at ag aj ae af ad HK HB hHeld ⊢
   refine pu 0 42 ?_ (ms 31 1) rfl rfl HT_ (by kernel_rfl) (fun _ _ _ h => h) (by rfl) ?_ ?_ ?_ ?_
   rotate_left
   ·intro w'
    go_simp
    with_reducible rfl
   rotate_left
   ·simp only [SX]
    rfl
   refine pu 2 44 ?_ (ms 31 5) rfl rfl HT_ (by kernel_rfl) (fun _ _ _ h => h) (by rfl) ?_ ?_ ?_ ?_
   rotate_left
   ·intro w'
    go_simp
    with_reducible rfl
   rotate_left
   ·simp only [SX]
    rfl
   refine tk 1 43 ?_ (ms 31 7) rfl rfl HT_ HW_ (by kernel_rfl) (fun _ _ _ h => h) (by rfl) ?_ hHeld ?_ ?_ ?_
   rotate_left
   ·rintro w' ⟨s0, s1, s2, s3, s4⟩
    go_simp
    with_reducible rfl
   rotate_left
   ·simp only [SX]
    rfl
   refine pu 3 45 ?_ (ms 31 15) rfl rfl HT_ (by kernel_rfl) (fun _ _ _ h => h) (by rfl) ?_ ?_ ?_ ?_
   rotate_left
   ·intro w'
    go_simp
    with_reducible rfl
   rotate_left
   ·simp only [SX]
    rfl
   refine pu 4 46 ?_ (ms 31 31) rfl rfl HT_ (by kernel_rfl) (fun _ _ _ h => h) (by rfl) ?_ ?_ ?_ ?_
   rotate_left
   ·intro w'
    go_simp
    with_reducible rfl
   rotate_left
   ·simp only [SX]
    rfl
   refine qZm (i := 5) (N := some 47) (v := undef) (a' := ?_) (ms 31 63) rfl rfl (qZf HT_.out (by kernel_rfl)) (fun _ _ _ h => h) (Or.inr ⟨by rfl, rfl⟩) ?_ ?_
   rotate_left
   ·simp only [SX]
    rfl
   refine qZm (i := 6) (N := some 48) (v := undef) (a' := ?_) (ms 31 127) rfl rfl (qZf HT_.out (by kernel_rfl)) (fun _ _ _ h => h) (Or.inr ⟨by rfl, rfl⟩) ?_ ?_
   rotate_left
   ·simp only [SX]
    rfl
   refine qZm (i := 7) (N := some 49) (v := undef) (a' := ?_) (ms 31 255) rfl rfl (qZf HT_.out (by kernel_rfl)) (fun _ _ _ h => h) (Or.inr ⟨by rfl, rfl⟩) ?_ ?_
   rotate_left
   ·simp only [SX]
    rfl
   refine qZm (i := 8) (N := some 50) (v := undef) (a' := ?_) (ms 31 511) rfl rfl (qZf HT_.out (by kernel_rfl)) (fun _ _ _ h => h) (Or.inr ⟨by rfl, rfl⟩) ?_ ?_
   rotate_left
   ·simp only [SX]
    rfl
   refine qZm (i := 9) (N := some 51) (v := undef) (a' := ?_) (ms 31 1023) rfl rfl (qZf HT_.out (by kernel_rfl)) (fun _ _ _ h => h) (Or.inr ⟨by rfl, rfl⟩) ?_ ?_
   rotate_left
   ·simp only [SX]
    rfl
   refine pu 10 52 ?_ (ms 31 2047) rfl rfl HT_ (by kernel_rfl) (fun _ _ _ h => h) (by rfl) ?_ ?_ ?_ ?_
   rotate_left
   ·intro w'
    go_simp
    with_reducible rfl
   rotate_left
   ·simp only [SX]
    rfl
   refine pu 11 53 ?_ (ms 31 4095) rfl rfl HT_ (by kernel_rfl) (fun _ _ _ h => h) (by rfl) ?_ ?_ ?_ ?_
   rotate_left
   ·intro w'
    go_simp
    with_reducible rfl
   rotate_left
   ·simp only [SX]
    rfl
   refine qZm (i := 12) (N := some 54) (v := undef) (a' := ?_) (ms 31 8191) rfl rfl (qZf HT_.out (by kernel_rfl)) (fun _ _ _ h => h) (Or.inr ⟨by rfl, rfl⟩) ?_ ?_
   rotate_left
   ·simp only [SX]
    rfl
   refine qZm (i := 13) (N := some 55) (v := undef) (a' := ?_) (ms 31 16383) rfl rfl (qZf HT_.out (by kernel_rfl)) (fun _ _ _ h => h) (Or.inr ⟨by rfl, rfl⟩) ?_ ?_
   rotate_left
   ·simp only [SX]
    rfl
   refine qZm (i := 14) (N := some 56) (v := undef) (a' := ?_) (ms 31 32767) rfl rfl (qZf HT_.out (by kernel_rfl)) (fun _ _ _ h => h) (Or.inr ⟨by rfl, rfl⟩) ?_ ?_
   rotate_left
   ·simp only [SX]
    rfl
   refine qZm (i := 15) (N := some 57) (v := undef) (a' := ?_) (ms 31 65535) rfl rfl (qZf HT_.out (by kernel_rfl)) (fun _ _ _ h => h) (Or.inr ⟨by rfl, rfl⟩) ?_ ?_
   rotate_left
   ·simp only [SX]
    rfl
   refine qZm (i := 16) (N := some 58) (v := undef) (a' := ?_) (ms 31 131071) rfl rfl (qZf HT_.out (by kernel_rfl)) (fun _ _ _ h => h) (Or.inr ⟨by rfl, rfl⟩) ?_ ?_
   rotate_left
   ·simp only [SX]
    rfl
   refine qZm (i := 17) (N := some 59) (v := undef) (a' := ?_) (ms 31 262143) rfl rfl (qZf HT_.out (by kernel_rfl)) (fun _ _ _ h => h) (Or.inr ⟨by rfl, rfl⟩) ?_ ?_
   rotate_left
   ·simp only [SX]
    rfl
   refine qZm (i := 18) (N := some 60) (v := undef) (a' := ?_) (ms 31 524287) rfl rfl (qZf HT_.out (by kernel_rfl)) (fun _ _ _ h => h) (Or.inr ⟨by rfl, rfl⟩) ?_ ?_
   rotate_left
   ·simp only [SX]
    rfl
   refine qZm (i := 19) (N := some 61) (v := undef) (a' := ?_) (ms 31 1048575) rfl rfl (qZf HT_.out (by kernel_rfl)) (fun _ _ _ h => h) (Or.inr ⟨by rfl, rfl⟩) ?_ ?_
   rotate_left
   ·simp only [SX]
    rfl
   refine qZm (i := 20) (N := some 62) (v := undef) (a' := ?_) (ms 31 2097151) rfl rfl (qZf HT_.out (by kernel_rfl)) (fun _ _ _ h => h) (Or.inr ⟨by rfl, rfl⟩) ?_ ?_
   rotate_left
   ·simp only [SX]
    rfl
   refine qZm (i := 21) (N := some 63) (v := undef) (a' := ?_) (ms 31 4194303) rfl rfl (qZf HT_.out (by kernel_rfl)) (fun _ _ _ h => h) (Or.inr ⟨by rfl, rfl⟩) ?_ ?_
   rotate_left
   ·simp only [SX]
    rfl
   refine qZm (i := 22) (N := some 64) (v := undef) (a' := ?_) (ms 31 8388607) rfl rfl (qZf HT_.out (by kernel_rfl)) (fun _ _ _ h => h) (Or.inr ⟨by rfl, rfl⟩) ?_ ?_
   rotate_left
   ·simp only [SX]
    rfl
   refine qZm (i := 23) (N := some 65) (v := undef) (a' := ?_) (ms 31 16777215) rfl rfl (qZf HT_.out (by kernel_rfl)) (fun _ _ _ h => h) (Or.inr ⟨by rfl, rfl⟩) ?_ ?_
   rotate_left
   ·simp only [SX]
    rfl
   refine qZm (i := 24) (N := some 66) (v := undef) (a' := ?_) (ms 31 33554431) rfl rfl (qZf HT_.out (by kernel_rfl)) (fun _ _ _ h => h) (Or.inr ⟨by rfl, rfl⟩) ?_ ?_
   rotate_left
   ·simp only [SX]
    rfl
   refine qZm (i := 25) (N := some 67) (v := undef) (a' := ?_) (ms 31 67108863) rfl rfl (qZf HT_.out (by kernel_rfl)) (fun _ _ _ h => h) (Or.inr ⟨by rfl, rfl⟩) ?_ ?_
   rotate_left
   ·simp only [SX]
    rfl
   refine qZm (i := 26) (N := some 68) (v := undef) (a' := ?_) (ms 31 134217727) rfl rfl (qZf HT_.out (by kernel_rfl)) (fun _ _ _ h => h) (Or.inr ⟨by rfl, rfl⟩) ?_ ?_
   rotate_left
   ·simp only [SX]
    rfl
   refine qZm (i := 27) (N := some 69) (v := undef) (a' := ?_) (ms 31 268435455) rfl rfl (qZf HT_.out (by kernel_rfl)) (fun _ _ _ h => h) (Or.inr ⟨by rfl, rfl⟩) ?_ ?_
   rotate_left
   ·simp only [SX]
    rfl
   refine qZm (i := 28) (N := some 70) (v := undef) (a' := ?_) (ms 31 536870911) rfl rfl (qZf HT_.out (by kernel_rfl)) (fun _ _ _ h => h) (Or.inr ⟨by rfl, rfl⟩) ?_ ?_
   rotate_left
   ·simp only [SX]
    rfl
   refine qZm (i := 29) (N := some 71) (v := undef) (a' := ?_) (ms 31 1073741823) rfl rfl (qZf HT_.out (by kernel_rfl)) (fun _ _ _ h => h) (Or.inr ⟨by rfl, rfl⟩) ?_ ?_
   rotate_left
   ·simp only [SX]
    rfl
   refine pu 30 72 ?_ (ms 31 2147483647) rfl rfl HT_ (by kernel_rfl) (fun _ _ _ h => h) (by rfl) ?_ ?_ ?_ ?_
   rotate_left
   ·intro w'
    go_simp
    with_reducible rfl
   rotate_left
   ·simp only [SX]
    rfl
   refine qXc (qQp HT_.out (by kernel_rfl)) ?_
   try go_wp2
   go_roundg k1
   case measure => have := HK1.out; omega
   case rel => exact ⟨(aq), (ax), (wrap64 (aa + 1)), (by rfl), H', ⟨by have := HK1.out; omega⟩, ⟨rk ag⟩, ⟨by exact Kd.V_mono aj.out (fun _ hk => ⟨hk.1, ⟨hk.2.1, ⟨hk.2.2.1, hk.2.2.2.1⟩⟩⟩)⟩, ⟨bk ae⟩, ⟨bk af⟩, ⟨by repeat ((with_reducible exact HK.out))⟩, ⟨bl3 HB an ao ar⟩⟩
  rw [if_pos c23] at H
  have c23b0 : (((qZa ab aa).f0) == a3) = true := beq_iff_eq.mpr c23
  have c23b1 : (((qZa ab aa).f0) != a3) = false := bne_eq_false_iff_eq.mpr c23
  clear c23
  by_cases c24 : 0 ≤ ((qZa ab aa).f1)
  rotate_left
  ·rw [if_neg c24] at H
   exact absurd H (by simp)
  rw [if_pos c24] at H
  have c24b0 : decide (0 ≤ ((qZa ab aa).f1)) = true := decide_eq_true c24
  clear c24
  by_cases c25 : ((qZa ab aa).f1) < (aq.length : Int)
  rotate_left
  ·rw [if_neg c25] at H
   exact absurd H (by simp)
  rw [if_pos c25] at H
  have c25b0 : decide (((qZa ab aa).f1) < (aq.length : Int)) = true := decide_eq_true c25
  clear c25
  obtain ⟨eg, cN⟩ : ∃ b_ : Bool, b_ = (rdOf false aq ((qZa ab aa).f1)) := ⟨_, rfl⟩
  replace H : (if eg = true then (spec_l14Go.l0 k1 a1 a2 a3 aq ax (wrap64 (aa + 1)) aw ab au av) else (if (ax.length : Int) = a2 then (if 0 ≤ (wrap64 (a2 - 1)) then (if (wrap64 (a2 - 1)) < (ax.length : Int) then (if (wrap64 (av + ((qZa ab aa).f2))) > ((qQg ax (wrap64 (a2 - 1))).f1) then (spec_l14Go.l0 k1 a1 a2 a3 aq ax (wrap64 (aa + 1)) aw ab au av) else ((some (([] : List Int) : List Int)).bind fun bm => (if bm.length + au.length < 17592186044416 then ((some (bm ++ au : List Int)).bind fun bb => ((some (([aa] : List Int) : List Int)).bind fun aJ => (if bb.length + aJ.length < 17592186044416 then ((spec_l14Go.f k1 aw ab a1 a2 ((qZa ab aa).f1) (aq.set (((qZa ab aa).f1) : Int).toNat true) (bb ++ aJ) (wrap64 (av + ((qZa ab aa).f2))) ax).bind fun aH => (spec_l14Go.l0 k1 a1 a2 a3 (aH.2.set (((qZa ab aa).f1) : Int).toNat false) aH.1 (wrap64 (aa + 1)) aw ab au av)) else (none)))) else (none)))) else (none)) else (none)) else ((some (([] : List Int) : List Int)).bind fun bv => (if bv.length + au.length < 17592186044416 then ((some (bv ++ au : List Int)).bind fun bi => ((some (([aa] : List Int) : List Int)).bind fun aT => (if bi.length + aT.length < 17592186044416 then ((spec_l14Go.f k1 aw ab a1 a2 ((qZa ab aa).f1) (aq.set (((qZa ab aa).f1) : Int).toNat true) (bi ++ aT) (wrap64 (av + ((qZa ab aa).f2))) ax).bind fun aQ => (spec_l14Go.l0 k1 a1 a2 a3 (aQ.2.set (((qZa ab aa).f1) : Int).toNat false) aQ.1 (wrap64 (aa + 1)) aw ab au av)) else (none)))) else (none))))) = some (r1, r2) := by rw [← cN] at H; exact H
  have cE := ak cN
  clear cN
  by_cases c27 : eg = true
  ·subst c27
   rw [if_pos rfl] at H
   have H' := ak H
   clear H
   have hC := aW.out
   have hD := aX.out
   have eN := bc wr ae 0 (.int .i64 aw) rfl
   have eO := bc wr ae 1 (.slice bP ab.length aV) rfl
   have eP := fz ae 0
   have eQ := fz ae 1
   have bn : 0 ≤ (aa : Int) := oT (by (with_reducible assumption))
   have bo : aa < (ab.length : Int) := oT (by (with_reducible assumption))
   obtain ⟨aN, ck, bQ, bR, bS, bU, bV⟩ := qJk (Kd.C_kept_now bX.out HK.out) aa bn bo
   cases ck
   replace bn := eq_true bn
   replace bo := eq_true bo
   try go_wp2_with (((with_reducible refine gate_dst (N := 16) rfl ?_); refine qZj ?hg (N := 16) ?hd (cs := #[.int .i64 0, .int .i64 0, .int .i64 0, .int .i64 0, .int .i64 0]) (t := 58) ?hr ?_; (case hd => rfl); (case hg => rfl); (case hr => (go_simp; done)); intro ac hg w30 hbox hb; replace ag := ak (Kd.R_below (rk ag) hb); replace aj := ak (Kd.V_below (Kd.V_elderB (by exact aj.out) ac (Nat.le_of_eq hg.symm)) hb); have ad := ak (hbox); have bC := ak ((by rw [hg]; exact (by exact HK.out.1) : w.heap.size ≤ ac)); replace HK := ak (Kept.below (S := (fun k_ => P4_ k_)) (by repeat ((with_reducible exact HK.out))) hb); have ar := ak ((by rw [hg]; exact (qZc (bl2 HB an ao)) : w0.heap.size ≤ ac)); replace HB := ak (qZd (bl2 HB an ao) hb); have al := ak ((by rw [hg]; exact Nat.ne_of_lt (qZh (bk ae)) : ai ≠ ac)); have aK := ak ((by rw [hg]; exact Nat.ne_of_gt (qZh (bk ae)) : ac ≠ ai)); replace ae := ak (qZe (bk ae) hb); have am := ak ((by rw [hg]; exact Nat.ne_of_lt (qZh (bk af)) : ah ≠ ac)); have aM := ak ((by rw [hg]; exact Nat.ne_of_gt (qZh (bk af)) : ac ≠ ah)); replace af := ak (qZe (bk af) hb); clear hb hbox hg; have hE := aK.out; have hF := al.out; have hG := aM.out; have hH := am.out; have eR := bc w30 ad 0 (.int .i64 0) rfl; have eS := bc w30 ad 1 (.int .i64 0) rfl; have eT := bc w30 ad 2 (.int .i64 0) rfl; have eU := bc w30 ad 3 (.int .i64 0) rfl; have eV := bc w30 ad 4 (.int .i64 0) rfl; have eW := fz ad 0; have eX := fz ad 1; have eY := fz ad 2; have eZ := fz ad 3; have fa := fz ad 4))
   have n0_ : Aside0 (Kd.R Kd.bool 4 (((((w30.setCell ⟨ac, 0, none⟩ (.int .i64 ((qZa ab aa).f0))).setCell ⟨ac, 1, none⟩ (.int .i64 ((qZa ab aa).f1))).setCell ⟨ac, 2, none⟩ (.int .i64 ((qZa ab aa).f2))).setCell ⟨ac, 3, none⟩ (.int .i64 ((qZa ab aa).f3))).setCell ⟨ac, 4, none⟩ (.int .i64 ((qZa ab aa).f4))) w0.heap.size (fun k_ => (P4_ k_ ∨ w.heap.size ≤ k_)) u9000_ aq) := ⟨by exact Kd.R_mono (Kd.R_far (p := ⟨ac, 4, none⟩) (Kd.R_far (p := ⟨ac, 3, none⟩) (Kd.R_far (p := ⟨ac, 2, none⟩) (Kd.R_far (p := ⟨ac, 1, none⟩) (Kd.R_far (p := ⟨ac, 0, none⟩) (Kd.R_types ag.out ad.out (by decide)) (fun _ hk => hk.2) (.int .i64 ((qZa ab aa).f0))) (fun _ hk => hk.2) (.int .i64 ((qZa ab aa).f1))) (fun _ hk => hk.2) (.int .i64 ((qZa ab aa).f2))) (fun _ hk => hk.2) (.int .i64 ((qZa ab aa).f3))) (fun _ hk => hk.2) (.int .i64 ((qZa ab aa).f4))) (fun _ hk => hk.1)⟩
   have n1_ : Aside0 (Kd.V k103 103 (((((w30.setCell ⟨ac, 0, none⟩ (.int .i64 ((qZa ab aa).f0))).setCell ⟨ac, 1, none⟩ (.int .i64 ((qZa ab aa).f1))).setCell ⟨ac, 2, none⟩ (.int .i64 ((qZa ab aa).f2))).setCell ⟨ac, 3, none⟩ (.int .i64 ((qZa ab aa).f3))).setCell ⟨ac, 4, none⟩ (.int .i64 ((qZa ab aa).f4))) w0.heap.size (fun k_ => ((P4_ k_ ∨ P6_ k_) ∨ w.heap.size ≤ k_) ∧ some k_ ≠ (u9000_ : Value).ownBlock ∧ k_ ≠ ai ∧ k_ ≠ ah ∧ k_ ≠ ac) u6 ax) := ⟨by exact Kd.V_mono (Kd.V_far (p := ⟨ac, 4, none⟩) (Kd.V_far (p := ⟨ac, 3, none⟩) (Kd.V_far (p := ⟨ac, 2, none⟩) (Kd.V_far (p := ⟨ac, 1, none⟩) (Kd.V_far (p := ⟨ac, 0, none⟩) (Kd.V_mono aj.out (fun k_ hk => (⟨hk, hk.2⟩ : _ ∧ k_ ≠ ac))) (fun _ hk => hk.2) (.int .i64 ((qZa ab aa).f0))) (fun _ hk => hk.2) (.int .i64 ((qZa ab aa).f1))) (fun _ hk => hk.2) (.int .i64 ((qZa ab aa).f2))) (fun _ hk => hk.2) (.int .i64 ((qZa ab aa).f3))) (fun _ hk => hk.2) (.int .i64 ((qZa ab aa).f4))) (fun _ hk => ⟨hk.1.1.1, ⟨hk.1.1.2.1, ⟨hk.1.1.2.2.1, ⟨hk.1.1.2.2.2, hk.1.2⟩⟩⟩⟩)⟩
   have n2_ : Aside0 ((((((w30.setCell ⟨ac, 0, none⟩ (.int .i64 ((qZa ab aa).f0))).setCell ⟨ac, 1, none⟩ (.int .i64 ((qZa ab aa).f1))).setCell ⟨ac, 2, none⟩ (.int .i64 ((qZa ab aa).f2))).setCell ⟨ac, 3, none⟩ (.int .i64 ((qZa ab aa).f3))).setCell ⟨ac, 4, none⟩ (.int .i64 ((qZa ab aa).f4))).heap[ai]? = some (.cells #[.int .i64 aw, .slice (some aN) ab.length aV] 25 (0, 0))) := ⟨by refine blk_far ?_ al.out _; refine blk_far ?_ al.out _; refine blk_far ?_ al.out _; refine blk_far ?_ al.out _; refine blk_far ?_ al.out _; exact ae.out⟩
   have n3_ : Aside0 ((((((w30.setCell ⟨ac, 0, none⟩ (.int .i64 ((qZa ab aa).f0))).setCell ⟨ac, 1, none⟩ (.int .i64 ((qZa ab aa).f1))).setCell ⟨ac, 2, none⟩ (.int .i64 ((qZa ab aa).f2))).setCell ⟨ac, 3, none⟩ (.int .i64 ((qZa ab aa).f3))).setCell ⟨ac, 4, none⟩ (.int .i64 ((qZa ab aa).f4))).heap[ah]? = some (.cells #[.slice bd au.length be, .int .i64 av] 103 (0, 0))) := ⟨by refine blk_far ?_ am.out _; refine blk_far ?_ am.out _; refine blk_far ?_ am.out _; refine blk_far ?_ am.out _; refine blk_far ?_ am.out _; exact af.out⟩
   have n4_ : Aside0 ((((((w30.setCell ⟨ac, 0, none⟩ (.int .i64 ((qZa ab aa).f0))).setCell ⟨ac, 1, none⟩ (.int .i64 ((qZa ab aa).f1))).setCell ⟨ac, 2, none⟩ (.int .i64 ((qZa ab aa).f2))).setCell ⟨ac, 3, none⟩ (.int .i64 ((qZa ab aa).f3))).setCell ⟨ac, 4, none⟩ (.int .i64 ((qZa ab aa).f4))).heap[ac]? = some (.cells #[.int .i64 ((qZa ab aa).f0), .int .i64 ((qZa ab aa).f1), .int .i64 ((qZa ab aa).f2), .int .i64 ((qZa ab aa).f3), .int .i64 ((qZa ab aa).f4)] 58 (0, 0))) := ⟨by refine qZi (cs := #[.int .i64 ((qZa ab aa).f0), .int .i64 ((qZa ab aa).f1), .int .i64 ((qZa ab aa).f2), .int .i64 ((qZa ab aa).f3), .int .i64 0]) ?_ 4 _ rfl; refine qZi (cs := #[.int .i64 ((qZa ab aa).f0), .int .i64 ((qZa ab aa).f1), .int .i64 ((qZa ab aa).f2), .int .i64 0, .int .i64 0]) ?_ 3 _ rfl; refine qZi (cs := #[.int .i64 ((qZa ab aa).f0), .int .i64 ((qZa ab aa).f1), .int .i64 0, .int .i64 0, .int .i64 0]) ?_ 2 _ rfl; refine qZi (cs := #[.int .i64 ((qZa ab aa).f0), .int .i64 0, .int .i64 0, .int .i64 0, .int .i64 0]) ?_ 1 _ rfl; refine qZi (cs := #[.int .i64 0, .int .i64 0, .int .i64 0, .int .i64 0, .int .i64 0]) ?_ 0 _ rfl; exact ad.out⟩
   have n5_ : Aside0 (Kept w (((((w30.setCell ⟨ac, 0, none⟩ (.int .i64 ((qZa ab aa).f0))).setCell ⟨ac, 1, none⟩ (.int .i64 ((qZa ab aa).f1))).setCell ⟨ac, 2, none⟩ (.int .i64 ((qZa ab aa).f2))).setCell ⟨ac, 3, none⟩ (.int .i64 ((qZa ab aa).f3))).setCell ⟨ac, 4, none⟩ (.int .i64 ((qZa ab aa).f4))) (fun k_ => P4_ k_)) := ⟨by repeat ((with_reducible first | exact HK.out | refine Kept.setCell ?_ (.inr bC.out) _))⟩
   have n6_ : Aside0 (Below w0.heap.size w0 (((((w30.setCell ⟨ac, 0, none⟩ (.int .i64 ((qZa ab aa).f0))).setCell ⟨ac, 1, none⟩ (.int .i64 ((qZa ab aa).f1))).setCell ⟨ac, 2, none⟩ (.int .i64 ((qZa ab aa).f2))).setCell ⟨ac, 3, none⟩ (.int .i64 ((qZa ab aa).f3))).setCell ⟨ac, 4, none⟩ (.int .i64 ((qZa ab aa).f4)))) := ⟨bl3 HB an ao ar⟩
   (try clear ag)
   (try clear aj)
   (try clear ae)
   (try clear af)
   (try clear ad)
   (try clear HK)
   (try clear HB)
   generalize (((((w30.setCell ⟨ac, 0, none⟩ (.int .i64 ((qZa ab aa).f0))).setCell ⟨ac, 1, none⟩ (.int .i64 ((qZa ab aa).f1))).setCell ⟨ac, 2, none⟩ (.int .i64 ((qZa ab aa).f2))).setCell ⟨ac, 3, none⟩ (.int .i64 ((qZa ab aa).f3))).setCell ⟨ac, 4, none⟩ (.int .i64 ((qZa ab aa).f4))) = w34 at n0_ n1_ n2_ n3_ n4_ n5_ n6_ ⊢
   have ag := n0_
   have aj := n1_
   have ae := n2_
   have af := n3_
   have ad := n4_
   have HK := n5_
   have HB := n6_
   clear n0_ n1_ n2_ n3_ n4_ n5_ n6_
   replace ag := ak (Kd.R_drew ag.out)
   replace aj := ak (Kd.V_drew aj.out)
   replace ae := ak (qZp ae.out)
   replace af := ak (qZp af.out)
   replace ad := ak (qZp ad.out)
   replace HK := ak (Kept.drew HK.out)
   replace HB := ak (qZo HB.out)
   obtain ⟨il, im, gM⟩ := Kd.R_slice ag.out
   (subst gM)
   have bA : 0 ≤ (((qZa ab aa).f1) : Int) := oT (by (with_reducible assumption))
   have bB : ((qZa ab aa).f1) < (aq.length : Int) := oT (by (with_reducible assumption))
   obtain ⟨bZ, cy, aA⟩ := Kd.at_bool (Kd.R_reads' ag.out).2.2 ((qZa ab aa).f1) bA bB
   (try rw [← cE.out] at aA)
   cases cy
   replace bA := eq_true bA
   replace bB := eq_true bB
   refine qJd (n := 31) (S := fun w' => w'.cell? ⟨ac, 0, none⟩ = some (.int .i64 ((qZa ab aa).f0)) ∧ w'.cell? ⟨ac, 1, none⟩ = some (.int .i64 ((qZa ab aa).f1)) ∧ w'.cell? ⟨ac, 2, none⟩ = some (.int .i64 ((qZa ab aa).f2)) ∧ w'.cell? ⟨ac, 3, none⟩ = some (.int .i64 ((qZa ab aa).f3)) ∧ w'.cell? ⟨ac, 4, none⟩ = some (.int .i64 ((qZa ab aa).f4)) ∧ w'.cell? (bZ.add (((qZa ab aa).f1)).toNat) = some (.bool true)) (ds := []) (ms 31 0) (by kernel_rfl) rfl (by kernel_rfl) ⟨(qZb ad.out 0).trans rfl, (qZb ad.out 1).trans rfl, (qZb ad.out 2).trans rfl, (qZb ad.out 3).trans rfl, (qZb ad.out 4).trans rfl, aA⟩ (fun hHeld => ?_); refine qQk spec_l14Go.tab7 spec_l14Go.bits7 (fun HT_ HW_ => ?_)
   generalize w34.drew = w35 at ag aj ae af ad HK HB aA hHeld ⊢
   refine pu 0 42 ?_ (ms 31 1) rfl rfl HT_ (by kernel_rfl) (fun _ _ _ h => h) (by rfl) ?_ ?_ ?_ ?_
   rotate_left
   ·intro w'
    go_simp
    with_reducible rfl
   rotate_left
   ·simp only [SX]
    rfl
   refine pu 2 44 ?_ (ms 31 5) rfl rfl HT_ (by kernel_rfl) (fun _ _ _ h => h) (by rfl) ?_ ?_ ?_ ?_
   rotate_left
   ·intro w'
    go_simp
    with_reducible rfl
   rotate_left
   ·simp only [SX]
    rfl
   refine tk 1 43 ?_ (ms 31 7) rfl rfl HT_ HW_ (by kernel_rfl) (fun _ _ _ h => h) (by rfl) ?_ hHeld ?_ ?_ ?_
   rotate_left
   ·rintro w' ⟨s0, s1, s2, s3, s4, s5⟩
    go_simp
    with_reducible rfl
   rotate_left
   ·simp only [SX]
    rfl
   refine pu 3 45 ?_ (ms 31 15) rfl rfl HT_ (by kernel_rfl) (fun _ _ _ h => h) (by rfl) ?_ ?_ ?_ ?_
   rotate_left
   ·intro w'
    go_simp
    with_reducible rfl
   rotate_left
   ·simp only [SX]
    rfl
   refine pu 4 46 ?_ (ms 31 31) rfl rfl HT_ (by kernel_rfl) (fun _ _ _ h => h) (by rfl) ?_ ?_ ?_ ?_
   rotate_left
   ·intro w'
    go_simp
    with_reducible rfl
   rotate_left
   ·simp only [SX]
    rfl
   refine pu 5 47 ?_ (ms 31 63) rfl rfl HT_ (by kernel_rfl) (fun _ _ _ h => h) (by rfl) ?_ ?_ ?_ ?_
   rotate_left
   ·intro w'
    go_simp
    with_reducible rfl
   rotate_left
   ·simp only [SX]
    rfl
   refine pu 6 48 ?_ (ms 31 127) rfl rfl HT_ (by kernel_rfl) (fun _ _ _ h => h) (by rfl) ?_ ?_ ?_ ?_
   rotate_left
   ·intro w'
    go_simp
    with_reducible rfl
   rotate_left
   ·simp only [SX]
    rfl
   refine tk 7 49 ?_ (ms 31 255) rfl rfl HT_ HW_ (by kernel_rfl) (fun _ _ _ h => h) (by rfl) ?_ hHeld ?_ ?_ ?_
   rotate_left
   ·rintro w' ⟨s0, s1, s2, s3, s4, s5⟩
    go_simp
    with_reducible rfl
   rotate_left
   ·simp only [SX]
    rfl
   refine pu 8 50 ?_ (ms 31 511) rfl rfl HT_ (by kernel_rfl) (fun _ _ _ h => h) (by rfl) ?_ ?_ ?_ ?_
   rotate_left
   ·intro w'
    go_simp
    with_reducible rfl
   rotate_left
   ·simp only [SX]
    rfl
   refine tk 9 51 ?_ (ms 31 1023) rfl rfl HT_ HW_ (by kernel_rfl) (fun _ _ _ h => h) (by rfl) ?_ hHeld ?_ ?_ ?_
   rotate_left
   ·rintro w' ⟨s0, s1, s2, s3, s4, s5⟩
    go_simp
    with_reducible rfl
   rotate_left
   ·simp only [SX]
    rfl
   refine pu 10 52 ?_ (ms 31 2047) rfl rfl HT_ (by kernel_rfl) (fun _ _ _ h => h) (by rfl) ?_ ?_ ?_ ?_
   rotate_left
   ·intro w'
    go_simp
    with_reducible rfl
   rotate_left
   ·simp only [SX]
    rfl
   refine pu 11 53 ?_ (ms 31 4095) rfl rfl HT_ (by kernel_rfl) (fun _ _ _ h => h) (by rfl) ?_ ?_ ?_ ?_
   rotate_left
   ·intro w'
    go_simp
    with_reducible rfl
   rotate_left
   ·simp only [SX]
    rfl
   refine qZm (i := 12) (N := some 54) (v := undef) (a' := ?_) (ms 31 8191) rfl rfl (qZf HT_.out (by kernel_rfl)) (fun _ _ _ h => h) (Or.inr ⟨by rfl, rfl⟩) ?_ ?_
   rotate_left
   ·simp only [SX]
    rfl
   refine qZm (i := 13) (N := some 55) (v := undef) (a' := ?_) (ms 31 16383) rfl rfl (qZf HT_.out (by kernel_rfl)) (fun _ _ _ h => h) (Or.inr ⟨by rfl, rfl⟩) ?_ ?_
   rotate_left
   ·simp only [SX]
    rfl
   refine qZm (i := 14) (N := some 56) (v := undef) (a' := ?_) (ms 31 32767) rfl rfl (qZf HT_.out (by kernel_rfl)) (fun _ _ _ h => h) (Or.inr ⟨by rfl, rfl⟩) ?_ ?_
   rotate_left
   ·simp only [SX]
    rfl
   refine qZm (i := 15) (N := some 57) (v := undef) (a' := ?_) (ms 31 65535) rfl rfl (qZf HT_.out (by kernel_rfl)) (fun _ _ _ h => h) (Or.inr ⟨by rfl, rfl⟩) ?_ ?_
   rotate_left
   ·simp only [SX]
    rfl
   refine qZm (i := 16) (N := some 58) (v := undef) (a' := ?_) (ms 31 131071) rfl rfl (qZf HT_.out (by kernel_rfl)) (fun _ _ _ h => h) (Or.inr ⟨by rfl, rfl⟩) ?_ ?_
   rotate_left
   ·simp only [SX]
    rfl
   refine qZm (i := 17) (N := some 59) (v := undef) (a' := ?_) (ms 31 262143) rfl rfl (qZf HT_.out (by kernel_rfl)) (fun _ _ _ h => h) (Or.inr ⟨by rfl, rfl⟩) ?_ ?_
   rotate_left
   ·simp only [SX]
    rfl
   refine qZm (i := 18) (N := some 60) (v := undef) (a' := ?_) (ms 31 524287) rfl rfl (qZf HT_.out (by kernel_rfl)) (fun _ _ _ h => h) (Or.inr ⟨by rfl, rfl⟩) ?_ ?_
   rotate_left
   ·simp only [SX]
    rfl
   refine qZm (i := 19) (N := some 61) (v := undef) (a' := ?_) (ms 31 1048575) rfl rfl (qZf HT_.out (by kernel_rfl)) (fun _ _ _ h => h) (Or.inr ⟨by rfl, rfl⟩) ?_ ?_
   rotate_left
   ·simp only [SX]
    rfl
   refine qZm (i := 20) (N := some 62) (v := undef) (a' := ?_) (ms 31 2097151) rfl rfl (qZf HT_.out (by kernel_rfl)) (fun _ _ _ h => h) (Or.inr ⟨by rfl, rfl⟩) ?_ ?_
   rotate_left
   ·simp only [SX]
    rfl
   refine qZm (i := 21) (N := some 63) (v := undef) (a' := ?_) (ms 31 4194303) rfl rfl (qZf HT_.out (by kernel_rfl)) (fun _ _ _ h => h) (Or.inr ⟨by rfl, rfl⟩) ?_ ?_
   rotate_left
   ·simp only [SX]
    rfl
   refine qZm (i := 22) (N := some 64) (v := undef) (a' := ?_) (ms 31 8388607) rfl rfl (qZf HT_.out (by kernel_rfl)) (fun _ _ _ h => h) (Or.inr ⟨by rfl, rfl⟩) ?_ ?_
   rotate_left
   ·simp only [SX]
    rfl
   refine qZm (i := 23) (N := some 65) (v := undef) (a' := ?_) (ms 31 16777215) rfl rfl (qZf HT_.out (by kernel_rfl)) (fun _ _ _ h => h) (Or.inr ⟨by rfl, rfl⟩) ?_ ?_
   rotate_left
   ·simp only [SX]
    rfl
   refine qZm (i := 24) (N := some 66) (v := undef) (a' := ?_) (ms 31 33554431) rfl rfl (qZf HT_.out (by kernel_rfl)) (fun _ _ _ h => h) (Or.inr ⟨by rfl, rfl⟩) ?_ ?_
   rotate_left
   ·simp only [SX]
    rfl
   refine qZm (i := 25) (N := some 67) (v := undef) (a' := ?_) (ms 31 67108863) rfl rfl (qZf HT_.out (by kernel_rfl)) (fun _ _ _ h => h) (Or.inr ⟨by rfl, rfl⟩) ?_ ?_
   rotate_left
   ·simp only [SX]
    rfl
   refine qZm (i := 26) (N := some 68) (v := undef) (a' := ?_) (ms 31 134217727) rfl rfl (qZf HT_.out (by kernel_rfl)) (fun _ _ _ h => h) (Or.inr ⟨by rfl, rfl⟩) ?_ ?_
   rotate_left
   ·simp only [SX]
    rfl
   refine qZm (i := 27) (N := some 69) (v := undef) (a' := ?_) (ms 31 268435455) rfl rfl (qZf HT_.out (by kernel_rfl)) (fun _ _ _ h => h) (Or.inr ⟨by rfl, rfl⟩) ?_ ?_
   rotate_left
   ·simp only [SX]
    rfl
   refine qZm (i := 28) (N := some 70) (v := undef) (a' := ?_) (ms 31 536870911) rfl rfl (qZf HT_.out (by kernel_rfl)) (fun _ _ _ h => h) (Or.inr ⟨by rfl, rfl⟩) ?_ ?_
   rotate_left
   ·simp only [SX]
    rfl
   refine qZm (i := 29) (N := some 71) (v := undef) (a' := ?_) (ms 31 1073741823) rfl rfl (qZf HT_.out (by kernel_rfl)) (fun _ _ _ h => h) (Or.inr ⟨by rfl, rfl⟩) ?_ ?_
   rotate_left
   ·simp only [SX]
    rfl
   refine pu 30 72 ?_ (ms 31 2147483647) rfl rfl HT_ (by kernel_rfl) (fun _ _ _ h => h) (by rfl) ?_ ?_ ?_ ?_
   rotate_left
   ·intro w'
    go_simp
    with_reducible rfl
   rotate_left
   ·simp only [SX]
    rfl
   refine qXc (qQp HT_.out (by kernel_rfl)) ?_
   try go_wp2
   go_roundg k1
   case measure => have := HK1.out; omega
   case rel => exact ⟨(aq), (ax), (wrap64 (aa + 1)), (by rfl), H', ⟨by have := HK1.out; omega⟩, ⟨rk ag⟩, ⟨by exact Kd.V_mono aj.out (fun _ hk => ⟨hk.1, ⟨hk.2.1, ⟨hk.2.2.1, hk.2.2.2.1⟩⟩⟩)⟩, ⟨bk ae⟩, ⟨bk af⟩, ⟨by repeat ((with_reducible exact HK.out))⟩, ⟨bl3 HB an ao ar⟩⟩
  replace c27 := Bool.eq_false_iff.mpr c27
  subst c27
  rw [if_neg (show ¬ (false = true) by decide)] at H
  by_cases c37 : (ax.length : Int) = a2
  rotate_left
  ·rw [if_neg c37] at H
   have c37b0 : ((ax.length : Int) == a2) = false := beq_eq_false_iff_ne.mpr c37
   have c37b1 : ((ax.length : Int) != a2) = true := bne_iff_ne.mpr c37
   obtain ⟨cl, cO⟩ : ∃ y_ : List Bool, y_ = (aq.set (((qZa ab aa).f1) : Int).toNat true) := ⟨_, rfl⟩
   replace H : ((some (([] : List Int) : List Int)).bind fun bv => (if bv.length + au.length < 17592186044416 then ((some (bv ++ au : List Int)).bind fun bi => ((some (([aa] : List Int) : List Int)).bind fun aT => (if bi.length + aT.length < 17592186044416 then ((spec_l14Go.f k1 aw ab a1 a2 ((qZa ab aa).f1) cl (bi ++ aT) (wrap64 (av + ((qZa ab aa).f2))) ax).bind fun aQ => (spec_l14Go.l0 k1 a1 a2 a3 (aQ.2.set (((qZa ab aa).f1) : Int).toNat false) aQ.1 (wrap64 (aa + 1)) aw ab au av)) else (none)))) else (none))) = some (r1, r2) := by (rw [cO]; with_reducible exact H)
   have eh := ak cO
   clear cO
   obtain ⟨bv, cP⟩ : ∃ y_ : List Int, y_ = (([] : List Int)) := ⟨_, rfl⟩
   replace H : (if bv.length + au.length < 17592186044416 then ((some (bv ++ au : List Int)).bind fun bi => ((some (([aa] : List Int) : List Int)).bind fun aT => (if bi.length + aT.length < 17592186044416 then ((spec_l14Go.f k1 aw ab a1 a2 ((qZa ab aa).f1) cl (bi ++ aT) (wrap64 (av + ((qZa ab aa).f2))) ax).bind fun aQ => (spec_l14Go.l0 k1 a1 a2 a3 (aQ.2.set (((qZa ab aa).f1) : Int).toNat false) aQ.1 (wrap64 (aa + 1)) aw ab au av)) else (none)))) else (none)) = some (r1, r2) := by (have H2_ := (Option.bind_some _ _).symm.trans H; rw [cP]; with_reducible exact H2_)
   have dr := ak cP
   clear cP
   by_cases c85 : bv.length + au.length < 17592186044416
   rotate_left
   ·rw [if_neg c85] at H
    exact absurd H (by simp)
   rw [if_pos c85] at H
   have cQ := ak c85
   clear c85
   obtain ⟨bi, cR⟩ : ∃ y_ : List Int, y_ = (bv ++ au) := ⟨_, rfl⟩
   replace H : ((some (([aa] : List Int) : List Int)).bind fun aT => (if bi.length + aT.length < 17592186044416 then ((spec_l14Go.f k1 aw ab a1 a2 ((qZa ab aa).f1) cl (bi ++ aT) (wrap64 (av + ((qZa ab aa).f2))) ax).bind fun aQ => (spec_l14Go.l0 k1 a1 a2 a3 (aQ.2.set (((qZa ab aa).f1) : Int).toNat false) aQ.1 (wrap64 (aa + 1)) aw ab au av)) else (none))) = some (r1, r2) := by (have H2_ := (Option.bind_some _ _).symm.trans H; rw [cR]; with_reducible exact H2_)
   have cS := ak cR
   clear cR
   obtain ⟨aT, cT⟩ : ∃ y_ : List Int, y_ = (([aa] : List Int)) := ⟨_, rfl⟩
   replace H : (if bi.length + aT.length < 17592186044416 then ((spec_l14Go.f k1 aw ab a1 a2 ((qZa ab aa).f1) cl (bi ++ aT) (wrap64 (av + ((qZa ab aa).f2))) ax).bind fun aQ => (spec_l14Go.l0 k1 a1 a2 a3 (aQ.2.set (((qZa ab aa).f1) : Int).toNat false) aQ.1 (wrap64 (aa + 1)) aw ab au av)) else (none)) = some (r1, r2) := by (have H2_ := (Option.bind_some _ _).symm.trans H; rw [cT]; with_reducible exact H2_)
   have cU := ak cT
   clear cT
   by_cases c86 : bi.length + aT.length < 17592186044416
   rotate_left
   ·rw [if_neg c86] at H
    exact absurd H (by simp)
   rw [if_pos c86] at H
   have ei := ak c86
   clear c86
   obtain ⟨cm, cV⟩ : ∃ y_ : List Int, y_ = (bi ++ aT) := ⟨_, rfl⟩
   replace H : ((spec_l14Go.f k1 aw ab a1 a2 ((qZa ab aa).f1) cl cm (wrap64 (av + ((qZa ab aa).f2))) ax).bind fun aQ => (spec_l14Go.l0 k1 a1 a2 a3 (aQ.2.set (((qZa ab aa).f1) : Int).toNat false) aQ.1 (wrap64 (aa + 1)) aw ab au av)) = some (r1, r2) := by (rw [cV]; with_reducible exact H)
   have ej := ak cV
   clear cV
   replace H := Option.bind_eq_some_iff.mp H
   obtain ⟨⟨dx, ek⟩, el, H⟩ := H
   have A87 := ak el
   clear el
   obtain ⟨dy, cW⟩ : ∃ y_ : List Bool, y_ = (ek.set (((qZa ab aa).f1) : Int).toNat false) := ⟨_, rfl⟩
   replace H : (spec_l14Go.l0 k1 a1 a2 a3 dy dx (wrap64 (aa + 1)) aw ab au av) = some (r1, r2) := by (rw [cW]; with_reducible exact H)
   have em := ak cW
   clear cW
   have H' := ak H
   clear H
   have hI := aW.out
   have hJ := aX.out
   have fb := bc wr ae 0 (.int .i64 aw) rfl
   have fc := bc wr ae 1 (.slice bP ab.length aV) rfl
   have fd := fz ae 0
   have fe := fz ae 1
   have bn : 0 ≤ (aa : Int) := oT (by (with_reducible assumption))
   have bo : aa < (ab.length : Int) := oT (by (with_reducible assumption))
   obtain ⟨aN, ck, bQ, bR, bS, bU, bV⟩ := qJk (Kd.C_kept_now bX.out HK.out) aa bn bo
   cases ck
   replace bn := eq_true bn
   replace bo := eq_true bo
   try go_wp2_with (((with_reducible refine gate_dst (N := 16) rfl ?_); refine qZj ?hg (N := 16) ?hd (cs := #[.int .i64 0, .int .i64 0, .int .i64 0, .int .i64 0, .int .i64 0]) (t := 58) ?hr ?_; (case hd => rfl); (case hg => rfl); (case hr => (go_simp; done)); intro ac hg w91 hbox hb; replace ag := ak (Kd.R_below (rk ag) hb); replace aj := ak (Kd.V_below (Kd.V_elderB (by exact aj.out) ac (Nat.le_of_eq hg.symm)) hb); have ad := ak (hbox); have bC := ak ((by rw [hg]; exact (by exact HK.out.1) : w.heap.size ≤ ac)); replace HK := ak (Kept.below (S := (fun k_ => P4_ k_)) (by repeat ((with_reducible exact HK.out))) hb); have ar := ak ((by rw [hg]; exact (qZc (bl2 HB an ao)) : w0.heap.size ≤ ac)); replace HB := ak (qZd (bl2 HB an ao) hb); have al := ak ((by rw [hg]; exact Nat.ne_of_lt (qZh (bk ae)) : ai ≠ ac)); have aK := ak ((by rw [hg]; exact Nat.ne_of_gt (qZh (bk ae)) : ac ≠ ai)); replace ae := ak (qZe (bk ae) hb); have am := ak ((by rw [hg]; exact Nat.ne_of_lt (qZh (bk af)) : ah ≠ ac)); have aM := ak ((by rw [hg]; exact Nat.ne_of_gt (qZh (bk af)) : ac ≠ ah)); replace af := ak (qZe (bk af) hb); clear hb hbox hg; have hL := aK.out; have hM := al.out; have hN := aM.out; have hO := am.out; have ff := bc w91 ad 0 (.int .i64 0) rfl; have fg := bc w91 ad 1 (.int .i64 0) rfl; have fh := bc w91 ad 2 (.int .i64 0) rfl; have fi := bc w91 ad 3 (.int .i64 0) rfl; have fj := bc w91 ad 4 (.int .i64 0) rfl; have fk := fz ad 0; have fl := fz ad 1; have fm := fz ad 2; have fn := fz ad 3; have fo := fz ad 4))
   have n0_ : Aside0 (Kd.R Kd.bool 4 (((((w91.setCell ⟨ac, 0, none⟩ (.int .i64 ((qZa ab aa).f0))).setCell ⟨ac, 1, none⟩ (.int .i64 ((qZa ab aa).f1))).setCell ⟨ac, 2, none⟩ (.int .i64 ((qZa ab aa).f2))).setCell ⟨ac, 3, none⟩ (.int .i64 ((qZa ab aa).f3))).setCell ⟨ac, 4, none⟩ (.int .i64 ((qZa ab aa).f4))) w0.heap.size (fun k_ => (P4_ k_ ∨ w.heap.size ≤ k_)) u9000_ aq) := ⟨by exact Kd.R_mono (Kd.R_far (p := ⟨ac, 4, none⟩) (Kd.R_far (p := ⟨ac, 3, none⟩) (Kd.R_far (p := ⟨ac, 2, none⟩) (Kd.R_far (p := ⟨ac, 1, none⟩) (Kd.R_far (p := ⟨ac, 0, none⟩) (Kd.R_types ag.out ad.out (by decide)) (fun _ hk => hk.2) (.int .i64 ((qZa ab aa).f0))) (fun _ hk => hk.2) (.int .i64 ((qZa ab aa).f1))) (fun _ hk => hk.2) (.int .i64 ((qZa ab aa).f2))) (fun _ hk => hk.2) (.int .i64 ((qZa ab aa).f3))) (fun _ hk => hk.2) (.int .i64 ((qZa ab aa).f4))) (fun _ hk => hk.1)⟩
   have n1_ : Aside0 (Kd.V k103 103 (((((w91.setCell ⟨ac, 0, none⟩ (.int .i64 ((qZa ab aa).f0))).setCell ⟨ac, 1, none⟩ (.int .i64 ((qZa ab aa).f1))).setCell ⟨ac, 2, none⟩ (.int .i64 ((qZa ab aa).f2))).setCell ⟨ac, 3, none⟩ (.int .i64 ((qZa ab aa).f3))).setCell ⟨ac, 4, none⟩ (.int .i64 ((qZa ab aa).f4))) w0.heap.size (fun k_ => ((P4_ k_ ∨ P6_ k_) ∨ w.heap.size ≤ k_) ∧ some k_ ≠ (u9000_ : Value).ownBlock ∧ k_ ≠ ai ∧ k_ ≠ ah ∧ k_ ≠ ac) u6 ax) := ⟨by exact Kd.V_mono (Kd.V_far (p := ⟨ac, 4, none⟩) (Kd.V_far (p := ⟨ac, 3, none⟩) (Kd.V_far (p := ⟨ac, 2, none⟩) (Kd.V_far (p := ⟨ac, 1, none⟩) (Kd.V_far (p := ⟨ac, 0, none⟩) (Kd.V_mono aj.out (fun k_ hk => (⟨hk, hk.2⟩ : _ ∧ k_ ≠ ac))) (fun _ hk => hk.2) (.int .i64 ((qZa ab aa).f0))) (fun _ hk => hk.2) (.int .i64 ((qZa ab aa).f1))) (fun _ hk => hk.2) (.int .i64 ((qZa ab aa).f2))) (fun _ hk => hk.2) (.int .i64 ((qZa ab aa).f3))) (fun _ hk => hk.2) (.int .i64 ((qZa ab aa).f4))) (fun _ hk => ⟨hk.1.1.1, ⟨hk.1.1.2.1, ⟨hk.1.1.2.2.1, ⟨hk.1.1.2.2.2, hk.1.2⟩⟩⟩⟩)⟩
   have n2_ : Aside0 ((((((w91.setCell ⟨ac, 0, none⟩ (.int .i64 ((qZa ab aa).f0))).setCell ⟨ac, 1, none⟩ (.int .i64 ((qZa ab aa).f1))).setCell ⟨ac, 2, none⟩ (.int .i64 ((qZa ab aa).f2))).setCell ⟨ac, 3, none⟩ (.int .i64 ((qZa ab aa).f3))).setCell ⟨ac, 4, none⟩ (.int .i64 ((qZa ab aa).f4))).heap[ai]? = some (.cells #[.int .i64 aw, .slice (some aN) ab.length aV] 25 (0, 0))) := ⟨by refine blk_far ?_ al.out _; refine blk_far ?_ al.out _; refine blk_far ?_ al.out _; refine blk_far ?_ al.out _; refine blk_far ?_ al.out _; exact ae.out⟩
   have n3_ : Aside0 ((((((w91.setCell ⟨ac, 0, none⟩ (.int .i64 ((qZa ab aa).f0))).setCell ⟨ac, 1, none⟩ (.int .i64 ((qZa ab aa).f1))).setCell ⟨ac, 2, none⟩ (.int .i64 ((qZa ab aa).f2))).setCell ⟨ac, 3, none⟩ (.int .i64 ((qZa ab aa).f3))).setCell ⟨ac, 4, none⟩ (.int .i64 ((qZa ab aa).f4))).heap[ah]? = some (.cells #[.slice bd au.length be, .int .i64 av] 103 (0, 0))) := ⟨by refine blk_far ?_ am.out _; refine blk_far ?_ am.out _; refine blk_far ?_ am.out _; refine blk_far ?_ am.out _; refine blk_far ?_ am.out _; exact af.out⟩
   have n4_ : Aside0 ((((((w91.setCell ⟨ac, 0, none⟩ (.int .i64 ((qZa ab aa).f0))).setCell ⟨ac, 1, none⟩ (.int .i64 ((qZa ab aa).f1))).setCell ⟨ac, 2, none⟩ (.int .i64 ((qZa ab aa).f2))).setCell ⟨ac, 3, none⟩ (.int .i64 ((qZa ab aa).f3))).setCell ⟨ac, 4, none⟩ (.int .i64 ((qZa ab aa).f4))).heap[ac]? = some (.cells #[.int .i64 ((qZa ab aa).f0), .int .i64 ((qZa ab aa).f1), .int .i64 ((qZa ab aa).f2), .int .i64 ((qZa ab aa).f3), .int .i64 ((qZa ab aa).f4)] 58 (0, 0))) := ⟨by refine qZi (cs := #[.int .i64 ((qZa ab aa).f0), .int .i64 ((qZa ab aa).f1), .int .i64 ((qZa ab aa).f2), .int .i64 ((qZa ab aa).f3), .int .i64 0]) ?_ 4 _ rfl; refine qZi (cs := #[.int .i64 ((qZa ab aa).f0), .int .i64 ((qZa ab aa).f1), .int .i64 ((qZa ab aa).f2), .int .i64 0, .int .i64 0]) ?_ 3 _ rfl; refine qZi (cs := #[.int .i64 ((qZa ab aa).f0), .int .i64 ((qZa ab aa).f1), .int .i64 0, .int .i64 0, .int .i64 0]) ?_ 2 _ rfl; refine qZi (cs := #[.int .i64 ((qZa ab aa).f0), .int .i64 0, .int .i64 0, .int .i64 0, .int .i64 0]) ?_ 1 _ rfl; refine qZi (cs := #[.int .i64 0, .int .i64 0, .int .i64 0, .int .i64 0, .int .i64 0]) ?_ 0 _ rfl; exact ad.out⟩
   have n5_ : Aside0 (Kept w (((((w91.setCell ⟨ac, 0, none⟩ (.int .i64 ((qZa ab aa).f0))).setCell ⟨ac, 1, none⟩ (.int .i64 ((qZa ab aa).f1))).setCell ⟨ac, 2, none⟩ (.int .i64 ((qZa ab aa).f2))).setCell ⟨ac, 3, none⟩ (.int .i64 ((qZa ab aa).f3))).setCell ⟨ac, 4, none⟩ (.int .i64 ((qZa ab aa).f4))) (fun k_ => P4_ k_)) := ⟨by repeat ((with_reducible first | exact HK.out | refine Kept.setCell ?_ (.inr bC.out) _))⟩
   have n6_ : Aside0 (Below w0.heap.size w0 (((((w91.setCell ⟨ac, 0, none⟩ (.int .i64 ((qZa ab aa).f0))).setCell ⟨ac, 1, none⟩ (.int .i64 ((qZa ab aa).f1))).setCell ⟨ac, 2, none⟩ (.int .i64 ((qZa ab aa).f2))).setCell ⟨ac, 3, none⟩ (.int .i64 ((qZa ab aa).f3))).setCell ⟨ac, 4, none⟩ (.int .i64 ((qZa ab aa).f4)))) := ⟨bl3 HB an ao ar⟩
   (try clear ag)
   (try clear aj)
   (try clear ae)
   (try clear af)
   (try clear ad)
   (try clear HK)
   (try clear HB)
   generalize (((((w91.setCell ⟨ac, 0, none⟩ (.int .i64 ((qZa ab aa).f0))).setCell ⟨ac, 1, none⟩ (.int .i64 ((qZa ab aa).f1))).setCell ⟨ac, 2, none⟩ (.int .i64 ((qZa ab aa).f2))).setCell ⟨ac, 3, none⟩ (.int .i64 ((qZa ab aa).f3))).setCell ⟨ac, 4, none⟩ (.int .i64 ((qZa ab aa).f4))) = w95 at n0_ n1_ n2_ n3_ n4_ n5_ n6_ ⊢
   have ag := n0_
   have aj := n1_
   have ae := n2_
   have af := n3_
   have ad := n4_
   have HK := n5_
   have HB := n6_
   clear n0_ n1_ n2_ n3_ n4_ n5_ n6_
   replace ag := ak (Kd.R_drew ag.out)
   replace aj := ak (Kd.V_drew aj.out)
   replace ae := ak (qZp ae.out)
   replace af := ak (qZp af.out)
   replace ad := ak (qZp ad.out)
   replace HK := ak (Kept.drew HK.out)
   replace HB := ak (qZo HB.out)
   obtain ⟨io, bf, gN⟩ := Kd.R_slice ag.out
   (subst gN)
   have bA : 0 ≤ (((qZa ab aa).f1) : Int) := oT (by (with_reducible assumption))
   have bB : ((qZa ab aa).f1) < (aq.length : Int) := oT (by (with_reducible assumption))
   obtain ⟨bZ, cy, aA⟩ := Kd.at_bool (Kd.R_reads' ag.out).2.2 ((qZa ab aa).f1) bA bB
   (try rw [← cE.out] at aA)
   cases cy
   replace bA := eq_true bA
   replace bB := eq_true bB
   obtain ⟨dz, dA, gO⟩ := Kd.V_slice aj.out
   (subst gO)
   refine qJd (n := 31) (S := fun w' => w'.cell? ⟨ac, 0, none⟩ = some (.int .i64 ((qZa ab aa).f0)) ∧ w'.cell? ⟨ac, 1, none⟩ = some (.int .i64 ((qZa ab aa).f1)) ∧ w'.cell? ⟨ac, 2, none⟩ = some (.int .i64 ((qZa ab aa).f2)) ∧ w'.cell? ⟨ac, 3, none⟩ = some (.int .i64 ((qZa ab aa).f3)) ∧ w'.cell? ⟨ac, 4, none⟩ = some (.int .i64 ((qZa ab aa).f4)) ∧ w'.cell? (bZ.add (((qZa ab aa).f1)).toNat) = some (.bool false)) (ds := []) (ms 31 0) (by kernel_rfl) rfl (by kernel_rfl) ⟨(qZb ad.out 0).trans rfl, (qZb ad.out 1).trans rfl, (qZb ad.out 2).trans rfl, (qZb ad.out 3).trans rfl, (qZb ad.out 4).trans rfl, aA⟩ (fun hHeld => ?_); refine qQk spec_l14Go.tab7 spec_l14Go.bits7 (fun HT_ HW_ => ?_)
   generalize w95.drew = w96 at ag aj ae af ad HK HB aA hHeld ⊢
   refine pu 0 42 ?_ (ms 31 1) rfl rfl HT_ (by kernel_rfl) (fun _ _ _ h => h) (by rfl) ?_ ?_ ?_ ?_
   rotate_left
   ·intro w'
    go_simp
    with_reducible rfl
   rotate_left
   ·simp only [SX]
    rfl
   refine pu 2 44 ?_ (ms 31 5) rfl rfl HT_ (by kernel_rfl) (fun _ _ _ h => h) (by rfl) ?_ ?_ ?_ ?_
   rotate_left
   ·intro w'
    go_simp
    with_reducible rfl
   rotate_left
   ·simp only [SX]
    rfl
   refine tk 1 43 ?_ (ms 31 7) rfl rfl HT_ HW_ (by kernel_rfl) (fun _ _ _ h => h) (by rfl) ?_ hHeld ?_ ?_ ?_
   rotate_left
   ·rintro w' ⟨s0, s1, s2, s3, s4, s5⟩
    go_simp
    with_reducible rfl
   rotate_left
   ·simp only [SX]
    rfl
   refine pu 3 45 ?_ (ms 31 15) rfl rfl HT_ (by kernel_rfl) (fun _ _ _ h => h) (by rfl) ?_ ?_ ?_ ?_
   rotate_left
   ·intro w'
    go_simp
    with_reducible rfl
   rotate_left
   ·simp only [SX]
    rfl
   refine pu 4 46 ?_ (ms 31 31) rfl rfl HT_ (by kernel_rfl) (fun _ _ _ h => h) (by rfl) ?_ ?_ ?_ ?_
   rotate_left
   ·intro w'
    go_simp
    with_reducible rfl
   rotate_left
   ·simp only [SX]
    rfl
   refine pu 5 47 ?_ (ms 31 63) rfl rfl HT_ (by kernel_rfl) (fun _ _ _ h => h) (by rfl) ?_ ?_ ?_ ?_
   rotate_left
   ·intro w'
    go_simp
    with_reducible rfl
   rotate_left
   ·simp only [SX]
    rfl
   refine pu 6 48 ?_ (ms 31 127) rfl rfl HT_ (by kernel_rfl) (fun _ _ _ h => h) (by rfl) ?_ ?_ ?_ ?_
   rotate_left
   ·intro w'
    go_simp
    with_reducible rfl
   rotate_left
   ·simp only [SX]
    rfl
   refine tk 7 49 ?_ (ms 31 255) rfl rfl HT_ HW_ (by kernel_rfl) (fun _ _ _ h => h) (by rfl) ?_ hHeld ?_ ?_ ?_
   rotate_left
   ·rintro w' ⟨s0, s1, s2, s3, s4, s5⟩
    go_simp
    with_reducible rfl
   rotate_left
   ·simp only [SX]
    rfl
   refine pu 8 50 ?_ (ms 31 511) rfl rfl HT_ (by kernel_rfl) (fun _ _ _ h => h) (by rfl) ?_ ?_ ?_ ?_
   rotate_left
   ·intro w'
    go_simp
    with_reducible rfl
   rotate_left
   ·simp only [SX]
    rfl
   refine tk 9 51 ?_ (ms 31 1023) rfl rfl HT_ HW_ (by kernel_rfl) (fun _ _ _ h => h) (by rfl) ?_ hHeld ?_ ?_ ?_
   rotate_left
   ·rintro w' ⟨s0, s1, s2, s3, s4, s5⟩
    go_simp
    with_reducible rfl
   rotate_left
   ·simp only [SX]
    rfl
   refine pu 10 52 ?_ (ms 31 2047) rfl rfl HT_ (by kernel_rfl) (fun _ _ _ h => h) (by rfl) ?_ ?_ ?_ ?_
   rotate_left
   ·intro w'
    go_simp
    with_reducible rfl
   rotate_left
   ·simp only [SX]
    rfl
   refine pu 11 53 ?_ (ms 31 4095) rfl rfl HT_ (by kernel_rfl) (fun _ _ _ h => h) (by rfl) ?_ ?_ ?_ ?_
   rotate_left
   ·intro w'
    go_simp
    with_reducible rfl
   rotate_left
   ·simp only [SX]
    rfl
   refine pu 12 54 ?_ (ms 31 8191) rfl rfl HT_ (by kernel_rfl) (fun _ _ _ h => h) (by rfl) ?_ ?_ ?_ ?_
   rotate_left
   ·intro w'
    go_simp
    with_reducible rfl
   rotate_left
   ·simp only [SX]
    rfl
   refine pu 13 55 ?_ (ms 31 16383) rfl rfl HT_ (by kernel_rfl) (fun _ _ _ h => h) (by rfl) ?_ ?_ ?_ ?_
   rotate_left
   ·intro w'
    go_simp
    with_reducible rfl
   rotate_left
   ·simp only [SX]
    rfl
   refine pu 14 56 ?_ (ms 31 32767) rfl rfl HT_ (by kernel_rfl) (fun _ _ _ h => h) (by rfl) ?_ ?_ ?_ ?_
   rotate_left
   ·intro w'
    go_simp
    with_reducible rfl
   rotate_left
   ·simp only [SX]
    rfl
   refine pu 15 57 ?_ (ms 31 65535) rfl rfl HT_ (by kernel_rfl) (fun _ _ _ h => h) (by rfl) ?_ ?_ ?_ ?_
   rotate_left
   ·intro w'
    go_simp
    with_reducible rfl
   rotate_left
   ·simp only [SX]
    rfl
   refine pu 16 58 ?_ (ms 31 131071) rfl rfl HT_ (by kernel_rfl) (fun _ _ _ h => h) (by rfl) ?_ ?_ ?_ ?_
   rotate_left
   ·intro w'
    go_simp
    with_reducible rfl
   rotate_left
   ·simp only [SX]
    rfl
   refine qZm (i := 17) (N := some 59) (v := undef) (a' := ?_) (ms 31 262143) rfl rfl (qZf HT_.out (by kernel_rfl)) (fun _ _ _ h => h) (Or.inr ⟨by rfl, rfl⟩) ?_ ?_
   rotate_left
   ·simp only [SX]
    rfl
   refine qZm (i := 18) (N := some 60) (v := undef) (a' := ?_) (ms 31 524287) rfl rfl (qZf HT_.out (by kernel_rfl)) (fun _ _ _ h => h) (Or.inr ⟨by rfl, rfl⟩) ?_ ?_
   rotate_left
   ·simp only [SX]
    rfl
   refine qZm (i := 19) (N := some 61) (v := undef) (a' := ?_) (ms 31 1048575) rfl rfl (qZf HT_.out (by kernel_rfl)) (fun _ _ _ h => h) (Or.inr ⟨by rfl, rfl⟩) ?_ ?_
   rotate_left
   ·simp only [SX]
    rfl
   refine qZm (i := 20) (N := some 62) (v := undef) (a' := ?_) (ms 31 2097151) rfl rfl (qZf HT_.out (by kernel_rfl)) (fun _ _ _ h => h) (Or.inr ⟨by rfl, rfl⟩) ?_ ?_
   rotate_left
   ·simp only [SX]
    rfl
   refine qZm (i := 21) (N := some 63) (v := undef) (a' := ?_) (ms 31 4194303) rfl rfl (qZf HT_.out (by kernel_rfl)) (fun _ _ _ h => h) (Or.inr ⟨by rfl, rfl⟩) ?_ ?_
   rotate_left
   ·simp only [SX]
    rfl
   refine qZm (i := 22) (N := some 64) (v := undef) (a' := ?_) (ms 31 8388607) rfl rfl (qZf HT_.out (by kernel_rfl)) (fun _ _ _ h => h) (Or.inr ⟨by rfl, rfl⟩) ?_ ?_
   rotate_left
   ·simp only [SX]
    rfl
   refine qZm (i := 23) (N := some 65) (v := undef) (a' := ?_) (ms 31 16777215) rfl rfl (qZf HT_.out (by kernel_rfl)) (fun _ _ _ h => h) (Or.inr ⟨by rfl, rfl⟩) ?_ ?_
   rotate_left
   ·simp only [SX]
    rfl
   refine qZm (i := 24) (N := some 66) (v := undef) (a' := ?_) (ms 31 33554431) rfl rfl (qZf HT_.out (by kernel_rfl)) (fun _ _ _ h => h) (Or.inr ⟨by rfl, rfl⟩) ?_ ?_
   rotate_left
   ·simp only [SX]
    rfl
   refine qZm (i := 25) (N := some 67) (v := undef) (a' := ?_) (ms 31 67108863) rfl rfl (qZf HT_.out (by kernel_rfl)) (fun _ _ _ h => h) (Or.inr ⟨by rfl, rfl⟩) ?_ ?_
   rotate_left
   ·simp only [SX]
    rfl
   refine qZm (i := 26) (N := some 68) (v := undef) (a' := ?_) (ms 31 134217727) rfl rfl (qZf HT_.out (by kernel_rfl)) (fun _ _ _ h => h) (Or.inr ⟨by rfl, rfl⟩) ?_ ?_
   rotate_left
   ·simp only [SX]
    rfl
   refine qZm (i := 27) (N := some 69) (v := undef) (a' := ?_) (ms 31 268435455) rfl rfl (qZf HT_.out (by kernel_rfl)) (fun _ _ _ h => h) (Or.inr ⟨by rfl, rfl⟩) ?_ ?_
   rotate_left
   ·simp only [SX]
    rfl
   refine qZm (i := 28) (N := some 70) (v := undef) (a' := ?_) (ms 31 536870911) rfl rfl (qZf HT_.out (by kernel_rfl)) (fun _ _ _ h => h) (Or.inr ⟨by rfl, rfl⟩) ?_ ?_
   rotate_left
   ·simp only [SX]
    rfl
   refine pu 29 71 ?_ (ms 31 1073741823) rfl rfl HT_ (by kernel_rfl) (fun _ _ _ h => h) (by rfl) ?_ ?_ ?_ ?_
   rotate_left
   ·intro w'
    go_simp
    with_reducible rfl
   rotate_left
   ·simp only [SX]
    rfl
   refine pu 30 72 ?_ (ms 31 2147483647) rfl rfl HT_ (by kernel_rfl) (fun _ _ _ h => h) (by rfl) ?_ ?_ ?_ ?_
   rotate_left
   ·intro w'
    go_simp
    with_reducible rfl
   rotate_left
   ·simp only [SX]
    rfl
   refine qXc (qQp HT_.out (by kernel_rfl)) ?_
   have fp := bc w96 ad 0 (.int .i64 ((qZa ab aa).f0)) rfl
   have fq := bc w96 ad 1 (.int .i64 ((qZa ab aa).f1)) rfl
   have fr := bc w96 ad 2 (.int .i64 ((qZa ab aa).f2)) rfl
   have fs := bc w96 ad 3 (.int .i64 ((qZa ab aa).f3)) rfl
   have ft := bc w96 ad 4 (.int .i64 ((qZa ab aa).f4)) rfl
   have fu := fz ad 0
   have fv := fz ad 1
   have fw := fz ad 2
   have fx := fz ad 3
   have fy := fz ad 4
   have p84 : 0 ≤ (((qZa ab aa).f1) : Int) := oT (by (with_reducible assumption))
   have q84 : (((qZa ab aa).f1) : Int) < ((aq.length : Int) : Int) := oT (by (with_reducible assumption))
   obtain ⟨aU, ip, gP, en, gQ, iq, eo⟩ := Kd.R_form ag.out (by omega)
   (cases gP)
   have ep := ak en
   have ir := ak eo
   clear en gQ eo
   have gR := ak (show (P4_ aU ∨ w.heap.size ≤ aU) from (ag.out.1 _ rfl))
   (simp only [qXh] at aA)
   obtain ⟨gS, gT⟩ := Kd.R_celln false ag.out (((qZa ab aa).f1) : Int) p84 q84
   replace p84 := eq_true p84
   replace q84 := eq_true q84
   obtain ⟨gU, gV⟩ := Kd.R_celln false ag.out (((qZa ab aa).f1) : Int) (oT (by (with_reducible assumption))) (oT (by (with_reducible assumption)))
   have cX := Kd.R_putg ag.out (((qZa ab aa).f1) : Int) true
   try go_wp2_with (((with_reducible refine qVk (t := 4) (p := 76) rfl ?_); refine qVb (t := 4) (p := 76) (v := ?vo_w101) (w1 := (w96.setCell ⟨aU, (((qZa ab aa).f1) : Int).toNat, none⟩ (.bool true))) ?hg ?ho ?hn ?hr ?_; (case ho => rfl); (case hg => rfl); (case hn => rfl); (case hr => (go_simp; done)); intro dl hw; have hg : w96.grownBy dl (some aU) := (by rw [hw]; exact cX.2); have hp_ : Kd.R Kd.bool 4 dl w0.heap.size (fun k_ => (P4_ k_ ∨ w.heap.size ≤ k_)) (.slice (some ⟨aU, 0, none⟩) aq.length bf) cl := (by rw [hw, eh.out]; exact cX.1); clear cX; replace aj := ak (Kd.V_afterv (v := (.slice (some ⟨aU, 0, none⟩) aq.length bf)) (v1 := (.slice (some ⟨aU, 0, none⟩) aq.length bf)) (ok := (fun k_ => ((P4_ k_ ∨ P6_ k_) ∨ w.heap.size ≤ k_) ∧ k_ ≠ ai ∧ k_ ≠ ah ∧ k_ ≠ ac)) (by exact Kd.V_mono aj.out (fun _ hk => ⟨⟨hk.1, ⟨hk.2.2.1, ⟨hk.2.2.2.1, hk.2.2.2.2⟩⟩⟩, hk.2.1⟩)) hg (.inl rfl)); replace ae := ak (qZg (bk ae) hg (Kd.R_ne ag.out ae.out (by decide))); replace af := ak (qZg (bk af) hg (Kd.R_ne ag.out af.out (by decide))); replace ad := ak (qZg (bk ad) hg (Kd.R_ne ag.out ad.out (by decide))); replace HB := ak ((by rw [hw]; exact below_set (HB.out) ep.out : Below w0.heap.size w0 dl)); replace HK := ak (Kept.of_grown (S := (fun k_ => P4_ k_)) hg (by repeat ((with_reducible exact HK.out))) (fun k_ e_ => (ag.out.1 k_ e_))); replace ag := ak (hp_); clear hg hw hp_))
   replace ag := ak (Kd.R_drew ag.out)
   replace aj := ak (Kd.V_drew aj.out)
   replace ae := ak (qZp ae.out)
   replace af := ak (qZp af.out)
   replace ad := ak (qZp ad.out)
   replace HK := ak (Kept.drew HK.out)
   replace HB := ak (qZo HB.out)
   refine qJd (n := 22) (S := fun w' => w'.cell? ⟨ai, 0, none⟩ = some (.int .i64 aw) ∧ w'.cell? ⟨ai, 1, none⟩ = some (.slice (some aN) ab.length aV) ∧ w'.cell? ⟨ac, 0, none⟩ = some (.int .i64 ((qZa ab aa).f0)) ∧ w'.cell? ⟨ac, 1, none⟩ = some (.int .i64 ((qZa ab aa).f1)) ∧ w'.cell? ⟨ac, 2, none⟩ = some (.int .i64 ((qZa ab aa).f2)) ∧ w'.cell? ⟨ac, 3, none⟩ = some (.int .i64 ((qZa ab aa).f3)) ∧ w'.cell? ⟨ac, 4, none⟩ = some (.int .i64 ((qZa ab aa).f4)) ∧ w'.cell? ⟨ah, 0, none⟩ = some (.slice bd au.length be) ∧ w'.cell? ⟨ah, 1, none⟩ = some (.int .i64 av)) (ds := []) (ms 22 0) (by kernel_rfl) rfl (by kernel_rfl) ⟨(qZb ae.out 0).trans rfl, (qZb ae.out 1).trans rfl, (qZb ad.out 0).trans rfl, (qZb ad.out 1).trans rfl, (qZb ad.out 2).trans rfl, (qZb ad.out 3).trans rfl, (qZb ad.out 4).trans rfl, (qZb af.out 0).trans rfl, (qZb af.out 1).trans rfl⟩ (fun hHeld => ?_); refine qQk spec_l14Go.tab9 spec_l14Go.bits9 (fun HT_ HW_ => ?_)
   generalize dl.drew = w102 at ag aj ae af ad HK HB hHeld ⊢
   refine pu 1 78 ?_ (ms 22 2) rfl rfl HT_ (by kernel_rfl) (fun _ _ _ h => h) (by rfl) ?_ ?_ ?_ ?_
   rotate_left
   ·intro w'
    go_simp
    with_reducible rfl
   rotate_left
   ·simp only [SX]
    rfl
   refine pu 2 79 ?_ (ms 22 6) rfl rfl HT_ (by kernel_rfl) (fun _ _ _ h => h) (by rfl) ?_ ?_ ?_ ?_
   rotate_left
   ·intro w'
    go_simp
    with_reducible rfl
   rotate_left
   ·simp only [SX]
    rfl
   refine pu 3 80 ?_ (ms 22 14) rfl rfl HT_ (by kernel_rfl) (fun _ _ _ h => h) (by rfl) ?_ ?_ ?_ ?_
   rotate_left
   ·intro w'
    go_simp
    with_reducible rfl
   rotate_left
   ·simp only [SX]
    rfl
   refine pu 5 82 ?_ (ms 22 46) rfl rfl HT_ (by kernel_rfl) (fun _ _ _ h => h) (by rfl) ?_ ?_ ?_ ?_
   rotate_left
   ·intro w'
    go_simp
    with_reducible rfl
   rotate_left
   ·simp only [SX]
    rfl
   refine pu 7 84 ?_ (ms 22 174) rfl rfl HT_ (by kernel_rfl) (fun _ _ _ h => h) (by rfl) ?_ ?_ ?_ ?_
   rotate_left
   ·intro w'
    go_simp
    with_reducible rfl
   rotate_left
   ·simp only [SX]
    rfl
   refine pu 10 87 ?_ (ms 22 1198) rfl rfl HT_ (by kernel_rfl) (fun _ _ _ h => h) (by rfl) ?_ ?_ ?_ ?_
   rotate_left
   ·intro w'
    go_simp
    with_reducible rfl
   rotate_left
   ·simp only [SX]
    rfl
   refine pu 13 90 ?_ (ms 22 9390) rfl rfl HT_ (by kernel_rfl) (fun _ _ _ h => h) (by rfl) ?_ ?_ ?_ ?_
   rotate_left
   ·intro w'
    go_simp
    with_reducible rfl
   rotate_left
   ·simp only [SX]
    rfl
   refine pu 15 92 ?_ (ms 22 42158) rfl rfl HT_ (by kernel_rfl) (fun _ _ _ h => h) (by rfl) ?_ ?_ ?_ ?_
   rotate_left
   ·intro w'
    go_simp
    with_reducible rfl
   rotate_left
   ·simp only [SX]
    rfl
   refine pu 19 96 ?_ (ms 22 566446) rfl rfl HT_ (by kernel_rfl) (fun _ _ _ h => h) (by rfl) ?_ ?_ ?_ ?_
   rotate_left
   ·intro w'
    go_simp
    with_reducible rfl
   rotate_left
   ·simp only [SX]
    rfl
   refine tk 0 77 ?_ (ms 22 566447) rfl rfl HT_ HW_ (by kernel_rfl) (fun _ _ _ h => h) (by rfl) ?_ hHeld ?_ ?_ ?_
   rotate_left
   ·rintro w' ⟨s0, s1, s2, s3, s4, s5, s6, s7, s8⟩
    go_simp
    with_reducible rfl
   rotate_left
   ·simp only [SX]
    rfl
   refine tk 4 81 ?_ (ms 22 566463) rfl rfl HT_ HW_ (by kernel_rfl) (fun _ _ _ h => h) (by rfl) ?_ hHeld ?_ ?_ ?_
   rotate_left
   ·rintro w' ⟨s0, s1, s2, s3, s4, s5, s6, s7, s8⟩
    go_simp
    with_reducible rfl
   rotate_left
   ·simp only [SX]
    rfl
   refine tk 8 85 ?_ (ms 22 566719) rfl rfl HT_ HW_ (by kernel_rfl) (fun _ _ _ h => h) (by rfl) ?_ hHeld ?_ ?_ ?_
   rotate_left
   ·rintro w' ⟨s0, s1, s2, s3, s4, s5, s6, s7, s8⟩
    go_simp
    with_reducible rfl
   rotate_left
   ·simp only [SX]
    rfl
   refine tk 14 91 ?_ (ms 22 583103) rfl rfl HT_ HW_ (by kernel_rfl) (fun _ _ _ h => h) (by rfl) ?_ hHeld ?_ ?_ ?_
   rotate_left
   ·rintro w' ⟨s0, s1, s2, s3, s4, s5, s6, s7, s8⟩
    go_simp
    with_reducible rfl
   rotate_left
   ·simp only [SX]
    rfl
   refine tk 16 93 ?_ (ms 22 648639) rfl rfl HT_ HW_ (by kernel_rfl) (fun _ _ _ h => h) (by rfl) ?_ hHeld ?_ ?_ ?_
   rotate_left
   ·rintro w' ⟨s0, s1, s2, s3, s4, s5, s6, s7, s8⟩
    go_simp
    with_reducible rfl
   rotate_left
   ·simp only [SX]
    rfl
   refine pu 17 94 ?_ (ms 22 779711) rfl rfl HT_ (by kernel_rfl) (fun _ _ _ h => h) (by rfl) ?_ ?_ ?_ ?_
   rotate_left
   ·intro w'
    go_simp
    with_reducible rfl
   rotate_left
   ·simp only [SX]
    rfl
   refine join_ (σ := Value × Value × Value) 4 (ms 22 782335) (fun s_ => [(83, s_.1), (86, s_.2.1), (88, s_.2.2)]) (fun s_ w' => (w'.cell? ⟨ai, 0, none⟩ = some (.int .i64 aw) ∧ w'.cell? ⟨ai, 1, none⟩ = some (.slice (some aN) ab.length aV) ∧ w'.cell? ⟨ac, 0, none⟩ = some (.int .i64 ((qZa ab aa).f0)) ∧ w'.cell? ⟨ac, 1, none⟩ = some (.int .i64 ((qZa ab aa).f1)) ∧ w'.cell? ⟨ac, 2, none⟩ = some (.int .i64 ((qZa ab aa).f2)) ∧ w'.cell? ⟨ac, 3, none⟩ = some (.int .i64 ((qZa ab aa).f3)) ∧ w'.cell? ⟨ac, 4, none⟩ = some (.int .i64 ((qZa ab aa).f4)) ∧ w'.cell? ⟨ah, 0, none⟩ = some (.slice bd au.length be) ∧ w'.cell? ⟨ah, 1, none⟩ = some (.int .i64 av)) ∧ (Kd.R (Kd.int .i64) 3 w' w0.heap.size (fun k_ => (P4_ k_ ∨ w.heap.size ≤ k_) ∧ some k_ ≠ (s_.2.2 : Value).ownBlock) s_.2.1 bi) ∧ (Kd.R (Kd.int .i64) 3 w' w0.heap.size (fun k_ => (P4_ k_ ∨ w.heap.size ≤ k_) ∧ some k_ ≠ (s_.2.1 : Value).ownBlock) s_.2.2 aT) ∧ (Kd.R Kd.bool 4 w' w0.heap.size (fun k_ => (P4_ k_ ∨ w.heap.size ≤ k_)) (.slice (some ⟨aU, 0, none⟩) aq.length bf) cl) ∧ (Kd.V k103 103 w' w0.heap.size (fun k_ => ((P4_ k_ ∨ P6_ k_) ∨ w.heap.size ≤ k_) ∧ some k_ ≠ (s_.2.1 : Value).ownBlock ∧ some k_ ≠ (s_.2.2 : Value).ownBlock ∧ some k_ ≠ (.slice (some ⟨aU, 0, none⟩) aq.length bf : Value).ownBlock ∧ k_ ≠ ai ∧ k_ ≠ ah ∧ k_ ≠ ac) (.slice dz ax.length dA) ax) ∧ (w'.heap[ai]? = some (.cells #[.int .i64 aw, .slice (some aN) ab.length aV] 25 (0, 0))) ∧ (w'.heap[ah]? = some (.cells #[.slice bd au.length be, .int .i64 av] 103 (0, 0))) ∧ (w'.heap[ac]? = some (.cells #[.int .i64 ((qZa ab aa).f0), .int .i64 ((qZa ab aa).f1), .int .i64 ((qZa ab aa).f2), .int .i64 ((qZa ab aa).f3), .int .i64 ((qZa ab aa).f4)] 58 (0, 0))) ∧ (Kept w w' (fun k_ => P4_ k_)) ∧ (Below w0.heap.size w0 w')) ?_ ?_
   rotate_left
   ·intro hCont
    refine two_ (i := 6) (j := 11) (Ni := some 83) (Nj := some 88) (ms 22 779775) (ms 22 781759) rfl rfl rfl rfl (two_of HT_.out (by kernel_rfl)) (by decide) (by decide) (fun K hK => ?_) (fun K hK => ?_)
    rotate_left
    ·skip
     refine Kd.R_lit_step (Kd.int .i64) _ 3 ?hg (N := 88) ?hd (xs := ([aa] : List Int)) (inner := [.int .i64 aa]) (ok := fun _ => True) (okp := fun _ => True) ?hr ?hp (fun _ hk => hk) trivial (Below.refl _ _) (Nat.le_refl _) (by simp) ?_; (case hd => rfl); (case hg => rfl); (case hr => (go_simp; done)); (case hp => exact (Reps.one (show Kd.M (Kd.int .i64) _ _ _ aa [.int .i64 aa] from rfl) (Reps.none _ _)))
     intro bK gW bD hb hg_ hnew_
     clear hg_ hnew_
     (rw [← cU.out] at bD)
     replace ag := ak (Kd.R_below (rk ag) hb)
     replace aj := ak (Kd.V_elder' (by exact aj.out) (Kd.R_base bD) hb)
     have aC := ak (Kd.R_lower (Kd.R_newM (M := fun k_ => (P4_ k_ ∨ w.heap.size ≤ k_)) bD (by exact HK.out.1) (fun k_ h_ => .inr h_)) (qZc (bl3 HB an ao ar)))
     replace ae := ak (qZe (bk ae) hb)
     replace af := ak (qZe (bk af) hb)
     replace ad := ak (qZe (bk ad) hb)
     replace HK := ak (Kept.below (S := (fun k_ => P4_ k_)) (by repeat ((with_reducible exact HK.out))) hb)
     replace HB := ak (qZd (bl3 HB an ao ar) hb)
     clear hb bD
     refine hK.out _ _ ⟨(qZb ae.out 0).trans rfl, (qZb ae.out 1).trans rfl, (qZb ad.out 0).trans rfl, (qZb ad.out 1).trans rfl, (qZb ad.out 2).trans rfl, (qZb ad.out 3).trans rfl, (qZb ad.out 4).trans rfl, (qZb af.out 0).trans rfl, (qZb af.out 1).trans rfl⟩ (fun hHeld => ?_)
     clear hK K
     refine qJc (a' := ?_) ?_ ?_
     rotate_left
     ·show Act.put _ (some 88) _ = _
      simp only [SX]
      rfl
     refine one_ (i := 6) (N := some 83) (ms 22 781823) rfl rfl (qJb HT_.out (by kernel_rfl)) (by decide) (fun K hK => ?_)
     refine Kd.R_lit_step (Kd.int .i64) _ 3 ?hg (N := 83) ?hd (xs := ([] : List Int)) (inner := []) (ok := fun _ => True) (okp := fun _ => True) ?hr ?hp (fun _ hk => hk) trivial (Below.refl _ _) (Nat.le_refl _) (by simp) ?_; (case hd => rfl); (case hg => rfl); (case hr => (go_simp; done)); (case hp => exact (Reps.none _ _))
     intro cv eq bu hb hg_ hnew_
     clear hg_ hnew_
     (rw [← dr.out] at bu)
     replace ag := ak (Kd.R_below (rk ag) hb)
     replace aj := ak (Kd.V_elder' (by exact aj.out) (Kd.R_base bu) hb)
     have aD := ak (Kd.R_lower (Kd.R_new' (Kd.R_newM (M := fun k_ => (P4_ k_ ∨ w.heap.size ≤ k_)) bu (by exact HK.out.1) (fun k_ h_ => .inr h_)) (Kd.R_lt (rk aC))) (qZc (bl3 HB an ao ar)))
     replace aC := ak (Kd.R_elder' (rk aC) (Kd.R_base bu) hb)
     replace ae := ak (qZe (bk ae) hb)
     replace af := ak (qZe (bk af) hb)
     replace ad := ak (qZe (bk ad) hb)
     replace HK := ak (Kept.below (S := (fun k_ => P4_ k_)) (by repeat ((with_reducible exact HK.out))) hb)
     replace HB := ak (qZd (bl3 HB an ao ar) hb)
     clear hb bu
     refine hK.out _ _ ⟨(qZb ae.out 0).trans rfl, (qZb ae.out 1).trans rfl, (qZb ad.out 0).trans rfl, (qZb ad.out 1).trans rfl, (qZb ad.out 2).trans rfl, (qZb ad.out 3).trans rfl, (qZb ad.out 4).trans rfl, (qZb af.out 0).trans rfl, (qZb af.out 1).trans rfl⟩ (fun hHeld => ?_)
     clear hK K
     refine qJc (a' := ?_) ?_ ?_
     rotate_left
     ·show Act.put _ (some 83) _ = _
      simp only [SX]
      rfl
     refine one_ (i := 9) (N := some 86) (ms 22 782335) rfl rfl (qJb HT_.out (by kernel_rfl)) (by decide) (fun K hK => ?_)
     refine Kd.R_append_rows_step (Kd.int .i64) (w0 := w0) w0.heap.size (by rfl) (.tmp 83) (.tmp 85) 33 3 (.int .i64 0) 8 rfl Try.underlying33 qYd rfl (by decide) (by omega) cv bv au _ _ _ (fun k_ => (P4_ k_ ∨ w.heap.size ≤ k_) ∧ some k_ ≠ (bK : Value).ownBlock) (fun _ => False) rfl rfl ?aO ?aR (fun _ _ h => h) (fun _ h => h.elim) ?aF ?aB ?aS ?aL ?_
     (case aR => exact Kd.C_kept_now bY.out (by repeat ((with_reducible exact HK.out))))
     (case aB => exact (bl3 HB an ao ar))
     (case aF => exact (fun k_ hk => ⟨(.inr (Nat.le_trans (by exact HK.out.1) hk)), Kd.fresh' (Kd.R_lt (rk aC)) k_ hk⟩))
     (case aO => exact (by exact Kd.R_mono aD.out (fun _ hk => ⟨hk.1.1, hk.2⟩)))
     (case aS => exact (qZc (bl3 HB an ao ar)))
     (case aL => have := cQ.out; omega)
     intro ch gX ho hb hg hat
     rw [← cS.out] at ho
     have n0_ := ak (Kd.R_over' (rk ag) (Kd.R_typed (rk aD)) (by decide) hg)
     have n1_ := ak (Kd.V_afterv (ok := (fun k_ => ((P4_ k_ ∨ P6_ k_) ∨ w.heap.size ≤ k_) ∧ some k_ ≠ (.slice (some ⟨aU, 0, none⟩) aq.length bf : Value).ownBlock ∧ some k_ ≠ (bK : Value).ownBlock ∧ k_ ≠ ai ∧ k_ ≠ ah ∧ k_ ≠ ac)) (by exact Kd.V_mono aj.out (fun _ hk => ⟨⟨hk.1.1.1.1, ⟨hk.1.1.2, ⟨hk.1.2, ⟨hk.1.1.1.2.1, ⟨hk.1.1.1.2.2.1, hk.1.1.1.2.2.2⟩⟩⟩⟩⟩, hk.2⟩)) hg hat)
     have n2_ := ak (qZg (bk ae) hg (Kd.R_ne aD.out ae.out (by decide)))
     have n3_ := ak (qZg (bk af) hg (Kd.R_ne aD.out af.out (by decide)))
     have n4_ := ak (qZg (bk ad) hg (Kd.R_ne aD.out ad.out (by decide)))
     have n5_ := ak (Kd.R_after (ok := (fun k_ => (P4_ k_ ∨ w.heap.size ≤ k_))) (by exact Kd.R_mono aC.out (fun _ hk => ⟨hk.1.1, hk.2⟩)) hg hat)
     have n6_ := ak (hb)
     have n7_ := ak (Kept.of_grown (S := (fun k_ => P4_ k_)) hg (by repeat ((with_reducible exact HK.out))) (fun k_ e_ => (aD.out.1 k_ e_).1.1))
     have n8_ := ak (ho)
     clear ag
     clear aj
     clear ae
     clear af
     clear ad
     clear aC
     clear HB
     clear HK
     clear aD
     have ag := n0_
     have aj := n1_
     have ae := n2_
     have af := n3_
     have ad := n4_
     have aC := n5_
     have HB := n6_
     have HK := n7_
     have aY := n8_
     clear n0_ n1_ n2_ n3_ n4_ n5_ n6_ n7_ n8_
     clear ho hb hg hat
     refine hK.out _ _ ⟨(qZb ae.out 0).trans rfl, (qZb ae.out 1).trans rfl, (qZb ad.out 0).trans rfl, (qZb ad.out 1).trans rfl, (qZb ad.out 2).trans rfl, (qZb ad.out 3).trans rfl, (qZb ad.out 4).trans rfl, (qZb af.out 0).trans rfl, (qZb af.out 1).trans rfl⟩ (fun hHeld => ?_)
     clear hK K
     refine qJc (a' := ?_) ?_ ?_
     rotate_left
     ·show Act.put _ (some 86) _ = _
      simp only [SX]
      rfl
     exact qJc (by simp only [putAll, Act.put, List.setIfInBounds_toArray, List.set_cons_zero, List.set_cons_succ]) (hCont (cv, ch, bK) _ ⟨hHeld, (rk aY), (rk aC), (rk ag), (by exact Kd.V_mono aj.out (fun _ hk => ⟨hk.1.1, ⟨hk.2, ⟨hk.1.2.2.1, ⟨hk.1.2.1, ⟨hk.1.2.2.2.1, ⟨hk.1.2.2.2.2.1, hk.1.2.2.2.2.2⟩⟩⟩⟩⟩⟩)), (bk ae), (bk af), (bk ad), (by repeat ((with_reducible exact HK.out))), (bl3 HB an ao ar)⟩)
    skip
    refine Kd.R_lit_step (Kd.int .i64) _ 3 ?hg (N := 83) ?hd (xs := ([] : List Int)) (inner := []) (ok := fun _ => True) (okp := fun _ => True) ?hr ?hp (fun _ hk => hk) trivial (Below.refl _ _) (Nat.le_refl _) (by simp) ?_; (case hd => rfl); (case hg => rfl); (case hr => (go_simp; done)); (case hp => exact (Reps.none _ _))
    intro cv gW bD hb hg_ hnew_
    clear hg_ hnew_
    (rw [← dr.out] at bD)
    replace ag := ak (Kd.R_below (rk ag) hb)
    replace aj := ak (Kd.V_elder' (by exact aj.out) (Kd.R_base bD) hb)
    have aD := ak (Kd.R_lower (Kd.R_newM (M := fun k_ => (P4_ k_ ∨ w.heap.size ≤ k_)) bD (by exact HK.out.1) (fun k_ h_ => .inr h_)) (qZc (bl3 HB an ao ar)))
    replace ae := ak (qZe (bk ae) hb)
    replace af := ak (qZe (bk af) hb)
    replace ad := ak (qZe (bk ad) hb)
    replace HK := ak (Kept.below (S := (fun k_ => P4_ k_)) (by repeat ((with_reducible exact HK.out))) hb)
    replace HB := ak (qZd (bl3 HB an ao ar) hb)
    clear hb bD
    refine hK.out _ _ ⟨(qZb ae.out 0).trans rfl, (qZb ae.out 1).trans rfl, (qZb ad.out 0).trans rfl, (qZb ad.out 1).trans rfl, (qZb ad.out 2).trans rfl, (qZb ad.out 3).trans rfl, (qZb ad.out 4).trans rfl, (qZb af.out 0).trans rfl, (qZb af.out 1).trans rfl⟩ (fun hHeld => ?_)
    clear hK K
    refine qJc (a' := ?_) ?_ ?_
    rotate_left
    ·show Act.put _ (some 83) _ = _
     simp only [SX]
     rfl
    refine two_ (i := 9) (j := 11) (Ni := some 86) (Nj := some 88) (ms 22 780287) (ms 22 781823) rfl rfl rfl rfl (two_of HT_.out (by kernel_rfl)) (by decide) (by decide) (fun K hK => ?_) (fun K hK => ?_)
    ·skip
     refine Kd.R_append_rows_step (Kd.int .i64) (w0 := w0) w0.heap.size (by rfl) (.tmp 83) (.tmp 85) 33 3 (.int .i64 0) 8 rfl Try.underlying33 qYd rfl (by decide) (by omega) cv bv au _ _ _ (fun k_ => (P4_ k_ ∨ w.heap.size ≤ k_)) (fun _ => False) rfl rfl ?aO ?aR (fun _ _ h => h) (fun _ h => h.elim) ?aF ?aB ?aS ?aL ?_
     (case aR => exact Kd.C_kept_now bY.out (by repeat ((with_reducible exact HK.out))))
     (case aB => exact (bl3 HB an ao ar))
     (case aF => exact (fun k_ hk => (.inr (Nat.le_trans (by exact HK.out.1) hk))))
     (case aO => exact (by exact Kd.R_mono aD.out (fun _ hk => hk.1)))
     (case aS => exact (qZc (bl3 HB an ao ar)))
     (case aL => have := cQ.out; omega)
     intro ch eq ho hb hg hat
     rw [← cS.out] at ho
     have n0_ := ak (Kd.R_over' (rk ag) (Kd.R_typed (rk aD)) (by decide) hg)
     have n1_ := ak (Kd.V_afterv (ok := (fun k_ => ((P4_ k_ ∨ P6_ k_) ∨ w.heap.size ≤ k_) ∧ some k_ ≠ (.slice (some ⟨aU, 0, none⟩) aq.length bf : Value).ownBlock ∧ k_ ≠ ai ∧ k_ ≠ ah ∧ k_ ≠ ac)) (by exact Kd.V_mono aj.out (fun _ hk => ⟨⟨hk.1.1.1, ⟨hk.1.2, ⟨hk.1.1.2.1, ⟨hk.1.1.2.2.1, hk.1.1.2.2.2⟩⟩⟩⟩, hk.2⟩)) hg hat)
     have n2_ := ak (qZg (bk ae) hg (Kd.R_ne aD.out ae.out (by decide)))
     have n3_ := ak (qZg (bk af) hg (Kd.R_ne aD.out af.out (by decide)))
     have n4_ := ak (qZg (bk ad) hg (Kd.R_ne aD.out ad.out (by decide)))
     have n5_ := ak (hb)
     have n6_ := ak (Kept.of_grown (S := (fun k_ => P4_ k_)) hg (by repeat ((with_reducible exact HK.out))) (fun k_ e_ => (aD.out.1 k_ e_).1))
     have n7_ := ak (ho)
     clear ag
     clear aj
     clear ae
     clear af
     clear ad
     clear HB
     clear HK
     clear aD
     have ag := n0_
     have aj := n1_
     have ae := n2_
     have af := n3_
     have ad := n4_
     have HB := n5_
     have HK := n6_
     have aY := n7_
     clear n0_ n1_ n2_ n3_ n4_ n5_ n6_ n7_
     clear ho hb hg hat
     refine hK.out _ _ ⟨(qZb ae.out 0).trans rfl, (qZb ae.out 1).trans rfl, (qZb ad.out 0).trans rfl, (qZb ad.out 1).trans rfl, (qZb ad.out 2).trans rfl, (qZb ad.out 3).trans rfl, (qZb ad.out 4).trans rfl, (qZb af.out 0).trans rfl, (qZb af.out 1).trans rfl⟩ (fun hHeld => ?_)
     clear hK K
     refine qJc (a' := ?_) ?_ ?_
     rotate_left
     ·show Act.put _ (some 86) _ = _
      simp only [SX]
      rfl
     refine one_ (i := 11) (N := some 88) (ms 22 782335) rfl rfl (qJb HT_.out (by kernel_rfl)) (by decide) (fun K hK => ?_)
     refine Kd.R_lit_step (Kd.int .i64) _ 3 ?hg (N := 88) ?hd (xs := ([aa] : List Int)) (inner := [.int .i64 aa]) (ok := fun _ => True) (okp := fun _ => True) ?hr ?hp (fun _ hk => hk) trivial (Below.refl _ _) (Nat.le_refl _) (by simp) ?_; (case hd => rfl); (case hg => rfl); (case hr => (go_simp; done)); (case hp => exact (Reps.one (show Kd.M (Kd.int .i64) _ _ _ aa [.int .i64 aa] from rfl) (Reps.none _ _)))
     intro bK iu cw hb hg_ hnew_
     clear hg_ hnew_
     (rw [← cU.out] at cw)
     replace ag := ak (Kd.R_below (rk ag) hb)
     replace aj := ak (Kd.V_elder' (by exact aj.out) (Kd.R_base cw) hb)
     have aC := ak (Kd.R_lower (Kd.R_new' (Kd.R_newM (M := fun k_ => (P4_ k_ ∨ w.heap.size ≤ k_)) cw (by exact HK.out.1) (fun k_ h_ => .inr h_)) (Kd.R_lt (rk aY))) (qZc (bl3 HB an ao ar)))
     replace aY := ak (Kd.R_elder' (rk aY) (Kd.R_base cw) hb)
     replace ae := ak (qZe (bk ae) hb)
     replace af := ak (qZe (bk af) hb)
     replace ad := ak (qZe (bk ad) hb)
     replace HK := ak (Kept.below (S := (fun k_ => P4_ k_)) (by repeat ((with_reducible exact HK.out))) hb)
     replace HB := ak (qZd (bl3 HB an ao ar) hb)
     clear hb cw
     refine hK.out _ _ ⟨(qZb ae.out 0).trans rfl, (qZb ae.out 1).trans rfl, (qZb ad.out 0).trans rfl, (qZb ad.out 1).trans rfl, (qZb ad.out 2).trans rfl, (qZb ad.out 3).trans rfl, (qZb ad.out 4).trans rfl, (qZb af.out 0).trans rfl, (qZb af.out 1).trans rfl⟩ (fun hHeld => ?_)
     clear hK K
     refine qJc (a' := ?_) ?_ ?_
     rotate_left
     ·show Act.put _ (some 88) _ = _
      simp only [SX]
      rfl
     exact qJc (by simp only [putAll, Act.put, List.setIfInBounds_toArray, List.set_cons_zero, List.set_cons_succ]) (hCont (cv, ch, bK) _ ⟨hHeld, (rk aY), (by exact Kd.R_mono aC.out (fun _ hk => ⟨hk.1.1, hk.2⟩)), (rk ag), (by exact Kd.V_mono aj.out (fun _ hk => ⟨hk.1.1.1, ⟨hk.1.2, ⟨hk.2, ⟨hk.1.1.2.1, ⟨hk.1.1.2.2.1, ⟨hk.1.1.2.2.2.1, hk.1.1.2.2.2.2⟩⟩⟩⟩⟩⟩)), (bk ae), (bk af), (bk ad), (by repeat ((with_reducible exact HK.out))), (bl3 HB an ao ar)⟩)
    skip
    refine Kd.R_lit_step (Kd.int .i64) _ 3 ?hg (N := 88) ?hd (xs := ([aa] : List Int)) (inner := [.int .i64 aa]) (ok := fun _ => True) (okp := fun _ => True) ?hr ?hp (fun _ hk => hk) trivial (Below.refl _ _) (Nat.le_refl _) (by simp) ?_; (case hd => rfl); (case hg => rfl); (case hr => (go_simp; done)); (case hp => exact (Reps.one (show Kd.M (Kd.int .i64) _ _ _ aa [.int .i64 aa] from rfl) (Reps.none _ _)))
    intro bK eq bu hb hg_ hnew_
    clear hg_ hnew_
    (rw [← cU.out] at bu)
    replace ag := ak (Kd.R_below (rk ag) hb)
    replace aj := ak (Kd.V_elder' (by exact aj.out) (Kd.R_base bu) hb)
    have aC := ak (Kd.R_lower (Kd.R_new' (Kd.R_newM (M := fun k_ => (P4_ k_ ∨ w.heap.size ≤ k_)) bu (by exact HK.out.1) (fun k_ h_ => .inr h_)) (Kd.R_lt (rk aD))) (qZc (bl3 HB an ao ar)))
    replace aD := ak (Kd.R_elder' (rk aD) (Kd.R_base bu) hb)
    replace ae := ak (qZe (bk ae) hb)
    replace af := ak (qZe (bk af) hb)
    replace ad := ak (qZe (bk ad) hb)
    replace HK := ak (Kept.below (S := (fun k_ => P4_ k_)) (by repeat ((with_reducible exact HK.out))) hb)
    replace HB := ak (qZd (bl3 HB an ao ar) hb)
    clear hb bu
    refine hK.out _ _ ⟨(qZb ae.out 0).trans rfl, (qZb ae.out 1).trans rfl, (qZb ad.out 0).trans rfl, (qZb ad.out 1).trans rfl, (qZb ad.out 2).trans rfl, (qZb ad.out 3).trans rfl, (qZb ad.out 4).trans rfl, (qZb af.out 0).trans rfl, (qZb af.out 1).trans rfl⟩ (fun hHeld => ?_)
    clear hK K
    refine qJc (a' := ?_) ?_ ?_
    rotate_left
    ·show Act.put _ (some 88) _ = _
     simp only [SX]
     rfl
    refine one_ (i := 9) (N := some 86) (ms 22 782335) rfl rfl (qJb HT_.out (by kernel_rfl)) (by decide) (fun K hK => ?_)
    refine Kd.R_append_rows_step (Kd.int .i64) (w0 := w0) w0.heap.size (by rfl) (.tmp 83) (.tmp 85) 33 3 (.int .i64 0) 8 rfl Try.underlying33 qYd rfl (by decide) (by omega) cv bv au _ _ _ (fun k_ => (P4_ k_ ∨ w.heap.size ≤ k_) ∧ some k_ ≠ (bK : Value).ownBlock) (fun _ => False) rfl rfl ?aO ?aR (fun _ _ h => h) (fun _ h => h.elim) ?aF ?aB ?aS ?aL ?_
    (case aR => exact Kd.C_kept_now bY.out (by repeat ((with_reducible exact HK.out))))
    (case aB => exact (bl3 HB an ao ar))
    (case aF => exact (fun k_ hk => ⟨(.inr (Nat.le_trans (by exact HK.out.1) hk)), Kd.fresh' (Kd.R_lt (rk aC)) k_ hk⟩))
    (case aO => exact (by exact Kd.R_mono aD.out (fun _ hk => ⟨hk.1.1, hk.2⟩)))
    (case aS => exact (qZc (bl3 HB an ao ar)))
    (case aL => have := cQ.out; omega)
    intro ch gX ho hb hg hat
    rw [← cS.out] at ho
    have n0_ := ak (Kd.R_over' (rk ag) (Kd.R_typed (rk aD)) (by decide) hg)
    have n1_ := ak (Kd.V_afterv (ok := (fun k_ => ((P4_ k_ ∨ P6_ k_) ∨ w.heap.size ≤ k_) ∧ some k_ ≠ (.slice (some ⟨aU, 0, none⟩) aq.length bf : Value).ownBlock ∧ some k_ ≠ (bK : Value).ownBlock ∧ k_ ≠ ai ∧ k_ ≠ ah ∧ k_ ≠ ac)) (by exact Kd.V_mono aj.out (fun _ hk => ⟨⟨hk.1.1.1.1, ⟨hk.1.1.2, ⟨hk.2, ⟨hk.1.1.1.2.1, ⟨hk.1.1.1.2.2.1, hk.1.1.1.2.2.2⟩⟩⟩⟩⟩, hk.1.2⟩)) hg hat)
    have n2_ := ak (qZg (bk ae) hg (Kd.R_ne aD.out ae.out (by decide)))
    have n3_ := ak (qZg (bk af) hg (Kd.R_ne aD.out af.out (by decide)))
    have n4_ := ak (qZg (bk ad) hg (Kd.R_ne aD.out ad.out (by decide)))
    have n5_ := ak (Kd.R_after (ok := (fun k_ => (P4_ k_ ∨ w.heap.size ≤ k_))) (by exact Kd.R_mono aC.out (fun _ hk => ⟨hk.1.1, hk.2⟩)) hg hat)
    have n6_ := ak (hb)
    have n7_ := ak (Kept.of_grown (S := (fun k_ => P4_ k_)) hg (by repeat ((with_reducible exact HK.out))) (fun k_ e_ => (aD.out.1 k_ e_).1.1))
    have n8_ := ak (ho)
    clear ag
    clear aj
    clear ae
    clear af
    clear ad
    clear aC
    clear HB
    clear HK
    clear aD
    have ag := n0_
    have aj := n1_
    have ae := n2_
    have af := n3_
    have ad := n4_
    have aC := n5_
    have HB := n6_
    have HK := n7_
    have aY := n8_
    clear n0_ n1_ n2_ n3_ n4_ n5_ n6_ n7_ n8_
    clear ho hb hg hat
    refine hK.out _ _ ⟨(qZb ae.out 0).trans rfl, (qZb ae.out 1).trans rfl, (qZb ad.out 0).trans rfl, (qZb ad.out 1).trans rfl, (qZb ad.out 2).trans rfl, (qZb ad.out 3).trans rfl, (qZb ad.out 4).trans rfl, (qZb af.out 0).trans rfl, (qZb af.out 1).trans rfl⟩ (fun hHeld => ?_)
    clear hK K
    refine qJc (a' := ?_) ?_ ?_
    rotate_left
    ·show Act.put _ (some 86) _ = _
     simp only [SX]
     rfl
    exact qJc (by simp only [putAll, Act.put, List.setIfInBounds_toArray, List.set_cons_zero, List.set_cons_succ]) (hCont (cv, ch, bK) _ ⟨hHeld, (rk aY), (rk aC), (rk ag), (by exact Kd.V_mono aj.out (fun _ hk => ⟨hk.1.1, ⟨hk.2, ⟨hk.1.2.2.1, ⟨hk.1.2.1, ⟨hk.1.2.2.2.1, ⟨hk.1.2.2.2.2.1, hk.1.2.2.2.2.2⟩⟩⟩⟩⟩⟩)), (bk ae), (bk af), (bk ad), (by repeat ((with_reducible exact HK.out))), (bl3 HB an ao ar)⟩)
   rintro ⟨cv, ch, bK⟩ bs ⟨hS_, h0_, h1_, h2_, h3_, h4_, h5_, h6_, h7_, h8_⟩
   have aY : Aside0 (Kd.R (Kd.int .i64) 3 bs w0.heap.size (fun k_ => (P4_ k_ ∨ w.heap.size ≤ k_) ∧ some k_ ≠ (bK : Value).ownBlock) ch bi) := ⟨h0_⟩
   have aC : Aside0 (Kd.R (Kd.int .i64) 3 bs w0.heap.size (fun k_ => (P4_ k_ ∨ w.heap.size ≤ k_) ∧ some k_ ≠ (ch : Value).ownBlock) bK aT) := ⟨h1_⟩
   replace ag : Aside0 (Kd.R Kd.bool 4 bs w0.heap.size (fun k_ => (P4_ k_ ∨ w.heap.size ≤ k_)) (.slice (some ⟨aU, 0, none⟩) aq.length bf) cl) := ⟨h2_⟩
   replace aj : Aside0 (Kd.V k103 103 bs w0.heap.size (fun k_ => ((P4_ k_ ∨ P6_ k_) ∨ w.heap.size ≤ k_) ∧ some k_ ≠ (ch : Value).ownBlock ∧ some k_ ≠ (bK : Value).ownBlock ∧ some k_ ≠ (.slice (some ⟨aU, 0, none⟩) aq.length bf : Value).ownBlock ∧ k_ ≠ ai ∧ k_ ≠ ah ∧ k_ ≠ ac) (.slice dz ax.length dA) ax) := ⟨h3_⟩
   replace ae : Aside0 (bs.heap[ai]? = some (.cells #[.int .i64 aw, .slice (some aN) ab.length aV] 25 (0, 0))) := ⟨h4_⟩
   replace af : Aside0 (bs.heap[ah]? = some (.cells #[.slice bd au.length be, .int .i64 av] 103 (0, 0))) := ⟨h5_⟩
   replace ad : Aside0 (bs.heap[ac]? = some (.cells #[.int .i64 ((qZa ab aa).f0), .int .i64 ((qZa ab aa).f1), .int .i64 ((qZa ab aa).f2), .int .i64 ((qZa ab aa).f3), .int .i64 ((qZa ab aa).f4)] 58 (0, 0))) := ⟨h6_⟩
   replace HK : Aside0 (Kept w bs (fun k_ => P4_ k_)) := ⟨h7_⟩
   replace HB : Aside0 (Below w0.heap.size w0 bs) := ⟨h8_⟩
   clear h0_ h1_ h2_ h3_ h4_ h5_ h6_ h7_ h8_
   have hHeld : bs.cell? ⟨ai, 0, none⟩ = some (.int .i64 aw) ∧ bs.cell? ⟨ai, 1, none⟩ = some (.slice (some aN) ab.length aV) ∧ bs.cell? ⟨ac, 0, none⟩ = some (.int .i64 ((qZa ab aa).f0)) ∧ bs.cell? ⟨ac, 1, none⟩ = some (.int .i64 ((qZa ab aa).f1)) ∧ bs.cell? ⟨ac, 2, none⟩ = some (.int .i64 ((qZa ab aa).f2)) ∧ bs.cell? ⟨ac, 3, none⟩ = some (.int .i64 ((qZa ab aa).f3)) ∧ bs.cell? ⟨ac, 4, none⟩ = some (.int .i64 ((qZa ab aa).f4)) ∧ bs.cell? ⟨ah, 0, none⟩ = some (.slice bd au.length be) ∧ bs.cell? ⟨ah, 1, none⟩ = some (.int .i64 av) := hS_
   obtain ⟨bN, bO, er⟩ := Kd.R_slice aC.out
   (subst er)
   refine qJc (a' := ?_) ?_ ?_
   rotate_left
   ·simp only [putAll, Act.put, List.setIfInBounds_toArray, List.set_cons_zero, List.set_cons_succ]
    rfl
   refine one_ (i := 12) (N := some 89) (ms 22 786431) rfl rfl (qJb HT_.out (by kernel_rfl)) (by decide) (fun K hK => ?_)
   refine Kd.R_append_rows_step (Kd.int .i64) (w0 := w0) w0.heap.size (by rfl) (.tmp 86) (.tmp 88) 33 3 (.int .i64 0) 8 rfl Try.underlying33 qYd rfl (by decide) (by omega) ch bi aT _ _ _ (fun k_ => (P4_ k_ ∨ w.heap.size ≤ k_) ∧ some k_ ≠ (.slice bN aT.length bO : Value).ownBlock) (fun _ => False) rfl rfl ?aO ?aR (fun _ _ h => h) (fun _ h => h.elim) ?aF ?aB ?aS ?aL ?_
   (case aR => repeat (exact (Kd.R_reads' aC.out).2.2))
   (case aB => exact (bl3 HB an ao ar))
   (case aF => exact (fun k_ hk => ⟨(.inr (Nat.le_trans (by exact HK.out.1) hk)), Kd.fresh' (Kd.R_lt (rk aC)) k_ hk⟩))
   (case aO => exact (rk aY))
   (case aS => exact (qZc (bl3 HB an ao ar)))
   (case aL => have := ei.out; omega)
   intro iv iw ho hb hg hat
   rw [← ej.out] at ho
   have n0_ := ak (Kd.R_over' (rk ag) (Kd.R_typed (rk aY)) (by decide) hg)
   have n1_ := ak (Kd.V_afterv (ok := (fun k_ => ((P4_ k_ ∨ P6_ k_) ∨ w.heap.size ≤ k_) ∧ some k_ ≠ (.slice (some ⟨aU, 0, none⟩) aq.length bf : Value).ownBlock ∧ some k_ ≠ (.slice bN aT.length bO : Value).ownBlock ∧ k_ ≠ ai ∧ k_ ≠ ah ∧ k_ ≠ ac)) (by exact Kd.V_mono aj.out (fun _ hk => ⟨⟨hk.1, ⟨hk.2.2.2.1, ⟨hk.2.2.1, ⟨hk.2.2.2.2.1, ⟨hk.2.2.2.2.2.1, hk.2.2.2.2.2.2⟩⟩⟩⟩⟩, hk.2.1⟩)) hg hat)
   have n2_ := ak (qZg (bk ae) hg (Kd.R_ne aY.out ae.out (by decide)))
   have n3_ := ak (qZg (bk af) hg (Kd.R_ne aY.out af.out (by decide)))
   have n4_ := ak (qZg (bk ad) hg (Kd.R_ne aY.out ad.out (by decide)))
   have n5_ := ak (Kd.R_after (ok := (fun k_ => (P4_ k_ ∨ w.heap.size ≤ k_))) (rk aC) hg hat)
   have n6_ := ak (hb)
   have n7_ := ak (Kept.of_grown (S := (fun k_ => P4_ k_)) hg (by repeat ((with_reducible exact HK.out))) (fun k_ e_ => (aY.out.1 k_ e_).1))
   have n8_ := ak (ho)
   clear ag
   clear aj
   clear ae
   clear af
   clear ad
   clear aC
   clear HB
   clear HK
   clear aY
   have ag := n0_
   have aj := n1_
   have ae := n2_
   have af := n3_
   have ad := n4_
   have aC := n5_
   have HB := n6_
   have HK := n7_
   have bE := n8_
   clear n0_ n1_ n2_ n3_ n4_ n5_ n6_ n7_ n8_
   clear ho hb hg hat
   obtain ⟨ca, cb, es⟩ := Kd.R_slice bE.out
   (subst es)
   refine hK.out _ _ ⟨(qZb ae.out 0).trans rfl, (qZb ae.out 1).trans rfl, (qZb ad.out 0).trans rfl, (qZb ad.out 1).trans rfl, (qZb ad.out 2).trans rfl, (qZb ad.out 3).trans rfl, (qZb ad.out 4).trans rfl, (qZb af.out 0).trans rfl, (qZb af.out 1).trans rfl⟩ (fun hHeld => ?_)
   clear hK K
   refine qJc (a' := ?_) ?_ ?_
   rotate_left
   ·show Act.put _ (some 89) _ = _
    simp only [SX]
    rfl
   refine pu 18 95 ?_ (ms 22 1048575) rfl rfl HT_ (by kernel_rfl) (fun _ _ _ h => h) (by rfl) ?_ ?_ ?_ ?_
   rotate_left
   ·intro w'
    go_simp
    with_reducible rfl
   rotate_left
   ·simp only [SX]
    rfl
   refine one_ (i := 20) (N := some 97) (ms 22 2097151) rfl rfl (qJb HT_.out (by kernel_rfl)) (by decide) (fun K hK => ?_)
   refine qXg Try.func90 (by kernel_rfl) rfl #[.agg #[.int .i64 aw, .slice (some aN) ab.length aV], .int .i64 a1, .int .i64 a2, .int .i64 ((qZa ab aa).f1), .slice (some ⟨aU, 0, none⟩) aq.length bf, .agg #[.slice ca cm.length cb, .int .i64 (wrap64 (av + ((qZa ab aa).f2)))], .slice dz ax.length dA] (by rfl) rfl rfl (by (try simp only [List.map_toArray, List.map_cons, List.map_nil]); rfl) ?_
   with_reducible refine (ih k1 (by have := HK1.out; omega) aw _ _ ab a1 a2 ((qZa ab aa).f1) (fun k_ => some k_ = (.slice (some ⟨aU, 0, none⟩) aq.length bf : Value).ownBlock) (.slice (some ⟨aU, 0, none⟩) aq.length bf) cl _ _ cm (wrap64 (av + ((qZa ab aa).f2))) (fun k_ => ((((P4_ k_ ∨ P6_ k_) ∨ w.heap.size ≤ k_) ∧ (some k_ ≠ (.slice (some ⟨aU, 0, none⟩) aq.length bf : Value).ownBlock ∧ (some k_ ≠ (.slice bN aT.length bO : Value).ownBlock ∧ (k_ ≠ ai ∧ (k_ ≠ ah ∧ k_ ≠ ac))))) ∧ some k_ ≠ (.slice ca cm.length cb : Value).ownBlock)) _ _ ax dx ek w0 _ ?side1 ?side2 ?side3 ?side4 ?side5 ?side6 ?side7 A87.out).mono ?_
   (case side1 => repeat ((with_reducible exact HB.out)))
   (case side2 => exact Kd.C_kept_call bX.out (by repeat ((with_reducible exact HK.out))) (fun k_ hs_ => (fun e_ => (ag.out.1 k_ e_.symm)) hs_))
   (case side3 => exact dq.out)
   (case side4 => exact Kd.R_tight rfl ag.out)
   (case side5 => exact Kd.C_kept_own ((Kd.R_apart' bE.out (Kd.R_typed ag.out) (by decide))) (fun k_ hk_ hs_ => (hk_.2) hs_))
   (case side6 => exact (Kd.R_reads' bE.out).2.1)
   (case side7 => exact Kd.V_mono (aj.out) (fun k_ hk_ => ⟨hk_, hk_.1.2.1⟩))
   rintro e cz ⟨ix, rfl, ho0, hy0, hb, hkp⟩
   refine ⟨_, rfl, ?_⟩
   replace aj := ak (Kd.V_mono (ok' := fun k_ => ((P4_ k_ ∨ P6_ k_) ∨ w.heap.size ≤ k_) ∧ some k_ ≠ (.slice (some ⟨aU, 0, none⟩) aq.length bf : Value).ownBlock ∧ some k_ ≠ (.slice bN aT.length bO : Value).ownBlock ∧ some k_ ≠ (.slice ca cm.length cb : Value).ownBlock ∧ k_ ≠ ai ∧ k_ ≠ ah ∧ k_ ≠ ac) (Kd.V_keptB (aj.out) hkp (fun k_ hk_ hs_ => (hk_.1.2.1) hs_)) (fun k_ hk_ => ⟨hk_.1.1.1, hk_.1.1.2.1, hk_.1.1.2.2.1, hk_.1.2, hk_.1.1.2.2.2.1, hk_.1.1.2.2.2.2.1, hk_.1.1.2.2.2.2.2⟩))
   have cY := ak (Kd.V_mono (ok' := fun k_ => ((P4_ k_ ∨ P6_ k_) ∨ w.heap.size ≤ k_) ∧ some k_ ≠ (.slice bN aT.length bO : Value).ownBlock ∧ some k_ ≠ (.slice ca cm.length cb : Value).ownBlock ∧ some k_ ≠ (.slice (some ⟨aU, 0, none⟩) aq.length bf : Value).ownBlock ∧ k_ ≠ ai ∧ k_ ≠ ah ∧ k_ ≠ ac) ho0 (fun k_ hk_ => ⟨Or.elim hk_.1 (fun hs_ => Or.elim hs_ (fun hs_ => (Or.imp_left (fun h_ => (.inl h_)) ((ag.out.1 k_ (hs_).symm)))) (fun hs_ => hs_.1.1)) (fun hn_ => (.inr (Nat.le_trans (by exact HK.out.1) hn_))), Or.elim hk_.1 (fun hs_ => Or.elim hs_ (fun hs_ => fun e_ => ((((Kd.R_apart' aC.out (Kd.R_typed ag.out) (by decide))).1 k_ e_.symm).2) hs_) (fun hs_ => hs_.1.2.2.1)) (fun hn_ => (Kd.fresh' (Kd.R_lt (rk aC)) k_ hn_)), Or.elim hk_.1 (fun hs_ => Or.elim hs_ (fun hs_ => fun e_ => ((((Kd.R_apart' bE.out (Kd.R_typed ag.out) (by decide))).1 k_ e_.symm).2) hs_) (fun hs_ => hs_.2)) (fun hn_ => (Kd.fresh' (Kd.R_lt (rk bE)) k_ hn_)), hk_.2, Or.elim hk_.1 (fun hs_ => Or.elim hs_ (fun hs_ => fun e_ => (Kd.R_ne ag.out ae.out (by decide)) (by rw [← e_]; exact hs_)) (fun hs_ => hs_.1.2.2.2.1)) (fun hn_ => (Kd.freshB (bk ae) k_ hn_)), Or.elim hk_.1 (fun hs_ => Or.elim hs_ (fun hs_ => fun e_ => (Kd.R_ne ag.out af.out (by decide)) (by rw [← e_]; exact hs_)) (fun hs_ => hs_.1.2.2.2.2.1)) (fun hn_ => (Kd.freshB (bk af) k_ hn_)), Or.elim hk_.1 (fun hs_ => Or.elim hs_ (fun hs_ => fun e_ => (Kd.R_ne ag.out ad.out (by decide)) (by rw [← e_]; exact hs_)) (fun hs_ => hs_.1.2.2.2.2.2)) (fun hn_ => (Kd.freshB (bk ad) k_ hn_))⟩))
   replace ae := ak (qVf (bk ae) hkp (fun hs_ => (fun e_ => (Kd.R_ne ag.out ae.out (by decide)) e_) hs_))
   replace af := ak (qVf (bk af) hkp (fun hs_ => (fun e_ => (Kd.R_ne ag.out af.out (by decide)) e_) hs_))
   replace ad := ak (qVf (bk ad) hkp (fun hs_ => (fun e_ => (Kd.R_ne ag.out ad.out (by decide)) e_) hs_))
   replace aC := ak (Kd.R_mono (ok' := fun k_ => (P4_ k_ ∨ w.heap.size ≤ k_) ∧ some k_ ≠ (.slice ca cm.length cb : Value).ownBlock) (Kd.R_keptB ((Kd.R_apart' aC.out (Kd.R_typed ag.out) (by decide))) hkp (fun k_ hk_ hs_ => (hk_.2) hs_)) (fun k_ hk_ => ⟨hk_.1.1.1, hk_.1.1.2⟩))
   replace bE := ak (Kd.R_mono (ok' := fun k_ => (P4_ k_ ∨ w.heap.size ≤ k_) ∧ some k_ ≠ (.slice bN aT.length bO : Value).ownBlock) (Kd.R_keptB ((Kd.R_apart' bE.out (Kd.R_typed ag.out) (by decide))) hkp (fun k_ hk_ hs_ => (hk_.2) hs_)) (fun k_ hk_ => ⟨hk_.1.1.1, hk_.1.1.2⟩))
   replace HK := ak (Kept.then_ (S := (fun k_ => P4_ k_)) (by repeat ((with_reducible exact HK.out))) hkp (fun k_ hs_ => (fun e_ => (ag.out.1 k_ e_.symm)) hs_))
   replace ag := ak (Kd.R_reok rfl hy0 (fun k_ e_ => ag.out.1 k_ e_))
   replace HB := ak (hb)
   (try clear hb)
   (try clear hkp)
   (try clear ho0)
   (try clear hy0)
   refine hK.out _ _ ⟨(qZb ae.out 0).trans rfl, (qZb ae.out 1).trans rfl, (qZb ad.out 0).trans rfl, (qZb ad.out 1).trans rfl, (qZb ad.out 2).trans rfl, (qZb ad.out 3).trans rfl, (qZb ad.out 4).trans rfl, (qZb af.out 0).trans rfl, (qZb af.out 1).trans rfl⟩ (fun hHeld => ?_)
   clear hK K
   refine qJc (a' := ?_) ?_ ?_
   rotate_left
   ·show Act.put _ (some 97) _ = _
    simp only [SX]
    rfl
   refine pu 21 6 ?_ (ms 22 4194303) rfl rfl HT_ (by kernel_rfl) (fun _ _ _ h => h) (by rfl) ?_ ?_ ?_ ?_
   rotate_left
   ·intro w'
    go_simp
    with_reducible rfl
   rotate_left
   ·simp only [SX]
    rfl
   refine qXc (qQp HT_.out (by kernel_rfl)) ?_
   have et := bc cz ad 0 (.int .i64 ((qZa ab aa).f0)) rfl
   have eu := bc cz ad 1 (.int .i64 ((qZa ab aa).f1)) rfl
   have ev := bc cz ad 2 (.int .i64 ((qZa ab aa).f2)) rfl
   have ew := bc cz ad 3 (.int .i64 ((qZa ab aa).f3)) rfl
   have ex := bc cz ad 4 (.int .i64 ((qZa ab aa).f4)) rfl
   have ey := fz ad 0
   have ez := fz ad 1
   have eA := fz ad 2
   have eB := fz ad 3
   have eC := fz ad 4
   have p88 : 0 ≤ (((qZa ab aa).f1) : Int) := oT (by (with_reducible assumption))
   have q88 : (((qZa ab aa).f1) : Int) < ((aq.length : Int) : Int) := oT (by (with_reducible assumption))
   obtain ⟨gY, gZ⟩ := Kd.R_celln false ag.out (((qZa ab aa).f1) : Int) p88 q88
   replace p88 := eq_true p88
   replace q88 := eq_true q88
   obtain ⟨ha, hc⟩ := Kd.R_celln false ag.out (((qZa ab aa).f1) : Int) (oT (by (with_reducible assumption))) (oT (by (with_reducible assumption)))
   have cZ := Kd.R_putg ag.out (((qZa ab aa).f1) : Int) false
   try go_wp2_with (((with_reducible refine qVk (t := 4) (p := 101) rfl ?_); refine qVb (t := 4) (p := 101) (v := ?vo_w115) (w1 := (cz.setCell ⟨aU, (((qZa ab aa).f1) : Int).toNat, none⟩ (.bool false))) ?hg ?ho ?hn ?hr ?_; (case ho => rfl); (case hg => rfl); (case hn => rfl); (case hr => (go_simp; done)); intro dB hw; have hg : cz.grownBy dB (some aU) := (by rw [hw]; exact cZ.2); have hp_ : Kd.R Kd.bool 4 dB w0.heap.size (fun k_ => (P4_ k_ ∨ w.heap.size ≤ k_)) (.slice (some ⟨aU, 0, none⟩) aq.length bf) dy := (by rw [hw, em.out]; exact cZ.1); clear cZ; replace aj := ak (Kd.V_afterv (v := (.slice (some ⟨aU, 0, none⟩) aq.length bf)) (v1 := (.slice (some ⟨aU, 0, none⟩) aq.length bf)) (ok := (fun k_ => ((P4_ k_ ∨ P6_ k_) ∨ w.heap.size ≤ k_) ∧ some k_ ≠ (.slice bN aT.length bO : Value).ownBlock ∧ some k_ ≠ (.slice ca cm.length cb : Value).ownBlock ∧ k_ ≠ ai ∧ k_ ≠ ah ∧ k_ ≠ ac)) (by exact Kd.V_mono aj.out (fun _ hk => ⟨⟨hk.1, ⟨hk.2.2.1, ⟨hk.2.2.2.1, ⟨hk.2.2.2.2.1, ⟨hk.2.2.2.2.2.1, hk.2.2.2.2.2.2⟩⟩⟩⟩⟩, hk.2.1⟩)) hg (.inl rfl)); replace ae := ak (qZg (bk ae) hg (Kd.R_ne ag.out ae.out (by decide))); replace af := ak (qZg (bk af) hg (Kd.R_ne ag.out af.out (by decide))); replace ad := ak (qZg (bk ad) hg (Kd.R_ne ag.out ad.out (by decide))); replace aC := ak (Kd.R_over' (v := (.slice (some ⟨aU, 0, none⟩) aq.length bf)) (rk aC) (Kd.R_typed ag.out) (by decide) hg); replace bE := ak (Kd.R_over' (v := (.slice (some ⟨aU, 0, none⟩) aq.length bf)) (rk bE) (Kd.R_typed ag.out) (by decide) hg); replace cY := ak (Kd.V_afterv (v := (.slice (some ⟨aU, 0, none⟩) aq.length bf)) (v1 := (.slice (some ⟨aU, 0, none⟩) aq.length bf)) (ok := (fun k_ => ((P4_ k_ ∨ P6_ k_) ∨ w.heap.size ≤ k_) ∧ some k_ ≠ (.slice bN aT.length bO : Value).ownBlock ∧ some k_ ≠ (.slice ca cm.length cb : Value).ownBlock ∧ k_ ≠ ai ∧ k_ ≠ ah ∧ k_ ≠ ac)) (by exact Kd.V_mono cY.out (fun _ hk => ⟨⟨hk.1, ⟨hk.2.1, ⟨hk.2.2.1, ⟨hk.2.2.2.2.1, ⟨hk.2.2.2.2.2.1, hk.2.2.2.2.2.2⟩⟩⟩⟩⟩, hk.2.2.2.1⟩)) hg (.inl rfl)); replace HB := ak ((by rw [hw]; exact below_set (HB.out) ep.out : Below w0.heap.size w0 dB)); replace HK := ak (Kept.of_grown (S := (fun k_ => P4_ k_)) hg (by repeat ((with_reducible exact HK.out))) (fun k_ e_ => (ag.out.1 k_ e_))); replace ag := ak (hp_); clear hg hw hp_))
   go_roundg k1
   case measure => have := HK1.out; omega
   case rel => exact ⟨(dy), (dx), (wrap64 (aa + 1)), (by rfl), H', ⟨by have := HK1.out; omega⟩, ⟨rk ag⟩, ⟨by exact Kd.V_mono cY.out (fun _ hk => ⟨hk.1.1, ⟨hk.2, ⟨hk.1.2.2.2.1, hk.1.2.2.2.2.1⟩⟩⟩)⟩, ⟨bk ae⟩, ⟨bk af⟩, ⟨by repeat ((with_reducible exact HK.out))⟩, ⟨bl3 HB an ao ar⟩⟩
  rw [if_pos c37] at H
  have c37b0 : ((ax.length : Int) == a2) = true := beq_iff_eq.mpr c37
  have c37b1 : ((ax.length : Int) != a2) = false := bne_eq_false_iff_eq.mpr c37
  clear c37
  obtain ⟨aI, dt⟩ : ∃ j_ : Int, (wrap64 (a2 - 1)) = j_ := ⟨_, rfl⟩
  replace H : (if 0 ≤ (aI) then (if (aI) < (ax.length : Int) then (if (wrap64 (av + ((qZa ab aa).f2))) > ((qQg ax (aI)).f1) then (spec_l14Go.l0 k1 a1 a2 a3 aq ax (wrap64 (aa + 1)) aw ab au av) else ((some (([] : List Int) : List Int)).bind fun bm => (if bm.length + au.length < 17592186044416 then ((some (bm ++ au : List Int)).bind fun bb => ((some (([aa] : List Int) : List Int)).bind fun aJ => (if bb.length + aJ.length < 17592186044416 then ((spec_l14Go.f k1 aw ab a1 a2 ((qZa ab aa).f1) (aq.set (((qZa ab aa).f1) : Int).toNat true) (bb ++ aJ) (wrap64 (av + ((qZa ab aa).f2))) ax).bind fun aH => (spec_l14Go.l0 k1 a1 a2 a3 (aH.2.set (((qZa ab aa).f1) : Int).toNat false) aH.1 (wrap64 (aa + 1)) aw ab au av)) else (none)))) else (none)))) else (none)) else (none)) = some (r1, r2) := by (rw [dt] at H; exact H)
  have hji38w : (IntKind.i64.wrap (a2 - 1)) = aI := (qVp _).trans dt
  by_cases c39 : 0 ≤ (aI)
  rotate_left
  ·rw [if_neg c39] at H
   exact absurd H (by simp)
  rw [if_pos c39] at H
  have c39b0 : decide (0 ≤ (aI)) = true := decide_eq_true c39
  clear c39
  by_cases c40 : (aI) < (ax.length : Int)
  rotate_left
  ·rw [if_neg c40] at H
   exact absurd H (by simp)
  rw [if_pos c40] at H
  have c40b0 : decide ((aI) < (ax.length : Int)) = true := decide_eq_true c40
  clear c40
  by_cases c41 : (wrap64 (av + ((qZa ab aa).f2))) > ((qQg ax (aI)).f1)
  ·rw [if_pos c41] at H
   have c41b0 : decide (((qQg ax (aI)).f1) < (wrap64 (av + ((qZa ab aa).f2)))) = true := decide_eq_true c41
   clear c41
   have H' := ak H
   clear H
   have hP := aW.out
   have hQ := aX.out
   have fA := bc wr ae 0 (.int .i64 aw) rfl
   have fB := bc wr ae 1 (.slice bP ab.length aV) rfl
   have fC := fz ae 0
   have fD := fz ae 1
   have bn : 0 ≤ (aa : Int) := oT (by (with_reducible assumption))
   have bo : aa < (ab.length : Int) := oT (by (with_reducible assumption))
   obtain ⟨aN, ck, bQ, bR, bS, bU, bV⟩ := qJk (Kd.C_kept_now bX.out HK.out) aa bn bo
   cases ck
   replace bn := eq_true bn
   replace bo := eq_true bo
   try go_wp2_with (((with_reducible refine gate_dst (N := 16) rfl ?_); refine qZj ?hg (N := 16) ?hd (cs := #[.int .i64 0, .int .i64 0, .int .i64 0, .int .i64 0, .int .i64 0]) (t := 58) ?hr ?_; (case hd => rfl); (case hg => rfl); (case hr => (go_simp; done)); intro ac hg w44 hbox hb; replace ag := ak (Kd.R_below (rk ag) hb); replace aj := ak (Kd.V_below (Kd.V_elderB (by exact aj.out) ac (Nat.le_of_eq hg.symm)) hb); have ad := ak (hbox); have bC := ak ((by rw [hg]; exact (by exact HK.out.1) : w.heap.size ≤ ac)); replace HK := ak (Kept.below (S := (fun k_ => P4_ k_)) (by repeat ((with_reducible exact HK.out))) hb); have ar := ak ((by rw [hg]; exact (qZc (bl2 HB an ao)) : w0.heap.size ≤ ac)); replace HB := ak (qZd (bl2 HB an ao) hb); have al := ak ((by rw [hg]; exact Nat.ne_of_lt (qZh (bk ae)) : ai ≠ ac)); have aK := ak ((by rw [hg]; exact Nat.ne_of_gt (qZh (bk ae)) : ac ≠ ai)); replace ae := ak (qZe (bk ae) hb); have am := ak ((by rw [hg]; exact Nat.ne_of_lt (qZh (bk af)) : ah ≠ ac)); have aM := ak ((by rw [hg]; exact Nat.ne_of_gt (qZh (bk af)) : ac ≠ ah)); replace af := ak (qZe (bk af) hb); clear hb hbox hg; have hR := aK.out; have hS := al.out; have hT := aM.out; have hU := am.out; have fE := bc w44 ad 0 (.int .i64 0) rfl; have fF := bc w44 ad 1 (.int .i64 0) rfl; have fG := bc w44 ad 2 (.int .i64 0) rfl; have fH := bc w44 ad 3 (.int .i64 0) rfl; have fI := bc w44 ad 4 (.int .i64 0) rfl; have fJ := fz ad 0; have fK := fz ad 1; have fL := fz ad 2; have fM := fz ad 3; have fN := fz ad 4))
   have n0_ : Aside0 (Kd.R Kd.bool 4 (((((w44.setCell ⟨ac, 0, none⟩ (.int .i64 ((qZa ab aa).f0))).setCell ⟨ac, 1, none⟩ (.int .i64 ((qZa ab aa).f1))).setCell ⟨ac, 2, none⟩ (.int .i64 ((qZa ab aa).f2))).setCell ⟨ac, 3, none⟩ (.int .i64 ((qZa ab aa).f3))).setCell ⟨ac, 4, none⟩ (.int .i64 ((qZa ab aa).f4))) w0.heap.size (fun k_ => (P4_ k_ ∨ w.heap.size ≤ k_)) u9000_ aq) := ⟨by exact Kd.R_mono (Kd.R_far (p := ⟨ac, 4, none⟩) (Kd.R_far (p := ⟨ac, 3, none⟩) (Kd.R_far (p := ⟨ac, 2, none⟩) (Kd.R_far (p := ⟨ac, 1, none⟩) (Kd.R_far (p := ⟨ac, 0, none⟩) (Kd.R_types ag.out ad.out (by decide)) (fun _ hk => hk.2) (.int .i64 ((qZa ab aa).f0))) (fun _ hk => hk.2) (.int .i64 ((qZa ab aa).f1))) (fun _ hk => hk.2) (.int .i64 ((qZa ab aa).f2))) (fun _ hk => hk.2) (.int .i64 ((qZa ab aa).f3))) (fun _ hk => hk.2) (.int .i64 ((qZa ab aa).f4))) (fun _ hk => hk.1)⟩
   have n1_ : Aside0 (Kd.V k103 103 (((((w44.setCell ⟨ac, 0, none⟩ (.int .i64 ((qZa ab aa).f0))).setCell ⟨ac, 1, none⟩ (.int .i64 ((qZa ab aa).f1))).setCell ⟨ac, 2, none⟩ (.int .i64 ((qZa ab aa).f2))).setCell ⟨ac, 3, none⟩ (.int .i64 ((qZa ab aa).f3))).setCell ⟨ac, 4, none⟩ (.int .i64 ((qZa ab aa).f4))) w0.heap.size (fun k_ => ((P4_ k_ ∨ P6_ k_) ∨ w.heap.size ≤ k_) ∧ some k_ ≠ (u9000_ : Value).ownBlock ∧ k_ ≠ ai ∧ k_ ≠ ah ∧ k_ ≠ ac) u6 ax) := ⟨by exact Kd.V_mono (Kd.V_far (p := ⟨ac, 4, none⟩) (Kd.V_far (p := ⟨ac, 3, none⟩) (Kd.V_far (p := ⟨ac, 2, none⟩) (Kd.V_far (p := ⟨ac, 1, none⟩) (Kd.V_far (p := ⟨ac, 0, none⟩) (Kd.V_mono aj.out (fun k_ hk => (⟨hk, hk.2⟩ : _ ∧ k_ ≠ ac))) (fun _ hk => hk.2) (.int .i64 ((qZa ab aa).f0))) (fun _ hk => hk.2) (.int .i64 ((qZa ab aa).f1))) (fun _ hk => hk.2) (.int .i64 ((qZa ab aa).f2))) (fun _ hk => hk.2) (.int .i64 ((qZa ab aa).f3))) (fun _ hk => hk.2) (.int .i64 ((qZa ab aa).f4))) (fun _ hk => ⟨hk.1.1.1, ⟨hk.1.1.2.1, ⟨hk.1.1.2.2.1, ⟨hk.1.1.2.2.2, hk.1.2⟩⟩⟩⟩)⟩
   have n2_ : Aside0 ((((((w44.setCell ⟨ac, 0, none⟩ (.int .i64 ((qZa ab aa).f0))).setCell ⟨ac, 1, none⟩ (.int .i64 ((qZa ab aa).f1))).setCell ⟨ac, 2, none⟩ (.int .i64 ((qZa ab aa).f2))).setCell ⟨ac, 3, none⟩ (.int .i64 ((qZa ab aa).f3))).setCell ⟨ac, 4, none⟩ (.int .i64 ((qZa ab aa).f4))).heap[ai]? = some (.cells #[.int .i64 aw, .slice (some aN) ab.length aV] 25 (0, 0))) := ⟨by refine blk_far ?_ al.out _; refine blk_far ?_ al.out _; refine blk_far ?_ al.out _; refine blk_far ?_ al.out _; refine blk_far ?_ al.out _; exact ae.out⟩
   have n3_ : Aside0 ((((((w44.setCell ⟨ac, 0, none⟩ (.int .i64 ((qZa ab aa).f0))).setCell ⟨ac, 1, none⟩ (.int .i64 ((qZa ab aa).f1))).setCell ⟨ac, 2, none⟩ (.int .i64 ((qZa ab aa).f2))).setCell ⟨ac, 3, none⟩ (.int .i64 ((qZa ab aa).f3))).setCell ⟨ac, 4, none⟩ (.int .i64 ((qZa ab aa).f4))).heap[ah]? = some (.cells #[.slice bd au.length be, .int .i64 av] 103 (0, 0))) := ⟨by refine blk_far ?_ am.out _; refine blk_far ?_ am.out _; refine blk_far ?_ am.out _; refine blk_far ?_ am.out _; refine blk_far ?_ am.out _; exact af.out⟩
   have n4_ : Aside0 ((((((w44.setCell ⟨ac, 0, none⟩ (.int .i64 ((qZa ab aa).f0))).setCell ⟨ac, 1, none⟩ (.int .i64 ((qZa ab aa).f1))).setCell ⟨ac, 2, none⟩ (.int .i64 ((qZa ab aa).f2))).setCell ⟨ac, 3, none⟩ (.int .i64 ((qZa ab aa).f3))).setCell ⟨ac, 4, none⟩ (.int .i64 ((qZa ab aa).f4))).heap[ac]? = some (.cells #[.int .i64 ((qZa ab aa).f0), .int .i64 ((qZa ab aa).f1), .int .i64 ((qZa ab aa).f2), .int .i64 ((qZa ab aa).f3), .int .i64 ((qZa ab aa).f4)] 58 (0, 0))) := ⟨by refine qZi (cs := #[.int .i64 ((qZa ab aa).f0), .int .i64 ((qZa ab aa).f1), .int .i64 ((qZa ab aa).f2), .int .i64 ((qZa ab aa).f3), .int .i64 0]) ?_ 4 _ rfl; refine qZi (cs := #[.int .i64 ((qZa ab aa).f0), .int .i64 ((qZa ab aa).f1), .int .i64 ((qZa ab aa).f2), .int .i64 0, .int .i64 0]) ?_ 3 _ rfl; refine qZi (cs := #[.int .i64 ((qZa ab aa).f0), .int .i64 ((qZa ab aa).f1), .int .i64 0, .int .i64 0, .int .i64 0]) ?_ 2 _ rfl; refine qZi (cs := #[.int .i64 ((qZa ab aa).f0), .int .i64 0, .int .i64 0, .int .i64 0, .int .i64 0]) ?_ 1 _ rfl; refine qZi (cs := #[.int .i64 0, .int .i64 0, .int .i64 0, .int .i64 0, .int .i64 0]) ?_ 0 _ rfl; exact ad.out⟩
   have n5_ : Aside0 (Kept w (((((w44.setCell ⟨ac, 0, none⟩ (.int .i64 ((qZa ab aa).f0))).setCell ⟨ac, 1, none⟩ (.int .i64 ((qZa ab aa).f1))).setCell ⟨ac, 2, none⟩ (.int .i64 ((qZa ab aa).f2))).setCell ⟨ac, 3, none⟩ (.int .i64 ((qZa ab aa).f3))).setCell ⟨ac, 4, none⟩ (.int .i64 ((qZa ab aa).f4))) (fun k_ => P4_ k_)) := ⟨by repeat ((with_reducible first | exact HK.out | refine Kept.setCell ?_ (.inr bC.out) _))⟩
   have n6_ : Aside0 (Below w0.heap.size w0 (((((w44.setCell ⟨ac, 0, none⟩ (.int .i64 ((qZa ab aa).f0))).setCell ⟨ac, 1, none⟩ (.int .i64 ((qZa ab aa).f1))).setCell ⟨ac, 2, none⟩ (.int .i64 ((qZa ab aa).f2))).setCell ⟨ac, 3, none⟩ (.int .i64 ((qZa ab aa).f3))).setCell ⟨ac, 4, none⟩ (.int .i64 ((qZa ab aa).f4)))) := ⟨bl3 HB an ao ar⟩
   (try clear ag)
   (try clear aj)
   (try clear ae)
   (try clear af)
   (try clear ad)
   (try clear HK)
   (try clear HB)
   generalize (((((w44.setCell ⟨ac, 0, none⟩ (.int .i64 ((qZa ab aa).f0))).setCell ⟨ac, 1, none⟩ (.int .i64 ((qZa ab aa).f1))).setCell ⟨ac, 2, none⟩ (.int .i64 ((qZa ab aa).f2))).setCell ⟨ac, 3, none⟩ (.int .i64 ((qZa ab aa).f3))).setCell ⟨ac, 4, none⟩ (.int .i64 ((qZa ab aa).f4))) = w48 at n0_ n1_ n2_ n3_ n4_ n5_ n6_ ⊢
   have ag := n0_
   have aj := n1_
   have ae := n2_
   have af := n3_
   have ad := n4_
   have HK := n5_
   have HB := n6_
   clear n0_ n1_ n2_ n3_ n4_ n5_ n6_
   replace ag := ak (Kd.R_drew ag.out)
   replace aj := ak (Kd.V_drew aj.out)
   replace ae := ak (qZp ae.out)
   replace af := ak (qZp af.out)
   replace ad := ak (qZp ad.out)
   replace HK := ak (Kept.drew HK.out)
   replace HB := ak (qZo HB.out)
   obtain ⟨iy, iz, he⟩ := Kd.R_slice ag.out
   (subst he)
   have bA : 0 ≤ (((qZa ab aa).f1) : Int) := oT (by (with_reducible assumption))
   have bB : ((qZa ab aa).f1) < (aq.length : Int) := oT (by (with_reducible assumption))
   obtain ⟨bZ, cy, aA⟩ := Kd.at_bool (Kd.R_reads' ag.out).2.2 ((qZa ab aa).f1) bA bB
   (try rw [← cE.out] at aA)
   cases cy
   replace bA := eq_true bA
   replace bB := eq_true bB
   obtain ⟨iA, iB, hf⟩ := Kd.V_slice aj.out
   (subst hf)
   have cn : 0 ≤ ((aI) : Int) := oT (by (with_reducible assumption))
   have co : (aI) < (ax.length : Int) := oT (by (with_reducible assumption))
   obtain ⟨bx, cc, cd, dC, bp, bG, bH, bI⟩ := qYc (Kd.V_reads' aj.out).2.2 (aI) cn co
   cases dC
   obtain ⟨eD, cA, cB, ce⟩ := Kd.V_get aj.out z103 (aI) cn (by exact co)
   obtain ⟨dm, dn, rfl, bq, br⟩ := qVa cB
   have bg := ce 0 _ rfl
   rw [Nat.add_zero] at bg
   replace bg := Option.some.inj (bg.symm.trans bp)
   injection bg with hva_ hvn_ hvc_
   rw [hva_] at br
   rw [hvc_] at bq
   have ap := ak (show Kd.V (Kd.int .i64) 3 _ w0.heap.size _ _ ((qQg ax (aI)).f0) from Kd.V_mk bq br)
   clear hva_ hvn_ hvc_ br bq
   clear ce cA
   have cp := ak bI
   have dp := ak bH
   clear bI bH
   replace cn := eq_true cn
   replace co := eq_true co
   refine qJd (n := 31) (S := fun w' => w'.cell? ⟨ac, 0, none⟩ = some (.int .i64 ((qZa ab aa).f0)) ∧ w'.cell? ⟨ac, 1, none⟩ = some (.int .i64 ((qZa ab aa).f1)) ∧ w'.cell? ⟨ac, 2, none⟩ = some (.int .i64 ((qZa ab aa).f2)) ∧ w'.cell? ⟨ac, 3, none⟩ = some (.int .i64 ((qZa ab aa).f3)) ∧ w'.cell? ⟨ac, 4, none⟩ = some (.int .i64 ((qZa ab aa).f4)) ∧ w'.cell? ⟨ah, 0, none⟩ = some (.slice bd au.length be) ∧ w'.cell? ⟨ah, 1, none⟩ = some (.int .i64 av) ∧ w'.cell? (bZ.add (((qZa ab aa).f1)).toNat) = some (.bool false) ∧ w'.cell? (bx.add (((aI)).toNat * 2)) = some (.slice cc ((qQg ax (aI)).f0).length cd) ∧ w'.cell? ⟨(bx.add (((aI)).toNat * 2)).block, (bx.add (((aI)).toNat * 2)).off + 1, none⟩ = some (.int .i64 ((qQg ax (aI)).f1))) (ds := []) (ms 31 0) (by kernel_rfl) rfl (by kernel_rfl) ⟨(qZb ad.out 0).trans rfl, (qZb ad.out 1).trans rfl, (qZb ad.out 2).trans rfl, (qZb ad.out 3).trans rfl, (qZb ad.out 4).trans rfl, (qZb af.out 0).trans rfl, (qZb af.out 1).trans rfl, aA, bp, bG⟩ (fun hHeld => ?_); refine qQk spec_l14Go.tab7 spec_l14Go.bits7 (fun HT_ HW_ => ?_)
   generalize w48.drew = w49 at ag aj ae af ad HK HB ap cp aA bp bG hHeld ⊢
   refine pu 0 42 ?_ (ms 31 1) rfl rfl HT_ (by kernel_rfl) (fun _ _ _ h => h) (by rfl) ?_ ?_ ?_ ?_
   rotate_left
   ·intro w'
    go_simp
    with_reducible rfl
   rotate_left
   ·simp only [SX]
    rfl
   refine pu 2 44 ?_ (ms 31 5) rfl rfl HT_ (by kernel_rfl) (fun _ _ _ h => h) (by rfl) ?_ ?_ ?_ ?_
   rotate_left
   ·intro w'
    go_simp
    with_reducible rfl
   rotate_left
   ·simp only [SX]
    rfl
   refine tk 1 43 ?_ (ms 31 7) rfl rfl HT_ HW_ (by kernel_rfl) (fun _ _ _ h => h) (by rfl) ?_ hHeld ?_ ?_ ?_
   rotate_left
   ·rintro w' ⟨s0, s1, s2, s3, s4, s5, s6, s7, s8, s9⟩
    go_simp
    with_reducible rfl
   rotate_left
   ·simp only [SX]
    rfl
   refine pu 3 45 ?_ (ms 31 15) rfl rfl HT_ (by kernel_rfl) (fun _ _ _ h => h) (by rfl) ?_ ?_ ?_ ?_
   rotate_left
   ·intro w'
    go_simp
    with_reducible rfl
   rotate_left
   ·simp only [SX]
    rfl
   refine pu 4 46 ?_ (ms 31 31) rfl rfl HT_ (by kernel_rfl) (fun _ _ _ h => h) (by rfl) ?_ ?_ ?_ ?_
   rotate_left
   ·intro w'
    go_simp
    with_reducible rfl
   rotate_left
   ·simp only [SX]
    rfl
   refine pu 5 47 ?_ (ms 31 63) rfl rfl HT_ (by kernel_rfl) (fun _ _ _ h => h) (by rfl) ?_ ?_ ?_ ?_
   rotate_left
   ·intro w'
    go_simp
    with_reducible rfl
   rotate_left
   ·simp only [SX]
    rfl
   refine pu 6 48 ?_ (ms 31 127) rfl rfl HT_ (by kernel_rfl) (fun _ _ _ h => h) (by rfl) ?_ ?_ ?_ ?_
   rotate_left
   ·intro w'
    go_simp
    with_reducible rfl
   rotate_left
   ·simp only [SX]
    rfl
   refine tk 7 49 ?_ (ms 31 255) rfl rfl HT_ HW_ (by kernel_rfl) (fun _ _ _ h => h) (by rfl) ?_ hHeld ?_ ?_ ?_
   rotate_left
   ·rintro w' ⟨s0, s1, s2, s3, s4, s5, s6, s7, s8, s9⟩
    go_simp
    with_reducible rfl
   rotate_left
   ·simp only [SX]
    rfl
   refine pu 8 50 ?_ (ms 31 511) rfl rfl HT_ (by kernel_rfl) (fun _ _ _ h => h) (by rfl) ?_ ?_ ?_ ?_
   rotate_left
   ·intro w'
    go_simp
    with_reducible rfl
   rotate_left
   ·simp only [SX]
    rfl
   refine tk 9 51 ?_ (ms 31 1023) rfl rfl HT_ HW_ (by kernel_rfl) (fun _ _ _ h => h) (by rfl) ?_ hHeld ?_ ?_ ?_
   rotate_left
   ·rintro w' ⟨s0, s1, s2, s3, s4, s5, s6, s7, s8, s9⟩
    go_simp
    with_reducible rfl
   rotate_left
   ·simp only [SX]
    rfl
   refine pu 10 52 ?_ (ms 31 2047) rfl rfl HT_ (by kernel_rfl) (fun _ _ _ h => h) (by rfl) ?_ ?_ ?_ ?_
   rotate_left
   ·intro w'
    go_simp
    with_reducible rfl
   rotate_left
   ·simp only [SX]
    rfl
   refine pu 11 53 ?_ (ms 31 4095) rfl rfl HT_ (by kernel_rfl) (fun _ _ _ h => h) (by rfl) ?_ ?_ ?_ ?_
   rotate_left
   ·intro w'
    go_simp
    with_reducible rfl
   rotate_left
   ·simp only [SX]
    rfl
   refine pu 12 54 ?_ (ms 31 8191) rfl rfl HT_ (by kernel_rfl) (fun _ _ _ h => h) (by rfl) ?_ ?_ ?_ ?_
   rotate_left
   ·intro w'
    go_simp
    with_reducible rfl
   rotate_left
   ·simp only [SX]
    rfl
   refine pu 13 55 ?_ (ms 31 16383) rfl rfl HT_ (by kernel_rfl) (fun _ _ _ h => h) (by rfl) ?_ ?_ ?_ ?_
   rotate_left
   ·intro w'
    go_simp
    with_reducible rfl
   rotate_left
   ·simp only [SX]
    rfl
   refine pu 14 56 ?_ (ms 31 32767) rfl rfl HT_ (by kernel_rfl) (fun _ _ _ h => h) (by rfl) ?_ ?_ ?_ ?_
   rotate_left
   ·intro w'
    go_simp
    with_reducible rfl
   rotate_left
   ·simp only [SX]
    rfl
   refine pu 15 57 ?_ (ms 31 65535) rfl rfl HT_ (by kernel_rfl) (fun _ _ _ h => h) (by rfl) ?_ ?_ ?_ ?_
   rotate_left
   ·intro w'
    go_simp
    with_reducible rfl
   rotate_left
   ·simp only [SX]
    rfl
   refine pu 16 58 ?_ (ms 31 131071) rfl rfl HT_ (by kernel_rfl) (fun _ _ _ h => h) (by rfl) ?_ ?_ ?_ ?_
   rotate_left
   ·intro w'
    go_simp
    with_reducible rfl
   rotate_left
   ·simp only [SX]
    rfl
   refine pu 17 59 ?_ (ms 31 262143) rfl rfl HT_ (by kernel_rfl) (fun _ _ _ h => h) (by rfl) ?_ ?_ ?_ ?_
   rotate_left
   ·intro w'
    go_simp
    with_reducible rfl
   rotate_left
   ·simp only [SX]
    rfl
   refine pu 19 61 ?_ (ms 31 786431) rfl rfl HT_ (by kernel_rfl) (fun _ _ _ h => h) (by rfl) ?_ ?_ ?_ ?_
   rotate_left
   ·intro w'
    go_simp
    with_reducible rfl
   rotate_left
   ·simp only [SX]
    rfl
   refine pu 22 64 ?_ (ms 31 4980735) rfl rfl HT_ (by kernel_rfl) (fun _ _ _ h => h) (by rfl) ?_ ?_ ?_ ?_
   rotate_left
   ·intro w'
    go_simp
    with_reducible rfl
   rotate_left
   ·simp only [SX]
    rfl
   refine pu 23 65 ?_ (ms 31 13369343) rfl rfl HT_ (by kernel_rfl) (fun _ _ _ h => h) (by rfl) ?_ ?_ ?_ ?_
   rotate_left
   ·intro w'
    go_simp
    with_reducible rfl
   rotate_left
   ·simp only [SX]
    rfl
   refine pu 24 66 ?_ (ms 31 30146559) rfl rfl HT_ (by kernel_rfl) (fun _ _ _ h => h) (by rfl) ?_ ?_ ?_ ?_
   rotate_left
   ·intro w'
    go_simp
    with_reducible rfl
   rotate_left
   ·simp only [SX]
    rfl
   refine pu 25 67 ?_ (ms 31 63700991) rfl rfl HT_ (by kernel_rfl) (fun _ _ _ h => h) (by rfl) ?_ ?_ ?_ ?_
   rotate_left
   ·intro w'
    go_simp
    with_reducible rfl
   rotate_left
   ·simp only [SX]
    rfl
   refine pu 26 68 ?_ (ms 31 130809855) rfl rfl HT_ (by kernel_rfl) (fun _ _ _ h => h) (by rfl) ?_ ?_ ?_ ?_
   rotate_left
   ·intro w'
    go_simp
    with_reducible rfl
   rotate_left
   ·simp only [SX]
    rfl
   refine tk 18 60 ?_ (ms 31 131071999) rfl rfl HT_ HW_ (by kernel_rfl) (fun _ _ _ h => h) (by rfl) ?_ hHeld ?_ ?_ ?_
   rotate_left
   ·rintro w' ⟨s0, s1, s2, s3, s4, s5, s6, s7, s8, s9⟩
    go_simp
    with_reducible rfl
   rotate_left
   ·simp only [SX]
    rfl
   refine tk 20 62 ?_ (ms 31 132120575) rfl rfl HT_ HW_ (by kernel_rfl) (fun _ _ _ h => h) (by rfl) ?_ hHeld ?_ ?_ ?_
   rotate_left
   ·rintro w' ⟨s0, s1, s2, s3, s4, s5, s6, s7, s8, s9⟩
    go_simp
    with_reducible rfl
   rotate_left
   ·simp only [SX]
    rfl
   refine pu 21 63 ?_ (ms 31 134217727) rfl rfl HT_ (by kernel_rfl) (fun _ _ _ h => h) (by rfl) ?_ ?_ ?_ ?_
   rotate_left
   ·intro w'
    go_simp
    with_reducible rfl
   rotate_left
   ·simp only [SX]
    rfl
   refine tk 27 69 ?_ (ms 31 268435455) rfl rfl HT_ HW_ (by kernel_rfl) (fun _ _ _ h => h) (by rfl) ?_ hHeld ?_ ?_ ?_
   rotate_left
   ·rintro w' ⟨s0, s1, s2, s3, s4, s5, s6, s7, s8, s9⟩
    go_simp
    with_reducible rfl
   rotate_left
   ·simp only [SX]
    rfl
   refine pu 28 70 ?_ (ms 31 536870911) rfl rfl HT_ (by kernel_rfl) (fun _ _ _ h => h) (by rfl) ?_ ?_ ?_ ?_
   rotate_left
   ·intro w'
    go_simp
    with_reducible rfl
   rotate_left
   ·simp only [SX]
    rfl
   refine pu 29 71 ?_ (ms 31 1073741823) rfl rfl HT_ (by kernel_rfl) (fun _ _ _ h => h) (by rfl) ?_ ?_ ?_ ?_
   rotate_left
   ·intro w'
    go_simp
    with_reducible rfl
   rotate_left
   ·simp only [SX]
    rfl
   refine pu 30 72 ?_ (ms 31 2147483647) rfl rfl HT_ (by kernel_rfl) (fun _ _ _ h => h) (by rfl) ?_ ?_ ?_ ?_
   rotate_left
   ·intro w'
    go_simp
    with_reducible rfl
   rotate_left
   ·simp only [SX]
    rfl
   refine qXc (qQp HT_.out (by kernel_rfl)) ?_
   try go_wp2
   go_roundg k1
   case measure => have := HK1.out; omega
   case rel => exact ⟨(aq), (ax), (wrap64 (aa + 1)), (by rfl), H', ⟨by have := HK1.out; omega⟩, ⟨rk ag⟩, ⟨by exact Kd.V_mono aj.out (fun _ hk => ⟨hk.1, ⟨hk.2.1, ⟨hk.2.2.1, hk.2.2.2.1⟩⟩⟩)⟩, ⟨bk ae⟩, ⟨bk af⟩, ⟨by repeat ((with_reducible exact HK.out))⟩, ⟨bl3 HB an ao ar⟩⟩
  rw [if_neg c41] at H
  have c41b0 : decide (((qQg ax (aI)).f1) < (wrap64 (av + ((qZa ab aa).f2)))) = false := decide_eq_false c41
  clear c41
  obtain ⟨cq, da⟩ : ∃ y_ : List Bool, y_ = (aq.set (((qZa ab aa).f1) : Int).toNat true) := ⟨_, rfl⟩
  replace H : ((some (([] : List Int) : List Int)).bind fun bm => (if bm.length + au.length < 17592186044416 then ((some (bm ++ au : List Int)).bind fun bb => ((some (([aa] : List Int) : List Int)).bind fun aJ => (if bb.length + aJ.length < 17592186044416 then ((spec_l14Go.f k1 aw ab a1 a2 ((qZa ab aa).f1) cq (bb ++ aJ) (wrap64 (av + ((qZa ab aa).f2))) ax).bind fun aH => (spec_l14Go.l0 k1 a1 a2 a3 (aH.2.set (((qZa ab aa).f1) : Int).toNat false) aH.1 (wrap64 (aa + 1)) aw ab au av)) else (none)))) else (none))) = some (r1, r2) := by (rw [da]; with_reducible exact H)
  have eE := ak da
  clear da
  obtain ⟨bm, db⟩ : ∃ y_ : List Int, y_ = (([] : List Int)) := ⟨_, rfl⟩
  replace H : (if bm.length + au.length < 17592186044416 then ((some (bm ++ au : List Int)).bind fun bb => ((some (([aa] : List Int) : List Int)).bind fun aJ => (if bb.length + aJ.length < 17592186044416 then ((spec_l14Go.f k1 aw ab a1 a2 ((qZa ab aa).f1) cq (bb ++ aJ) (wrap64 (av + ((qZa ab aa).f2))) ax).bind fun aH => (spec_l14Go.l0 k1 a1 a2 a3 (aH.2.set (((qZa ab aa).f1) : Int).toNat false) aH.1 (wrap64 (aa + 1)) aw ab au av)) else (none)))) else (none)) = some (r1, r2) := by (have H2_ := (Option.bind_some _ _).symm.trans H; rw [db]; with_reducible exact H2_)
  have du := ak db
  clear db
  by_cases c53 : bm.length + au.length < 17592186044416
  rotate_left
  ·rw [if_neg c53] at H
   exact absurd H (by simp)
  rw [if_pos c53] at H
  have dc := ak c53
  clear c53
  obtain ⟨bb, dd⟩ : ∃ y_ : List Int, y_ = (bm ++ au) := ⟨_, rfl⟩
  replace H : ((some (([aa] : List Int) : List Int)).bind fun aJ => (if bb.length + aJ.length < 17592186044416 then ((spec_l14Go.f k1 aw ab a1 a2 ((qZa ab aa).f1) cq (bb ++ aJ) (wrap64 (av + ((qZa ab aa).f2))) ax).bind fun aH => (spec_l14Go.l0 k1 a1 a2 a3 (aH.2.set (((qZa ab aa).f1) : Int).toNat false) aH.1 (wrap64 (aa + 1)) aw ab au av)) else (none))) = some (r1, r2) := by (have H2_ := (Option.bind_some _ _).symm.trans H; rw [dd]; with_reducible exact H2_)
  have de := ak dd
  clear dd
  obtain ⟨aJ, df⟩ : ∃ y_ : List Int, y_ = (([aa] : List Int)) := ⟨_, rfl⟩
  replace H : (if bb.length + aJ.length < 17592186044416 then ((spec_l14Go.f k1 aw ab a1 a2 ((qZa ab aa).f1) cq (bb ++ aJ) (wrap64 (av + ((qZa ab aa).f2))) ax).bind fun aH => (spec_l14Go.l0 k1 a1 a2 a3 (aH.2.set (((qZa ab aa).f1) : Int).toNat false) aH.1 (wrap64 (aa + 1)) aw ab au av)) else (none)) = some (r1, r2) := by (have H2_ := (Option.bind_some _ _).symm.trans H; rw [df]; with_reducible exact H2_)
  have dg := ak df
  clear df
  by_cases c54 : bb.length + aJ.length < 17592186044416
  rotate_left
  ·rw [if_neg c54] at H
   exact absurd H (by simp)
  rw [if_pos c54] at H
  have eF := ak c54
  clear c54
  obtain ⟨cr, dh⟩ : ∃ y_ : List Int, y_ = (bb ++ aJ) := ⟨_, rfl⟩
  replace H : ((spec_l14Go.f k1 aw ab a1 a2 ((qZa ab aa).f1) cq cr (wrap64 (av + ((qZa ab aa).f2))) ax).bind fun aH => (spec_l14Go.l0 k1 a1 a2 a3 (aH.2.set (((qZa ab aa).f1) : Int).toNat false) aH.1 (wrap64 (aa + 1)) aw ab au av)) = some (r1, r2) := by (rw [dh]; with_reducible exact H)
  have eG := ak dh
  clear dh
  replace H := Option.bind_eq_some_iff.mp H
  obtain ⟨⟨dD, eH⟩, eI, H⟩ := H
  have A55 := ak eI
  clear eI
  obtain ⟨dE, di⟩ : ∃ y_ : List Bool, y_ = (eH.set (((qZa ab aa).f1) : Int).toNat false) := ⟨_, rfl⟩
  replace H : (spec_l14Go.l0 k1 a1 a2 a3 dE dD (wrap64 (aa + 1)) aw ab au av) = some (r1, r2) := by (rw [di]; with_reducible exact H)
  have eJ := ak di
  clear di
  have H' := ak H
  clear H
  have hV := aW.out
  have hW := aX.out
  have fO := bc wr ae 0 (.int .i64 aw) rfl
  have fP := bc wr ae 1 (.slice bP ab.length aV) rfl
  have fQ := fz ae 0
  have fR := fz ae 1
  have bn : 0 ≤ (aa : Int) := oT (by (with_reducible assumption))
  have bo : aa < (ab.length : Int) := oT (by (with_reducible assumption))
  obtain ⟨aN, ck, bQ, bR, bS, bU, bV⟩ := qJk (Kd.C_kept_now bX.out HK.out) aa bn bo
  cases ck
  replace bn := eq_true bn
  replace bo := eq_true bo
  try go_wp2_with (((with_reducible refine gate_dst (N := 16) rfl ?_); refine qZj ?hg (N := 16) ?hd (cs := #[.int .i64 0, .int .i64 0, .int .i64 0, .int .i64 0, .int .i64 0]) (t := 58) ?hr ?_; (case hd => rfl); (case hg => rfl); (case hr => (go_simp; done)); intro ac hg w59 hbox hb; replace ag := ak (Kd.R_below (rk ag) hb); replace aj := ak (Kd.V_below (Kd.V_elderB (by exact aj.out) ac (Nat.le_of_eq hg.symm)) hb); have ad := ak (hbox); have bC := ak ((by rw [hg]; exact (by exact HK.out.1) : w.heap.size ≤ ac)); replace HK := ak (Kept.below (S := (fun k_ => P4_ k_)) (by repeat ((with_reducible exact HK.out))) hb); have ar := ak ((by rw [hg]; exact (qZc (bl2 HB an ao)) : w0.heap.size ≤ ac)); replace HB := ak (qZd (bl2 HB an ao) hb); have al := ak ((by rw [hg]; exact Nat.ne_of_lt (qZh (bk ae)) : ai ≠ ac)); have aK := ak ((by rw [hg]; exact Nat.ne_of_gt (qZh (bk ae)) : ac ≠ ai)); replace ae := ak (qZe (bk ae) hb); have am := ak ((by rw [hg]; exact Nat.ne_of_lt (qZh (bk af)) : ah ≠ ac)); have aM := ak ((by rw [hg]; exact Nat.ne_of_gt (qZh (bk af)) : ac ≠ ah)); replace af := ak (qZe (bk af) hb); clear hb hbox hg; have hX := aK.out; have hY := al.out; have hZ := aM.out; have ia := am.out; have fS := bc w59 ad 0 (.int .i64 0) rfl; have fT := bc w59 ad 1 (.int .i64 0) rfl; have fU := bc w59 ad 2 (.int .i64 0) rfl; have fV := bc w59 ad 3 (.int .i64 0) rfl; have fW := bc w59 ad 4 (.int .i64 0) rfl; have fX := fz ad 0; have fY := fz ad 1; have fZ := fz ad 2; have ga := fz ad 3; have gb := fz ad 4))
  have n0_ : Aside0 (Kd.R Kd.bool 4 (((((w59.setCell ⟨ac, 0, none⟩ (.int .i64 ((qZa ab aa).f0))).setCell ⟨ac, 1, none⟩ (.int .i64 ((qZa ab aa).f1))).setCell ⟨ac, 2, none⟩ (.int .i64 ((qZa ab aa).f2))).setCell ⟨ac, 3, none⟩ (.int .i64 ((qZa ab aa).f3))).setCell ⟨ac, 4, none⟩ (.int .i64 ((qZa ab aa).f4))) w0.heap.size (fun k_ => (P4_ k_ ∨ w.heap.size ≤ k_)) u9000_ aq) := ⟨by exact Kd.R_mono (Kd.R_far (p := ⟨ac, 4, none⟩) (Kd.R_far (p := ⟨ac, 3, none⟩) (Kd.R_far (p := ⟨ac, 2, none⟩) (Kd.R_far (p := ⟨ac, 1, none⟩) (Kd.R_far (p := ⟨ac, 0, none⟩) (Kd.R_types ag.out ad.out (by decide)) (fun _ hk => hk.2) (.int .i64 ((qZa ab aa).f0))) (fun _ hk => hk.2) (.int .i64 ((qZa ab aa).f1))) (fun _ hk => hk.2) (.int .i64 ((qZa ab aa).f2))) (fun _ hk => hk.2) (.int .i64 ((qZa ab aa).f3))) (fun _ hk => hk.2) (.int .i64 ((qZa ab aa).f4))) (fun _ hk => hk.1)⟩
  have n1_ : Aside0 (Kd.V k103 103 (((((w59.setCell ⟨ac, 0, none⟩ (.int .i64 ((qZa ab aa).f0))).setCell ⟨ac, 1, none⟩ (.int .i64 ((qZa ab aa).f1))).setCell ⟨ac, 2, none⟩ (.int .i64 ((qZa ab aa).f2))).setCell ⟨ac, 3, none⟩ (.int .i64 ((qZa ab aa).f3))).setCell ⟨ac, 4, none⟩ (.int .i64 ((qZa ab aa).f4))) w0.heap.size (fun k_ => ((P4_ k_ ∨ P6_ k_) ∨ w.heap.size ≤ k_) ∧ some k_ ≠ (u9000_ : Value).ownBlock ∧ k_ ≠ ai ∧ k_ ≠ ah ∧ k_ ≠ ac) u6 ax) := ⟨by exact Kd.V_mono (Kd.V_far (p := ⟨ac, 4, none⟩) (Kd.V_far (p := ⟨ac, 3, none⟩) (Kd.V_far (p := ⟨ac, 2, none⟩) (Kd.V_far (p := ⟨ac, 1, none⟩) (Kd.V_far (p := ⟨ac, 0, none⟩) (Kd.V_mono aj.out (fun k_ hk => (⟨hk, hk.2⟩ : _ ∧ k_ ≠ ac))) (fun _ hk => hk.2) (.int .i64 ((qZa ab aa).f0))) (fun _ hk => hk.2) (.int .i64 ((qZa ab aa).f1))) (fun _ hk => hk.2) (.int .i64 ((qZa ab aa).f2))) (fun _ hk => hk.2) (.int .i64 ((qZa ab aa).f3))) (fun _ hk => hk.2) (.int .i64 ((qZa ab aa).f4))) (fun _ hk => ⟨hk.1.1.1, ⟨hk.1.1.2.1, ⟨hk.1.1.2.2.1, ⟨hk.1.1.2.2.2, hk.1.2⟩⟩⟩⟩)⟩
  have n2_ : Aside0 ((((((w59.setCell ⟨ac, 0, none⟩ (.int .i64 ((qZa ab aa).f0))).setCell ⟨ac, 1, none⟩ (.int .i64 ((qZa ab aa).f1))).setCell ⟨ac, 2, none⟩ (.int .i64 ((qZa ab aa).f2))).setCell ⟨ac, 3, none⟩ (.int .i64 ((qZa ab aa).f3))).setCell ⟨ac, 4, none⟩ (.int .i64 ((qZa ab aa).f4))).heap[ai]? = some (.cells #[.int .i64 aw, .slice (some aN) ab.length aV] 25 (0, 0))) := ⟨by refine blk_far ?_ al.out _; refine blk_far ?_ al.out _; refine blk_far ?_ al.out _; refine blk_far ?_ al.out _; refine blk_far ?_ al.out _; exact ae.out⟩
  have n3_ : Aside0 ((((((w59.setCell ⟨ac, 0, none⟩ (.int .i64 ((qZa ab aa).f0))).setCell ⟨ac, 1, none⟩ (.int .i64 ((qZa ab aa).f1))).setCell ⟨ac, 2, none⟩ (.int .i64 ((qZa ab aa).f2))).setCell ⟨ac, 3, none⟩ (.int .i64 ((qZa ab aa).f3))).setCell ⟨ac, 4, none⟩ (.int .i64 ((qZa ab aa).f4))).heap[ah]? = some (.cells #[.slice bd au.length be, .int .i64 av] 103 (0, 0))) := ⟨by refine blk_far ?_ am.out _; refine blk_far ?_ am.out _; refine blk_far ?_ am.out _; refine blk_far ?_ am.out _; refine blk_far ?_ am.out _; exact af.out⟩
  have n4_ : Aside0 ((((((w59.setCell ⟨ac, 0, none⟩ (.int .i64 ((qZa ab aa).f0))).setCell ⟨ac, 1, none⟩ (.int .i64 ((qZa ab aa).f1))).setCell ⟨ac, 2, none⟩ (.int .i64 ((qZa ab aa).f2))).setCell ⟨ac, 3, none⟩ (.int .i64 ((qZa ab aa).f3))).setCell ⟨ac, 4, none⟩ (.int .i64 ((qZa ab aa).f4))).heap[ac]? = some (.cells #[.int .i64 ((qZa ab aa).f0), .int .i64 ((qZa ab aa).f1), .int .i64 ((qZa ab aa).f2), .int .i64 ((qZa ab aa).f3), .int .i64 ((qZa ab aa).f4)] 58 (0, 0))) := ⟨by refine qZi (cs := #[.int .i64 ((qZa ab aa).f0), .int .i64 ((qZa ab aa).f1), .int .i64 ((qZa ab aa).f2), .int .i64 ((qZa ab aa).f3), .int .i64 0]) ?_ 4 _ rfl; refine qZi (cs := #[.int .i64 ((qZa ab aa).f0), .int .i64 ((qZa ab aa).f1), .int .i64 ((qZa ab aa).f2), .int .i64 0, .int .i64 0]) ?_ 3 _ rfl; refine qZi (cs := #[.int .i64 ((qZa ab aa).f0), .int .i64 ((qZa ab aa).f1), .int .i64 0, .int .i64 0, .int .i64 0]) ?_ 2 _ rfl; refine qZi (cs := #[.int .i64 ((qZa ab aa).f0), .int .i64 0, .int .i64 0, .int .i64 0, .int .i64 0]) ?_ 1 _ rfl; refine qZi (cs := #[.int .i64 0, .int .i64 0, .int .i64 0, .int .i64 0, .int .i64 0]) ?_ 0 _ rfl; exact ad.out⟩
  have n5_ : Aside0 (Kept w (((((w59.setCell ⟨ac, 0, none⟩ (.int .i64 ((qZa ab aa).f0))).setCell ⟨ac, 1, none⟩ (.int .i64 ((qZa ab aa).f1))).setCell ⟨ac, 2, none⟩ (.int .i64 ((qZa ab aa).f2))).setCell ⟨ac, 3, none⟩ (.int .i64 ((qZa ab aa).f3))).setCell ⟨ac, 4, none⟩ (.int .i64 ((qZa ab aa).f4))) (fun k_ => P4_ k_)) := ⟨by repeat ((with_reducible first | exact HK.out | refine Kept.setCell ?_ (.inr bC.out) _))⟩
  have n6_ : Aside0 (Below w0.heap.size w0 (((((w59.setCell ⟨ac, 0, none⟩ (.int .i64 ((qZa ab aa).f0))).setCell ⟨ac, 1, none⟩ (.int .i64 ((qZa ab aa).f1))).setCell ⟨ac, 2, none⟩ (.int .i64 ((qZa ab aa).f2))).setCell ⟨ac, 3, none⟩ (.int .i64 ((qZa ab aa).f3))).setCell ⟨ac, 4, none⟩ (.int .i64 ((qZa ab aa).f4)))) := ⟨bl3 HB an ao ar⟩
  (try clear ag)
  (try clear aj)
  (try clear ae)
  (try clear af)
  (try clear ad)
  (try clear HK)
  (try clear HB)
  generalize (((((w59.setCell ⟨ac, 0, none⟩ (.int .i64 ((qZa ab aa).f0))).setCell ⟨ac, 1, none⟩ (.int .i64 ((qZa ab aa).f1))).setCell ⟨ac, 2, none⟩ (.int .i64 ((qZa ab aa).f2))).setCell ⟨ac, 3, none⟩ (.int .i64 ((qZa ab aa).f3))).setCell ⟨ac, 4, none⟩ (.int .i64 ((qZa ab aa).f4))) = w63 at n0_ n1_ n2_ n3_ n4_ n5_ n6_ ⊢
  have ag := n0_
  have aj := n1_
  have ae := n2_
  have af := n3_
  have ad := n4_
  have HK := n5_
  have HB := n6_
  clear n0_ n1_ n2_ n3_ n4_ n5_ n6_
  replace ag := ak (Kd.R_drew ag.out)
  replace aj := ak (Kd.V_drew aj.out)
  replace ae := ak (qZp ae.out)
  replace af := ak (qZp af.out)
  replace ad := ak (qZp ad.out)
  replace HK := ak (Kept.drew HK.out)
  replace HB := ak (qZo HB.out)
  obtain ⟨iC, aP, hh⟩ := Kd.R_slice ag.out
  (subst hh)
  have bA : 0 ≤ (((qZa ab aa).f1) : Int) := oT (by (with_reducible assumption))
  have bB : ((qZa ab aa).f1) < (aq.length : Int) := oT (by (with_reducible assumption))
  obtain ⟨bZ, cy, aA⟩ := Kd.at_bool (Kd.R_reads' ag.out).2.2 ((qZa ab aa).f1) bA bB
  (try rw [← cE.out] at aA)
  cases cy
  replace bA := eq_true bA
  replace bB := eq_true bB
  obtain ⟨iD, dF, hj⟩ := Kd.V_slice aj.out
  (subst hj)
  have cn : 0 ≤ ((aI) : Int) := oT (by (with_reducible assumption))
  have co : (aI) < (ax.length : Int) := oT (by (with_reducible assumption))
  obtain ⟨bx, cc, cd, dC, bp, bG, bH, bI⟩ := qYc (Kd.V_reads' aj.out).2.2 (aI) cn co
  cases dC
  obtain ⟨eD, cA, cB, ce⟩ := Kd.V_get aj.out z103 (aI) cn (by exact co)
  obtain ⟨dm, dn, rfl, bq, br⟩ := qVa cB
  have bg := ce 0 _ rfl
  rw [Nat.add_zero] at bg
  replace bg := Option.some.inj (bg.symm.trans bp)
  injection bg with hva_ hvn_ hvc_
  rw [hva_] at br
  rw [hvc_] at bq
  have ap := ak (show Kd.V (Kd.int .i64) 3 _ w0.heap.size _ _ ((qQg ax (aI)).f0) from Kd.V_mk bq br)
  clear hva_ hvn_ hvc_ br bq
  clear ce cA
  have cp := ak bI
  have dp := ak bH
  clear bI bH
  replace cn := eq_true cn
  replace co := eq_true co
  refine qJd (n := 31) (S := fun w' => w'.cell? ⟨ac, 0, none⟩ = some (.int .i64 ((qZa ab aa).f0)) ∧ w'.cell? ⟨ac, 1, none⟩ = some (.int .i64 ((qZa ab aa).f1)) ∧ w'.cell? ⟨ac, 2, none⟩ = some (.int .i64 ((qZa ab aa).f2)) ∧ w'.cell? ⟨ac, 3, none⟩ = some (.int .i64 ((qZa ab aa).f3)) ∧ w'.cell? ⟨ac, 4, none⟩ = some (.int .i64 ((qZa ab aa).f4)) ∧ w'.cell? ⟨ah, 0, none⟩ = some (.slice bd au.length be) ∧ w'.cell? ⟨ah, 1, none⟩ = some (.int .i64 av) ∧ w'.cell? (bZ.add (((qZa ab aa).f1)).toNat) = some (.bool false) ∧ w'.cell? (bx.add (((aI)).toNat * 2)) = some (.slice cc ((qQg ax (aI)).f0).length cd) ∧ w'.cell? ⟨(bx.add (((aI)).toNat * 2)).block, (bx.add (((aI)).toNat * 2)).off + 1, none⟩ = some (.int .i64 ((qQg ax (aI)).f1))) (ds := []) (ms 31 0) (by kernel_rfl) rfl (by kernel_rfl) ⟨(qZb ad.out 0).trans rfl, (qZb ad.out 1).trans rfl, (qZb ad.out 2).trans rfl, (qZb ad.out 3).trans rfl, (qZb ad.out 4).trans rfl, (qZb af.out 0).trans rfl, (qZb af.out 1).trans rfl, aA, bp, bG⟩ (fun hHeld => ?_); refine qQk spec_l14Go.tab7 spec_l14Go.bits7 (fun HT_ HW_ => ?_)
  generalize w63.drew = w64 at ag aj ae af ad HK HB ap cp aA bp bG hHeld ⊢
  refine pu 0 42 ?_ (ms 31 1) rfl rfl HT_ (by kernel_rfl) (fun _ _ _ h => h) (by rfl) ?_ ?_ ?_ ?_
  rotate_left
  ·intro w'
   go_simp
   with_reducible rfl
  rotate_left
  ·simp only [SX]
   rfl
  refine pu 2 44 ?_ (ms 31 5) rfl rfl HT_ (by kernel_rfl) (fun _ _ _ h => h) (by rfl) ?_ ?_ ?_ ?_
  rotate_left
  ·intro w'
   go_simp
   with_reducible rfl
  rotate_left
  ·simp only [SX]
   rfl
  refine tk 1 43 ?_ (ms 31 7) rfl rfl HT_ HW_ (by kernel_rfl) (fun _ _ _ h => h) (by rfl) ?_ hHeld ?_ ?_ ?_
  rotate_left
  ·rintro w' ⟨s0, s1, s2, s3, s4, s5, s6, s7, s8, s9⟩
   go_simp
   with_reducible rfl
  rotate_left
  ·simp only [SX]
   rfl
  refine pu 3 45 ?_ (ms 31 15) rfl rfl HT_ (by kernel_rfl) (fun _ _ _ h => h) (by rfl) ?_ ?_ ?_ ?_
  rotate_left
  ·intro w'
   go_simp
   with_reducible rfl
  rotate_left
  ·simp only [SX]
   rfl
  refine pu 4 46 ?_ (ms 31 31) rfl rfl HT_ (by kernel_rfl) (fun _ _ _ h => h) (by rfl) ?_ ?_ ?_ ?_
  rotate_left
  ·intro w'
   go_simp
   with_reducible rfl
  rotate_left
  ·simp only [SX]
   rfl
  refine pu 5 47 ?_ (ms 31 63) rfl rfl HT_ (by kernel_rfl) (fun _ _ _ h => h) (by rfl) ?_ ?_ ?_ ?_
  rotate_left
  ·intro w'
   go_simp
   with_reducible rfl
  rotate_left
  ·simp only [SX]
   rfl
  refine pu 6 48 ?_ (ms 31 127) rfl rfl HT_ (by kernel_rfl) (fun _ _ _ h => h) (by rfl) ?_ ?_ ?_ ?_
  rotate_left
  ·intro w'
   go_simp
   with_reducible rfl
  rotate_left
  ·simp only [SX]
   rfl
  refine tk 7 49 ?_ (ms 31 255) rfl rfl HT_ HW_ (by kernel_rfl) (fun _ _ _ h => h) (by rfl) ?_ hHeld ?_ ?_ ?_
  rotate_left
  ·rintro w' ⟨s0, s1, s2, s3, s4, s5, s6, s7, s8, s9⟩
   go_simp
   with_reducible rfl
  rotate_left
  ·simp only [SX]
   rfl
  refine pu 8 50 ?_ (ms 31 511) rfl rfl HT_ (by kernel_rfl) (fun _ _ _ h => h) (by rfl) ?_ ?_ ?_ ?_
  rotate_left
  ·intro w'
   go_simp
   with_reducible rfl
  rotate_left
  ·simp only [SX]
   rfl
  refine tk 9 51 ?_ (ms 31 1023) rfl rfl HT_ HW_ (by kernel_rfl) (fun _ _ _ h => h) (by rfl) ?_ hHeld ?_ ?_ ?_
  rotate_left
  ·rintro w' ⟨s0, s1, s2, s3, s4, s5, s6, s7, s8, s9⟩
   go_simp
   with_reducible rfl
  rotate_left
  ·simp only [SX]
   rfl
  refine pu 10 52 ?_ (ms 31 2047) rfl rfl HT_ (by kernel_rfl) (fun _ _ _ h => h) (by rfl) ?_ ?_ ?_ ?_
  rotate_left
  ·intro w'
   go_simp
   with_reducible rfl
  rotate_left
  ·simp only [SX]
   rfl
  refine pu 11 53 ?_ (ms 31 4095) rfl rfl HT_ (by kernel_rfl) (fun _ _ _ h => h) (by rfl) ?_ ?_ ?_ ?_
  rotate_left
  ·intro w'
   go_simp
   with_reducible rfl
  rotate_left
  ·simp only [SX]
   rfl
  refine pu 12 54 ?_ (ms 31 8191) rfl rfl HT_ (by kernel_rfl) (fun _ _ _ h => h) (by rfl) ?_ ?_ ?_ ?_
  rotate_left
  ·intro w'
   go_simp
   with_reducible rfl
  rotate_left
  ·simp only [SX]
   rfl
  refine pu 13 55 ?_ (ms 31 16383) rfl rfl HT_ (by kernel_rfl) (fun _ _ _ h => h) (by rfl) ?_ ?_ ?_ ?_
  rotate_left
  ·intro w'
   go_simp
   with_reducible rfl
  rotate_left
  ·simp only [SX]
   rfl
  refine pu 14 56 ?_ (ms 31 32767) rfl rfl HT_ (by kernel_rfl) (fun _ _ _ h => h) (by rfl) ?_ ?_ ?_ ?_
  rotate_left
  ·intro w'
   go_simp
   with_reducible rfl
  rotate_left
  ·simp only [SX]
   rfl
  refine pu 15 57 ?_ (ms 31 65535) rfl rfl HT_ (by kernel_rfl) (fun _ _ _ h => h) (by rfl) ?_ ?_ ?_ ?_
  rotate_left
  ·intro w'
   go_simp
   with_reducible rfl
  rotate_left
  ·simp only [SX]
   rfl
  refine pu 16 58 ?_ (ms 31 131071) rfl rfl HT_ (by kernel_rfl) (fun _ _ _ h => h) (by rfl) ?_ ?_ ?_ ?_
  rotate_left
  ·intro w'
   go_simp
   with_reducible rfl
  rotate_left
  ·simp only [SX]
   rfl
  refine pu 17 59 ?_ (ms 31 262143) rfl rfl HT_ (by kernel_rfl) (fun _ _ _ h => h) (by rfl) ?_ ?_ ?_ ?_
  rotate_left
  ·intro w'
   go_simp
   with_reducible rfl
  rotate_left
  ·simp only [SX]
   rfl
  refine pu 19 61 ?_ (ms 31 786431) rfl rfl HT_ (by kernel_rfl) (fun _ _ _ h => h) (by rfl) ?_ ?_ ?_ ?_
  rotate_left
  ·intro w'
   go_simp
   with_reducible rfl
  rotate_left
  ·simp only [SX]
   rfl
  refine pu 22 64 ?_ (ms 31 4980735) rfl rfl HT_ (by kernel_rfl) (fun _ _ _ h => h) (by rfl) ?_ ?_ ?_ ?_
  rotate_left
  ·intro w'
   go_simp
   with_reducible rfl
  rotate_left
  ·simp only [SX]
   rfl
  refine pu 23 65 ?_ (ms 31 13369343) rfl rfl HT_ (by kernel_rfl) (fun _ _ _ h => h) (by rfl) ?_ ?_ ?_ ?_
  rotate_left
  ·intro w'
   go_simp
   with_reducible rfl
  rotate_left
  ·simp only [SX]
   rfl
  refine pu 24 66 ?_ (ms 31 30146559) rfl rfl HT_ (by kernel_rfl) (fun _ _ _ h => h) (by rfl) ?_ ?_ ?_ ?_
  rotate_left
  ·intro w'
   go_simp
   with_reducible rfl
  rotate_left
  ·simp only [SX]
   rfl
  refine pu 25 67 ?_ (ms 31 63700991) rfl rfl HT_ (by kernel_rfl) (fun _ _ _ h => h) (by rfl) ?_ ?_ ?_ ?_
  rotate_left
  ·intro w'
   go_simp
   with_reducible rfl
  rotate_left
  ·simp only [SX]
   rfl
  refine pu 26 68 ?_ (ms 31 130809855) rfl rfl HT_ (by kernel_rfl) (fun _ _ _ h => h) (by rfl) ?_ ?_ ?_ ?_
  rotate_left
  ·intro w'
   go_simp
   with_reducible rfl
  rotate_left
  ·simp only [SX]
   rfl
  refine tk 18 60 ?_ (ms 31 131071999) rfl rfl HT_ HW_ (by kernel_rfl) (fun _ _ _ h => h) (by rfl) ?_ hHeld ?_ ?_ ?_
  rotate_left
  ·rintro w' ⟨s0, s1, s2, s3, s4, s5, s6, s7, s8, s9⟩
   go_simp
   with_reducible rfl
  rotate_left
  ·simp only [SX]
   rfl
  refine tk 20 62 ?_ (ms 31 132120575) rfl rfl HT_ HW_ (by kernel_rfl) (fun _ _ _ h => h) (by rfl) ?_ hHeld ?_ ?_ ?_
  rotate_left
  ·rintro w' ⟨s0, s1, s2, s3, s4, s5, s6, s7, s8, s9⟩
   go_simp
   with_reducible rfl
  rotate_left
  ·simp only [SX]
   rfl
  refine pu 21 63 ?_ (ms 31 134217727) rfl rfl HT_ (by kernel_rfl) (fun _ _ _ h => h) (by rfl) ?_ ?_ ?_ ?_
  rotate_left
  ·intro w'
   go_simp
   with_reducible rfl
  rotate_left
  ·simp only [SX]
   rfl
  refine tk 27 69 ?_ (ms 31 268435455) rfl rfl HT_ HW_ (by kernel_rfl) (fun _ _ _ h => h) (by rfl) ?_ hHeld ?_ ?_ ?_
  rotate_left
  ·rintro w' ⟨s0, s1, s2, s3, s4, s5, s6, s7, s8, s9⟩
   go_simp
   with_reducible rfl
  rotate_left
  ·simp only [SX]
   rfl
  refine pu 28 70 ?_ (ms 31 536870911) rfl rfl HT_ (by kernel_rfl) (fun _ _ _ h => h) (by rfl) ?_ ?_ ?_ ?_
  rotate_left
  ·intro w'
   go_simp
   with_reducible rfl
  rotate_left
  ·simp only [SX]
   rfl
  refine pu 29 71 ?_ (ms 31 1073741823) rfl rfl HT_ (by kernel_rfl) (fun _ _ _ h => h) (by rfl) ?_ ?_ ?_ ?_
  rotate_left
  ·intro w'
   go_simp
   with_reducible rfl
  rotate_left
  ·simp only [SX]
   rfl
  refine pu 30 72 ?_ (ms 31 2147483647) rfl rfl HT_ (by kernel_rfl) (fun _ _ _ h => h) (by rfl) ?_ ?_ ?_ ?_
  rotate_left
  ·intro w'
   go_simp
   with_reducible rfl
  rotate_left
  ·simp only [SX]
   rfl
  refine qXc (qQp HT_.out (by kernel_rfl)) ?_
  have gc := bc w64 ad 0 (.int .i64 ((qZa ab aa).f0)) rfl
  have gf := bc w64 ad 1 (.int .i64 ((qZa ab aa).f1)) rfl
  have gg := bc w64 ad 2 (.int .i64 ((qZa ab aa).f2)) rfl
  have gh := bc w64 ad 3 (.int .i64 ((qZa ab aa).f3)) rfl
  have gi := bc w64 ad 4 (.int .i64 ((qZa ab aa).f4)) rfl
  have gj := fz ad 0
  have gl := fz ad 1
  have gm := fz ad 2
  have gn := fz ad 3
  have gp := fz ad 4
  have p52 : 0 ≤ (((qZa ab aa).f1) : Int) := oT (by (with_reducible assumption))
  have q52 : (((qZa ab aa).f1) : Int) < ((aq.length : Int) : Int) := oT (by (with_reducible assumption))
  obtain ⟨aE, iE, hl, eK, hm, iF, eL⟩ := Kd.R_form ag.out (by omega)
  (cases hl)
  have eM := ak eK
  have iG := ak eL
  clear eK hm eL
  have hq := ak (show (P4_ aE ∨ w.heap.size ≤ aE) from (ag.out.1 _ rfl))
  (simp only [qXh] at aA)
  obtain ⟨hs, ht⟩ := Kd.R_celln false ag.out (((qZa ab aa).f1) : Int) p52 q52
  replace p52 := eq_true p52
  replace q52 := eq_true q52
  obtain ⟨ib, ic⟩ := Kd.R_celln false ag.out (((qZa ab aa).f1) : Int) (oT (by (with_reducible assumption))) (oT (by (with_reducible assumption)))
  have dG := Kd.R_putg ag.out (((qZa ab aa).f1) : Int) true
  try go_wp2_with (((with_reducible refine qVk (t := 4) (p := 76) rfl ?_); refine qVb (t := 4) (p := 76) (v := ?vo_w69) (w1 := (w64.setCell ⟨aE, (((qZa ab aa).f1) : Int).toNat, none⟩ (.bool true))) ?hg ?ho ?hn ?hr ?_; (case ho => rfl); (case hg => rfl); (case hn => rfl); (case hr => (go_simp; done)); intro w69 hw; have hg : w64.grownBy w69 (some aE) := (by rw [hw]; exact dG.2); have hp_ : Kd.R Kd.bool 4 w69 w0.heap.size (fun k_ => (P4_ k_ ∨ w.heap.size ≤ k_)) (.slice (some ⟨aE, 0, none⟩) aq.length aP) cq := (by rw [hw, eE.out]; exact dG.1); clear dG; replace aj := ak (Kd.V_afterv (v := (.slice (some ⟨aE, 0, none⟩) aq.length aP)) (v1 := (.slice (some ⟨aE, 0, none⟩) aq.length aP)) (ok := (fun k_ => ((P4_ k_ ∨ P6_ k_) ∨ w.heap.size ≤ k_) ∧ k_ ≠ ai ∧ k_ ≠ ah ∧ k_ ≠ ac)) (by exact Kd.V_mono aj.out (fun _ hk => ⟨⟨hk.1, ⟨hk.2.2.1, ⟨hk.2.2.2.1, hk.2.2.2.2⟩⟩⟩, hk.2.1⟩)) hg (.inl rfl)); replace ae := ak (qZg (bk ae) hg (Kd.R_ne ag.out ae.out (by decide))); replace af := ak (qZg (bk af) hg (Kd.R_ne ag.out af.out (by decide))); replace ad := ak (qZg (bk ad) hg (Kd.R_ne ag.out ad.out (by decide))); replace ap := ak (Kd.V_afterv (v := (.slice (some ⟨aE, 0, none⟩) aq.length aP)) (v1 := (.slice (some ⟨aE, 0, none⟩) aq.length aP)) (ok := (fun k_ => ((P4_ k_ ∨ P6_ k_) ∨ w.heap.size ≤ k_) ∧ k_ ≠ ai ∧ k_ ≠ ah ∧ k_ ≠ ac)) (by exact Kd.V_mono ap.out (fun _ hk => ⟨⟨hk.1, ⟨hk.2.2.1, ⟨hk.2.2.2.1, hk.2.2.2.2⟩⟩⟩, hk.2.1⟩)) hg (.inl rfl)); replace HB := ak ((by rw [hw]; exact below_set (HB.out) eM.out : Below w0.heap.size w0 w69)); replace HK := ak (Kept.of_grown (S := (fun k_ => P4_ k_)) hg (by repeat ((with_reducible exact HK.out))) (fun k_ e_ => (ag.out.1 k_ e_))); replace ag := ak (hp_); clear hg hw hp_))
  replace ag := ak (Kd.R_drew ag.out)
  replace aj := ak (Kd.V_drew aj.out)
  replace ap := ak (Kd.V_drew ap.out)
  replace ae := ak (qZp ae.out)
  replace af := ak (qZp af.out)
  replace ad := ak (qZp ad.out)
  replace HK := ak (Kept.drew HK.out)
  replace HB := ak (qZo HB.out)
  refine qJd (n := 22) (S := fun w' => w'.cell? ⟨ai, 0, none⟩ = some (.int .i64 aw) ∧ w'.cell? ⟨ai, 1, none⟩ = some (.slice (some aN) ab.length aV) ∧ w'.cell? ⟨ac, 0, none⟩ = some (.int .i64 ((qZa ab aa).f0)) ∧ w'.cell? ⟨ac, 1, none⟩ = some (.int .i64 ((qZa ab aa).f1)) ∧ w'.cell? ⟨ac, 2, none⟩ = some (.int .i64 ((qZa ab aa).f2)) ∧ w'.cell? ⟨ac, 3, none⟩ = some (.int .i64 ((qZa ab aa).f3)) ∧ w'.cell? ⟨ac, 4, none⟩ = some (.int .i64 ((qZa ab aa).f4)) ∧ w'.cell? ⟨ah, 0, none⟩ = some (.slice bd au.length be) ∧ w'.cell? ⟨ah, 1, none⟩ = some (.int .i64 av)) (ds := []) (ms 22 0) (by kernel_rfl) rfl (by kernel_rfl) ⟨(qZb ae.out 0).trans rfl, (qZb ae.out 1).trans rfl, (qZb ad.out 0).trans rfl, (qZb ad.out 1).trans rfl, (qZb ad.out 2).trans rfl, (qZb ad.out 3).trans rfl, (qZb ad.out 4).trans rfl, (qZb af.out 0).trans rfl, (qZb af.out 1).trans rfl⟩ (fun hHeld => ?_); refine qQk spec_l14Go.tab9 spec_l14Go.bits9 (fun HT_ HW_ => ?_)
  generalize w69.drew = w70 at ag aj ap ae af ad HK HB hHeld ⊢
  refine pu 1 78 ?_ (ms 22 2) rfl rfl HT_ (by kernel_rfl) (fun _ _ _ h => h) (by rfl) ?_ ?_ ?_ ?_
  rotate_left
  ·intro w'
   go_simp
   with_reducible rfl
  rotate_left
  ·simp only [SX]
   rfl
  refine pu 2 79 ?_ (ms 22 6) rfl rfl HT_ (by kernel_rfl) (fun _ _ _ h => h) (by rfl) ?_ ?_ ?_ ?_
  rotate_left
  ·intro w'
   go_simp
   with_reducible rfl
  rotate_left
  ·simp only [SX]
   rfl
  refine pu 3 80 ?_ (ms 22 14) rfl rfl HT_ (by kernel_rfl) (fun _ _ _ h => h) (by rfl) ?_ ?_ ?_ ?_
  rotate_left
  ·intro w'
   go_simp
   with_reducible rfl
  rotate_left
  ·simp only [SX]
   rfl
  refine pu 5 82 ?_ (ms 22 46) rfl rfl HT_ (by kernel_rfl) (fun _ _ _ h => h) (by rfl) ?_ ?_ ?_ ?_
  rotate_left
  ·intro w'
   go_simp
   with_reducible rfl
  rotate_left
  ·simp only [SX]
   rfl
  refine pu 7 84 ?_ (ms 22 174) rfl rfl HT_ (by kernel_rfl) (fun _ _ _ h => h) (by rfl) ?_ ?_ ?_ ?_
  rotate_left
  ·intro w'
   go_simp
   with_reducible rfl
  rotate_left
  ·simp only [SX]
   rfl
  refine pu 10 87 ?_ (ms 22 1198) rfl rfl HT_ (by kernel_rfl) (fun _ _ _ h => h) (by rfl) ?_ ?_ ?_ ?_
  rotate_left
  ·intro w'
   go_simp
   with_reducible rfl
  rotate_left
  ·simp only [SX]
   rfl
  refine pu 13 90 ?_ (ms 22 9390) rfl rfl HT_ (by kernel_rfl) (fun _ _ _ h => h) (by rfl) ?_ ?_ ?_ ?_
  rotate_left
  ·intro w'
   go_simp
   with_reducible rfl
  rotate_left
  ·simp only [SX]
   rfl
  refine pu 15 92 ?_ (ms 22 42158) rfl rfl HT_ (by kernel_rfl) (fun _ _ _ h => h) (by rfl) ?_ ?_ ?_ ?_
  rotate_left
  ·intro w'
   go_simp
   with_reducible rfl
  rotate_left
  ·simp only [SX]
   rfl
  refine pu 19 96 ?_ (ms 22 566446) rfl rfl HT_ (by kernel_rfl) (fun _ _ _ h => h) (by rfl) ?_ ?_ ?_ ?_
  rotate_left
  ·intro w'
   go_simp
   with_reducible rfl
  rotate_left
  ·simp only [SX]
   rfl
  refine tk 0 77 ?_ (ms 22 566447) rfl rfl HT_ HW_ (by kernel_rfl) (fun _ _ _ h => h) (by rfl) ?_ hHeld ?_ ?_ ?_
  rotate_left
  ·rintro w' ⟨s0, s1, s2, s3, s4, s5, s6, s7, s8⟩
   go_simp
   with_reducible rfl
  rotate_left
  ·simp only [SX]
   rfl
  refine tk 4 81 ?_ (ms 22 566463) rfl rfl HT_ HW_ (by kernel_rfl) (fun _ _ _ h => h) (by rfl) ?_ hHeld ?_ ?_ ?_
  rotate_left
  ·rintro w' ⟨s0, s1, s2, s3, s4, s5, s6, s7, s8⟩
   go_simp
   with_reducible rfl
  rotate_left
  ·simp only [SX]
   rfl
  refine tk 8 85 ?_ (ms 22 566719) rfl rfl HT_ HW_ (by kernel_rfl) (fun _ _ _ h => h) (by rfl) ?_ hHeld ?_ ?_ ?_
  rotate_left
  ·rintro w' ⟨s0, s1, s2, s3, s4, s5, s6, s7, s8⟩
   go_simp
   with_reducible rfl
  rotate_left
  ·simp only [SX]
   rfl
  refine tk 14 91 ?_ (ms 22 583103) rfl rfl HT_ HW_ (by kernel_rfl) (fun _ _ _ h => h) (by rfl) ?_ hHeld ?_ ?_ ?_
  rotate_left
  ·rintro w' ⟨s0, s1, s2, s3, s4, s5, s6, s7, s8⟩
   go_simp
   with_reducible rfl
  rotate_left
  ·simp only [SX]
   rfl
  refine tk 16 93 ?_ (ms 22 648639) rfl rfl HT_ HW_ (by kernel_rfl) (fun _ _ _ h => h) (by rfl) ?_ hHeld ?_ ?_ ?_
  rotate_left
  ·rintro w' ⟨s0, s1, s2, s3, s4, s5, s6, s7, s8⟩
   go_simp
   with_reducible rfl
  rotate_left
  ·simp only [SX]
   rfl
  refine pu 17 94 ?_ (ms 22 779711) rfl rfl HT_ (by kernel_rfl) (fun _ _ _ h => h) (by rfl) ?_ ?_ ?_ ?_
  rotate_left
  ·intro w'
   go_simp
   with_reducible rfl
  rotate_left
  ·simp only [SX]
   rfl
  refine join_ (σ := Value × Value × Value) 4 (ms 22 782335) (fun s_ => [(83, s_.1), (86, s_.2.1), (88, s_.2.2)]) (fun s_ w' => (w'.cell? ⟨ai, 0, none⟩ = some (.int .i64 aw) ∧ w'.cell? ⟨ai, 1, none⟩ = some (.slice (some aN) ab.length aV) ∧ w'.cell? ⟨ac, 0, none⟩ = some (.int .i64 ((qZa ab aa).f0)) ∧ w'.cell? ⟨ac, 1, none⟩ = some (.int .i64 ((qZa ab aa).f1)) ∧ w'.cell? ⟨ac, 2, none⟩ = some (.int .i64 ((qZa ab aa).f2)) ∧ w'.cell? ⟨ac, 3, none⟩ = some (.int .i64 ((qZa ab aa).f3)) ∧ w'.cell? ⟨ac, 4, none⟩ = some (.int .i64 ((qZa ab aa).f4)) ∧ w'.cell? ⟨ah, 0, none⟩ = some (.slice bd au.length be) ∧ w'.cell? ⟨ah, 1, none⟩ = some (.int .i64 av)) ∧ (Kd.V (Kd.int .i64) 3 w' w0.heap.size (fun k_ => ((P4_ k_ ∨ P6_ k_) ∨ w.heap.size ≤ k_) ∧ some k_ ≠ (s_.2.1 : Value).ownBlock ∧ some k_ ≠ (s_.2.2 : Value).ownBlock ∧ some k_ ≠ (.slice (some ⟨aE, 0, none⟩) aq.length aP : Value).ownBlock ∧ k_ ≠ ai ∧ k_ ≠ ah ∧ k_ ≠ ac) (.slice cc ((qQg ax (aI)).f0).length cd) ((qQg ax (aI)).f0)) ∧ (Kd.R (Kd.int .i64) 3 w' w0.heap.size (fun k_ => (P4_ k_ ∨ w.heap.size ≤ k_) ∧ some k_ ≠ (s_.2.2 : Value).ownBlock) s_.2.1 bb) ∧ (Kd.R (Kd.int .i64) 3 w' w0.heap.size (fun k_ => (P4_ k_ ∨ w.heap.size ≤ k_) ∧ some k_ ≠ (s_.2.1 : Value).ownBlock) s_.2.2 aJ) ∧ (Kd.R Kd.bool 4 w' w0.heap.size (fun k_ => (P4_ k_ ∨ w.heap.size ≤ k_)) (.slice (some ⟨aE, 0, none⟩) aq.length aP) cq) ∧ (Kd.V k103 103 w' w0.heap.size (fun k_ => ((P4_ k_ ∨ P6_ k_) ∨ w.heap.size ≤ k_) ∧ some k_ ≠ (s_.2.1 : Value).ownBlock ∧ some k_ ≠ (s_.2.2 : Value).ownBlock ∧ some k_ ≠ (.slice (some ⟨aE, 0, none⟩) aq.length aP : Value).ownBlock ∧ k_ ≠ ai ∧ k_ ≠ ah ∧ k_ ≠ ac) (.slice (some bx) ax.length dF) ax) ∧ (w'.heap[ai]? = some (.cells #[.int .i64 aw, .slice (some aN) ab.length aV] 25 (0, 0))) ∧ (w'.heap[ah]? = some (.cells #[.slice bd au.length be, .int .i64 av] 103 (0, 0))) ∧ (w'.heap[ac]? = some (.cells #[.int .i64 ((qZa ab aa).f0), .int .i64 ((qZa ab aa).f1), .int .i64 ((qZa ab aa).f2), .int .i64 ((qZa ab aa).f3), .int .i64 ((qZa ab aa).f4)] 58 (0, 0))) ∧ (Kept w w' (fun k_ => P4_ k_)) ∧ (Below w0.heap.size w0 w')) ?_ ?_
  rotate_left
  ·intro hCont
   refine two_ (i := 6) (j := 11) (Ni := some 83) (Nj := some 88) (ms 22 779775) (ms 22 781759) rfl rfl rfl rfl (two_of HT_.out (by kernel_rfl)) (by decide) (by decide) (fun K hK => ?_) (fun K hK => ?_)
   rotate_left
   ·skip
    refine Kd.R_lit_step (Kd.int .i64) _ 3 ?hg (N := 88) ?hd (xs := ([aa] : List Int)) (inner := [.int .i64 aa]) (ok := fun _ => True) (okp := fun _ => True) ?hr ?hp (fun _ hk => hk) trivial (Below.refl _ _) (Nat.le_refl _) (by simp) ?_; (case hd => rfl); (case hg => rfl); (case hr => (go_simp; done)); (case hp => exact (Reps.one (show Kd.M (Kd.int .i64) _ _ _ aa [.int .i64 aa] from rfl) (Reps.none _ _)))
    intro bw w71 cf hb hg_ hnew_
    clear hg_ hnew_
    (rw [← dg.out] at cf)
    replace ag := ak (Kd.R_below (rk ag) hb)
    replace aj := ak (Kd.V_elder' (by exact aj.out) (Kd.R_base cf) hb)
    replace ap := ak (Kd.V_elder' (by exact ap.out) (Kd.R_base cf) hb)
    have az := ak (Kd.R_lower (Kd.R_newM (M := fun k_ => (P4_ k_ ∨ w.heap.size ≤ k_)) cf (by exact HK.out.1) (fun k_ h_ => .inr h_)) (qZc (bl3 HB an ao ar)))
    replace ae := ak (qZe (bk ae) hb)
    replace af := ak (qZe (bk af) hb)
    replace ad := ak (qZe (bk ad) hb)
    replace HK := ak (Kept.below (S := (fun k_ => P4_ k_)) (by repeat ((with_reducible exact HK.out))) hb)
    replace HB := ak (qZd (bl3 HB an ao ar) hb)
    clear hb cf
    refine hK.out _ _ ⟨(qZb ae.out 0).trans rfl, (qZb ae.out 1).trans rfl, (qZb ad.out 0).trans rfl, (qZb ad.out 1).trans rfl, (qZb ad.out 2).trans rfl, (qZb ad.out 3).trans rfl, (qZb ad.out 4).trans rfl, (qZb af.out 0).trans rfl, (qZb af.out 1).trans rfl⟩ (fun hHeld => ?_)
    clear hK K
    refine qJc (a' := ?_) ?_ ?_
    rotate_left
    ·show Act.put _ (some 88) _ = _
     simp only [SX]
     rfl
    refine one_ (i := 6) (N := some 83) (ms 22 781823) rfl rfl (qJb HT_.out (by kernel_rfl)) (by decide) (fun K hK => ?_)
    refine Kd.R_lit_step (Kd.int .i64) _ 3 ?hg (N := 83) ?hd (xs := ([] : List Int)) (inner := []) (ok := fun _ => True) (okp := fun _ => True) ?hr ?hp (fun _ hk => hk) trivial (Below.refl _ _) (Nat.le_refl _) (by simp) ?_; (case hd => rfl); (case hg => rfl); (case hr => (go_simp; done)); (case hp => exact (Reps.none _ _))
    intro cx w73 bL hb hg_ hnew_
    clear hg_ hnew_
    (rw [← du.out] at bL)
    replace ag := ak (Kd.R_below (rk ag) hb)
    replace aj := ak (Kd.V_elder' (by exact aj.out) (Kd.R_base bL) hb)
    replace ap := ak (Kd.V_elder' (by exact ap.out) (Kd.R_base bL) hb)
    have aG := ak (Kd.R_lower (Kd.R_new' (Kd.R_newM (M := fun k_ => (P4_ k_ ∨ w.heap.size ≤ k_)) bL (by exact HK.out.1) (fun k_ h_ => .inr h_)) (Kd.R_lt (rk az))) (qZc (bl3 HB an ao ar)))
    replace az := ak (Kd.R_elder' (rk az) (Kd.R_base bL) hb)
    replace ae := ak (qZe (bk ae) hb)
    replace af := ak (qZe (bk af) hb)
    replace ad := ak (qZe (bk ad) hb)
    replace HK := ak (Kept.below (S := (fun k_ => P4_ k_)) (by repeat ((with_reducible exact HK.out))) hb)
    replace HB := ak (qZd (bl3 HB an ao ar) hb)
    clear hb bL
    refine hK.out _ _ ⟨(qZb ae.out 0).trans rfl, (qZb ae.out 1).trans rfl, (qZb ad.out 0).trans rfl, (qZb ad.out 1).trans rfl, (qZb ad.out 2).trans rfl, (qZb ad.out 3).trans rfl, (qZb ad.out 4).trans rfl, (qZb af.out 0).trans rfl, (qZb af.out 1).trans rfl⟩ (fun hHeld => ?_)
    clear hK K
    refine qJc (a' := ?_) ?_ ?_
    rotate_left
    ·show Act.put _ (some 83) _ = _
     simp only [SX]
     rfl
    refine one_ (i := 9) (N := some 86) (ms 22 782335) rfl rfl (qJb HT_.out (by kernel_rfl)) (by decide) (fun K hK => ?_)
    refine Kd.R_append_rows_step (Kd.int .i64) (w0 := w0) w0.heap.size (by rfl) (.tmp 83) (.tmp 85) 33 3 (.int .i64 0) 8 rfl Try.underlying33 qYd rfl (by decide) (by omega) cx bm au _ _ _ (fun k_ => (P4_ k_ ∨ w.heap.size ≤ k_) ∧ some k_ ≠ (bw : Value).ownBlock) (fun _ => False) rfl rfl ?aO ?aR (fun _ _ h => h) (fun _ h => h.elim) ?aF ?aB ?aS ?aL ?_
    (case aR => exact Kd.C_kept_now bY.out (by repeat ((with_reducible exact HK.out))))
    (case aB => exact (bl3 HB an ao ar))
    (case aF => exact (fun k_ hk => ⟨(.inr (Nat.le_trans (by exact HK.out.1) hk)), Kd.fresh' (Kd.R_lt (rk az)) k_ hk⟩))
    (case aO => exact (by exact Kd.R_mono aG.out (fun _ hk => ⟨hk.1.1, hk.2⟩)))
    (case aS => exact (qZc (bl3 HB an ao ar)))
    (case aL => have := dc.out; omega)
    intro cg w75 ho hb hg hat
    rw [← de.out] at ho
    have n0_ := ak (Kd.R_over' (rk ag) (Kd.R_typed (rk aG)) (by decide) hg)
    have n1_ := ak (Kd.V_afterv (ok := (fun k_ => ((P4_ k_ ∨ P6_ k_) ∨ w.heap.size ≤ k_) ∧ some k_ ≠ (.slice (some ⟨aE, 0, none⟩) aq.length aP : Value).ownBlock ∧ some k_ ≠ (bw : Value).ownBlock ∧ k_ ≠ ai ∧ k_ ≠ ah ∧ k_ ≠ ac)) (by exact Kd.V_mono aj.out (fun _ hk => ⟨⟨hk.1.1.1.1, ⟨hk.1.1.2, ⟨hk.1.2, ⟨hk.1.1.1.2.1, ⟨hk.1.1.1.2.2.1, hk.1.1.1.2.2.2⟩⟩⟩⟩⟩, hk.2⟩)) hg hat)
    have n2_ := ak (qZg (bk ae) hg (Kd.R_ne aG.out ae.out (by decide)))
    have n3_ := ak (qZg (bk af) hg (Kd.R_ne aG.out af.out (by decide)))
    have n4_ := ak (qZg (bk ad) hg (Kd.R_ne aG.out ad.out (by decide)))
    have n5_ := ak (Kd.V_afterv (ok := (fun k_ => ((P4_ k_ ∨ P6_ k_) ∨ w.heap.size ≤ k_) ∧ some k_ ≠ (.slice (some ⟨aE, 0, none⟩) aq.length aP : Value).ownBlock ∧ some k_ ≠ (bw : Value).ownBlock ∧ k_ ≠ ai ∧ k_ ≠ ah ∧ k_ ≠ ac)) (by exact Kd.V_mono ap.out (fun _ hk => ⟨⟨hk.1.1.1.1, ⟨hk.1.1.2, ⟨hk.1.2, ⟨hk.1.1.1.2.1, ⟨hk.1.1.1.2.2.1, hk.1.1.1.2.2.2⟩⟩⟩⟩⟩, hk.2⟩)) hg hat)
    have n6_ := ak (Kd.R_after (ok := (fun k_ => (P4_ k_ ∨ w.heap.size ≤ k_))) (by exact Kd.R_mono az.out (fun _ hk => ⟨hk.1.1, hk.2⟩)) hg hat)
    have n7_ := ak (hb)
    have n8_ := ak (Kept.of_grown (S := (fun k_ => P4_ k_)) hg (by repeat ((with_reducible exact HK.out))) (fun k_ e_ => (aG.out.1 k_ e_).1.1))
    have n9_ := ak (ho)
    clear ag
    clear aj
    clear ae
    clear af
    clear ad
    clear ap
    clear az
    clear HB
    clear HK
    clear aG
    have ag := n0_
    have aj := n1_
    have ae := n2_
    have af := n3_
    have ad := n4_
    have ap := n5_
    have az := n6_
    have HB := n7_
    have HK := n8_
    have aZ := n9_
    clear n0_ n1_ n2_ n3_ n4_ n5_ n6_ n7_ n8_ n9_
    clear ho hb hg hat
    refine hK.out _ _ ⟨(qZb ae.out 0).trans rfl, (qZb ae.out 1).trans rfl, (qZb ad.out 0).trans rfl, (qZb ad.out 1).trans rfl, (qZb ad.out 2).trans rfl, (qZb ad.out 3).trans rfl, (qZb ad.out 4).trans rfl, (qZb af.out 0).trans rfl, (qZb af.out 1).trans rfl⟩ (fun hHeld => ?_)
    clear hK K
    refine qJc (a' := ?_) ?_ ?_
    rotate_left
    ·show Act.put _ (some 86) _ = _
     simp only [SX]
     rfl
    exact qJc (by simp only [putAll, Act.put, List.setIfInBounds_toArray, List.set_cons_zero, List.set_cons_succ]) (hCont (cx, cg, bw) _ ⟨hHeld, (by exact Kd.V_mono ap.out (fun _ hk => ⟨hk.1.1, ⟨hk.2, ⟨hk.1.2.2.1, ⟨hk.1.2.1, ⟨hk.1.2.2.2.1, ⟨hk.1.2.2.2.2.1, hk.1.2.2.2.2.2⟩⟩⟩⟩⟩⟩)), (rk aZ), (rk az), (rk ag), (by exact Kd.V_mono aj.out (fun _ hk => ⟨hk.1.1, ⟨hk.2, ⟨hk.1.2.2.1, ⟨hk.1.2.1, ⟨hk.1.2.2.2.1, ⟨hk.1.2.2.2.2.1, hk.1.2.2.2.2.2⟩⟩⟩⟩⟩⟩)), (bk ae), (bk af), (bk ad), (by repeat ((with_reducible exact HK.out))), (bl3 HB an ao ar)⟩)
   skip
   refine Kd.R_lit_step (Kd.int .i64) _ 3 ?hg (N := 83) ?hd (xs := ([] : List Int)) (inner := []) (ok := fun _ => True) (okp := fun _ => True) ?hr ?hp (fun _ hk => hk) trivial (Below.refl _ _) (Nat.le_refl _) (by simp) ?_; (case hd => rfl); (case hg => rfl); (case hr => (go_simp; done)); (case hp => exact (Reps.none _ _))
   intro cx w71 cf hb hg_ hnew_
   clear hg_ hnew_
   (rw [← du.out] at cf)
   replace ag := ak (Kd.R_below (rk ag) hb)
   replace aj := ak (Kd.V_elder' (by exact aj.out) (Kd.R_base cf) hb)
   replace ap := ak (Kd.V_elder' (by exact ap.out) (Kd.R_base cf) hb)
   have aG := ak (Kd.R_lower (Kd.R_newM (M := fun k_ => (P4_ k_ ∨ w.heap.size ≤ k_)) cf (by exact HK.out.1) (fun k_ h_ => .inr h_)) (qZc (bl3 HB an ao ar)))
   replace ae := ak (qZe (bk ae) hb)
   replace af := ak (qZe (bk af) hb)
   replace ad := ak (qZe (bk ad) hb)
   replace HK := ak (Kept.below (S := (fun k_ => P4_ k_)) (by repeat ((with_reducible exact HK.out))) hb)
   replace HB := ak (qZd (bl3 HB an ao ar) hb)
   clear hb cf
   refine hK.out _ _ ⟨(qZb ae.out 0).trans rfl, (qZb ae.out 1).trans rfl, (qZb ad.out 0).trans rfl, (qZb ad.out 1).trans rfl, (qZb ad.out 2).trans rfl, (qZb ad.out 3).trans rfl, (qZb ad.out 4).trans rfl, (qZb af.out 0).trans rfl, (qZb af.out 1).trans rfl⟩ (fun hHeld => ?_)
   clear hK K
   refine qJc (a' := ?_) ?_ ?_
   rotate_left
   ·show Act.put _ (some 83) _ = _
    simp only [SX]
    rfl
   refine two_ (i := 9) (j := 11) (Ni := some 86) (Nj := some 88) (ms 22 780287) (ms 22 781823) rfl rfl rfl rfl (two_of HT_.out (by kernel_rfl)) (by decide) (by decide) (fun K hK => ?_) (fun K hK => ?_)
   ·skip
    refine Kd.R_append_rows_step (Kd.int .i64) (w0 := w0) w0.heap.size (by rfl) (.tmp 83) (.tmp 85) 33 3 (.int .i64 0) 8 rfl Try.underlying33 qYd rfl (by decide) (by omega) cx bm au _ _ _ (fun k_ => (P4_ k_ ∨ w.heap.size ≤ k_)) (fun _ => False) rfl rfl ?aO ?aR (fun _ _ h => h) (fun _ h => h.elim) ?aF ?aB ?aS ?aL ?_
    (case aR => exact Kd.C_kept_now bY.out (by repeat ((with_reducible exact HK.out))))
    (case aB => exact (bl3 HB an ao ar))
    (case aF => exact (fun k_ hk => (.inr (Nat.le_trans (by exact HK.out.1) hk))))
    (case aO => exact (by exact Kd.R_mono aG.out (fun _ hk => hk.1)))
    (case aS => exact (qZc (bl3 HB an ao ar)))
    (case aL => have := dc.out; omega)
    intro cg w73 ho hb hg hat
    rw [← de.out] at ho
    have n0_ := ak (Kd.R_over' (rk ag) (Kd.R_typed (rk aG)) (by decide) hg)
    have n1_ := ak (Kd.V_afterv (ok := (fun k_ => ((P4_ k_ ∨ P6_ k_) ∨ w.heap.size ≤ k_) ∧ some k_ ≠ (.slice (some ⟨aE, 0, none⟩) aq.length aP : Value).ownBlock ∧ k_ ≠ ai ∧ k_ ≠ ah ∧ k_ ≠ ac)) (by exact Kd.V_mono aj.out (fun _ hk => ⟨⟨hk.1.1.1, ⟨hk.1.2, ⟨hk.1.1.2.1, ⟨hk.1.1.2.2.1, hk.1.1.2.2.2⟩⟩⟩⟩, hk.2⟩)) hg hat)
    have n2_ := ak (qZg (bk ae) hg (Kd.R_ne aG.out ae.out (by decide)))
    have n3_ := ak (qZg (bk af) hg (Kd.R_ne aG.out af.out (by decide)))
    have n4_ := ak (qZg (bk ad) hg (Kd.R_ne aG.out ad.out (by decide)))
    have n5_ := ak (Kd.V_afterv (ok := (fun k_ => ((P4_ k_ ∨ P6_ k_) ∨ w.heap.size ≤ k_) ∧ some k_ ≠ (.slice (some ⟨aE, 0, none⟩) aq.length aP : Value).ownBlock ∧ k_ ≠ ai ∧ k_ ≠ ah ∧ k_ ≠ ac)) (by exact Kd.V_mono ap.out (fun _ hk => ⟨⟨hk.1.1.1, ⟨hk.1.2, ⟨hk.1.1.2.1, ⟨hk.1.1.2.2.1, hk.1.1.2.2.2⟩⟩⟩⟩, hk.2⟩)) hg hat)
    have n6_ := ak (hb)
    have n7_ := ak (Kept.of_grown (S := (fun k_ => P4_ k_)) hg (by repeat ((with_reducible exact HK.out))) (fun k_ e_ => (aG.out.1 k_ e_).1))
    have n8_ := ak (ho)
    clear ag
    clear aj
    clear ae
    clear af
    clear ad
    clear ap
    clear HB
    clear HK
    clear aG
    have ag := n0_
    have aj := n1_
    have ae := n2_
    have af := n3_
    have ad := n4_
    have ap := n5_
    have HB := n6_
    have HK := n7_
    have aZ := n8_
    clear n0_ n1_ n2_ n3_ n4_ n5_ n6_ n7_ n8_
    clear ho hb hg hat
    refine hK.out _ _ ⟨(qZb ae.out 0).trans rfl, (qZb ae.out 1).trans rfl, (qZb ad.out 0).trans rfl, (qZb ad.out 1).trans rfl, (qZb ad.out 2).trans rfl, (qZb ad.out 3).trans rfl, (qZb ad.out 4).trans rfl, (qZb af.out 0).trans rfl, (qZb af.out 1).trans rfl⟩ (fun hHeld => ?_)
    clear hK K
    refine qJc (a' := ?_) ?_ ?_
    rotate_left
    ·show Act.put _ (some 86) _ = _
     simp only [SX]
     rfl
    refine one_ (i := 11) (N := some 88) (ms 22 782335) rfl rfl (qJb HT_.out (by kernel_rfl)) (by decide) (fun K hK => ?_)
    refine Kd.R_lit_step (Kd.int .i64) _ 3 ?hg (N := 88) ?hd (xs := ([aa] : List Int)) (inner := [.int .i64 aa]) (ok := fun _ => True) (okp := fun _ => True) ?hr ?hp (fun _ hk => hk) trivial (Below.refl _ _) (Nat.le_refl _) (by simp) ?_; (case hd => rfl); (case hg => rfl); (case hr => (go_simp; done)); (case hp => exact (Reps.one (show Kd.M (Kd.int .i64) _ _ _ aa [.int .i64 aa] from rfl) (Reps.none _ _)))
    intro bw w74 cF hb hg_ hnew_
    clear hg_ hnew_
    (rw [← dg.out] at cF)
    replace ag := ak (Kd.R_below (rk ag) hb)
    replace aj := ak (Kd.V_elder' (by exact aj.out) (Kd.R_base cF) hb)
    replace ap := ak (Kd.V_elder' (by exact ap.out) (Kd.R_base cF) hb)
    have az := ak (Kd.R_lower (Kd.R_new' (Kd.R_newM (M := fun k_ => (P4_ k_ ∨ w.heap.size ≤ k_)) cF (by exact HK.out.1) (fun k_ h_ => .inr h_)) (Kd.R_lt (rk aZ))) (qZc (bl3 HB an ao ar)))
    replace aZ := ak (Kd.R_elder' (rk aZ) (Kd.R_base cF) hb)
    replace ae := ak (qZe (bk ae) hb)
    replace af := ak (qZe (bk af) hb)
    replace ad := ak (qZe (bk ad) hb)
    replace HK := ak (Kept.below (S := (fun k_ => P4_ k_)) (by repeat ((with_reducible exact HK.out))) hb)
    replace HB := ak (qZd (bl3 HB an ao ar) hb)
    clear hb cF
    refine hK.out _ _ ⟨(qZb ae.out 0).trans rfl, (qZb ae.out 1).trans rfl, (qZb ad.out 0).trans rfl, (qZb ad.out 1).trans rfl, (qZb ad.out 2).trans rfl, (qZb ad.out 3).trans rfl, (qZb ad.out 4).trans rfl, (qZb af.out 0).trans rfl, (qZb af.out 1).trans rfl⟩ (fun hHeld => ?_)
    clear hK K
    refine qJc (a' := ?_) ?_ ?_
    rotate_left
    ·show Act.put _ (some 88) _ = _
     simp only [SX]
     rfl
    exact qJc (by simp only [putAll, Act.put, List.setIfInBounds_toArray, List.set_cons_zero, List.set_cons_succ]) (hCont (cx, cg, bw) _ ⟨hHeld, (by exact Kd.V_mono ap.out (fun _ hk => ⟨hk.1.1.1, ⟨hk.1.2, ⟨hk.2, ⟨hk.1.1.2.1, ⟨hk.1.1.2.2.1, ⟨hk.1.1.2.2.2.1, hk.1.1.2.2.2.2⟩⟩⟩⟩⟩⟩)), (rk aZ), (by exact Kd.R_mono az.out (fun _ hk => ⟨hk.1.1, hk.2⟩)), (rk ag), (by exact Kd.V_mono aj.out (fun _ hk => ⟨hk.1.1.1, ⟨hk.1.2, ⟨hk.2, ⟨hk.1.1.2.1, ⟨hk.1.1.2.2.1, ⟨hk.1.1.2.2.2.1, hk.1.1.2.2.2.2⟩⟩⟩⟩⟩⟩)), (bk ae), (bk af), (bk ad), (by repeat ((with_reducible exact HK.out))), (bl3 HB an ao ar)⟩)
   skip
   refine Kd.R_lit_step (Kd.int .i64) _ 3 ?hg (N := 88) ?hd (xs := ([aa] : List Int)) (inner := [.int .i64 aa]) (ok := fun _ => True) (okp := fun _ => True) ?hr ?hp (fun _ hk => hk) trivial (Below.refl _ _) (Nat.le_refl _) (by simp) ?_; (case hd => rfl); (case hg => rfl); (case hr => (go_simp; done)); (case hp => exact (Reps.one (show Kd.M (Kd.int .i64) _ _ _ aa [.int .i64 aa] from rfl) (Reps.none _ _)))
   intro bw w73 bL hb hg_ hnew_
   clear hg_ hnew_
   (rw [← dg.out] at bL)
   replace ag := ak (Kd.R_below (rk ag) hb)
   replace aj := ak (Kd.V_elder' (by exact aj.out) (Kd.R_base bL) hb)
   replace ap := ak (Kd.V_elder' (by exact ap.out) (Kd.R_base bL) hb)
   have az := ak (Kd.R_lower (Kd.R_new' (Kd.R_newM (M := fun k_ => (P4_ k_ ∨ w.heap.size ≤ k_)) bL (by exact HK.out.1) (fun k_ h_ => .inr h_)) (Kd.R_lt (rk aG))) (qZc (bl3 HB an ao ar)))
   replace aG := ak (Kd.R_elder' (rk aG) (Kd.R_base bL) hb)
   replace ae := ak (qZe (bk ae) hb)
   replace af := ak (qZe (bk af) hb)
   replace ad := ak (qZe (bk ad) hb)
   replace HK := ak (Kept.below (S := (fun k_ => P4_ k_)) (by repeat ((with_reducible exact HK.out))) hb)
   replace HB := ak (qZd (bl3 HB an ao ar) hb)
   clear hb bL
   refine hK.out _ _ ⟨(qZb ae.out 0).trans rfl, (qZb ae.out 1).trans rfl, (qZb ad.out 0).trans rfl, (qZb ad.out 1).trans rfl, (qZb ad.out 2).trans rfl, (qZb ad.out 3).trans rfl, (qZb ad.out 4).trans rfl, (qZb af.out 0).trans rfl, (qZb af.out 1).trans rfl⟩ (fun hHeld => ?_)
   clear hK K
   refine qJc (a' := ?_) ?_ ?_
   rotate_left
   ·show Act.put _ (some 88) _ = _
    simp only [SX]
    rfl
   refine one_ (i := 9) (N := some 86) (ms 22 782335) rfl rfl (qJb HT_.out (by kernel_rfl)) (by decide) (fun K hK => ?_)
   refine Kd.R_append_rows_step (Kd.int .i64) (w0 := w0) w0.heap.size (by rfl) (.tmp 83) (.tmp 85) 33 3 (.int .i64 0) 8 rfl Try.underlying33 qYd rfl (by decide) (by omega) cx bm au _ _ _ (fun k_ => (P4_ k_ ∨ w.heap.size ≤ k_) ∧ some k_ ≠ (bw : Value).ownBlock) (fun _ => False) rfl rfl ?aO ?aR (fun _ _ h => h) (fun _ h => h.elim) ?aF ?aB ?aS ?aL ?_
   (case aR => exact Kd.C_kept_now bY.out (by repeat ((with_reducible exact HK.out))))
   (case aB => exact (bl3 HB an ao ar))
   (case aF => exact (fun k_ hk => ⟨(.inr (Nat.le_trans (by exact HK.out.1) hk)), Kd.fresh' (Kd.R_lt (rk az)) k_ hk⟩))
   (case aO => exact (by exact Kd.R_mono aG.out (fun _ hk => ⟨hk.1.1, hk.2⟩)))
   (case aS => exact (qZc (bl3 HB an ao ar)))
   (case aL => have := dc.out; omega)
   intro cg w75 ho hb hg hat
   rw [← de.out] at ho
   have n0_ := ak (Kd.R_over' (rk ag) (Kd.R_typed (rk aG)) (by decide) hg)
   have n1_ := ak (Kd.V_afterv (ok := (fun k_ => ((P4_ k_ ∨ P6_ k_) ∨ w.heap.size ≤ k_) ∧ some k_ ≠ (.slice (some ⟨aE, 0, none⟩) aq.length aP : Value).ownBlock ∧ some k_ ≠ (bw : Value).ownBlock ∧ k_ ≠ ai ∧ k_ ≠ ah ∧ k_ ≠ ac)) (by exact Kd.V_mono aj.out (fun _ hk => ⟨⟨hk.1.1.1.1, ⟨hk.1.1.2, ⟨hk.2, ⟨hk.1.1.1.2.1, ⟨hk.1.1.1.2.2.1, hk.1.1.1.2.2.2⟩⟩⟩⟩⟩, hk.1.2⟩)) hg hat)
   have n2_ := ak (qZg (bk ae) hg (Kd.R_ne aG.out ae.out (by decide)))
   have n3_ := ak (qZg (bk af) hg (Kd.R_ne aG.out af.out (by decide)))
   have n4_ := ak (qZg (bk ad) hg (Kd.R_ne aG.out ad.out (by decide)))
   have n5_ := ak (Kd.V_afterv (ok := (fun k_ => ((P4_ k_ ∨ P6_ k_) ∨ w.heap.size ≤ k_) ∧ some k_ ≠ (.slice (some ⟨aE, 0, none⟩) aq.length aP : Value).ownBlock ∧ some k_ ≠ (bw : Value).ownBlock ∧ k_ ≠ ai ∧ k_ ≠ ah ∧ k_ ≠ ac)) (by exact Kd.V_mono ap.out (fun _ hk => ⟨⟨hk.1.1.1.1, ⟨hk.1.1.2, ⟨hk.2, ⟨hk.1.1.1.2.1, ⟨hk.1.1.1.2.2.1, hk.1.1.1.2.2.2⟩⟩⟩⟩⟩, hk.1.2⟩)) hg hat)
   have n6_ := ak (Kd.R_after (ok := (fun k_ => (P4_ k_ ∨ w.heap.size ≤ k_))) (by exact Kd.R_mono az.out (fun _ hk => ⟨hk.1.1, hk.2⟩)) hg hat)
   have n7_ := ak (hb)
   have n8_ := ak (Kept.of_grown (S := (fun k_ => P4_ k_)) hg (by repeat ((with_reducible exact HK.out))) (fun k_ e_ => (aG.out.1 k_ e_).1.1))
   have n9_ := ak (ho)
   clear ag
   clear aj
   clear ae
   clear af
   clear ad
   clear ap
   clear az
   clear HB
   clear HK
   clear aG
   have ag := n0_
   have aj := n1_
   have ae := n2_
   have af := n3_
   have ad := n4_
   have ap := n5_
   have az := n6_
   have HB := n7_
   have HK := n8_
   have aZ := n9_
   clear n0_ n1_ n2_ n3_ n4_ n5_ n6_ n7_ n8_ n9_
   clear ho hb hg hat
   refine hK.out _ _ ⟨(qZb ae.out 0).trans rfl, (qZb ae.out 1).trans rfl, (qZb ad.out 0).trans rfl, (qZb ad.out 1).trans rfl, (qZb ad.out 2).trans rfl, (qZb ad.out 3).trans rfl, (qZb ad.out 4).trans rfl, (qZb af.out 0).trans rfl, (qZb af.out 1).trans rfl⟩ (fun hHeld => ?_)
   clear hK K
   refine qJc (a' := ?_) ?_ ?_
   rotate_left
   ·show Act.put _ (some 86) _ = _
    simp only [SX]
    rfl
   exact qJc (by simp only [putAll, Act.put, List.setIfInBounds_toArray, List.set_cons_zero, List.set_cons_succ]) (hCont (cx, cg, bw) _ ⟨hHeld, (by exact Kd.V_mono ap.out (fun _ hk => ⟨hk.1.1, ⟨hk.2, ⟨hk.1.2.2.1, ⟨hk.1.2.1, ⟨hk.1.2.2.2.1, ⟨hk.1.2.2.2.2.1, hk.1.2.2.2.2.2⟩⟩⟩⟩⟩⟩)), (rk aZ), (rk az), (rk ag), (by exact Kd.V_mono aj.out (fun _ hk => ⟨hk.1.1, ⟨hk.2, ⟨hk.1.2.2.1, ⟨hk.1.2.1, ⟨hk.1.2.2.2.1, ⟨hk.1.2.2.2.2.1, hk.1.2.2.2.2.2⟩⟩⟩⟩⟩⟩)), (bk ae), (bk af), (bk ad), (by repeat ((with_reducible exact HK.out))), (bl3 HB an ao ar)⟩)
  rintro ⟨cx, cg, bw⟩ w76 ⟨hS_, h0_, h1_, h2_, h3_, h4_, h5_, h6_, h7_, h8_, h9_⟩
  replace ap : Aside0 (Kd.V (Kd.int .i64) 3 w76 w0.heap.size (fun k_ => ((P4_ k_ ∨ P6_ k_) ∨ w.heap.size ≤ k_) ∧ some k_ ≠ (cg : Value).ownBlock ∧ some k_ ≠ (bw : Value).ownBlock ∧ some k_ ≠ (.slice (some ⟨aE, 0, none⟩) aq.length aP : Value).ownBlock ∧ k_ ≠ ai ∧ k_ ≠ ah ∧ k_ ≠ ac) (.slice cc ((qQg ax (aI)).f0).length cd) ((qQg ax (aI)).f0)) := ⟨h0_⟩
  have aZ : Aside0 (Kd.R (Kd.int .i64) 3 w76 w0.heap.size (fun k_ => (P4_ k_ ∨ w.heap.size ≤ k_) ∧ some k_ ≠ (bw : Value).ownBlock) cg bb) := ⟨h1_⟩
  have az : Aside0 (Kd.R (Kd.int .i64) 3 w76 w0.heap.size (fun k_ => (P4_ k_ ∨ w.heap.size ≤ k_) ∧ some k_ ≠ (cg : Value).ownBlock) bw aJ) := ⟨h2_⟩
  replace ag : Aside0 (Kd.R Kd.bool 4 w76 w0.heap.size (fun k_ => (P4_ k_ ∨ w.heap.size ≤ k_)) (.slice (some ⟨aE, 0, none⟩) aq.length aP) cq) := ⟨h3_⟩
  replace aj : Aside0 (Kd.V k103 103 w76 w0.heap.size (fun k_ => ((P4_ k_ ∨ P6_ k_) ∨ w.heap.size ≤ k_) ∧ some k_ ≠ (cg : Value).ownBlock ∧ some k_ ≠ (bw : Value).ownBlock ∧ some k_ ≠ (.slice (some ⟨aE, 0, none⟩) aq.length aP : Value).ownBlock ∧ k_ ≠ ai ∧ k_ ≠ ah ∧ k_ ≠ ac) (.slice (some bx) ax.length dF) ax) := ⟨h4_⟩
  replace ae : Aside0 (w76.heap[ai]? = some (.cells #[.int .i64 aw, .slice (some aN) ab.length aV] 25 (0, 0))) := ⟨h5_⟩
  replace af : Aside0 (w76.heap[ah]? = some (.cells #[.slice bd au.length be, .int .i64 av] 103 (0, 0))) := ⟨h6_⟩
  replace ad : Aside0 (w76.heap[ac]? = some (.cells #[.int .i64 ((qZa ab aa).f0), .int .i64 ((qZa ab aa).f1), .int .i64 ((qZa ab aa).f2), .int .i64 ((qZa ab aa).f3), .int .i64 ((qZa ab aa).f4)] 58 (0, 0))) := ⟨h7_⟩
  replace HK : Aside0 (Kept w w76 (fun k_ => P4_ k_)) := ⟨h8_⟩
  replace HB : Aside0 (Below w0.heap.size w0 w76) := ⟨h9_⟩
  clear h0_ h1_ h2_ h3_ h4_ h5_ h6_ h7_ h8_ h9_
  have hHeld : w76.cell? ⟨ai, 0, none⟩ = some (.int .i64 aw) ∧ w76.cell? ⟨ai, 1, none⟩ = some (.slice (some aN) ab.length aV) ∧ w76.cell? ⟨ac, 0, none⟩ = some (.int .i64 ((qZa ab aa).f0)) ∧ w76.cell? ⟨ac, 1, none⟩ = some (.int .i64 ((qZa ab aa).f1)) ∧ w76.cell? ⟨ac, 2, none⟩ = some (.int .i64 ((qZa ab aa).f2)) ∧ w76.cell? ⟨ac, 3, none⟩ = some (.int .i64 ((qZa ab aa).f3)) ∧ w76.cell? ⟨ac, 4, none⟩ = some (.int .i64 ((qZa ab aa).f4)) ∧ w76.cell? ⟨ah, 0, none⟩ = some (.slice bd au.length be) ∧ w76.cell? ⟨ah, 1, none⟩ = some (.int .i64 av) := hS_
  obtain ⟨ct, cu, hu⟩ := Kd.R_slice az.out
  (subst hu)
  refine qJc (a' := ?_) ?_ ?_
  rotate_left
  ·simp only [putAll, Act.put, List.setIfInBounds_toArray, List.set_cons_zero, List.set_cons_succ]
   rfl
  refine one_ (i := 12) (N := some 89) (ms 22 786431) rfl rfl (qJb HT_.out (by kernel_rfl)) (by decide) (fun K hK => ?_)
  refine Kd.R_append_rows_step (Kd.int .i64) (w0 := w0) w0.heap.size (by rfl) (.tmp 86) (.tmp 88) 33 3 (.int .i64 0) 8 rfl Try.underlying33 qYd rfl (by decide) (by omega) cg bb aJ _ _ _ (fun k_ => (P4_ k_ ∨ w.heap.size ≤ k_) ∧ some k_ ≠ (.slice ct aJ.length cu : Value).ownBlock) (fun _ => False) rfl rfl ?aO ?aR (fun _ _ h => h) (fun _ h => h.elim) ?aF ?aB ?aS ?aL ?_
  (case aR => repeat (exact (Kd.R_reads' az.out).2.2))
  (case aB => exact (bl3 HB an ao ar))
  (case aF => exact (fun k_ hk => ⟨(.inr (Nat.le_trans (by exact HK.out.1) hk)), Kd.fresh' (Kd.R_lt (rk az)) k_ hk⟩))
  (case aO => exact (rk aZ))
  (case aS => exact (qZc (bl3 HB an ao ar)))
  (case aL => have := eF.out; omega)
  intro iH w77 ho hb hg hat
  rw [← eG.out] at ho
  have n0_ := ak (Kd.R_over' (rk ag) (Kd.R_typed (rk aZ)) (by decide) hg)
  have n1_ := ak (Kd.V_afterv (ok := (fun k_ => ((P4_ k_ ∨ P6_ k_) ∨ w.heap.size ≤ k_) ∧ some k_ ≠ (.slice (some ⟨aE, 0, none⟩) aq.length aP : Value).ownBlock ∧ some k_ ≠ (.slice ct aJ.length cu : Value).ownBlock ∧ k_ ≠ ai ∧ k_ ≠ ah ∧ k_ ≠ ac)) (by exact Kd.V_mono aj.out (fun _ hk => ⟨⟨hk.1, ⟨hk.2.2.2.1, ⟨hk.2.2.1, ⟨hk.2.2.2.2.1, ⟨hk.2.2.2.2.2.1, hk.2.2.2.2.2.2⟩⟩⟩⟩⟩, hk.2.1⟩)) hg hat)
  have n2_ := ak (qZg (bk ae) hg (Kd.R_ne aZ.out ae.out (by decide)))
  have n3_ := ak (qZg (bk af) hg (Kd.R_ne aZ.out af.out (by decide)))
  have n4_ := ak (qZg (bk ad) hg (Kd.R_ne aZ.out ad.out (by decide)))
  have n5_ := ak (Kd.V_afterv (ok := (fun k_ => ((P4_ k_ ∨ P6_ k_) ∨ w.heap.size ≤ k_) ∧ some k_ ≠ (.slice (some ⟨aE, 0, none⟩) aq.length aP : Value).ownBlock ∧ some k_ ≠ (.slice ct aJ.length cu : Value).ownBlock ∧ k_ ≠ ai ∧ k_ ≠ ah ∧ k_ ≠ ac)) (by exact Kd.V_mono ap.out (fun _ hk => ⟨⟨hk.1, ⟨hk.2.2.2.1, ⟨hk.2.2.1, ⟨hk.2.2.2.2.1, ⟨hk.2.2.2.2.2.1, hk.2.2.2.2.2.2⟩⟩⟩⟩⟩, hk.2.1⟩)) hg hat)
  have n6_ := ak (Kd.R_after (ok := (fun k_ => (P4_ k_ ∨ w.heap.size ≤ k_))) (rk az) hg hat)
  have n7_ := ak (hb)
  have n8_ := ak (Kept.of_grown (S := (fun k_ => P4_ k_)) hg (by repeat ((with_reducible exact HK.out))) (fun k_ e_ => (aZ.out.1 k_ e_).1))
  have n9_ := ak (ho)
  clear ag
  clear aj
  clear ae
  clear af
  clear ad
  clear ap
  clear az
  clear HB
  clear HK
  clear aZ
  have ag := n0_
  have aj := n1_
  have ae := n2_
  have af := n3_
  have ad := n4_
  have ap := n5_
  have az := n6_
  have HB := n7_
  have HK := n8_
  have bz := n9_
  clear n0_ n1_ n2_ n3_ n4_ n5_ n6_ n7_ n8_ n9_
  clear ho hb hg hat
  obtain ⟨cC, cD, hv⟩ := Kd.R_slice bz.out
  (subst hv)
  refine hK.out _ _ ⟨(qZb ae.out 0).trans rfl, (qZb ae.out 1).trans rfl, (qZb ad.out 0).trans rfl, (qZb ad.out 1).trans rfl, (qZb ad.out 2).trans rfl, (qZb ad.out 3).trans rfl, (qZb ad.out 4).trans rfl, (qZb af.out 0).trans rfl, (qZb af.out 1).trans rfl⟩ (fun hHeld => ?_)
  clear hK K
  refine qJc (a' := ?_) ?_ ?_
  rotate_left
  ·show Act.put _ (some 89) _ = _
   simp only [SX]
   rfl
  refine pu 18 95 ?_ (ms 22 1048575) rfl rfl HT_ (by kernel_rfl) (fun _ _ _ h => h) (by rfl) ?_ ?_ ?_ ?_
  rotate_left
  ·intro w'
   go_simp
   with_reducible rfl
  rotate_left
  ·simp only [SX]
   rfl
  refine one_ (i := 20) (N := some 97) (ms 22 2097151) rfl rfl (qJb HT_.out (by kernel_rfl)) (by decide) (fun K hK => ?_)
  refine qXg Try.func90 (by kernel_rfl) rfl #[.agg #[.int .i64 aw, .slice (some aN) ab.length aV], .int .i64 a1, .int .i64 a2, .int .i64 ((qZa ab aa).f1), .slice (some ⟨aE, 0, none⟩) aq.length aP, .agg #[.slice cC cr.length cD, .int .i64 (wrap64 (av + ((qZa ab aa).f2)))], .slice (some bx) ax.length dF] (by rfl) rfl rfl (by (try simp only [List.map_toArray, List.map_cons, List.map_nil]); rfl) ?_
  with_reducible refine (ih k1 (by have := HK1.out; omega) aw _ _ ab a1 a2 ((qZa ab aa).f1) (fun k_ => some k_ = (.slice (some ⟨aE, 0, none⟩) aq.length aP : Value).ownBlock) (.slice (some ⟨aE, 0, none⟩) aq.length aP) cq _ _ cr (wrap64 (av + ((qZa ab aa).f2))) (fun k_ => ((((P4_ k_ ∨ P6_ k_) ∨ w.heap.size ≤ k_) ∧ (some k_ ≠ (.slice (some ⟨aE, 0, none⟩) aq.length aP : Value).ownBlock ∧ (some k_ ≠ (.slice ct aJ.length cu : Value).ownBlock ∧ (k_ ≠ ai ∧ (k_ ≠ ah ∧ k_ ≠ ac))))) ∧ some k_ ≠ (.slice cC cr.length cD : Value).ownBlock)) _ _ ax dD eH w0 _ ?side1 ?side2 ?side3 ?side4 ?side5 ?side6 ?side7 A55.out).mono ?_
  (case side1 => repeat ((with_reducible exact HB.out)))
  (case side2 => exact Kd.C_kept_call bX.out (by repeat ((with_reducible exact HK.out))) (fun k_ hs_ => (fun e_ => (ag.out.1 k_ e_.symm)) hs_))
  (case side3 => exact dq.out)
  (case side4 => exact Kd.R_tight rfl ag.out)
  (case side5 => exact Kd.C_kept_own ((Kd.R_apart' bz.out (Kd.R_typed ag.out) (by decide))) (fun k_ hk_ hs_ => (hk_.2) hs_))
  (case side6 => exact (Kd.R_reads' bz.out).2.1)
  (case side7 => exact Kd.V_mono (aj.out) (fun k_ hk_ => ⟨hk_, hk_.1.2.1⟩))
  rintro e w80 ⟨iI, rfl, ho0, hy0, hb, hkp⟩
  refine ⟨_, rfl, ?_⟩
  have n0_ := ak (Kd.R_reok rfl hy0 (fun k_ e_ => ag.out.1 k_ e_))
  have n1_ := ak (Kd.V_mono (ok' := fun k_ => ((P4_ k_ ∨ P6_ k_) ∨ w.heap.size ≤ k_) ∧ some k_ ≠ (.slice (some ⟨aE, 0, none⟩) aq.length aP : Value).ownBlock ∧ some k_ ≠ (.slice ct aJ.length cu : Value).ownBlock ∧ some k_ ≠ (.slice cC cr.length cD : Value).ownBlock ∧ k_ ≠ ai ∧ k_ ≠ ah ∧ k_ ≠ ac) (Kd.V_keptB (aj.out) hkp (fun k_ hk_ hs_ => (hk_.1.2.1) hs_)) (fun k_ hk_ => ⟨hk_.1.1.1, hk_.1.1.2.1, hk_.1.1.2.2.1, hk_.1.2, hk_.1.1.2.2.2.1, hk_.1.1.2.2.2.2.1, hk_.1.1.2.2.2.2.2⟩))
  have n2_ := ak (qVf (bk ae) hkp (fun hs_ => (fun e_ => (Kd.R_ne ag.out ae.out (by decide)) e_) hs_))
  have n3_ := ak (qVf (bk af) hkp (fun hs_ => (fun e_ => (Kd.R_ne ag.out af.out (by decide)) e_) hs_))
  have n4_ := ak (qVf (bk ad) hkp (fun hs_ => (fun e_ => (Kd.R_ne ag.out ad.out (by decide)) e_) hs_))
  have n5_ := ak (Kd.R_mono (ok' := fun k_ => (P4_ k_ ∨ w.heap.size ≤ k_) ∧ some k_ ≠ (.slice cC cr.length cD : Value).ownBlock) (Kd.R_keptB ((Kd.R_apart' az.out (Kd.R_typed ag.out) (by decide))) hkp (fun k_ hk_ hs_ => (hk_.2) hs_)) (fun k_ hk_ => ⟨hk_.1.1.1, hk_.1.1.2⟩))
  have n6_ := ak (Kd.R_mono (ok' := fun k_ => (P4_ k_ ∨ w.heap.size ≤ k_) ∧ some k_ ≠ (.slice ct aJ.length cu : Value).ownBlock) (Kd.R_keptB ((Kd.R_apart' bz.out (Kd.R_typed ag.out) (by decide))) hkp (fun k_ hk_ hs_ => (hk_.2) hs_)) (fun k_ hk_ => ⟨hk_.1.1.1, hk_.1.1.2⟩))
  have n7_ := ak (Kd.V_mono (ok' := fun k_ => ((P4_ k_ ∨ P6_ k_) ∨ w.heap.size ≤ k_) ∧ some k_ ≠ (.slice ct aJ.length cu : Value).ownBlock ∧ some k_ ≠ (.slice cC cr.length cD : Value).ownBlock ∧ some k_ ≠ (.slice (some ⟨aE, 0, none⟩) aq.length aP : Value).ownBlock ∧ k_ ≠ ai ∧ k_ ≠ ah ∧ k_ ≠ ac) ho0 (fun k_ hk_ => ⟨Or.elim hk_.1 (fun hs_ => Or.elim hs_ (fun hs_ => (Or.imp_left (fun h_ => (.inl h_)) ((ag.out.1 k_ (hs_).symm)))) (fun hs_ => hs_.1.1)) (fun hn_ => (.inr (Nat.le_trans (by exact HK.out.1) hn_))), Or.elim hk_.1 (fun hs_ => Or.elim hs_ (fun hs_ => fun e_ => ((((Kd.R_apart' az.out (Kd.R_typed ag.out) (by decide))).1 k_ e_.symm).2) hs_) (fun hs_ => hs_.1.2.2.1)) (fun hn_ => (Kd.fresh' (Kd.R_lt (rk az)) k_ hn_)), Or.elim hk_.1 (fun hs_ => Or.elim hs_ (fun hs_ => fun e_ => ((((Kd.R_apart' bz.out (Kd.R_typed ag.out) (by decide))).1 k_ e_.symm).2) hs_) (fun hs_ => hs_.2)) (fun hn_ => (Kd.fresh' (Kd.R_lt (rk bz)) k_ hn_)), hk_.2, Or.elim hk_.1 (fun hs_ => Or.elim hs_ (fun hs_ => fun e_ => (Kd.R_ne ag.out ae.out (by decide)) (by rw [← e_]; exact hs_)) (fun hs_ => hs_.1.2.2.2.1)) (fun hn_ => (Kd.freshB (bk ae) k_ hn_)), Or.elim hk_.1 (fun hs_ => Or.elim hs_ (fun hs_ => fun e_ => (Kd.R_ne ag.out af.out (by decide)) (by rw [← e_]; exact hs_)) (fun hs_ => hs_.1.2.2.2.2.1)) (fun hn_ => (Kd.freshB (bk af) k_ hn_)), Or.elim hk_.1 (fun hs_ => Or.elim hs_ (fun hs_ => fun e_ => (Kd.R_ne ag.out ad.out (by decide)) (by rw [← e_]; exact hs_)) (fun hs_ => hs_.1.2.2.2.2.2)) (fun hn_ => (Kd.freshB (bk ad) k_ hn_))⟩))
  have n8_ := ak (Kept.then_ (S := (fun k_ => P4_ k_)) (by repeat ((with_reducible exact HK.out))) hkp (fun k_ hs_ => (fun e_ => (ag.out.1 k_ e_.symm)) hs_))
  have n9_ := ak (hb)
  clear ag
  clear aj
  clear ae
  clear af
  clear ad
  clear az
  clear bz
  clear HK
  clear HB
  clear ap
  have ag := n0_
  have aj := n1_
  have ae := n2_
  have af := n3_
  have ad := n4_
  have az := n5_
  have bz := n6_
  have dj := n7_
  have HK := n8_
  have HB := n9_
  clear n0_ n1_ n2_ n3_ n4_ n5_ n6_ n7_ n8_ n9_
  (try clear hb)
  (try clear hkp)
  (try clear ho0)
  (try clear hy0)
  refine hK.out _ _ ⟨(qZb ae.out 0).trans rfl, (qZb ae.out 1).trans rfl, (qZb ad.out 0).trans rfl, (qZb ad.out 1).trans rfl, (qZb ad.out 2).trans rfl, (qZb ad.out 3).trans rfl, (qZb ad.out 4).trans rfl, (qZb af.out 0).trans rfl, (qZb af.out 1).trans rfl⟩ (fun hHeld => ?_)
  clear hK K
  refine qJc (a' := ?_) ?_ ?_
  rotate_left
  ·show Act.put _ (some 97) _ = _
   simp only [SX]
   rfl
  refine pu 21 6 ?_ (ms 22 4194303) rfl rfl HT_ (by kernel_rfl) (fun _ _ _ h => h) (by rfl) ?_ ?_ ?_ ?_
  rotate_left
  ·intro w'
   go_simp
   with_reducible rfl
  rotate_left
  ·simp only [SX]
   rfl
  refine qXc (qQp HT_.out (by kernel_rfl)) ?_
  have gq := bc w80 ad 0 (.int .i64 ((qZa ab aa).f0)) rfl
  have gr := bc w80 ad 1 (.int .i64 ((qZa ab aa).f1)) rfl
  have gs := bc w80 ad 2 (.int .i64 ((qZa ab aa).f2)) rfl
  have gt := bc w80 ad 3 (.int .i64 ((qZa ab aa).f3)) rfl
  have gu := bc w80 ad 4 (.int .i64 ((qZa ab aa).f4)) rfl
  have gv := fz ad 0
  have gw := fz ad 1
  have gx := fz ad 2
  have gy := fz ad 3
  have gz := fz ad 4
  have p56 : 0 ≤ (((qZa ab aa).f1) : Int) := oT (by (with_reducible assumption))
  have q56 : (((qZa ab aa).f1) : Int) < ((aq.length : Int) : Int) := oT (by (with_reducible assumption))
  obtain ⟨hx, hy⟩ := Kd.R_celln false ag.out (((qZa ab aa).f1) : Int) p56 q56
  replace p56 := eq_true p56
  replace q56 := eq_true q56
  obtain ⟨id, ie⟩ := Kd.R_celln false ag.out (((qZa ab aa).f1) : Int) (oT (by (with_reducible assumption))) (oT (by (with_reducible assumption)))
  have dH := Kd.R_putg ag.out (((qZa ab aa).f1) : Int) false
  try go_wp2_with (((with_reducible refine qVk (t := 4) (p := 101) rfl ?_); refine qVb (t := 4) (p := 101) (v := ?vo_w83) (w1 := (w80.setCell ⟨aE, (((qZa ab aa).f1) : Int).toNat, none⟩ (.bool false))) ?hg ?ho ?hn ?hr ?_; (case ho => rfl); (case hg => rfl); (case hn => rfl); (case hr => (go_simp; done)); intro w83 hw; have hg : w80.grownBy w83 (some aE) := (by rw [hw]; exact dH.2); have hp_ : Kd.R Kd.bool 4 w83 w0.heap.size (fun k_ => (P4_ k_ ∨ w.heap.size ≤ k_)) (.slice (some ⟨aE, 0, none⟩) aq.length aP) dE := (by rw [hw, eJ.out]; exact dH.1); clear dH; replace aj := ak (Kd.V_afterv (v := (.slice (some ⟨aE, 0, none⟩) aq.length aP)) (v1 := (.slice (some ⟨aE, 0, none⟩) aq.length aP)) (ok := (fun k_ => ((P4_ k_ ∨ P6_ k_) ∨ w.heap.size ≤ k_) ∧ some k_ ≠ (.slice ct aJ.length cu : Value).ownBlock ∧ some k_ ≠ (.slice cC cr.length cD : Value).ownBlock ∧ k_ ≠ ai ∧ k_ ≠ ah ∧ k_ ≠ ac)) (by exact Kd.V_mono aj.out (fun _ hk => ⟨⟨hk.1, ⟨hk.2.2.1, ⟨hk.2.2.2.1, ⟨hk.2.2.2.2.1, ⟨hk.2.2.2.2.2.1, hk.2.2.2.2.2.2⟩⟩⟩⟩⟩, hk.2.1⟩)) hg (.inl rfl)); replace ae := ak (qZg (bk ae) hg (Kd.R_ne ag.out ae.out (by decide))); replace af := ak (qZg (bk af) hg (Kd.R_ne ag.out af.out (by decide))); replace ad := ak (qZg (bk ad) hg (Kd.R_ne ag.out ad.out (by decide))); replace az := ak (Kd.R_over' (v := (.slice (some ⟨aE, 0, none⟩) aq.length aP)) (rk az) (Kd.R_typed ag.out) (by decide) hg); replace bz := ak (Kd.R_over' (v := (.slice (some ⟨aE, 0, none⟩) aq.length aP)) (rk bz) (Kd.R_typed ag.out) (by decide) hg); replace dj := ak (Kd.V_afterv (v := (.slice (some ⟨aE, 0, none⟩) aq.length aP)) (v1 := (.slice (some ⟨aE, 0, none⟩) aq.length aP)) (ok := (fun k_ => ((P4_ k_ ∨ P6_ k_) ∨ w.heap.size ≤ k_) ∧ some k_ ≠ (.slice ct aJ.length cu : Value).ownBlock ∧ some k_ ≠ (.slice cC cr.length cD : Value).ownBlock ∧ k_ ≠ ai ∧ k_ ≠ ah ∧ k_ ≠ ac)) (by exact Kd.V_mono dj.out (fun _ hk => ⟨⟨hk.1, ⟨hk.2.1, ⟨hk.2.2.1, ⟨hk.2.2.2.2.1, ⟨hk.2.2.2.2.2.1, hk.2.2.2.2.2.2⟩⟩⟩⟩⟩, hk.2.2.2.1⟩)) hg (.inl rfl)); replace HB := ak ((by rw [hw]; exact below_set (HB.out) eM.out : Below w0.heap.size w0 w83)); replace HK := ak (Kept.of_grown (S := (fun k_ => P4_ k_)) hg (by repeat ((with_reducible exact HK.out))) (fun k_ e_ => (ag.out.1 k_ e_))); replace ag := ak (hp_); clear hg hw hp_))
  go_roundg k1
  case measure => have := HK1.out; omega
  case rel => exact ⟨(dE), (dD), (wrap64 (aa + 1)), (by rfl), H', ⟨by have := HK1.out; omega⟩, ⟨rk ag⟩, ⟨by exact Kd.V_mono dj.out (fun _ hk => ⟨hk.1.1, ⟨hk.2, ⟨hk.1.2.2.2.1, hk.1.2.2.2.2.1⟩⟩⟩)⟩, ⟨bk ae⟩, ⟨bk af⟩, ⟨by repeat ((with_reducible exact HK.out))⟩, ⟨bl3 HB an ao ar⟩⟩
/-! ### spec_l14Some: function 55 -/
def spec_l14Some.l0 : Nat → List (S103) → List (List Int) → Int → Option ((List (List Int)))
 | 0, _, _, _ => none
 | k + 1, x10, x11, x12 => if x12 < (x10.length : Int) then (if 0 ≤ x12 then (if x11.length < 5864062014805 then (spec_l14Some.l0 k x10 (x11 ++ [(qQg x10 x12).f0]) (wrap64 (x12 + 1))) else (none)) else (none)) else (some x11)
def spec_l14Some.f (k : Nat) (ad : Int) (ah : List (S58)) (a1 : Int) (a2 : Int) (a3 : Int) : Option ((List (List Int))) := if 0 ≤ ad then (if (ad : Int).toNat ≤ 281474976710656 then ((some (List.replicate (ad : Int).toNat false : List Bool)).bind fun ag => (if 0 ≤ a1 then (if a1 < (ag.length : Int) then ((spec_l14Go.f k ad ah a2 a3 a1 (ag.set (a1 : Int).toNat true) ([] : List Int) 0 ([] : List (S103))).bind fun an => (spec_l14Some.l0 k an.1 (([] : List (List Int))) 0)) else (none)) else (none))) else (none)) else (none)
theorem spec_l14Some.mono_l : ∀ k, (∀ y0 y1 y2, LeO (spec_l14Some.l0 k y0 y1 y2) (spec_l14Some.l0 (k + 1) y0 y1 y2))
 | 0 => fun _ _ _ r h => by simp [spec_l14Some.l0] at h
 | k + 1 => by
  have ih0 := spec_l14Some.mono_l k
  ·intro y0 y1 y2
   unfold spec_l14Some.l0
   repeat' first | (with_reducible exact ih0 _ _ _) | (with_reducible exact LeO.refl _) | (with_reducible refine LeO.ite ?_ ?_)
theorem spec_l14Some.mono : ∀ a0 a1 a2 a3 a4 k, LeO (spec_l14Some.f k a0 a1 a2 a3 a4) (spec_l14Some.f (k + 1) a0 a1 a2 a3 a4) := by
 intro a0 a1 a2 a3 a4 k
 have ih0 := spec_l14Some.mono_l k
 unfold spec_l14Some.f
 repeat' first | (with_reducible exact ih0 _ _ _) | (with_reducible exact spec_l14Go.mono _ _ _ _ _ _ _ _ _ _) | (with_reducible exact LeO.refl _) | (with_reducible refine LeO.ite ?_ ?_) | (with_reducible refine LeO.bind ?_ (fun _ => ?_))
set_option maxHeartbeats 8000000 in
set_option maxRecDepth 100000 in
theorem spec_l14Some.calls (k : Nat) (ad : Int) (ar : Option Addr) (au : Nat) (ah : List (S58)) (a1 : Int) (a2 : Int) (a3 : Int) (r : List (List Int)) (w : World) (aW : Kd.C k58 w ar ah.length ah) (aX : ah.length ≤ au) (h : spec_l14Some.f k ad ah a1 a2 a3 = some r) :
  Calls Try.prog 55 #[.agg #[.int .i64 ad, .slice ar ah.length au], .int .i64 a1, .int .i64 a2, .int .i64 a3] w fun e w' => ∃ v0_ : Value, e = .returned (v0_) ∧ Kd.N (Kd.slice 3 (Kd.int .i64)) 33 w' w.heap.size (fun k_ => (w.heap.size ≤ k_)) v0_ r ∧ Below w.heap.size w w' := by
 have bP := Try.underlying25
 have bI := Try.underlying103
 have bg := ak aW
 have bh := ak aX
 clear aW aX
 have HB := ak (Below.refl w.heap.size w)
 have H : (if 0 ≤ ad then (if (ad : Int).toNat ≤ 281474976710656 then ((some (List.replicate (ad : Int).toNat false : List Bool)).bind fun ag => (if 0 ≤ a1 then (if a1 < (ag.length : Int) then ((spec_l14Go.f k ad ah a2 a3 a1 (ag.set (a1 : Int).toNat true) ([] : List Int) 0 ([] : List (S103))).bind fun an => (spec_l14Some.l0 k an.1 (([] : List (List Int))) 0)) else (none)) else (none))) else (none)) else (none)) = some r := h
 clear h
 by_cases c5 : 0 ≤ ad
 rotate_left
 ·rw [if_neg c5] at H
  exact absurd H (by simp)
 rw [if_pos c5] at H
 have c5b0 := eq_true c5
 have c5b1 : decide (0 ≤ ad) = true := decide_eq_true c5
 clear c5
 by_cases c6 : (ad : Int).toNat ≤ 281474976710656
 rotate_left
 ·rw [if_neg c6] at H
  exact absurd H (by simp)
 rw [if_pos c6] at H
 have c6b0 := eq_true c6
 have c6b1 : decide ((ad : Int).toNat ≤ 281474976710656) = true := decide_eq_true c6
 clear c6
 obtain ⟨ag, ay⟩ : ∃ y_ : List Bool, y_ = (List.replicate (ad : Int).toNat false) := ⟨_, rfl⟩
 replace H : (if 0 ≤ a1 then (if a1 < (ag.length : Int) then ((spec_l14Go.f k ad ah a2 a3 a1 (ag.set (a1 : Int).toNat true) ([] : List Int) 0 ([] : List (S103))).bind fun an => (spec_l14Some.l0 k an.1 (([] : List (List Int))) 0)) else (none)) else (none)) = some r := by (have H2_ := (Option.bind_some _ _).symm.trans H; rw [ay]; with_reducible exact H2_)
 have bi := ak ay
 clear ay
 by_cases c7 : 0 ≤ a1
 rotate_left
 ·rw [if_neg c7] at H
  exact absurd H (by simp)
 rw [if_pos c7] at H
 have c7b0 : decide (0 ≤ a1) = true := decide_eq_true c7
 clear c7
 by_cases c8 : a1 < (ag.length : Int)
 rotate_left
 ·rw [if_neg c8] at H
  exact absurd H (by simp)
 rw [if_pos c8] at H
 have c8b0 : decide (a1 < (ag.length : Int)) = true := decide_eq_true c8
 clear c8
 obtain ⟨aY, az⟩ : ∃ y_ : List Bool, y_ = (ag.set (a1 : Int).toNat true) := ⟨_, rfl⟩
 replace H : ((spec_l14Go.f k ad ah a2 a3 a1 aY ([] : List Int) 0 ([] : List (S103))).bind fun an => (spec_l14Some.l0 k an.1 (([] : List (List Int))) 0)) = some r := by (rw [az]; with_reducible exact H)
 have bj := ak az
 clear az
 replace H := Option.bind_eq_some_iff.mp H
 obtain ⟨⟨aj, bC⟩, bm, H⟩ := H
 have A10 := ak bm
 clear bm
 obtain ⟨bn, aA⟩ : ∃ y_ : List (List Int), y_ = (([] : List (List Int))) := ⟨_, rfl⟩
 replace H : (spec_l14Some.l0 k aj bn 0) = some r := by (rw [aA]; with_reducible exact H)
 have bo := ak aA
 clear aA
 have H' := ak H
 clear H
 go_enter Try.func55, Try.ntmps55
 go_wp2_with (first | ((with_reducible refine gate_dst (N := 4) rfl ?_); refine qZj ?hg (N := 4) ?hd (cs := #[.int .i64 ad, .slice ar ah.length au]) (t := 25) ?hr ?_; (case hd => rfl); (case hg => rfl); (case hr => (go_simp; done)); intro ae hg w11 hbox hb; have aa := ak (hbox); have bJ := ak ((by rw [hg]; exact (qZc (bl HB)) : w.heap.size ≤ ae)); have af := ak ((by rw [hg]; exact (qZc (bl HB)) : w.heap.size ≤ ae)); replace HB := ak (qZd (bl HB) hb); clear hb hbox hg; have aG := bc w11 aa 0 (.int .i64 ad) rfl; have aH := bc w11 aa 1 (.slice ar ah.length au) rfl; have aI := fz aa 0; have aJ := fz aa 1) | ((with_reducible refine gate_dst (N := 15) rfl ?_); refine Kd.R_make Kd.bool _ 4 rfl (N := 15) rfl 99 _ _ rfl ad rfl rfl Try.underlying99 (.bool false) 1 info4 rfl (by decide) (by omega) false (ok := fun _ => True) (okp := fun _ => True) rfl (fun _ hk => hk) trivial (oT (by (with_reducible assumption))) (Nat.le_trans (Nat.mul_le_mul_right _ (oT (by (with_reducible assumption)) : ad.toNat ≤ 281474976710656)) (by omega)) (Below.refl _ _) (Nat.le_refl _) ?_; intro bQ w13 aZ hb hg_ hnew_; clear hg_ hnew_; (rw [← bi.out] at aZ); have ab := ak (Kd.R_lower (Kd.R_newM (M := fun k_ => (w.heap.size ≤ k_)) aZ (qZc (bl1 HB af)) (fun k_ h_ => h_)) (qZc (bl1 HB af))); replace aa := ak (qZe (bk aa) hb); replace HB := ak (qZd (bl1 HB af) hb); clear hb aZ; have p9 : 0 ≤ (a1 : Int) := oT (by (with_reducible assumption)); have q9 : (a1 : Int) < ((ag.length : Int) : Int) := oT (by (with_reducible assumption)); obtain ⟨go9, co9, eo9, gb9, gl9, cl9, HG9⟩ := Kd.R_form ab.out (by omega); (cases eo9); have GB9 := ak gb9; have GG9 := ak HG9; clear gb9 gl9 HG9; obtain ⟨bp, bK⟩ := Kd.R_celln false ab.out (a1 : Int) p9 q9; replace p9 := eq_true p9; replace q9 := eq_true q9; have n_ := ak (Kd.R_mono (ok' := (fun k_ => (w.heap.size ≤ k_))) ab.out (fun k_ hk => hk.1)); clear ab; have ab := n_; clear n_; obtain ⟨bL, bM⟩ := Kd.R_celln false ab.out (a1 : Int) (oT (by (with_reducible assumption))) (oT (by (with_reducible assumption))); have ba := Kd.R_putg ab.out (a1 : Int) true) | ((with_reducible refine qVk (t := 4) (p := 18) rfl ?_); refine qVb (t := 4) (p := 18) (v := ?vo_w16) (w1 := (w13.setCell ⟨go9, (a1 : Int).toNat, none⟩ (.bool true))) ?hg ?ho ?hn ?hr ?_; (case ho => rfl); (case hg => rfl); (case hn => rfl); (case hr => (go_simp; done)); intro w16 hw; have hg : w13.grownBy w16 (some go9) := (by rw [hw]; exact ba.2); have hp_ : Kd.R Kd.bool 4 w16 w.heap.size (fun k_ => (w.heap.size ≤ k_)) (.slice (some ⟨go9, 0, none⟩) ag.length co9) aY := (by rw [hw, bj.out]; exact ba.1); clear ba; replace aa := ak (qZg (bk aa) hg (Kd.R_ne ab.out aa.out (by decide))); replace ab := ak (hp_); replace HB := ak ((by rw [hw]; exact below_set (HB.out) GB9.out : Below w.heap.size w w16)); clear hg hw hp_; have aK := bc w16 aa 0 (.int .i64 ad) rfl; have aM := bc w16 aa 1 (.slice ar ah.length au) rfl; have aN := fz aa 0; have aQ := fz aa 1) | ((with_reducible refine gate_callee (f := 90) rfl ?_); refine qQj (some 25) rfl rfl Try.func90 (by kernel_rfl) rfl #[.agg #[.int .i64 ad, .slice ar ah.length au], .int .i64 a2, .int .i64 a3, .int .i64 a1, .slice (some ⟨go9, 0, none⟩) ag.length co9, .agg #[.slice none 0 0, .int .i64 0], .slice none 0 0] rfl (by (try simp only [List.map_toArray, List.map_cons, List.map_nil]); rfl) ?_; (refine (spec_l14Go.calls k ad _ _ ah a2 a3 a1 (fun k_ => some k_ = (.slice (some ⟨go9, 0, none⟩) ag.length co9 : Value).ownBlock) (.slice (some ⟨go9, 0, none⟩) ag.length co9) aY _ _ ([] : List Int) 0 (fun k_ => False) _ _ ([] : List (S103)) aj bC w _ ?side1 ?side2 ?side3 ?side4 ?side5 ?side6 ?side7 A10.out).mono ?_); (case side1 => repeat ((with_reducible exact HB.out))); (case side2 => exact Kd.C_kept_came k58_heap bg.out (bl1 HB af) (fun k_ hs_ => (fun e_ => Kd.R_base ab.out k_ e_.symm) hs_)); (case side3 => exact bh.out); (case side4 => exact Kd.R_tight rfl ab.out); (case side5 => exact Kd.C_kept_nil); (case side6 => exact Nat.le_refl _); (case side7 => exact Kd.V_nil _ _ _ _ _); rintro e w18 ⟨bD, rfl, ho0, hy0, hb, hkp⟩; refine ⟨_, rfl, ?_⟩; have aC := ak (Kd.V_mono (ok' := fun k_ => (w.heap.size ≤ k_) ∧ some k_ ≠ (.slice (some ⟨go9, 0, none⟩) ag.length co9 : Value).ownBlock ∧ k_ ≠ ae) ho0 (fun k_ hk_ => ⟨Or.elim hk_.1 (fun hs_ => Or.elim hs_ (fun hs_ => (ab.out.1 k_ (hs_).symm)) (fun hs_ => (hs_).elim)) (fun hn_ => (Nat.le_trans (qZc (bl1 HB af)) hn_)), hk_.2, Or.elim hk_.1 (fun hs_ => Or.elim hs_ (fun hs_ => fun e_ => (Kd.R_ne ab.out aa.out (by decide)) (by rw [← e_]; exact hs_)) (fun hs_ => (hs_).elim)) (fun hn_ => (Kd.freshB (bk aa) k_ hn_))⟩)); replace aa := ak (qVf (bk aa) hkp (fun hs_ => (fun e_ => (Kd.R_ne ab.out aa.out (by decide)) e_) hs_)); replace ab := ak (Kd.R_reok rfl hy0 (fun k_ e_ => ab.out.1 k_ e_)); replace HB := ak (hb); (try clear hb); (try clear hkp); (try clear ho0); (try clear hy0)) | ((with_reducible refine gate_dst (N := 26) rfl ?_); refine Kd.N_lit (Kd.slice 3 (Kd.int .i64)) _ 33 ?hg (N' := 26) ?hd (xs := ([] : List (List Int))) (inner := []) (ok := (fun k_ => (w.heap.size ≤ k_) ∧ some k_ ≠ (.slice (some ⟨go9, 0, none⟩) ag.length co9 : Value).ownBlock ∧ k_ ≠ ae)) (okp := (fun k_ => (w.heap.size ≤ k_) ∧ some k_ ≠ (.slice (some ⟨go9, 0, none⟩) ag.length co9 : Value).ownBlock ∧ k_ ≠ ae)) ?hr ?hp (fun _ hk => hk) ((show ∀ k_, w18.heap.size ≤ k_ → (fun k_ => (w.heap.size ≤ k_) ∧ some k_ ≠ (.slice (some ⟨go9, 0, none⟩) ag.length co9 : Value).ownBlock ∧ k_ ≠ ae) k_ from fun k_ hk => ⟨(Nat.le_trans (qZc (bl1 HB af)) hk), Kd.fresh' (Kd.R_lt (rk ab)) k_ hk, Kd.freshB (bk aa) k_ hk⟩) _ (Nat.le_refl _)) (Below.refl _ _) (Nat.le_refl _) (by simp) ?_; (case hd => rfl); (case hg => rfl); (case hr => (go_simp; done)); (case hp => exact (Reps.none _ _)); intro bR w19 aR hb hg_ hnew_; clear hg_ hnew_; (rw [← bo.out] at aR); replace ab := ak (Kd.R_below (rk ab) hb); replace aC := ak (Kd.V_elder' (by exact aC.out) (Kd.N_base aR) hb); have bq := ak (Kd.N_lower aR (qZc (bl1 HB af))); replace aa := ak (qZe (bk aa) hb); replace HB := ak (qZd (bl1 HB af) hb); clear hb aR))
 go_loopg [11, 12] k (fun kq v11 v12 w' => ∃ (ao : List (List Int)) (ac : Int), v12 = .int .i64 ac ∧ Aside0 (spec_l14Some.l0 kq aj ao ac = some r) ∧ Aside0 (kq ≤ k) ∧ Aside0 (Kd.V k103 103 w' w.heap.size (fun k_ => (w.heap.size ≤ k_) ∧ some k_ ≠ (v11 : Value).ownBlock ∧ k_ ≠ ae) bD aj) ∧ Aside0 (Kd.N (Kd.slice 3 (Kd.int .i64)) 33 w' w.heap.size (fun k_ => (w.heap.size ≤ k_) ∧ k_ ≠ ae) v11 ao) ∧ Aside0 (w'.heap[ae]? = some (.cells #[.int .i64 ad, (.slice ar ah.length au)] 25 (0, 0))) ∧ Aside0 (Below w.heap.size w w'))
 case atStart => exact ⟨(bn), (0), (by rfl), H', ⟨Nat.le_refl _⟩, ⟨by exact Kd.V_mono aC.out (fun _ hk => ⟨hk.1.1, ⟨hk.2, hk.1.2.2⟩⟩)⟩, ⟨by exact Kd.N_mono bq.out (fun _ hk => ⟨hk.1, hk.2.2⟩)⟩, ⟨bk aa⟩, ⟨bl1 HB af⟩⟩
 clear H'
 try clear p2
 try clear c5
 try clear c5b0
 try clear c5b1
 try clear c6
 try clear c6b0
 try clear c6b1
 try clear c7
 try clear c7b0
 try clear c8
 try clear c8b0
 try clear c9
 try clear p9
 try clear q9
 try clear hx9
 try clear hf9
 try clear aG
 try clear aH
 try clear aK
 try clear aM
 try clear aI
 try clear aJ
 try clear aN
 try clear aQ
 try clear bp
 try clear p9
 try clear q9
 obtain ⟨ao, ac, rfl, HA, HK1, al, av, aa, HB⟩ := hrel
 cases gk with
 | zero => exact absurd HA.out (by simp [spec_l14Some.l0])
 | succ k1 =>
  have H := HA.out
  clear HA
  simp only [spec_l14Some.l0] at H
  by_cases c21 : ac < (aj.length : Int)
  rotate_left
  ·rw [if_neg c21] at H
   have c21b0 : decide (ac < (aj.length : Int)) = false := decide_eq_false c21
   clear c21
   obtain rfl := Option.some.inj H
   obtain ⟨bS, bU, bE⟩ := Kd.V_slice al.out
   subst bE
   go_wp2
   go_ret
   exact ⟨_, by rfl, by exact Kd.N_mono av.out (fun _ hk => hk.1), bl1 HB af⟩
  rw [if_pos c21] at H
  have c21b0 : decide (ac < (aj.length : Int)) = true := decide_eq_true c21
  clear c21
  by_cases c22 : 0 ≤ ac
  rotate_left
  ·rw [if_neg c22] at H
   exact absurd H (by simp)
  rw [if_pos c22] at H
  have c22b0 : decide (0 ≤ ac) = true := decide_eq_true c22
  clear c22
  by_cases c23 : ao.length < 5864062014805
  rotate_left
  ·rw [if_neg c23] at H
   exact absurd H (by simp)
  rw [if_pos c23] at H
  have br := ak c23
  clear c23
  obtain ⟨bs, aD⟩ : ∃ y_ : List (List Int), y_ = (ao ++ [(qQg aj ac).f0]) := ⟨_, rfl⟩
  replace H : (spec_l14Some.l0 k1 aj bs (wrap64 (ac + 1))) = some r := by (rw [aD]; with_reducible exact H)
  have bu := ak aD
  clear aD
  have H' := ak H
  clear H
  obtain ⟨bV, bW, bG⟩ := Kd.V_slice al.out
  subst bG
  have aT : 0 ≤ (ac : Int) := oT (by (with_reducible assumption))
  have aU : ac < (aj.length : Int) := oT (by (with_reducible assumption))
  obtain ⟨bN, bb, bd, bH, aV, bw, aw, ax⟩ := qYc (Kd.V_reads' al.out).2.2 ac aT aU
  cases bH
  obtain ⟨bO, be, bf, aE⟩ := Kd.V_get al.out z103 ac aT (by exact aU)
  obtain ⟨bx, bz, rfl, ap, aq⟩ := qVa bf
  have am := aE 0 _ rfl
  rw [Nat.add_zero] at am
  replace am := Option.some.inj (am.symm.trans aV)
  injection am with hva_ hvn_ hvc_
  rw [hva_] at aq
  rw [hvc_] at ap
  have ai := ak (show Kd.V (Kd.int .i64) 3 _ w.heap.size _ _ ((qQg aj ac).f0) from Kd.V_mk ap aq)
  clear hva_ hvn_ hvc_ aq ap
  clear aE be
  have bA := ak ax
  have bB := ak aw
  clear ax aw
  replace aT := eq_true aT
  replace aU := eq_true aU
  go_wp2_with (((with_reducible refine gate_builtin (b := .append) (xs := #[.tmp 33, .tmp 39]) rfl ?_); at_builtin; refine Kd.N_append (Kd.slice 3 (Kd.int .i64)) (w0 := w) w.heap.size rfl (.tmp 33) (.tmp 39) 28 33 (.slice none 0 0) 24 rfl Try.underlying28 qYj rfl (by decide) (by omega) u11 ao ((qQg aj ac).f0) [.slice bb ((qQg aj ac).f0).length bd] (fun k_ => (w.heap.size ≤ k_) ∧ k_ ≠ ae) (fun k_ => ((fun k_ => (w.heap.size ≤ k_) ∧ k_ ≠ ae)) k_ ∧ some k_ ≠ (u11 : Value).ownBlock) rfl rfl ?aP (fun _ hk => hk) ?aF ?aO ?aB ?aS ?aL ?_; (case aP => exact (Kd.FK_slice_mk (Kd.V_reads' (Kd.V_mono (ok' := (fun k_ => ((fun k_ => (w.heap.size ≤ k_) ∧ k_ ≠ ae)) k_ ∧ some k_ ≠ (u11 : Value).ownBlock)) (ai.out) (fun k_ hk => ⟨⟨hk.1, hk.2.2⟩, hk.2.1⟩))).2.1 (Kd.V_F (Kd.V_mono (ok' := (fun k_ => ((fun k_ => (w.heap.size ≤ k_) ∧ k_ ≠ ae)) k_ ∧ some k_ ≠ (u11 : Value).ownBlock)) (ai.out) (fun k_ hk => ⟨⟨hk.1, hk.2.2⟩, hk.2.1⟩))))); (case aB => exact (bl1 HB af)); (case aF => exact (fun k_ hk => ⟨(Nat.le_trans (qZc (bl1 HB af)) hk), Kd.freshB (bk aa) k_ hk⟩)); (case aO => exact (by exact av.out)); (case aS => exact (qZc (bl1 HB af))); (case aL => have := br.out; omega); intro bX w25 ho hb hg hat; rw [← bu.out] at ho; have n0_ := ak (Kd.V_afterv (ok := (fun k_ => (w.heap.size ≤ k_) ∧ k_ ≠ ae)) (by exact Kd.V_mono al.out (fun _ hk => ⟨⟨hk.1, hk.2.2⟩, hk.2.1⟩)) hg hat); have n1_ := ak (qZg (bk aa) hg (Kd.N_ne av.out aa.out (by decide))); have n2_ := ak (Kd.V_afterv (ok := (fun k_ => (w.heap.size ≤ k_) ∧ k_ ≠ ae)) (by exact Kd.V_mono ai.out (fun _ hk => ⟨⟨hk.1, hk.2.2⟩, hk.2.1⟩)) hg hat); have n3_ := ak (hb); have n4_ := ak (ho); clear al; clear aa; clear ai; clear HB; clear av; have al := n0_; have aa := n1_; have ai := n2_; have HB := n3_; have bv := n4_; clear n0_ n1_ n2_ n3_ n4_; clear ho hb hg hat))
  go_roundg k1
  case measure => have := HK1.out; omega
  case rel => exact ⟨(bs), (wrap64 (ac + 1)), (by rfl), H', ⟨by have := HK1.out; omega⟩, ⟨by exact Kd.V_mono al.out (fun _ hk => ⟨hk.1.1, ⟨hk.2, hk.1.2⟩⟩)⟩, ⟨by exact bv.out⟩, ⟨bk aa⟩, ⟨bl1 HB af⟩⟩
end Go.Proofs.Ytlgolgfcolnddaa.F
