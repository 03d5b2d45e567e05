-- Printed by this claim's repository's tools (px.py, pgo.py, pack.py), one text behind the other. Lean checks it.
import Derived.Test.YtlgolgfcolnddaaFKindsPFnSomeOthers
import Derived.Test.YtlgolgfcolnddaaPFnSomeOthers0
namespace Go.Proofs.Ytlgolgfcolnddaa.F
open Go.RowKit Go.Proofs.YtlgolgfcolnddaaW.PrintWords Go.Proofs.YtlgolgfcolnddaaW.PrintLast Go.Proofs.YtlgolgfcolnddaaW.PrintMore
attribute [local go_sem] qQe qQd qQi qQh qZk qZl qQc qQb
set_option linter.unusedVariables false
set_option linter.unusedSimpArgs false
/-! ### impl_Net_cost: function 49 -/
def impl_Net_cost.l0 : Nat → Int → List Int → Int → Int → Int → List (S58) → Option (Int)
 | 0, _, _, _, _, _, _ => none
 | k + 1, x5, x8, x9, x10, aq, ad => if x10 < x9 then (if 0 ≤ x10 then (if x10 < (x8.length : Int) then (if 0 ≤ (rd x8 x10) then (if (rd x8 x10) < (ad.length : Int) then (impl_Net_cost.l0 k (wrap64 (x5 + ((qZa ad (rd x8 x10)).f2))) x8 x9 (wrap64 (x10 + 1)) aq ad) else (none)) else (none)) else (none)) else (none)) else (some x5)
def impl_Net_cost.f (k : Nat) (ae : Int) (ab : List (S58)) (l1 : List Int) : Option (Int) := impl_Net_cost.l0 k 0 l1 (l1.length : Int) 0 ae ab
theorem impl_Net_cost.mono_l : ∀ k, (∀ y0 y1 y2 y3 y4 y5, LeO (impl_Net_cost.l0 k y0 y1 y2 y3 y4 y5) (impl_Net_cost.l0 (k + 1) y0 y1 y2 y3 y4 y5))
 | 0 => fun _ _ _ _ _ _ r h => by simp [impl_Net_cost.l0] at h
 | k + 1 => by
  have ih0 := impl_Net_cost.mono_l k
  ·intro y0 y1 y2 y3 y4 y5
   unfold impl_Net_cost.l0
   repeat' first | (with_reducible exact ih0 _ _ _ _ _ _) | (with_reducible exact LeO.refl _) | (with_reducible refine LeO.ite ?_ ?_)
theorem impl_Net_cost.mono : ∀ a0 a1 a2 k, LeO (impl_Net_cost.f k a0 a1 a2) (impl_Net_cost.f (k + 1) a0 a1 a2) := by
 intro a0 a1 a2 k
 have ih0 := impl_Net_cost.mono_l k
 unfold impl_Net_cost.f
 repeat' (with_reducible exact ih0 _ _ _ _ _ _)
set_option maxHeartbeats 8000000 in
set_option maxRecDepth 100000 in
theorem impl_Net_cost.calls (k : Nat) (ae : Int) (am : Option Addr) (an : Nat) (ab : List (S58)) (A1 : Option Addr) (c1 : Nat) (l1 : List Int) (r : Int) (w : World) (au : Kd.C k58 w am ab.length ab) (av : ab.length ≤ an) (hr1 : Kd.C (Kd.int .i64) w A1 l1.length l1) (hc1 : l1.length ≤ c1) (h : impl_Net_cost.f k ae ab l1 = some r) :
  Calls Try.prog 49 #[.agg #[.int .i64 ae, .slice am ab.length an], .slice A1 l1.length c1] w fun e w' => e = .returned (.int .i64 r) ∧ Below w.heap.size w w' := by
 have aL := Try.underlying25
 have aA := ak au
 have aH := ak av
 clear au av
 have HR1 := ak hr1
 have HC1 := ak hc1
 clear hr1 hc1
 have HB := ak (Below.refl w.heap.size w)
 have H : (impl_Net_cost.l0 k 0 l1 (l1.length : Int) 0 ae ab) = some r := h
 clear h
 have H' := ak H
 clear H
 go_enter Try.func49, Try.ntmps49
 go_wp2_with (((with_reducible refine gate_dst (N := 2) rfl ?_); refine qZj ?hg (N := 2) ?hd (cs := #[.int .i64 ae, .slice am ab.length an]) (t := 25) ?hr ?_; (case hd => rfl); (case hg => rfl); (case hr => (go_simp; done)); intro ao hg w3 hbox hb; have ac := ak (hbox); have aI := ak ((by rw [hg]; exact (qZc (bl HB)) : w.heap.size ≤ ao)); have ap := ak ((by rw [hg]; exact (qZc (bl HB)) : w.heap.size ≤ ao)); replace HB := ak (qZd (bl HB) hb); clear hb hbox hg))
 go_loopg [5, 10] k (fun kq v5 v10 w' => ∃ (ar : Int) (aa : Int), v5 = .int .i64 ar ∧ v10 = .int .i64 aa ∧ Aside0 (impl_Net_cost.l0 kq ar l1 (l1.length : Int) aa ae ab = some r) ∧ Aside0 (kq ≤ k) ∧ Aside0 (w'.heap[ao]? = some (.cells #[.int .i64 ae, (.slice am ab.length an)] 25 (0, 0))) ∧ Aside0 (Below w.heap.size w w'))
 case atStart => exact ⟨(0), (0), (by rfl), (by rfl), H', ⟨Nat.le_refl _⟩, ⟨bk ac⟩, ⟨bl1 HB ap⟩⟩
 clear H'
 try clear c1
 try clear p2
 obtain ⟨ar, aa, rfl, rfl, HA, HK1, ac, HB⟩ := hrel
 cases gk with
 | zero => exact absurd HA.out (by simp [impl_Net_cost.l0])
 | succ k1 =>
  have H := HA.out
  clear HA
  simp only [impl_Net_cost.l0] at H
  by_cases c4 : aa < (l1.length : Int)
  rotate_left
  ·rw [if_neg c4] at H
   have c4b0 : decide (aa < (l1.length : Int)) = false := decide_eq_false c4
   clear c4
   obtain rfl := Option.some.inj H
   go_wp2
   go_ret
   exact ⟨by rfl, bl1 HB ap⟩
  rw [if_pos c4] at H
  have c4b0 : decide (aa < (l1.length : Int)) = true := decide_eq_true c4
  clear c4
  by_cases c5 : 0 ≤ aa
  rotate_left
  ·rw [if_neg c5] at H
   exact absurd H (by simp)
  rw [if_pos c5] at H
  have c5b0 : decide (0 ≤ aa) = true := decide_eq_true c5
  clear c5
  by_cases c6 : aa < (l1.length : Int)
  rotate_left
  ·rw [if_neg c6] at H
   exact absurd H (by simp)
  rw [if_pos c6] at H
  have c6b0 : decide (aa < (l1.length : Int)) = true := decide_eq_true c6
  clear c6
  by_cases c7 : 0 ≤ (rd l1 aa)
  rotate_left
  ·rw [if_neg c7] at H
   exact absurd H (by simp)
  rw [if_pos c7] at H
  have c7b0 : decide (0 ≤ (rd l1 aa)) = true := decide_eq_true c7
  clear c7
  by_cases c8 : (rd l1 aa) < (ab.length : Int)
  rotate_left
  ·rw [if_neg c8] at H
   exact absurd H (by simp)
  rw [if_pos c8] at H
  have c8b0 : decide ((rd l1 aa) < (ab.length : Int)) = true := decide_eq_true c8
  clear c8
  have H' := ak H
  clear H
  have aw : 0 ≤ (aa : Int) := oT (by (with_reducible assumption))
  have ax : aa < (l1.length : Int) := oT (by (with_reducible assumption))
  obtain ⟨aJ, aB, af⟩ := Kd.at_int HR1.out aa aw ax
  cases aB
  replace af := hcb HB.out af
  replace aw := eq_true aw
  replace ax := eq_true ax
  have aC := bc wr ac 0 (.int .i64 ae) rfl
  have aD := bc wr ac 1 (.slice am ab.length an) rfl
  have aE := fz ac 0
  have aF := fz ac 1
  have ay : 0 ≤ ((rd l1 aa) : Int) := oT (by (with_reducible assumption))
  have az : (rd l1 aa) < (ab.length : Int) := oT (by (with_reducible assumption))
  obtain ⟨aK, aG, ag, ah, ai, aj, al⟩ := qJk aA.out (rd l1 aa) ay az
  cases aG
  replace ag := hcb HB.out ag
  replace ah := hcb HB.out ah
  replace ai := hcb HB.out ai
  replace aj := hcb HB.out aj
  replace al := hcb HB.out al
  replace ay := eq_true ay
  replace az := eq_true az
  go_wp2
  go_roundg k1
  case measure => have := HK1.out; omega
  case rel => exact ⟨(wrap64 (ar + ((qZa ab (rd l1 aa)).f2))), (wrap64 (aa + 1)), (by rfl), (by rfl), H', ⟨by have := HK1.out; omega⟩, ⟨bk ac⟩, ⟨bl1 HB ap⟩⟩
/-! ### impl_WalkOk: function 61 -/
mutual
def impl_WalkOk.j0 : Nat → List Int → Bool → Int → List (S58) → Option (Bool)
 | 0, _, _, _, _ => none
 | k + 1, x1, x14, aM, ah => if x14 = true then (some false) else (impl_WalkOk.l0 k x1 x1 (x1.length : Int) 0 aM ah)
def impl_WalkOk.l0 : Nat → List Int → List Int → Int → Int → Int → List (S58) → Option (Bool)
 | 0, _, _, _, _, _, _ => none
 | k + 1, x1, x15, x16, x17, aM, ah => if x17 < x16 then (if 0 ≤ x17 then (if x17 < (x15.length : Int) then ((impl_within.f (rd x15 x17) 0 (wrap64 ((ah.length : Int) - 1))).bind fun bq => (if bq = true then (if x17 > 0 then (if 0 ≤ (wrap64 (x17 - 1)) then (if (wrap64 (x17 - 1)) < (x1.length : Int) then (if 0 ≤ (rd x1 (wrap64 (x17 - 1))) then (if (rd x1 (wrap64 (x17 - 1))) < (ah.length : Int) then (if 0 ≤ (rd x15 x17) then (if (rd x15 x17) < (ah.length : Int) then (if ((qZa ah (rd x1 (wrap64 (x17 - 1)))).f1) = ((qZa ah (rd x15 x17)).f0) then (impl_WalkOk.l0 k x1 x15 x16 (wrap64 (x17 + 1)) aM ah) else (some false)) else (none)) else (none)) else (none)) else (none)) else (none)) else (none)) else (impl_WalkOk.l0 k x1 x15 x16 (wrap64 (x17 + 1)) aM ah)) else (some false))) else (none)) else (none)) else (some true)
end
def impl_WalkOk.f (k : Nat) (ag : Int) (ab : List (S58)) (l1 : List Int) : Option (Bool) := (impl_NetOk.f ag ab).bind fun aY => (if aY = true then (impl_WalkOk.j0 k l1 (decide ((l1.length : Int) > 20)) ag ab) else (impl_WalkOk.j0 k l1 true ag ab))
theorem impl_WalkOk.mono_l : ∀ k, (∀ y0 y1 y2 y3, LeO (impl_WalkOk.j0 k y0 y1 y2 y3) (impl_WalkOk.j0 (k + 1) y0 y1 y2 y3)) ∧ (∀ y0 y1 y2 y3 y4 y5, LeO (impl_WalkOk.l0 k y0 y1 y2 y3 y4 y5) (impl_WalkOk.l0 (k + 1) y0 y1 y2 y3 y4 y5))
 | 0 => ⟨fun _ _ _ _ r h => by simp [impl_WalkOk.j0] at h, fun _ _ _ _ _ _ r h => by simp [impl_WalkOk.l0] at h⟩
 | k + 1 => by
  obtain ⟨ih0, ih1⟩ := impl_WalkOk.mono_l k
  refine ⟨?_, ?_⟩
  ·intro y0 y1 y2 y3
   unfold impl_WalkOk.j0
   repeat' first | (with_reducible exact ih1 _ _ _ _ _ _) | (with_reducible exact LeO.refl _) | (with_reducible refine LeO.ite ?_ ?_)
  ·intro y0 y1 y2 y3 y4 y5
   unfold impl_WalkOk.l0
   repeat' first | (with_reducible exact ih1 _ _ _ _ _ _) | (with_reducible exact LeO.refl _) | (with_reducible refine LeO.ite ?_ ?_) | (with_reducible refine LeO.bind ?_ (fun _ => ?_))
theorem impl_WalkOk.mono : ∀ a0 a1 a2 k, LeO (impl_WalkOk.f k a0 a1 a2) (impl_WalkOk.f (k + 1) a0 a1 a2) := by
 intro a0 a1 a2 k
 obtain ⟨ih0, ih1⟩ := impl_WalkOk.mono_l k
 unfold impl_WalkOk.f
 repeat' first | (with_reducible exact ih0 _ _ _ _) | (with_reducible exact LeO.refl _) | (with_reducible refine LeO.ite ?_ ?_) | (with_reducible refine LeO.bind ?_ (fun _ => ?_))
def impl_WalkOk.T6 : Bool × List (List Nat × List Nat) := (true, [([], []), ([], []), ([1], [1]), ([2], [2]), ([3], [3]), ([0, 4], [0, 4]), ([5], [5]), ([6, 5], [6]), ([7], [7]), ([8, 7], [7, 8]), ([9, 7, 7], [7, 9]), ([10], [10]), ([11, 10], [10, 11]), ([10], [10]), ([10], [10]), ([14, 10], [10, 14]), ([13, 15, 10], [10, 13, 15]), ([16, 10], [10, 16]), ([12, 17, 10], [10, 12, 17]), ([18, 10], [10, 18]), ([19, 10], [10, 19]), ([10], [10]), ([21, 10], [10, 21]), ([10], [10]), ([22, 23, 10], [10, 22, 23]), ([24, 10], [10, 24]), ([25, 10], [10, 25]), ([20, 26, 10], [10, 20, 26]), ([10, 27, 7], [7, 10, 27]), ([7, 28], [7, 28])])
def impl_WalkOk.B6 : List Nat := [0, 0, 2, 6, 14, 31, 63, 127, 255, 511, 1023, 2047, 4095, 2047, 2047, 18431, 59391, 124927, 262143, 524287, 1048575, 2047, 2099199, 2047, 14682111, 31459327, 65013759, 134217727, 268435455, 536870911]
theorem impl_WalkOk.tab6 : rtab .any (qKd Try.f61 6) = impl_WalkOk.T6 := by kernel_rfl
theorem impl_WalkOk.bits6 : qJf impl_WalkOk.T6.2 impl_WalkOk.B6 = true := by kernel_rfl
set_option maxHeartbeats 8000000 in
set_option maxRecDepth 100000 in
theorem impl_WalkOk.calls (k : Nat) (ag : Int) (aN : Option Addr) (aL : Nat) (ab : List (S58)) (A1 : Option Addr) (c1 : Nat) (l1 : List Int) (r : Bool) (w : World) (bn : Kd.C k58 w aN ab.length ab) (bo : ab.length ≤ aL) (hr1 : Kd.C (Kd.int .i64) w A1 l1.length l1) (hc1 : l1.length ≤ c1) (h : impl_WalkOk.f k ag ab l1 = some r) :
  Calls Try.prog 61 #[.agg #[.int .i64 ag, .slice aN ab.length aL], .slice A1 l1.length c1] w fun e w' => e = .returned (.bool r) ∧ Below w.heap.size w w' := by
 have bx := Try.underlying25
 have aP := ak bn
 have bp := ak bo
 clear bn bo
 have HR1 := ak hr1
 have HC1 := ak hc1
 clear hr1 hc1
 have HB := ak (Below.refl w.heap.size w)
 have H : ((impl_NetOk.f ag ab).bind fun aY => (if aY = true then (impl_WalkOk.j0 k l1 (decide ((l1.length : Int) > 20)) ag ab) else (impl_WalkOk.j0 k l1 true ag ab))) = some r := h
 clear h
 have HC3 := ak H
 clear H
 go_enter Try.func61, Try.ntmps61
 go_upto_region 1 with (((with_reducible refine gate_dst (N := 2) rfl ?_); refine qZj ?hg (N := 2) ?hd (cs := #[.int .i64 ag, .slice aN ab.length aL]) (t := 25) ?hr ?_; (case hd => rfl); (case hg => rfl); (case hr => (go_simp; done)); intro aH hg w4 hbox hb; have ac := ak (hbox); have bw := ak ((by rw [hg]; exact (qZc (bl HB)) : w.heap.size ≤ aH)); have aI := ak ((by rw [hg]; exact (qZc (bl HB)) : w.heap.size ≤ aH)); replace HB := ak (qZd (bl HB) hb); clear hb hbox hg))
 (try simp only [Act.put, List.setIfInBounds_toArray, List.set_cons_zero, List.set_cons_succ])
 go_cut [14] (fun v14 wc => ∃ (kq : Nat) (aX : Bool), v14 = .bool aX ∧ Aside0 (impl_WalkOk.j0 kq l1 aX ag ab = some r) ∧ Aside0 (kq ≤ k) ∧ Aside0 (wc.heap[aH]? = some (.cells #[.int .i64 ag, (.slice aN ab.length aL)] 25 (0, 0))) ∧ Aside0 (Below w.heap.size w wc))
 case first =>
  have H := HC3.out
  clear HC3
  replace H := Option.bind_eq_some_iff.mp H
  obtain ⟨aY, A50, H⟩ := H
  have A5 := ak A50
  clear A50
  by_cases c6 : aY = true
  ·subst c6
   rw [if_pos rfl] at H
   have H' := ak H
   clear H
   have aZ := bc w4 ac 0 (.int .i64 ag) rfl
   have ba := bc w4 ac 1 (.slice aN ab.length aL) rfl
   have bb := fz ac 0
   have bd := fz ac 1
   go_wp2_with (((with_reducible refine gate_callee (f := 32) rfl ?_); refine qQj (some 8) rfl rfl Try.func32 (by kernel_rfl) rfl #[.agg #[.int .i64 ag, .slice aN ab.length aL]] rfl (by (try simp only [List.map_toArray, List.map_cons, List.map_nil]); rfl) ?_; (with_reducible refine (impl_NetOk.calls ag _ _ ab true _ ?side1 ?side2 A5.out).mono ?_); (case side1 => repeat (exact (Kd.C_below aP.out HB.out))); (case side2 => exact bp.out); rintro e w8 ⟨rfl, hb⟩; refine ⟨_, rfl, ?_⟩; replace ac := ak (qZe (bk ac) hb); replace HB := ak (qZd (bl1 HB aI) hb); (try clear hb); (try clear hb2); (try clear hk); (try clear hi)))
   go_meet
   case rel => exact ⟨_, (decide ((l1.length : Int) > 20)), (by rfl), H', ⟨by omega⟩, ⟨bk ac⟩, ⟨bl1 HB aI⟩⟩
  replace c6 := Bool.eq_false_iff.mpr c6
  subst c6
  rw [if_neg (show ¬ (false = true) by decide)] at H
  have H' := ak H
  clear H
  have be := bc w4 ac 0 (.int .i64 ag) rfl
  have bf := bc w4 ac 1 (.slice aN ab.length aL) rfl
  have bg := fz ac 0
  have bh := fz ac 1
  go_wp2_with (((with_reducible refine gate_callee (f := 32) rfl ?_); refine qQj (some 8) rfl rfl Try.func32 (by kernel_rfl) rfl #[.agg #[.int .i64 ag, .slice aN ab.length aL]] rfl (by (try simp only [List.map_toArray, List.map_cons, List.map_nil]); rfl) ?_; (with_reducible refine (impl_NetOk.calls ag _ _ ab false _ ?side1 ?side2 A5.out).mono ?_); (case side1 => repeat (exact (Kd.C_below aP.out HB.out))); (case side2 => exact bp.out); rintro e w10 ⟨rfl, hb⟩; refine ⟨_, rfl, ?_⟩; replace ac := ak (qZe (bk ac) hb); replace HB := ak (qZd (bl1 HB aI) hb); (try clear hb); (try clear hb2); (try clear hk); (try clear hi)))
  go_meet
  case rel => exact ⟨_, (true), (by rfl), H', ⟨by omega⟩, ⟨bk ac⟩, ⟨bl1 HB aI⟩⟩
 clear HC3
 try clear c1
 try clear p2
 try clear c3
 try clear c6
 try clear aZ
 try clear ba
 try clear be
 try clear bf
 try clear bb
 try clear bd
 try clear bg
 try clear bh
 obtain ⟨kq, aX, rfl, HA, HJ2, ac, HB⟩ := hcut
 cases kq with
 | zero => exact absurd HA.out (by simp [impl_WalkOk.j0])
 | succ kj2 =>
  have H := HA.out
  clear HA
  simp only [impl_WalkOk.j0] at H
  by_cases c11 : aX = true
  ·subst c11
   rw [if_pos rfl] at H
   obtain rfl := Option.some.inj H
   go_wp2
   go_ret
   exact ⟨by rfl, bl1 HB aI⟩
  replace c11 := Bool.eq_false_iff.mpr c11
  subst c11
  rw [if_neg (show ¬ (false = true) by decide)] at H
  have H' := ak H
  clear H
  go_wp2
  go_loopg [17] kj2 (fun kq v17 w' => ∃ (aa : Int), v17 = .int .i64 aa ∧ Aside0 (impl_WalkOk.l0 kq l1 l1 (l1.length : Int) aa ag ab = some r) ∧ Aside0 (kq ≤ kj2) ∧ Aside0 (w'.heap[aH]? = some (.cells #[.int .i64 ag, (.slice aN ab.length aL)] 25 (0, 0))) ∧ Aside0 (Below w.heap.size w w'))
  case atStart => exact ⟨(0), (by rfl), H', ⟨Nat.le_refl _⟩, ⟨bk ac⟩, ⟨bl1 HB aI⟩⟩
  clear H'
  try clear c1
  try clear p2
  try clear c3
  try clear c6
  try clear c11
  try clear aZ
  try clear ba
  try clear be
  try clear bf
  try clear bb
  try clear bd
  try clear bg
  try clear bh
  try clear p2
  obtain ⟨aa, rfl, HA, HK2, ac, HB⟩ := hrel
  cases gk with
  | zero => exact absurd HA.out (by simp [impl_WalkOk.l0])
  | succ k2 =>
   have H := HA.out
   clear HA
   simp only [impl_WalkOk.l0] at H
   by_cases c12 : aa < (l1.length : Int)
   rotate_left
   ·rw [if_neg c12] at H
    have c12b0 : decide (aa < (l1.length : Int)) = false := decide_eq_false c12
    clear c12
    obtain rfl := Option.some.inj H
    go_wp2
    go_ret
    exact ⟨by rfl, bl1 HB aI⟩
   rw [if_pos c12] at H
   have c12b0 : decide (aa < (l1.length : Int)) = true := decide_eq_true c12
   clear c12
   by_cases c13 : 0 ≤ aa
   rotate_left
   ·rw [if_neg c13] at H
    exact absurd H (by simp)
   rw [if_pos c13] at H
   have c13b0 : decide (0 ≤ aa) = true := decide_eq_true c13
   clear c13
   by_cases c14 : aa < (l1.length : Int)
   rotate_left
   ·rw [if_neg c14] at H
    exact absurd H (by simp)
   rw [if_pos c14] at H
   have c14b0 : decide (aa < (l1.length : Int)) = true := decide_eq_true c14
   clear c14
   replace H := Option.bind_eq_some_iff.mp H
   obtain ⟨bq, bv, H⟩ := H
   have A15 := ak bv
   clear bv
   by_cases c16 : bq = true
   rotate_left
   ·replace c16 := Bool.eq_false_iff.mpr c16
    subst c16
    rw [if_neg (show ¬ (false = true) by decide)] at H
    obtain rfl := Option.some.inj H
    have aJ : 0 ≤ (aa : Int) := oT (by (with_reducible assumption))
    have aK : aa < (l1.length : Int) := oT (by (with_reducible assumption))
    obtain ⟨aO, aQ, af⟩ := Kd.at_int HR1.out aa aJ aK
    cases aQ
    replace af := hcb HB.out af
    replace aJ := eq_true aJ
    replace aK := eq_true aK
    try go_wp2
    replace ac := ak (qZp ac.out)
    replace HB := ak (qZo HB.out)
    refine qJd (n := 30) (S := fun w' => w'.cell? ⟨aH, 0, none⟩ = some (.int .i64 ag) ∧ w'.cell? ⟨aH, 1, none⟩ = some (.slice aN ab.length aL)) (ds := []) (ms 30 0) (by kernel_rfl) rfl (by kernel_rfl) ⟨(qZb ac.out 0).trans rfl, (qZb ac.out 1).trans rfl⟩ (fun hHeld => ?_); refine qQk impl_WalkOk.tab6 impl_WalkOk.bits6 (fun HT_ HW_ => ?_)
    generalize wr.drew = w29 at ac HB hHeld ⊢
    refine pu 0 22 ?_ (ms 30 1) rfl rfl HT_ (by kernel_rfl) (fun _ _ _ h => h) (by rfl) ?_ ?_ ?_ ?_
    rotate_left
    ·intro w'
     go_simp
     with_reducible rfl
    rotate_left
    ·simp only [SX]
     rfl
    refine pu 1 23 ?_ (ms 30 3) rfl rfl HT_ (by kernel_rfl) (fun _ _ _ h => h) (by rfl) ?_ ?_ ?_ ?_
    rotate_left
    ·intro w'
     go_simp
     with_reducible rfl
    rotate_left
    ·simp only [SX]
     rfl
    refine tk 2 24 ?_ (ms 30 7) rfl rfl HT_ HW_ (by kernel_rfl) (fun _ _ _ h => h) (by rfl) ?_ hHeld ?_ ?_ ?_
    rotate_left
    ·rintro w' ⟨s0, s1⟩
     go_simp
     with_reducible rfl
    rotate_left
    ·simp only [SX]
     rfl
    refine pu 3 25 ?_ (ms 30 15) rfl rfl HT_ (by kernel_rfl) (fun _ _ _ h => h) (by rfl) ?_ ?_ ?_ ?_
    rotate_left
    ·intro w'
     go_simp
     with_reducible rfl
    rotate_left
    ·simp only [SX]
     rfl
    refine pu 4 26 ?_ (ms 30 31) rfl rfl HT_ (by kernel_rfl) (fun _ _ _ h => h) (by rfl) ?_ ?_ ?_ ?_
    rotate_left
    ·intro w'
     go_simp
     with_reducible rfl
    rotate_left
    ·simp only [SX]
     rfl
    refine one_ (i := 5) (N := some 27) (ms 30 63) rfl rfl (qJb HT_.out (by kernel_rfl)) (by decide) (fun K hK => ?_)
    refine qXg Try.func48 (by kernel_rfl) rfl #[.int .i64 (rd l1 aa), .int .i64 0, .int .i64 (wrap64 ((ab.length : Int) - 1))] (by rfl) rfl rfl (by (try simp only [List.map_toArray, List.map_cons, List.map_nil]); rfl) ?_
    with_reducible refine (impl_within.calls (rd l1 aa) 0 (wrap64 ((ab.length : Int) - 1)) false _ A15.out).mono ?_
    rintro e w' ⟨rfl, ⟨nd, rfl⟩⟩
    refine ⟨_, rfl, ?_⟩
    refine hK.out _ _ ⟨(qZb ac.out 0).trans rfl, (qZb ac.out 1).trans rfl⟩ (fun hHeld => ?_)
    clear hK K
    refine qJc (a' := ?_) ?_ ?_
    rotate_left
    ·show Act.put _ (some 27) _ = _
     simp only [SX]
     rfl
    refine pu 6 28 ?_ (ms 30 127) rfl rfl HT_ (by kernel_rfl) (fun _ _ _ h => h) (by rfl) ?_ ?_ ?_ ?_
    rotate_left
    ·intro w'
     go_simp
     with_reducible rfl
    rotate_left
    ·simp only [SX]
     rfl
    refine pu 7 29 ?_ (ms 30 255) rfl rfl HT_ (by kernel_rfl) (fun _ _ _ h => h) (by rfl) ?_ ?_ ?_ ?_
    rotate_left
    ·intro w'
     go_simp
     with_reducible rfl
    rotate_left
    ·simp only [SX]
     rfl
    refine qZm (i := 8) (N := some 30) (v := undef) (a' := ?_) (ms 30 511) rfl rfl (qZf HT_.out (by kernel_rfl)) (fun _ _ _ h => h) (Or.inr ⟨by rfl, rfl⟩) ?_ ?_
    rotate_left
    ·simp only [SX]
     rfl
    refine qZm (i := 9) (N := some 31) (v := undef) (a' := ?_) (ms 30 1023) rfl rfl (qZf HT_.out (by kernel_rfl)) (fun _ _ _ h => h) (Or.inr ⟨by rfl, rfl⟩) ?_ ?_
    rotate_left
    ·simp only [SX]
     rfl
    refine qZm (i := 10) (N := some 32) (v := undef) (a' := ?_) (ms 30 2047) rfl rfl (qZf HT_.out (by kernel_rfl)) (fun _ _ _ h => h) (Or.inr ⟨by rfl, rfl⟩) ?_ ?_
    rotate_left
    ·simp only [SX]
     rfl
    refine qZm (i := 11) (N := some 33) (v := undef) (a' := ?_) (ms 30 4095) rfl rfl (qZf HT_.out (by kernel_rfl)) (fun _ _ _ h => h) (Or.inr ⟨by rfl, rfl⟩) ?_ ?_
    rotate_left
    ·simp only [SX]
     rfl
    refine qZm (i := 12) (N := some 34) (v := undef) (a' := ?_) (ms 30 8191) rfl rfl (qZf HT_.out (by kernel_rfl)) (fun _ _ _ h => h) (Or.inr ⟨by rfl, rfl⟩) ?_ ?_
    rotate_left
    ·simp only [SX]
     rfl
    refine qZm (i := 13) (N := some 35) (v := undef) (a' := ?_) (ms 30 16383) rfl rfl (qZf HT_.out (by kernel_rfl)) (fun _ _ _ h => h) (Or.inr ⟨by rfl, rfl⟩) ?_ ?_
    rotate_left
    ·simp only [SX]
     rfl
    refine qZm (i := 14) (N := some 36) (v := undef) (a' := ?_) (ms 30 32767) rfl rfl (qZf HT_.out (by kernel_rfl)) (fun _ _ _ h => h) (Or.inr ⟨by rfl, rfl⟩) ?_ ?_
    rotate_left
    ·simp only [SX]
     rfl
    refine qZm (i := 15) (N := some 37) (v := undef) (a' := ?_) (ms 30 65535) rfl rfl (qZf HT_.out (by kernel_rfl)) (fun _ _ _ h => h) (Or.inr ⟨by rfl, rfl⟩) ?_ ?_
    rotate_left
    ·simp only [SX]
     rfl
    refine qZm (i := 16) (N := some 38) (v := undef) (a' := ?_) (ms 30 131071) rfl rfl (qZf HT_.out (by kernel_rfl)) (fun _ _ _ h => h) (Or.inr ⟨by rfl, rfl⟩) ?_ ?_
    rotate_left
    ·simp only [SX]
     rfl
    refine qZm (i := 17) (N := some 39) (v := undef) (a' := ?_) (ms 30 262143) rfl rfl (qZf HT_.out (by kernel_rfl)) (fun _ _ _ h => h) (Or.inr ⟨by rfl, rfl⟩) ?_ ?_
    rotate_left
    ·simp only [SX]
     rfl
    refine qZm (i := 18) (N := some 40) (v := undef) (a' := ?_) (ms 30 524287) rfl rfl (qZf HT_.out (by kernel_rfl)) (fun _ _ _ h => h) (Or.inr ⟨by rfl, rfl⟩) ?_ ?_
    rotate_left
    ·simp only [SX]
     rfl
    refine qZm (i := 19) (N := some 41) (v := undef) (a' := ?_) (ms 30 1048575) rfl rfl (qZf HT_.out (by kernel_rfl)) (fun _ _ _ h => h) (Or.inr ⟨by rfl, rfl⟩) ?_ ?_
    rotate_left
    ·simp only [SX]
     rfl
    refine qZm (i := 20) (N := some 42) (v := undef) (a' := ?_) (ms 30 2097151) rfl rfl (qZf HT_.out (by kernel_rfl)) (fun _ _ _ h => h) (Or.inr ⟨by rfl, rfl⟩) ?_ ?_
    rotate_left
    ·simp only [SX]
     rfl
    refine qZm (i := 21) (N := some 43) (v := undef) (a' := ?_) (ms 30 4194303) rfl rfl (qZf HT_.out (by kernel_rfl)) (fun _ _ _ h => h) (Or.inr ⟨by rfl, rfl⟩) ?_ ?_
    rotate_left
    ·simp only [SX]
     rfl
    refine qZm (i := 22) (N := some 44) (v := undef) (a' := ?_) (ms 30 8388607) rfl rfl (qZf HT_.out (by kernel_rfl)) (fun _ _ _ h => h) (Or.inr ⟨by rfl, rfl⟩) ?_ ?_
    rotate_left
    ·simp only [SX]
     rfl
    refine qZm (i := 23) (N := some 45) (v := undef) (a' := ?_) (ms 30 16777215) rfl rfl (qZf HT_.out (by kernel_rfl)) (fun _ _ _ h => h) (Or.inr ⟨by rfl, rfl⟩) ?_ ?_
    rotate_left
    ·simp only [SX]
     rfl
    refine qZm (i := 24) (N := some 46) (v := undef) (a' := ?_) (ms 30 33554431) rfl rfl (qZf HT_.out (by kernel_rfl)) (fun _ _ _ h => h) (Or.inr ⟨by rfl, rfl⟩) ?_ ?_
    rotate_left
    ·simp only [SX]
     rfl
    refine qZm (i := 25) (N := some 47) (v := undef) (a' := ?_) (ms 30 67108863) rfl rfl (qZf HT_.out (by kernel_rfl)) (fun _ _ _ h => h) (Or.inr ⟨by rfl, rfl⟩) ?_ ?_
    rotate_left
    ·simp only [SX]
     rfl
    refine qZm (i := 26) (N := some 48) (v := undef) (a' := ?_) (ms 30 134217727) rfl rfl (qZf HT_.out (by kernel_rfl)) (fun _ _ _ h => h) (Or.inr ⟨by rfl, rfl⟩) ?_ ?_
    rotate_left
    ·simp only [SX]
     rfl
    refine qZm (i := 27) (N := some 49) (v := undef) (a' := ?_) (ms 30 268435455) rfl rfl (qZf HT_.out (by kernel_rfl)) (fun _ _ _ h => h) (Or.inr ⟨by rfl, rfl⟩) ?_ ?_
    rotate_left
    ·simp only [SX]
     rfl
    refine qZm (i := 28) (N := some 50) (v := undef) (a' := ?_) (ms 30 536870911) rfl rfl (qZf HT_.out (by kernel_rfl)) (fun _ _ _ h => h) (Or.inr ⟨by rfl, rfl⟩) ?_ ?_
    rotate_left
    ·simp only [SX]
     rfl
    refine pu 29 51 ?_ (ms 30 1073741823) rfl rfl HT_ (by kernel_rfl) (fun _ _ _ h => h) (by rfl) ?_ ?_ ?_ ?_
    rotate_left
    ·intro w'
     go_simp
     with_reducible rfl
    rotate_left
    ·simp only [SX]
     rfl
    refine qXc (qQp HT_.out (by kernel_rfl)) ?_
    try go_wp2
    go_ret
    exact ⟨by rfl, bl1 HB aI⟩
   subst c16
   rw [if_pos rfl] at H
   by_cases c17 : aa > 0
   rotate_left
   ·rw [if_neg c17] at H
    have c17b0 : decide (0 < aa) = false := decide_eq_false c17
    clear c17
    have H' := ak H
    clear H
    have aJ : 0 ≤ (aa : Int) := oT (by (with_reducible assumption))
    have aK : aa < (l1.length : Int) := oT (by (with_reducible assumption))
    obtain ⟨aO, aQ, af⟩ := Kd.at_int HR1.out aa aJ aK
    cases aQ
    replace af := hcb HB.out af
    replace aJ := eq_true aJ
    replace aK := eq_true aK
    try go_wp2
    replace ac := ak (qZp ac.out)
    replace HB := ak (qZo HB.out)
    refine qJd (n := 30) (S := fun w' => w'.cell? ⟨aH, 0, none⟩ = some (.int .i64 ag) ∧ w'.cell? ⟨aH, 1, none⟩ = some (.slice aN ab.length aL)) (ds := []) (ms 30 0) (by kernel_rfl) rfl (by kernel_rfl) ⟨(qZb ac.out 0).trans rfl, (qZb ac.out 1).trans rfl⟩ (fun hHeld => ?_); refine qQk impl_WalkOk.tab6 impl_WalkOk.bits6 (fun HT_ HW_ => ?_)
    generalize wr.drew = w28 at ac HB hHeld ⊢
    refine pu 0 22 ?_ (ms 30 1) rfl rfl HT_ (by kernel_rfl) (fun _ _ _ h => h) (by rfl) ?_ ?_ ?_ ?_
    rotate_left
    ·intro w'
     go_simp
     with_reducible rfl
    rotate_left
    ·simp only [SX]
     rfl
    refine pu 1 23 ?_ (ms 30 3) rfl rfl HT_ (by kernel_rfl) (fun _ _ _ h => h) (by rfl) ?_ ?_ ?_ ?_
    rotate_left
    ·intro w'
     go_simp
     with_reducible rfl
    rotate_left
    ·simp only [SX]
     rfl
    refine tk 2 24 ?_ (ms 30 7) rfl rfl HT_ HW_ (by kernel_rfl) (fun _ _ _ h => h) (by rfl) ?_ hHeld ?_ ?_ ?_
    rotate_left
    ·rintro w' ⟨s0, s1⟩
     go_simp
     with_reducible rfl
    rotate_left
    ·simp only [SX]
     rfl
    refine pu 3 25 ?_ (ms 30 15) rfl rfl HT_ (by kernel_rfl) (fun _ _ _ h => h) (by rfl) ?_ ?_ ?_ ?_
    rotate_left
    ·intro w'
     go_simp
     with_reducible rfl
    rotate_left
    ·simp only [SX]
     rfl
    refine pu 4 26 ?_ (ms 30 31) rfl rfl HT_ (by kernel_rfl) (fun _ _ _ h => h) (by rfl) ?_ ?_ ?_ ?_
    rotate_left
    ·intro w'
     go_simp
     with_reducible rfl
    rotate_left
    ·simp only [SX]
     rfl
    refine one_ (i := 5) (N := some 27) (ms 30 63) rfl rfl (qJb HT_.out (by kernel_rfl)) (by decide) (fun K hK => ?_)
    refine qXg Try.func48 (by kernel_rfl) rfl #[.int .i64 (rd l1 aa), .int .i64 0, .int .i64 (wrap64 ((ab.length : Int) - 1))] (by rfl) rfl rfl (by (try simp only [List.map_toArray, List.map_cons, List.map_nil]); rfl) ?_
    with_reducible refine (impl_within.calls (rd l1 aa) 0 (wrap64 ((ab.length : Int) - 1)) true _ A15.out).mono ?_
    rintro e w' ⟨rfl, ⟨nd, rfl⟩⟩
    refine ⟨_, rfl, ?_⟩
    refine hK.out _ _ ⟨(qZb ac.out 0).trans rfl, (qZb ac.out 1).trans rfl⟩ (fun hHeld => ?_)
    clear hK K
    refine qJc (a' := ?_) ?_ ?_
    rotate_left
    ·show Act.put _ (some 27) _ = _
     simp only [SX]
     rfl
    refine pu 6 28 ?_ (ms 30 127) rfl rfl HT_ (by kernel_rfl) (fun _ _ _ h => h) (by rfl) ?_ ?_ ?_ ?_
    rotate_left
    ·intro w'
     go_simp
     with_reducible rfl
    rotate_left
    ·simp only [SX]
     rfl
    refine pu 7 29 ?_ (ms 30 255) rfl rfl HT_ (by kernel_rfl) (fun _ _ _ h => h) (by rfl) ?_ ?_ ?_ ?_
    rotate_left
    ·intro w'
     go_simp
     with_reducible rfl
    rotate_left
    ·simp only [SX]
     rfl
    refine pu 8 30 ?_ (ms 30 511) rfl rfl HT_ (by kernel_rfl) (fun _ _ _ h => h) (by rfl) ?_ ?_ ?_ ?_
    rotate_left
    ·intro w'
     go_simp
     with_reducible rfl
    rotate_left
    ·simp only [SX]
     rfl
    refine pu 9 31 ?_ (ms 30 1023) rfl rfl HT_ (by kernel_rfl) (fun _ _ _ h => h) (by rfl) ?_ ?_ ?_ ?_
    rotate_left
    ·intro w'
     go_simp
     with_reducible rfl
    rotate_left
    ·simp only [SX]
     rfl
    refine pu 10 32 ?_ (ms 30 2047) rfl rfl HT_ (by kernel_rfl) (fun _ _ _ h => h) (by rfl) ?_ ?_ ?_ ?_
    rotate_left
    ·intro w'
     go_simp
     with_reducible rfl
    rotate_left
    ·simp only [SX]
     rfl
    refine qZm (i := 11) (N := some 33) (v := undef) (a' := ?_) (ms 30 4095) rfl rfl (qZf HT_.out (by kernel_rfl)) (fun _ _ _ h => h) (Or.inr ⟨by rfl, rfl⟩) ?_ ?_
    rotate_left
    ·simp only [SX]
     rfl
    refine qZm (i := 12) (N := some 34) (v := undef) (a' := ?_) (ms 30 8191) rfl rfl (qZf HT_.out (by kernel_rfl)) (fun _ _ _ h => h) (Or.inr ⟨by rfl, rfl⟩) ?_ ?_
    rotate_left
    ·simp only [SX]
     rfl
    refine qZm (i := 13) (N := some 35) (v := undef) (a' := ?_) (ms 30 16383) rfl rfl (qZf HT_.out (by kernel_rfl)) (fun _ _ _ h => h) (Or.inr ⟨by rfl, rfl⟩) ?_ ?_
    rotate_left
    ·simp only [SX]
     rfl
    refine qZm (i := 14) (N := some 36) (v := undef) (a' := ?_) (ms 30 32767) rfl rfl (qZf HT_.out (by kernel_rfl)) (fun _ _ _ h => h) (Or.inr ⟨by rfl, rfl⟩) ?_ ?_
    rotate_left
    ·simp only [SX]
     rfl
    refine qZm (i := 15) (N := some 37) (v := undef) (a' := ?_) (ms 30 65535) rfl rfl (qZf HT_.out (by kernel_rfl)) (fun _ _ _ h => h) (Or.inr ⟨by rfl, rfl⟩) ?_ ?_
    rotate_left
    ·simp only [SX]
     rfl
    refine qZm (i := 16) (N := some 38) (v := undef) (a' := ?_) (ms 30 131071) rfl rfl (qZf HT_.out (by kernel_rfl)) (fun _ _ _ h => h) (Or.inr ⟨by rfl, rfl⟩) ?_ ?_
    rotate_left
    ·simp only [SX]
     rfl
    refine qZm (i := 17) (N := some 39) (v := undef) (a' := ?_) (ms 30 262143) rfl rfl (qZf HT_.out (by kernel_rfl)) (fun _ _ _ h => h) (Or.inr ⟨by rfl, rfl⟩) ?_ ?_
    rotate_left
    ·simp only [SX]
     rfl
    refine qZm (i := 18) (N := some 40) (v := undef) (a' := ?_) (ms 30 524287) rfl rfl (qZf HT_.out (by kernel_rfl)) (fun _ _ _ h => h) (Or.inr ⟨by rfl, rfl⟩) ?_ ?_
    rotate_left
    ·simp only [SX]
     rfl
    refine qZm (i := 19) (N := some 41) (v := undef) (a' := ?_) (ms 30 1048575) rfl rfl (qZf HT_.out (by kernel_rfl)) (fun _ _ _ h => h) (Or.inr ⟨by rfl, rfl⟩) ?_ ?_
    rotate_left
    ·simp only [SX]
     rfl
    refine qZm (i := 20) (N := some 42) (v := undef) (a' := ?_) (ms 30 2097151) rfl rfl (qZf HT_.out (by kernel_rfl)) (fun _ _ _ h => h) (Or.inr ⟨by rfl, rfl⟩) ?_ ?_
    rotate_left
    ·simp only [SX]
     rfl
    refine qZm (i := 21) (N := some 43) (v := undef) (a' := ?_) (ms 30 4194303) rfl rfl (qZf HT_.out (by kernel_rfl)) (fun _ _ _ h => h) (Or.inr ⟨by rfl, rfl⟩) ?_ ?_
    rotate_left
    ·simp only [SX]
     rfl
    refine qZm (i := 22) (N := some 44) (v := undef) (a' := ?_) (ms 30 8388607) rfl rfl (qZf HT_.out (by kernel_rfl)) (fun _ _ _ h => h) (Or.inr ⟨by rfl, rfl⟩) ?_ ?_
    rotate_left
    ·simp only [SX]
     rfl
    refine qZm (i := 23) (N := some 45) (v := undef) (a' := ?_) (ms 30 16777215) rfl rfl (qZf HT_.out (by kernel_rfl)) (fun _ _ _ h => h) (Or.inr ⟨by rfl, rfl⟩) ?_ ?_
    rotate_left
    ·simp only [SX]
     rfl
    refine qZm (i := 24) (N := some 46) (v := undef) (a' := ?_) (ms 30 33554431) rfl rfl (qZf HT_.out (by kernel_rfl)) (fun _ _ _ h => h) (Or.inr ⟨by rfl, rfl⟩) ?_ ?_
    rotate_left
    ·simp only [SX]
     rfl
    refine qZm (i := 25) (N := some 47) (v := undef) (a' := ?_) (ms 30 67108863) rfl rfl (qZf HT_.out (by kernel_rfl)) (fun _ _ _ h => h) (Or.inr ⟨by rfl, rfl⟩) ?_ ?_
    rotate_left
    ·simp only [SX]
     rfl
    refine qZm (i := 26) (N := some 48) (v := undef) (a' := ?_) (ms 30 134217727) rfl rfl (qZf HT_.out (by kernel_rfl)) (fun _ _ _ h => h) (Or.inr ⟨by rfl, rfl⟩) ?_ ?_
    rotate_left
    ·simp only [SX]
     rfl
    refine qZm (i := 27) (N := some 49) (v := undef) (a' := ?_) (ms 30 268435455) rfl rfl (qZf HT_.out (by kernel_rfl)) (fun _ _ _ h => h) (Or.inr ⟨by rfl, rfl⟩) ?_ ?_
    rotate_left
    ·simp only [SX]
     rfl
    refine pu 28 50 ?_ (ms 30 536870911) rfl rfl HT_ (by kernel_rfl) (fun _ _ _ h => h) (by rfl) ?_ ?_ ?_ ?_
    rotate_left
    ·intro w'
     go_simp
     with_reducible rfl
    rotate_left
    ·simp only [SX]
     rfl
    refine pu 29 51 ?_ (ms 30 1073741823) rfl rfl HT_ (by kernel_rfl) (fun _ _ _ h => h) (by rfl) ?_ ?_ ?_ ?_
    rotate_left
    ·intro w'
     go_simp
     with_reducible rfl
    rotate_left
    ·simp only [SX]
     rfl
    refine qXc (qQp HT_.out (by kernel_rfl)) ?_
    try go_wp2
    go_roundg k2
    case measure => have := HJ2.out; have := HK2.out; omega
    case rel => exact ⟨(wrap64 (aa + 1)), (by rfl), H', ⟨by have := HJ2.out; have := HK2.out; omega⟩, ⟨bk ac⟩, ⟨bl1 HB aI⟩⟩
   rw [if_pos c17] at H
   have c17b0 : decide (0 < aa) = true := decide_eq_true c17
   clear c17
   obtain ⟨ad, bi⟩ : ∃ j_ : Int, (wrap64 (aa - 1)) = j_ := ⟨_, rfl⟩
   replace H : (if 0 ≤ (ad) then (if (ad) < (l1.length : Int) then (if 0 ≤ (rd l1 (ad)) then (if (rd l1 (ad)) < (ab.length : Int) then (if 0 ≤ (rd l1 aa) then (if (rd l1 aa) < (ab.length : Int) then (if ((qZa ab (rd l1 (ad))).f1) = ((qZa ab (rd l1 aa)).f0) then (impl_WalkOk.l0 k2 l1 l1 (l1.length : Int) (wrap64 (aa + 1)) ag ab) else (some false)) else (none)) else (none)) else (none)) else (none)) else (none)) else (none)) = some r := by (rw [bi] at H; exact H)
   (try rw [bi] at A15)
   have hji18w : (IntKind.i64.wrap (aa - 1)) = ad := (qVp _).trans bi
   by_cases c19 : 0 ≤ (ad)
   rotate_left
   ·rw [if_neg c19] at H
    exact absurd H (by simp)
   rw [if_pos c19] at H
   have c19b0 : decide (0 ≤ (ad)) = true := decide_eq_true c19
   clear c19
   by_cases c20 : (ad) < (l1.length : Int)
   rotate_left
   ·rw [if_neg c20] at H
    exact absurd H (by simp)
   rw [if_pos c20] at H
   have c20b0 : decide ((ad) < (l1.length : Int)) = true := decide_eq_true c20
   clear c20
   by_cases c21 : 0 ≤ (rd l1 (ad))
   rotate_left
   ·rw [if_neg c21] at H
    exact absurd H (by simp)
   rw [if_pos c21] at H
   have c21b0 : decide (0 ≤ (rd l1 (ad))) = true := decide_eq_true c21
   clear c21
   by_cases c22 : (rd l1 (ad)) < (ab.length : Int)
   rotate_left
   ·rw [if_neg c22] at H
    exact absurd H (by simp)
   rw [if_pos c22] at H
   have c22b0 : decide ((rd l1 (ad)) < (ab.length : Int)) = true := decide_eq_true c22
   clear c22
   by_cases c23 : 0 ≤ (rd l1 aa)
   rotate_left
   ·rw [if_neg c23] at H
    exact absurd H (by simp)
   rw [if_pos c23] at H
   have c23b0 : decide (0 ≤ (rd l1 aa)) = true := decide_eq_true c23
   clear c23
   by_cases c24 : (rd l1 aa) < (ab.length : Int)
   rotate_left
   ·rw [if_neg c24] at H
    exact absurd H (by simp)
   rw [if_pos c24] at H
   have c24b0 : decide ((rd l1 aa) < (ab.length : Int)) = true := decide_eq_true c24
   clear c24
   by_cases c25 : ((qZa ab (rd l1 (ad))).f1) = ((qZa ab (rd l1 aa)).f0)
   rotate_left
   ·rw [if_neg c25] at H
    have c25b0 : (((qZa ab (rd l1 (ad))).f1) == ((qZa ab (rd l1 aa)).f0)) = false := beq_eq_false_iff_ne.mpr c25
    have c25b1 : (((qZa ab (rd l1 (ad))).f1) != ((qZa ab (rd l1 aa)).f0)) = true := bne_iff_ne.mpr c25
    obtain rfl := Option.some.inj H
    have aJ : 0 ≤ (aa : Int) := oT (by (with_reducible assumption))
    have aK : aa < (l1.length : Int) := oT (by (with_reducible assumption))
    obtain ⟨aO, aQ, af⟩ := Kd.at_int HR1.out aa aJ aK
    cases aQ
    replace af := hcb HB.out af
    replace aJ := eq_true aJ
    replace aK := eq_true aK
    try go_wp2
    replace ac := ak (qZp ac.out)
    replace HB := ak (qZo HB.out)
    have aR : 0 ≤ ((ad) : Int) := oT (by (with_reducible assumption))
    have aS : (ad) < (l1.length : Int) := oT (by (with_reducible assumption))
    obtain ⟨bj, br, ai⟩ := Kd.at_int HR1.out (ad) aR aS
    have aj := ai
    obtain rfl : aO = bj := (by injection br)
    replace ai := hcb HB.out ai
    replace aR := eq_true aR
    replace aS := eq_true aS
    have aT : 0 ≤ ((rd l1 (ad)) : Int) := oT (by (with_reducible assumption))
    have aU : (rd l1 (ad)) < (ab.length : Int) := oT (by (with_reducible assumption))
    obtain ⟨ae, bs, al, am, an, ao, ap⟩ := qJk aP.out (rd l1 (ad)) aT aU
    have aq := ap
    have ar := ao
    have au := an
    have av := am
    have aw := al
    cases bs
    replace al := hcb HB.out al
    replace am := hcb HB.out am
    replace an := hcb HB.out an
    replace ao := hcb HB.out ao
    replace ap := hcb HB.out ap
    replace aT := eq_true aT
    replace aU := eq_true aU
    have aV : 0 ≤ ((rd l1 aa) : Int) := oT (by (with_reducible assumption))
    have aW : (rd l1 aa) < (ab.length : Int) := oT (by (with_reducible assumption))
    obtain ⟨bm, bu, ax, ay, az, aA, aB⟩ := qJk aP.out (rd l1 aa) aV aW
    have aC := aB
    have aD := aA
    have aE := az
    have aF := ay
    have aG := ax
    obtain rfl : ae = bm := (by injection bu)
    replace ax := hcb HB.out ax
    replace ay := hcb HB.out ay
    replace az := hcb HB.out az
    replace aA := hcb HB.out aA
    replace aB := hcb HB.out aB
    replace aV := eq_true aV
    replace aW := eq_true aW
    refine qJd (n := 30) (S := fun w' => w'.cell? ⟨aH, 0, none⟩ = some (.int .i64 ag) ∧ w'.cell? ⟨aH, 1, none⟩ = some (.slice (some ae) ab.length aL) ∧ w'.cell? (aO.add ((ad)).toNat) = some (.int .i64 (rd l1 (ad))) ∧ w'.cell? (ae.add (((rd l1 (ad))).toNat * 5)) = some (.int .i64 ((qZa ab (rd l1 (ad))).f0)) ∧ w'.cell? ⟨(ae.add (((rd l1 (ad))).toNat * 5)).block, (ae.add (((rd l1 (ad))).toNat * 5)).off + 1, none⟩ = some (.int .i64 ((qZa ab (rd l1 (ad))).f1)) ∧ w'.cell? ⟨(ae.add (((rd l1 (ad))).toNat * 5)).block, (ae.add (((rd l1 (ad))).toNat * 5)).off + 2, none⟩ = some (.int .i64 ((qZa ab (rd l1 (ad))).f2)) ∧ w'.cell? ⟨(ae.add (((rd l1 (ad))).toNat * 5)).block, (ae.add (((rd l1 (ad))).toNat * 5)).off + 3, none⟩ = some (.int .i64 ((qZa ab (rd l1 (ad))).f3)) ∧ w'.cell? ⟨(ae.add (((rd l1 (ad))).toNat * 5)).block, (ae.add (((rd l1 (ad))).toNat * 5)).off + 4, none⟩ = some (.int .i64 ((qZa ab (rd l1 (ad))).f4)) ∧ w'.cell? (ae.add (((rd l1 aa)).toNat * 5)) = some (.int .i64 ((qZa ab (rd l1 aa)).f0)) ∧ w'.cell? ⟨(ae.add (((rd l1 aa)).toNat * 5)).block, (ae.add (((rd l1 aa)).toNat * 5)).off + 1, none⟩ = some (.int .i64 ((qZa ab (rd l1 aa)).f1)) ∧ w'.cell? ⟨(ae.add (((rd l1 aa)).toNat * 5)).block, (ae.add (((rd l1 aa)).toNat * 5)).off + 2, none⟩ = some (.int .i64 ((qZa ab (rd l1 aa)).f2)) ∧ w'.cell? ⟨(ae.add (((rd l1 aa)).toNat * 5)).block, (ae.add (((rd l1 aa)).toNat * 5)).off + 3, none⟩ = some (.int .i64 ((qZa ab (rd l1 aa)).f3)) ∧ w'.cell? ⟨(ae.add (((rd l1 aa)).toNat * 5)).block, (ae.add (((rd l1 aa)).toNat * 5)).off + 4, none⟩ = some (.int .i64 ((qZa ab (rd l1 aa)).f4))) (ds := []) (ms 30 0) (by kernel_rfl) rfl (by kernel_rfl) ⟨(qZb ac.out 0).trans rfl, (qZb ac.out 1).trans rfl, ((HB.out.cell (World.block_lt_of_cell? w _ aj)).trans aj), ((HB.out.cell (World.block_lt_of_cell? w _ aw)).trans aw), ((HB.out.cell (World.block_lt_of_cell? w _ av)).trans av), ((HB.out.cell (World.block_lt_of_cell? w _ au)).trans au), ((HB.out.cell (World.block_lt_of_cell? w _ ar)).trans ar), ((HB.out.cell (World.block_lt_of_cell? w _ aq)).trans aq), ((HB.out.cell (World.block_lt_of_cell? w _ aG)).trans aG), ((HB.out.cell (World.block_lt_of_cell? w _ aF)).trans aF), ((HB.out.cell (World.block_lt_of_cell? w _ aE)).trans aE), ((HB.out.cell (World.block_lt_of_cell? w _ aD)).trans aD), ((HB.out.cell (World.block_lt_of_cell? w _ aC)).trans aC)⟩ (fun hHeld => ?_); refine qQk impl_WalkOk.tab6 impl_WalkOk.bits6 (fun HT_ HW_ => ?_)
    generalize wr.drew = w27 at ac HB ai al am an ao ap ax ay az aA aB hHeld ⊢
    refine pu 0 22 ?_ (ms 30 1) rfl rfl HT_ (by kernel_rfl) (fun _ _ _ h => h) (by rfl) ?_ ?_ ?_ ?_
    rotate_left
    ·intro w'
     go_simp
     with_reducible rfl
    rotate_left
    ·simp only [SX]
     rfl
    refine pu 1 23 ?_ (ms 30 3) rfl rfl HT_ (by kernel_rfl) (fun _ _ _ h => h) (by rfl) ?_ ?_ ?_ ?_
    rotate_left
    ·intro w'
     go_simp
     with_reducible rfl
    rotate_left
    ·simp only [SX]
     rfl
    refine tk 2 24 ?_ (ms 30 7) rfl rfl HT_ HW_ (by kernel_rfl) (fun _ _ _ h => h) (by rfl) ?_ hHeld ?_ ?_ ?_
    rotate_left
    ·rintro w' ⟨s0, s1, s2, s3, s4, s5, s6, s7, s8, s9, s10, s11, s12⟩
     go_simp
     with_reducible rfl
    rotate_left
    ·simp only [SX]
     rfl
    refine pu 3 25 ?_ (ms 30 15) rfl rfl HT_ (by kernel_rfl) (fun _ _ _ h => h) (by rfl) ?_ ?_ ?_ ?_
    rotate_left
    ·intro w'
     go_simp
     with_reducible rfl
    rotate_left
    ·simp only [SX]
     rfl
    refine pu 4 26 ?_ (ms 30 31) rfl rfl HT_ (by kernel_rfl) (fun _ _ _ h => h) (by rfl) ?_ ?_ ?_ ?_
    rotate_left
    ·intro w'
     go_simp
     with_reducible rfl
    rotate_left
    ·simp only [SX]
     rfl
    refine one_ (i := 5) (N := some 27) (ms 30 63) rfl rfl (qJb HT_.out (by kernel_rfl)) (by decide) (fun K hK => ?_)
    refine qXg Try.func48 (by kernel_rfl) rfl #[.int .i64 (rd l1 aa), .int .i64 0, .int .i64 (wrap64 ((ab.length : Int) - 1))] (by rfl) rfl rfl (by (try simp only [List.map_toArray, List.map_cons, List.map_nil]); rfl) ?_
    with_reducible refine (impl_within.calls (rd l1 aa) 0 (wrap64 ((ab.length : Int) - 1)) true _ A15.out).mono ?_
    rintro e w' ⟨rfl, ⟨nd, rfl⟩⟩
    refine ⟨_, rfl, ?_⟩
    refine hK.out _ _ ⟨(qZb ac.out 0).trans rfl, (qZb ac.out 1).trans rfl, ((HB.out.cell (World.block_lt_of_cell? w _ aj)).trans aj), ((HB.out.cell (World.block_lt_of_cell? w _ aw)).trans aw), ((HB.out.cell (World.block_lt_of_cell? w _ av)).trans av), ((HB.out.cell (World.block_lt_of_cell? w _ au)).trans au), ((HB.out.cell (World.block_lt_of_cell? w _ ar)).trans ar), ((HB.out.cell (World.block_lt_of_cell? w _ aq)).trans aq), ((HB.out.cell (World.block_lt_of_cell? w _ aG)).trans aG), ((HB.out.cell (World.block_lt_of_cell? w _ aF)).trans aF), ((HB.out.cell (World.block_lt_of_cell? w _ aE)).trans aE), ((HB.out.cell (World.block_lt_of_cell? w _ aD)).trans aD), ((HB.out.cell (World.block_lt_of_cell? w _ aC)).trans aC)⟩ (fun hHeld => ?_)
    clear hK K
    refine qJc (a' := ?_) ?_ ?_
    rotate_left
    ·show Act.put _ (some 27) _ = _
     simp only [SX]
     rfl
    refine pu 6 28 ?_ (ms 30 127) rfl rfl HT_ (by kernel_rfl) (fun _ _ _ h => h) (by rfl) ?_ ?_ ?_ ?_
    rotate_left
    ·intro w'
     go_simp
     with_reducible rfl
    rotate_left
    ·simp only [SX]
     rfl
    refine pu 7 29 ?_ (ms 30 255) rfl rfl HT_ (by kernel_rfl) (fun _ _ _ h => h) (by rfl) ?_ ?_ ?_ ?_
    rotate_left
    ·intro w'
     go_simp
     with_reducible rfl
    rotate_left
    ·simp only [SX]
     rfl
    refine pu 8 30 ?_ (ms 30 511) rfl rfl HT_ (by kernel_rfl) (fun _ _ _ h => h) (by rfl) ?_ ?_ ?_ ?_
    rotate_left
    ·intro w'
     go_simp
     with_reducible rfl
    rotate_left
    ·simp only [SX]
     rfl
    refine pu 9 31 ?_ (ms 30 1023) rfl rfl HT_ (by kernel_rfl) (fun _ _ _ h => h) (by rfl) ?_ ?_ ?_ ?_
    rotate_left
    ·intro w'
     go_simp
     with_reducible rfl
    rotate_left
    ·simp only [SX]
     rfl
    refine pu 10 32 ?_ (ms 30 2047) rfl rfl HT_ (by kernel_rfl) (fun _ _ _ h => h) (by rfl) ?_ ?_ ?_ ?_
    rotate_left
    ·intro w'
     go_simp
     with_reducible rfl
    rotate_left
    ·simp only [SX]
     rfl
    refine pu 11 33 ?_ (ms 30 4095) rfl rfl HT_ (by kernel_rfl) (fun _ _ _ h => h) (by rfl) ?_ ?_ ?_ ?_
    rotate_left
    ·intro w'
     go_simp
     with_reducible rfl
    rotate_left
    ·simp only [SX]
     rfl
    refine pu 13 35 ?_ (ms 30 12287) rfl rfl HT_ (by kernel_rfl) (fun _ _ _ h => h) (by rfl) ?_ ?_ ?_ ?_
    rotate_left
    ·intro w'
     go_simp
     with_reducible rfl
    rotate_left
    ·simp only [SX]
     rfl
    refine pu 14 36 ?_ (ms 30 28671) rfl rfl HT_ (by kernel_rfl) (fun _ _ _ h => h) (by rfl) ?_ ?_ ?_ ?_
    rotate_left
    ·intro w'
     go_simp
     with_reducible rfl
    rotate_left
    ·simp only [SX]
     rfl
    refine pu 15 37 ?_ (ms 30 61439) rfl rfl HT_ (by kernel_rfl) (fun _ _ _ h => h) (by rfl) ?_ ?_ ?_ ?_
    rotate_left
    ·intro w'
     go_simp
     with_reducible rfl
    rotate_left
    ·simp only [SX]
     rfl
    refine pu 16 38 ?_ (ms 30 126975) rfl rfl HT_ (by kernel_rfl) (fun _ _ _ h => h) (by rfl) ?_ ?_ ?_ ?_
    rotate_left
    ·intro w'
     go_simp
     with_reducible rfl
    rotate_left
    ·simp only [SX]
     rfl
    refine pu 21 43 ?_ (ms 30 2224127) rfl rfl HT_ (by kernel_rfl) (fun _ _ _ h => h) (by rfl) ?_ ?_ ?_ ?_
    rotate_left
    ·intro w'
     go_simp
     with_reducible rfl
    rotate_left
    ·simp only [SX]
     rfl
    refine pu 23 45 ?_ (ms 30 10612735) rfl rfl HT_ (by kernel_rfl) (fun _ _ _ h => h) (by rfl) ?_ ?_ ?_ ?_
    rotate_left
    ·intro w'
     go_simp
     with_reducible rfl
    rotate_left
    ·simp only [SX]
     rfl
    refine tk 12 34 ?_ (ms 30 10616831) rfl rfl HT_ HW_ (by kernel_rfl) (fun _ _ _ h => h) (by rfl) ?_ hHeld ?_ ?_ ?_
    rotate_left
    ·rintro w' ⟨s0, s1, s2, s3, s4, s5, s6, s7, s8, s9, s10, s11, s12⟩
     go_simp
     with_reducible rfl
    rotate_left
    ·simp only [SX]
     rfl
    refine tk 17 39 ?_ (ms 30 10747903) rfl rfl HT_ HW_ (by kernel_rfl) (fun _ _ _ h => h) (by rfl) ?_ hHeld ?_ ?_ ?_
    rotate_left
    ·rintro w' ⟨s0, s1, s2, s3, s4, s5, s6, s7, s8, s9, s10, s11, s12⟩
     go_simp
     with_reducible rfl
    rotate_left
    ·simp only [SX]
     rfl
    refine pu 18 40 ?_ (ms 30 11010047) rfl rfl HT_ (by kernel_rfl) (fun _ _ _ h => h) (by rfl) ?_ ?_ ?_ ?_
    rotate_left
    ·intro w'
     go_simp
     with_reducible rfl
    rotate_left
    ·simp only [SX]
     rfl
    refine pu 19 41 ?_ (ms 30 11534335) rfl rfl HT_ (by kernel_rfl) (fun _ _ _ h => h) (by rfl) ?_ ?_ ?_ ?_
    rotate_left
    ·intro w'
     go_simp
     with_reducible rfl
    rotate_left
    ·simp only [SX]
     rfl
    refine tk 20 42 ?_ (ms 30 12582911) rfl rfl HT_ HW_ (by kernel_rfl) (fun _ _ _ h => h) (by rfl) ?_ hHeld ?_ ?_ ?_
    rotate_left
    ·rintro w' ⟨s0, s1, s2, s3, s4, s5, s6, s7, s8, s9, s10, s11, s12⟩
     go_simp
     with_reducible rfl
    rotate_left
    ·simp only [SX]
     rfl
    refine tk 22 44 ?_ (ms 30 16777215) rfl rfl HT_ HW_ (by kernel_rfl) (fun _ _ _ h => h) (by rfl) ?_ hHeld ?_ ?_ ?_
    rotate_left
    ·rintro w' ⟨s0, s1, s2, s3, s4, s5, s6, s7, s8, s9, s10, s11, s12⟩
     go_simp
     with_reducible rfl
    rotate_left
    ·simp only [SX]
     rfl
    refine pu 24 46 ?_ (ms 30 33554431) rfl rfl HT_ (by kernel_rfl) (fun _ _ _ h => h) (by rfl) ?_ ?_ ?_ ?_
    rotate_left
    ·intro w'
     go_simp
     with_reducible rfl
    rotate_left
    ·simp only [SX]
     rfl
    refine pu 25 47 ?_ (ms 30 67108863) rfl rfl HT_ (by kernel_rfl) (fun _ _ _ h => h) (by rfl) ?_ ?_ ?_ ?_
    rotate_left
    ·intro w'
     go_simp
     with_reducible rfl
    rotate_left
    ·simp only [SX]
     rfl
    refine tk 26 48 ?_ (ms 30 134217727) rfl rfl HT_ HW_ (by kernel_rfl) (fun _ _ _ h => h) (by rfl) ?_ hHeld ?_ ?_ ?_
    rotate_left
    ·rintro w' ⟨s0, s1, s2, s3, s4, s5, s6, s7, s8, s9, s10, s11, s12⟩
     go_simp
     with_reducible rfl
    rotate_left
    ·simp only [SX]
     rfl
    refine pu 27 49 ?_ (ms 30 268435455) rfl rfl HT_ (by kernel_rfl) (fun _ _ _ h => h) (by rfl) ?_ ?_ ?_ ?_
    rotate_left
    ·intro w'
     go_simp
     with_reducible rfl
    rotate_left
    ·simp only [SX]
     rfl
    refine pu 28 50 ?_ (ms 30 536870911) rfl rfl HT_ (by kernel_rfl) (fun _ _ _ h => h) (by rfl) ?_ ?_ ?_ ?_
    rotate_left
    ·intro w'
     go_simp
     with_reducible rfl
    rotate_left
    ·simp only [SX]
     rfl
    refine pu 29 51 ?_ (ms 30 1073741823) rfl rfl HT_ (by kernel_rfl) (fun _ _ _ h => h) (by rfl) ?_ ?_ ?_ ?_
    rotate_left
    ·intro w'
     go_simp
     with_reducible rfl
    rotate_left
    ·simp only [SX]
     rfl
    refine qXc (qQp HT_.out (by kernel_rfl)) ?_
    try go_wp2
    go_ret
    exact ⟨by rfl, bl1 HB aI⟩
   rw [if_pos c25] at H
   have c25b0 : (((qZa ab (rd l1 (ad))).f1) == ((qZa ab (rd l1 aa)).f0)) = true := beq_iff_eq.mpr c25
   have c25b1 : (((qZa ab (rd l1 (ad))).f1) != ((qZa ab (rd l1 aa)).f0)) = false := bne_eq_false_iff_eq.mpr c25
   clear c25
   have H' := ak H
   clear H
   have aJ : 0 ≤ (aa : Int) := oT (by (with_reducible assumption))
   have aK : aa < (l1.length : Int) := oT (by (with_reducible assumption))
   obtain ⟨aO, aQ, af⟩ := Kd.at_int HR1.out aa aJ aK
   cases aQ
   replace af := hcb HB.out af
   replace aJ := eq_true aJ
   replace aK := eq_true aK
   try go_wp2
   replace ac := ak (qZp ac.out)
   replace HB := ak (qZo HB.out)
   have aR : 0 ≤ ((ad) : Int) := oT (by (with_reducible assumption))
   have aS : (ad) < (l1.length : Int) := oT (by (with_reducible assumption))
   obtain ⟨bj, br, ai⟩ := Kd.at_int HR1.out (ad) aR aS
   have aj := ai
   obtain rfl : aO = bj := (by injection br)
   replace ai := hcb HB.out ai
   replace aR := eq_true aR
   replace aS := eq_true aS
   have aT : 0 ≤ ((rd l1 (ad)) : Int) := oT (by (with_reducible assumption))
   have aU : (rd l1 (ad)) < (ab.length : Int) := oT (by (with_reducible assumption))
   obtain ⟨ae, bs, al, am, an, ao, ap⟩ := qJk aP.out (rd l1 (ad)) aT aU
   have aq := ap
   have ar := ao
   have au := an
   have av := am
   have aw := al
   cases bs
   replace al := hcb HB.out al
   replace am := hcb HB.out am
   replace an := hcb HB.out an
   replace ao := hcb HB.out ao
   replace ap := hcb HB.out ap
   replace aT := eq_true aT
   replace aU := eq_true aU
   have aV : 0 ≤ ((rd l1 aa) : Int) := oT (by (with_reducible assumption))
   have aW : (rd l1 aa) < (ab.length : Int) := oT (by (with_reducible assumption))
   obtain ⟨bm, bu, ax, ay, az, aA, aB⟩ := qJk aP.out (rd l1 aa) aV aW
   have aC := aB
   have aD := aA
   have aE := az
   have aF := ay
   have aG := ax
   obtain rfl : ae = bm := (by injection bu)
   replace ax := hcb HB.out ax
   replace ay := hcb HB.out ay
   replace az := hcb HB.out az
   replace aA := hcb HB.out aA
   replace aB := hcb HB.out aB
   replace aV := eq_true aV
   replace aW := eq_true aW
   refine qJd (n := 30) (S := fun w' => w'.cell? ⟨aH, 0, none⟩ = some (.int .i64 ag) ∧ w'.cell? ⟨aH, 1, none⟩ = some (.slice (some ae) ab.length aL) ∧ w'.cell? (aO.add ((ad)).toNat) = some (.int .i64 (rd l1 (ad))) ∧ w'.cell? (ae.add (((rd l1 (ad))).toNat * 5)) = some (.int .i64 ((qZa ab (rd l1 (ad))).f0)) ∧ w'.cell? ⟨(ae.add (((rd l1 (ad))).toNat * 5)).block, (ae.add (((rd l1 (ad))).toNat * 5)).off + 1, none⟩ = some (.int .i64 ((qZa ab (rd l1 (ad))).f1)) ∧ w'.cell? ⟨(ae.add (((rd l1 (ad))).toNat * 5)).block, (ae.add (((rd l1 (ad))).toNat * 5)).off + 2, none⟩ = some (.int .i64 ((qZa ab (rd l1 (ad))).f2)) ∧ w'.cell? ⟨(ae.add (((rd l1 (ad))).toNat * 5)).block, (ae.add (((rd l1 (ad))).toNat * 5)).off + 3, none⟩ = some (.int .i64 ((qZa ab (rd l1 (ad))).f3)) ∧ w'.cell? ⟨(ae.add (((rd l1 (ad))).toNat * 5)).block, (ae.add (((rd l1 (ad))).toNat * 5)).off + 4, none⟩ = some (.int .i64 ((qZa ab (rd l1 (ad))).f4)) ∧ w'.cell? (ae.add (((rd l1 aa)).toNat * 5)) = some (.int .i64 ((qZa ab (rd l1 aa)).f0)) ∧ w'.cell? ⟨(ae.add (((rd l1 aa)).toNat * 5)).block, (ae.add (((rd l1 aa)).toNat * 5)).off + 1, none⟩ = some (.int .i64 ((qZa ab (rd l1 aa)).f1)) ∧ w'.cell? ⟨(ae.add (((rd l1 aa)).toNat * 5)).block, (ae.add (((rd l1 aa)).toNat * 5)).off + 2, none⟩ = some (.int .i64 ((qZa ab (rd l1 aa)).f2)) ∧ w'.cell? ⟨(ae.add (((rd l1 aa)).toNat * 5)).block, (ae.add (((rd l1 aa)).toNat * 5)).off + 3, none⟩ = some (.int .i64 ((qZa ab (rd l1 aa)).f3)) ∧ w'.cell? ⟨(ae.add (((rd l1 aa)).toNat * 5)).block, (ae.add (((rd l1 aa)).toNat * 5)).off + 4, none⟩ = some (.int .i64 ((qZa ab (rd l1 aa)).f4))) (ds := []) (ms 30 0) (by kernel_rfl) rfl (by kernel_rfl) ⟨(qZb ac.out 0).trans rfl, (qZb ac.out 1).trans rfl, ((HB.out.cell (World.block_lt_of_cell? w _ aj)).trans aj), ((HB.out.cell (World.block_lt_of_cell? w _ aw)).trans aw), ((HB.out.cell (World.block_lt_of_cell? w _ av)).trans av), ((HB.out.cell (World.block_lt_of_cell? w _ au)).trans au), ((HB.out.cell (World.block_lt_of_cell? w _ ar)).trans ar), ((HB.out.cell (World.block_lt_of_cell? w _ aq)).trans aq), ((HB.out.cell (World.block_lt_of_cell? w _ aG)).trans aG), ((HB.out.cell (World.block_lt_of_cell? w _ aF)).trans aF), ((HB.out.cell (World.block_lt_of_cell? w _ aE)).trans aE), ((HB.out.cell (World.block_lt_of_cell? w _ aD)).trans aD), ((HB.out.cell (World.block_lt_of_cell? w _ aC)).trans aC)⟩ (fun hHeld => ?_); refine qQk impl_WalkOk.tab6 impl_WalkOk.bits6 (fun HT_ HW_ => ?_)
   generalize wr.drew = w26 at ac HB ai al am an ao ap ax ay az aA aB hHeld ⊢
   refine pu 0 22 ?_ (ms 30 1) rfl rfl HT_ (by kernel_rfl) (fun _ _ _ h => h) (by rfl) ?_ ?_ ?_ ?_
   rotate_left
   ·intro w'
    go_simp
    with_reducible rfl
   rotate_left
   ·simp only [SX]
    rfl
   refine pu 1 23 ?_ (ms 30 3) rfl rfl HT_ (by kernel_rfl) (fun _ _ _ h => h) (by rfl) ?_ ?_ ?_ ?_
   rotate_left
   ·intro w'
    go_simp
    with_reducible rfl
   rotate_left
   ·simp only [SX]
    rfl
   refine tk 2 24 ?_ (ms 30 7) rfl rfl HT_ HW_ (by kernel_rfl) (fun _ _ _ h => h) (by rfl) ?_ hHeld ?_ ?_ ?_
   rotate_left
   ·rintro w' ⟨s0, s1, s2, s3, s4, s5, s6, s7, s8, s9, s10, s11, s12⟩
    go_simp
    with_reducible rfl
   rotate_left
   ·simp only [SX]
    rfl
   refine pu 3 25 ?_ (ms 30 15) rfl rfl HT_ (by kernel_rfl) (fun _ _ _ h => h) (by rfl) ?_ ?_ ?_ ?_
   rotate_left
   ·intro w'
    go_simp
    with_reducible rfl
   rotate_left
   ·simp only [SX]
    rfl
   refine pu 4 26 ?_ (ms 30 31) rfl rfl HT_ (by kernel_rfl) (fun _ _ _ h => h) (by rfl) ?_ ?_ ?_ ?_
   rotate_left
   ·intro w'
    go_simp
    with_reducible rfl
   rotate_left
   ·simp only [SX]
    rfl
   refine one_ (i := 5) (N := some 27) (ms 30 63) rfl rfl (qJb HT_.out (by kernel_rfl)) (by decide) (fun K hK => ?_)
   refine qXg Try.func48 (by kernel_rfl) rfl #[.int .i64 (rd l1 aa), .int .i64 0, .int .i64 (wrap64 ((ab.length : Int) - 1))] (by rfl) rfl rfl (by (try simp only [List.map_toArray, List.map_cons, List.map_nil]); rfl) ?_
   with_reducible refine (impl_within.calls (rd l1 aa) 0 (wrap64 ((ab.length : Int) - 1)) true _ A15.out).mono ?_
   rintro e w' ⟨rfl, ⟨nd, rfl⟩⟩
   refine ⟨_, rfl, ?_⟩
   refine hK.out _ _ ⟨(qZb ac.out 0).trans rfl, (qZb ac.out 1).trans rfl, ((HB.out.cell (World.block_lt_of_cell? w _ aj)).trans aj), ((HB.out.cell (World.block_lt_of_cell? w _ aw)).trans aw), ((HB.out.cell (World.block_lt_of_cell? w _ av)).trans av), ((HB.out.cell (World.block_lt_of_cell? w _ au)).trans au), ((HB.out.cell (World.block_lt_of_cell? w _ ar)).trans ar), ((HB.out.cell (World.block_lt_of_cell? w _ aq)).trans aq), ((HB.out.cell (World.block_lt_of_cell? w _ aG)).trans aG), ((HB.out.cell (World.block_lt_of_cell? w _ aF)).trans aF), ((HB.out.cell (World.block_lt_of_cell? w _ aE)).trans aE), ((HB.out.cell (World.block_lt_of_cell? w _ aD)).trans aD), ((HB.out.cell (World.block_lt_of_cell? w _ aC)).trans aC)⟩ (fun hHeld => ?_)
   clear hK K
   refine qJc (a' := ?_) ?_ ?_
   rotate_left
   ·show Act.put _ (some 27) _ = _
    simp only [SX]
    rfl
   refine pu 6 28 ?_ (ms 30 127) rfl rfl HT_ (by kernel_rfl) (fun _ _ _ h => h) (by rfl) ?_ ?_ ?_ ?_
   rotate_left
   ·intro w'
    go_simp
    with_reducible rfl
   rotate_left
   ·simp only [SX]
    rfl
   refine pu 7 29 ?_ (ms 30 255) rfl rfl HT_ (by kernel_rfl) (fun _ _ _ h => h) (by rfl) ?_ ?_ ?_ ?_
   rotate_left
   ·intro w'
    go_simp
    with_reducible rfl
   rotate_left
   ·simp only [SX]
    rfl
   refine pu 8 30 ?_ (ms 30 511) rfl rfl HT_ (by kernel_rfl) (fun _ _ _ h => h) (by rfl) ?_ ?_ ?_ ?_
   rotate_left
   ·intro w'
    go_simp
    with_reducible rfl
   rotate_left
   ·simp only [SX]
    rfl
   refine pu 9 31 ?_ (ms 30 1023) rfl rfl HT_ (by kernel_rfl) (fun _ _ _ h => h) (by rfl) ?_ ?_ ?_ ?_
   rotate_left
   ·intro w'
    go_simp
    with_reducible rfl
   rotate_left
   ·simp only [SX]
    rfl
   refine pu 10 32 ?_ (ms 30 2047) rfl rfl HT_ (by kernel_rfl) (fun _ _ _ h => h) (by rfl) ?_ ?_ ?_ ?_
   rotate_left
   ·intro w'
    go_simp
    with_reducible rfl
   rotate_left
   ·simp only [SX]
    rfl
   refine pu 11 33 ?_ (ms 30 4095) rfl rfl HT_ (by kernel_rfl) (fun _ _ _ h => h) (by rfl) ?_ ?_ ?_ ?_
   rotate_left
   ·intro w'
    go_simp
    with_reducible rfl
   rotate_left
   ·simp only [SX]
    rfl
   refine pu 13 35 ?_ (ms 30 12287) rfl rfl HT_ (by kernel_rfl) (fun _ _ _ h => h) (by rfl) ?_ ?_ ?_ ?_
   rotate_left
   ·intro w'
    go_simp
    with_reducible rfl
   rotate_left
   ·simp only [SX]
    rfl
   refine pu 14 36 ?_ (ms 30 28671) rfl rfl HT_ (by kernel_rfl) (fun _ _ _ h => h) (by rfl) ?_ ?_ ?_ ?_
   rotate_left
   ·intro w'
    go_simp
    with_reducible rfl
   rotate_left
   ·simp only [SX]
    rfl
   refine pu 15 37 ?_ (ms 30 61439) rfl rfl HT_ (by kernel_rfl) (fun _ _ _ h => h) (by rfl) ?_ ?_ ?_ ?_
   rotate_left
   ·intro w'
    go_simp
    with_reducible rfl
   rotate_left
   ·simp only [SX]
    rfl
   refine pu 16 38 ?_ (ms 30 126975) rfl rfl HT_ (by kernel_rfl) (fun _ _ _ h => h) (by rfl) ?_ ?_ ?_ ?_
   rotate_left
   ·intro w'
    go_simp
    with_reducible rfl
   rotate_left
   ·simp only [SX]
    rfl
   refine pu 21 43 ?_ (ms 30 2224127) rfl rfl HT_ (by kernel_rfl) (fun _ _ _ h => h) (by rfl) ?_ ?_ ?_ ?_
   rotate_left
   ·intro w'
    go_simp
    with_reducible rfl
   rotate_left
   ·simp only [SX]
    rfl
   refine pu 23 45 ?_ (ms 30 10612735) rfl rfl HT_ (by kernel_rfl) (fun _ _ _ h => h) (by rfl) ?_ ?_ ?_ ?_
   rotate_left
   ·intro w'
    go_simp
    with_reducible rfl
   rotate_left
   ·simp only [SX]
    rfl
   refine tk 12 34 ?_ (ms 30 10616831) rfl rfl HT_ HW_ (by kernel_rfl) (fun _ _ _ h => h) (by rfl) ?_ hHeld ?_ ?_ ?_
   rotate_left
   ·rintro w' ⟨s0, s1, s2, s3, s4, s5, s6, s7, s8, s9, s10, s11, s12⟩
    go_simp
    with_reducible rfl
   rotate_left
   ·simp only [SX]
    rfl
   refine tk 17 39 ?_ (ms 30 10747903) rfl rfl HT_ HW_ (by kernel_rfl) (fun _ _ _ h => h) (by rfl) ?_ hHeld ?_ ?_ ?_
   rotate_left
   ·rintro w' ⟨s0, s1, s2, s3, s4, s5, s6, s7, s8, s9, s10, s11, s12⟩
    go_simp
    with_reducible rfl
   rotate_left
   ·simp only [SX]
    rfl
   refine pu 18 40 ?_ (ms 30 11010047) rfl rfl HT_ (by kernel_rfl) (fun _ _ _ h => h) (by rfl) ?_ ?_ ?_ ?_
   rotate_left
   ·intro w'
    go_simp
    with_reducible rfl
   rotate_left
   ·simp only [SX]
    rfl
   refine pu 19 41 ?_ (ms 30 11534335) rfl rfl HT_ (by kernel_rfl) (fun _ _ _ h => h) (by rfl) ?_ ?_ ?_ ?_
   rotate_left
   ·intro w'
    go_simp
    with_reducible rfl
   rotate_left
   ·simp only [SX]
    rfl
   refine tk 20 42 ?_ (ms 30 12582911) rfl rfl HT_ HW_ (by kernel_rfl) (fun _ _ _ h => h) (by rfl) ?_ hHeld ?_ ?_ ?_
   rotate_left
   ·rintro w' ⟨s0, s1, s2, s3, s4, s5, s6, s7, s8, s9, s10, s11, s12⟩
    go_simp
    with_reducible rfl
   rotate_left
   ·simp only [SX]
    rfl
   refine tk 22 44 ?_ (ms 30 16777215) rfl rfl HT_ HW_ (by kernel_rfl) (fun _ _ _ h => h) (by rfl) ?_ hHeld ?_ ?_ ?_
   rotate_left
   ·rintro w' ⟨s0, s1, s2, s3, s4, s5, s6, s7, s8, s9, s10, s11, s12⟩
    go_simp
    with_reducible rfl
   rotate_left
   ·simp only [SX]
    rfl
   refine pu 24 46 ?_ (ms 30 33554431) rfl rfl HT_ (by kernel_rfl) (fun _ _ _ h => h) (by rfl) ?_ ?_ ?_ ?_
   rotate_left
   ·intro w'
    go_simp
    with_reducible rfl
   rotate_left
   ·simp only [SX]
    rfl
   refine pu 25 47 ?_ (ms 30 67108863) rfl rfl HT_ (by kernel_rfl) (fun _ _ _ h => h) (by rfl) ?_ ?_ ?_ ?_
   rotate_left
   ·intro w'
    go_simp
    with_reducible rfl
   rotate_left
   ·simp only [SX]
    rfl
   refine tk 26 48 ?_ (ms 30 134217727) rfl rfl HT_ HW_ (by kernel_rfl) (fun _ _ _ h => h) (by rfl) ?_ hHeld ?_ ?_ ?_
   rotate_left
   ·rintro w' ⟨s0, s1, s2, s3, s4, s5, s6, s7, s8, s9, s10, s11, s12⟩
    go_simp
    with_reducible rfl
   rotate_left
   ·simp only [SX]
    rfl
   refine pu 27 49 ?_ (ms 30 268435455) rfl rfl HT_ (by kernel_rfl) (fun _ _ _ h => h) (by rfl) ?_ ?_ ?_ ?_
   rotate_left
   ·intro w'
    go_simp
    with_reducible rfl
   rotate_left
   ·simp only [SX]
    rfl
   refine pu 28 50 ?_ (ms 30 536870911) rfl rfl HT_ (by kernel_rfl) (fun _ _ _ h => h) (by rfl) ?_ ?_ ?_ ?_
   rotate_left
   ·intro w'
    go_simp
    with_reducible rfl
   rotate_left
   ·simp only [SX]
    rfl
   refine pu 29 51 ?_ (ms 30 1073741823) rfl rfl HT_ (by kernel_rfl) (fun _ _ _ h => h) (by rfl) ?_ ?_ ?_ ?_
   rotate_left
   ·intro w'
    go_simp
    with_reducible rfl
   rotate_left
   ·simp only [SX]
    rfl
   refine qXc (qQp HT_.out (by kernel_rfl)) ?_
   try go_wp2
   go_roundg k2
   case measure => have := HJ2.out; have := HK2.out; omega
   case rel => exact ⟨(wrap64 (aa + 1)), (by rfl), H', ⟨by have := HJ2.out; have := HK2.out; omega⟩, ⟨bk ac⟩, ⟨bl1 HB aI⟩⟩
/-! ### impl_WalkCost: function 16 -/
def impl_WalkCost.f (k : Nat) (ac : Int) (ab : List (S58)) (l1 : List Int) : Option (Int) := (impl_WalkOk.f k ac ab l1).bind fun ah => (if ah = true then ((impl_Net_cost.f k ac ab l1).bind fun ai => (some ai)) else (some (-1)))
theorem impl_WalkCost.mono : ∀ a0 a1 a2 k, LeO (impl_WalkCost.f k a0 a1 a2) (impl_WalkCost.f (k + 1) a0 a1 a2) := by
 intro a0 a1 a2 k
 unfold impl_WalkCost.f
 repeat' first | (with_reducible exact impl_Net_cost.mono _ _ _ _) | (with_reducible exact impl_WalkOk.mono _ _ _ _) | (with_reducible exact LeO.refl _) | (with_reducible refine LeO.ite ?_ ?_) | (with_reducible refine LeO.bind ?_ (fun _ => ?_))
set_option maxHeartbeats 8000000 in
set_option maxRecDepth 100000 in
theorem impl_WalkCost.calls (k : Nat) (ac : Int) (ad : Option Addr) (ae : Nat) (ab : List (S58)) (A1 : Option Addr) (c1 : Nat) (l1 : List Int) (r : Int) (w : World) (am : Kd.C k58 w ad ab.length ab) (an : ab.length ≤ ae) (hr1 : Kd.C (Kd.int .i64) w A1 l1.length l1) (hc1 : l1.length ≤ c1) (h : impl_WalkCost.f k ac ab l1 = some r) :
  Calls Try.prog 16 #[.agg #[.int .i64 ac, .slice ad ab.length ae], .slice A1 l1.length c1] w fun e w' => e = .returned (.int .i64 r) ∧ Below w.heap.size w w' := by
 have aD := Try.underlying25
 have aj := ak am
 have al := ak an
 clear am an
 have HR1 := ak hr1
 have HC1 := ak hc1
 clear hr1 hc1
 have HB := ak (Below.refl w.heap.size w)
 have H : ((impl_WalkOk.f k ac ab l1).bind fun ah => (if ah = true then ((impl_Net_cost.f k ac ab l1).bind fun ai => (some ai)) else (some (-1)))) = some r := h
 clear h
 replace H := Option.bind_eq_some_iff.mp H
 obtain ⟨ah, A30, H⟩ := H
 have A3 := ak A30
 clear A30
 by_cases c4 : ah = true
 rotate_left
 ·replace c4 := Bool.eq_false_iff.mpr c4
  subst c4
  rw [if_neg (show ¬ (false = true) by decide)] at H
  obtain rfl := Option.some.inj H
  go_enter Try.func16, Try.ntmps16
  go_wp2_with (first | ((with_reducible refine gate_dst (N := 2) rfl ?_); refine qZj ?hg (N := 2) ?hd (cs := #[.int .i64 ac, .slice ad ab.length ae]) (t := 25) ?hr ?_; (case hd => rfl); (case hg => rfl); (case hr => (go_simp; done)); intro ag hg w11 hbox hb; have aa := ak (hbox); have ao := ak ((by rw [hg]; exact (qZc (bl HB)) : w.heap.size ≤ ag)); have af := ak ((by rw [hg]; exact (qZc (bl HB)) : w.heap.size ≤ ag)); replace HB := ak (qZd (bl HB) hb); clear hb hbox hg; have ap := bc w11 aa 0 (.int .i64 ac) rfl; have aq := bc w11 aa 1 (.slice ad ab.length ae) rfl; have ar := fz aa 0; have au := fz aa 1) | ((with_reducible refine gate_callee (f := 61) rfl ?_); refine qQj (some 7) rfl rfl Try.func61 (by kernel_rfl) rfl #[.agg #[.int .i64 ac, .slice ad ab.length ae], .slice A1 l1.length c1] rfl (by (try simp only [List.map_toArray, List.map_cons, List.map_nil]); rfl) ?_; (with_reducible refine (impl_WalkOk.calls k ac _ _ ab _ _ l1 false _ ?side1 ?side2 ?side3 ?side4 A3.out).mono ?_); (case side1 => repeat (exact (Kd.C_below aj.out HB.out))); (case side2 => exact al.out); (case side3 => repeat (exact (Kd.C_below HR1.out HB.out))); (case side4 => exact HC1.out); rintro e w13 ⟨rfl, hb⟩; refine ⟨_, rfl, ?_⟩; replace aa := ak (qZe (bk aa) hb); replace HB := ak (qZd (bl1 HB af) hb); (try clear hb); (try clear hb2); (try clear hk); (try clear hi)))
  go_ret
  exact ⟨by rfl, bl1 HB af⟩
 subst c4
 rw [if_pos rfl] at H
 replace H := Option.bind_eq_some_iff.mp H
 obtain ⟨ai, A50, H⟩ := H
 have A5 := ak A50
 clear A50
 obtain rfl := Option.some.inj H
 go_enter Try.func16, Try.ntmps16
 go_wp2_with (first | ((with_reducible refine gate_dst (N := 2) rfl ?_); refine qZj ?hg (N := 2) ?hd (cs := #[.int .i64 ac, .slice ad ab.length ae]) (t := 25) ?hr ?_; (case hd => rfl); (case hg => rfl); (case hr => (go_simp; done)); intro ag hg w6 hbox hb; have aa := ak (hbox); have ao := ak ((by rw [hg]; exact (qZc (bl HB)) : w.heap.size ≤ ag)); have af := ak ((by rw [hg]; exact (qZc (bl HB)) : w.heap.size ≤ ag)); replace HB := ak (qZd (bl HB) hb); clear hb hbox hg; have av := bc w6 aa 0 (.int .i64 ac) rfl; have aw := bc w6 aa 1 (.slice ad ab.length ae) rfl; have ax := fz aa 0; have ay := fz aa 1) | ((with_reducible refine gate_callee (f := 61) rfl ?_); refine qQj (some 7) rfl rfl Try.func61 (by kernel_rfl) rfl #[.agg #[.int .i64 ac, .slice ad ab.length ae], .slice A1 l1.length c1] rfl (by (try simp only [List.map_toArray, List.map_cons, List.map_nil]); rfl) ?_; (with_reducible refine (impl_WalkOk.calls k ac _ _ ab _ _ l1 true _ ?side1 ?side2 ?side3 ?side4 A3.out).mono ?_); (case side1 => repeat (exact (Kd.C_below aj.out HB.out))); (case side2 => exact al.out); (case side3 => repeat (exact (Kd.C_below HR1.out HB.out))); (case side4 => exact HC1.out); rintro e w8 ⟨rfl, hb⟩; refine ⟨_, rfl, ?_⟩; replace aa := ak (qZe (bk aa) hb); replace HB := ak (qZd (bl1 HB af) hb); (try clear hb); (try clear hb2); (try clear hk); (try clear hi); have az := bc w8 aa 0 (.int .i64 ac) rfl; have aA := bc w8 aa 1 (.slice ad ab.length ae) rfl; have aB := fz aa 0; have aC := fz aa 1) | ((with_reducible refine gate_callee (f := 49) rfl ?_); refine qQj (some 11) rfl rfl Try.func49 (by kernel_rfl) rfl #[.agg #[.int .i64 ac, .slice ad ab.length ae], .slice A1 l1.length c1] rfl (by (try simp only [List.map_toArray, List.map_cons, List.map_nil]); rfl) ?_; (with_reducible refine (impl_Net_cost.calls k ac _ _ ab _ _ l1 ai _ ?side1 ?side2 ?side3 ?side4 A5.out).mono ?_); (case side1 => repeat (exact (Kd.C_below aj.out HB.out))); (case side2 => exact al.out); (case side3 => repeat (exact (Kd.C_below HR1.out HB.out))); (case side4 => exact HC1.out); rintro e w10 ⟨rfl, hb⟩; refine ⟨_, rfl, ?_⟩; replace aa := ak (qZe (bk aa) hb); replace HB := ak (qZd (bl1 HB af) hb); (try clear hb); (try clear hb2); (try clear hk); (try clear hi)))
 go_ret
 exact ⟨by rfl, bl1 HB af⟩
/-! ### slices_Index_int_int: function 85 -/
def slices_Index_int_int.l0 : Nat → List Int → Int → Int → Int → Option (Int)
 | 0, _, _, _, _ => none
 | k + 1, x0, x1, x7, x8 => if x8 < x7 then (if 0 ≤ x8 then (if x8 < (x0.length : Int) then (if x1 = (rd x0 x8) then (some x8) else (slices_Index_int_int.l0 k x0 x1 x7 (wrap64 (x8 + 1)))) else (none)) else (none)) else (some (-1))
def slices_Index_int_int.f (k : Nat) (l0 : List Int) (a1 : Int) : Option (Int) := slices_Index_int_int.l0 k l0 a1 (l0.length : Int) 0
theorem slices_Index_int_int.mono_l : ∀ k, (∀ y0 y1 y2 y3, LeO (slices_Index_int_int.l0 k y0 y1 y2 y3) (slices_Index_int_int.l0 (k + 1) y0 y1 y2 y3))
 | 0 => fun _ _ _ _ r h => by simp [slices_Index_int_int.l0] at h
 | k + 1 => by
  have ih0 := slices_Index_int_int.mono_l k
  ·intro y0 y1 y2 y3
   unfold slices_Index_int_int.l0
   repeat' first | (with_reducible exact ih0 _ _ _ _) | (with_reducible exact LeO.refl _) | (with_reducible refine LeO.ite ?_ ?_)
theorem slices_Index_int_int.mono : ∀ a0 a1 k, LeO (slices_Index_int_int.f k a0 a1) (slices_Index_int_int.f (k + 1) a0 a1) := by
 intro a0 a1 k
 have ih0 := slices_Index_int_int.mono_l k
 unfold slices_Index_int_int.f
 repeat' (with_reducible exact ih0 _ _ _ _)
set_option maxHeartbeats 8000000 in
set_option maxRecDepth 100000 in
theorem slices_Index_int_int.calls (k : Nat) (A0 : Option Addr) (c0 : Nat) (l0 : List Int) (a1 : Int) (r : Int) (w : World) (hr0 : Kd.C (Kd.int .i64) w A0 l0.length l0) (hc0 : l0.length ≤ c0) (h : slices_Index_int_int.f k l0 a1 = some r) :
  Calls Try.prog 85 #[.slice A0 l0.length c0, .int .i64 a1] w fun e w' => e = .returned (.int .i64 r) ∧ Drawn0 w w' := by
 have HR0 := ak hr0
 have HC0 := ak hc0
 clear hr0 hc0
 have H : (slices_Index_int_int.l0 k l0 a1 (l0.length : Int) 0) = some r := h
 clear h
 have H' := ak H
 clear H
 go_enter Try.func85, Try.ntmps85
 go_wp2
 go_loopg [8] k (fun kq v8 w' => ∃ (aa : Int), v8 = .int .i64 aa ∧ Aside0 (slices_Index_int_int.l0 kq l0 a1 (l0.length : Int) aa = some r) ∧ Aside0 (kq ≤ k) ∧ Drawn0 w w')
 case atStart => exact ⟨(0), (by rfl), H', ⟨Nat.le_refl _⟩, by repeat (exact Drawn0.refl _)⟩
 clear H'
 try clear p2
 obtain ⟨aa, rfl, HA, HK1, ⟨m1, rfl⟩⟩ := hrel
 cases gk with
 | zero => exact absurd HA.out (by simp [slices_Index_int_int.l0])
 | succ k1 =>
  have H := HA.out
  clear HA
  simp only [slices_Index_int_int.l0] at H
  by_cases c3 : aa < (l0.length : Int)
  rotate_left
  ·rw [if_neg c3] at H
   have c3b0 : decide (aa < (l0.length : Int)) = false := decide_eq_false c3
   clear c3
   obtain rfl := Option.some.inj H
   go_wp2
   go_ret
   exact ⟨by rfl, by repeat (first | exact Drawn0.refl _ | apply Drawn0.step)⟩
  rw [if_pos c3] at H
  have c3b0 : decide (aa < (l0.length : Int)) = true := decide_eq_true c3
  clear c3
  by_cases c4 : 0 ≤ aa
  rotate_left
  ·rw [if_neg c4] at H
   exact absurd H (by simp)
  rw [if_pos c4] at H
  have c4b0 : decide (0 ≤ aa) = true := decide_eq_true c4
  clear c4
  by_cases c5 : aa < (l0.length : Int)
  rotate_left
  ·rw [if_neg c5] at H
   exact absurd H (by simp)
  rw [if_pos c5] at H
  have c5b0 : decide (aa < (l0.length : Int)) = true := decide_eq_true c5
  clear c5
  by_cases c6 : a1 = (rd l0 aa)
  ·rw [if_pos c6] at H
   have c6b0 : (a1 == (rd l0 aa)) = true := beq_iff_eq.mpr c6
   have c6b1 : (a1 != (rd l0 aa)) = false := bne_eq_false_iff_eq.mpr c6
   clear c6
   obtain rfl := Option.some.inj H
   have ab : 0 ≤ (aa : Int) := oT (by (with_reducible assumption))
   have ac : aa < (l0.length : Int) := oT (by (with_reducible assumption))
   obtain ⟨ag, af, ae⟩ := Kd.at_int HR0.out aa ab ac
   cases af
   replace ab := eq_true ab
   replace ac := eq_true ac
   go_wp2
   go_ret
   exact ⟨by rfl, by repeat (first | exact Drawn0.refl _ | apply Drawn0.step)⟩
  rw [if_neg c6] at H
  have c6b0 : (a1 == (rd l0 aa)) = false := beq_eq_false_iff_ne.mpr c6
  have c6b1 : (a1 != (rd l0 aa)) = true := bne_iff_ne.mpr c6
  have H' := ak H
  clear H
  have ab : 0 ≤ (aa : Int) := oT (by (with_reducible assumption))
  have ac : aa < (l0.length : Int) := oT (by (with_reducible assumption))
  obtain ⟨ag, af, ae⟩ := Kd.at_int HR0.out aa ab ac
  cases af
  replace ab := eq_true ab
  replace ac := eq_true ac
  go_wp2
  go_roundg k1
  case measure => have := HK1.out; omega
  case rel => exact ⟨(wrap64 (aa + 1)), (by rfl), H', ⟨by have := HK1.out; omega⟩, by repeat (first | exact Drawn0.refl _ | apply Drawn0.step)⟩

/-! ### slices_Contains_int_int: function 88 -/
def slices_Contains_int_int.f (k : Nat) (l0 : List Int) (a1 : Int) : Option (Bool) := (slices_Index_int_int.f k l0 a1).bind fun ad => (some (decide (ad ≥ 0)))
theorem slices_Contains_int_int.mono : ∀ a0 a1 k, LeO (slices_Contains_int_int.f k a0 a1) (slices_Contains_int_int.f (k + 1) a0 a1) := by
 intro a0 a1 k
 unfold slices_Contains_int_int.f
 repeat' first | (with_reducible exact slices_Index_int_int.mono _ _ _) | (with_reducible exact LeO.refl _) | (with_reducible refine LeO.bind ?_ (fun _ => ?_))
set_option maxHeartbeats 8000000 in
set_option maxRecDepth 100000 in
theorem slices_Contains_int_int.calls (k : Nat) (A0 : Option Addr) (c0 : Nat) (l0 : List Int) (a1 : Int) (r : Bool) (w : World) (hr0 : Kd.C (Kd.int .i64) w A0 l0.length l0) (hc0 : l0.length ≤ c0) (h : slices_Contains_int_int.f k l0 a1 = some r) :
  Calls Try.prog 88 #[.slice A0 l0.length c0, .int .i64 a1] w fun e w' => e = .returned (.bool r) ∧ Drawn0 w w' := by
 have HR0 := ak hr0
 have HC0 := ak hc0
 clear hr0 hc0
 have H : ((slices_Index_int_int.f k l0 a1).bind fun ad => (some (decide (ad ≥ 0)))) = some r := h
 clear h
 replace H := Option.bind_eq_some_iff.mp H
 obtain ⟨ad, A30, H⟩ := H
 have A3 := ak A30
 clear A30
 obtain rfl := Option.some.inj H
 go_enter Try.func88, Try.ntmps88
 go_wp2_with (((with_reducible refine gate_callee (f := 85) rfl ?_); refine qQj (some 7) rfl rfl Try.func85 (by kernel_rfl) rfl #[.slice A0 l0.length c0, .int .i64 a1] rfl (by (try simp only [List.map_toArray, List.map_cons, List.map_nil]); rfl) ?_; (with_reducible refine (slices_Index_int_int.calls k _ _ l0 a1 ad _ ?side1 ?side2 A3.out).mono ?_); (case side1 => repeat (exact HR0.out)); (case side2 => exact HC0.out); rintro e w' ⟨rfl, ⟨nd, rfl⟩⟩; refine ⟨_, rfl, ?_⟩))
 go_ret
 exact ⟨by rfl, by repeat (first | exact Drawn0.refl _ | apply Drawn0.step)⟩
/-! ### impl_Net_share: function 51 -/
def impl_Net_share.l0 : Nat → List Int → Int → List Int → Int → Int → Int → List (S58) → Option (Int)
 | 0, _, _, _, _, _, _, _ => none
 | k + 1, x2, x7, x10, x11, x12, ai, ae => if x12 < x11 then (if 0 ≤ x12 then (if x12 < (x10.length : Int) then ((slices_Contains_int_int.f k x2 (rd x10 x12)).bind fun ay => (if ay = true then (if 0 ≤ (rd x10 x12) then (if (rd x10 x12) < (ae.length : Int) then (impl_Net_share.l0 k x2 (wrap64 (x7 + ((qZa ae (rd x10 x12)).f2))) x10 x11 (wrap64 (x12 + 1)) ai ae) else (none)) else (none)) else (impl_Net_share.l0 k x2 x7 x10 x11 (wrap64 (x12 + 1)) ai ae))) else (none)) else (none)) else (some x7)
def impl_Net_share.f (k : Nat) (af : Int) (ab : List (S58)) (l1 : List Int) (l2 : List Int) : Option (Int) := impl_Net_share.l0 k l2 0 l1 (l1.length : Int) 0 af ab
theorem impl_Net_share.mono_l : ∀ k, (∀ y0 y1 y2 y3 y4 y5 y6, LeO (impl_Net_share.l0 k y0 y1 y2 y3 y4 y5 y6) (impl_Net_share.l0 (k + 1) y0 y1 y2 y3 y4 y5 y6))
 | 0 => fun _ _ _ _ _ _ _ r h => by simp [impl_Net_share.l0] at h
 | k + 1 => by
  have ih0 := impl_Net_share.mono_l k
  ·intro y0 y1 y2 y3 y4 y5 y6
   unfold impl_Net_share.l0
   repeat' first | (with_reducible exact ih0 _ _ _ _ _ _ _) | (with_reducible exact slices_Contains_int_int.mono _ _ _) | (with_reducible exact LeO.refl _) | (with_reducible refine LeO.ite ?_ ?_) | (with_reducible refine LeO.bind ?_ (fun _ => ?_))
theorem impl_Net_share.mono : ∀ a0 a1 a2 a3 k, LeO (impl_Net_share.f k a0 a1 a2 a3) (impl_Net_share.f (k + 1) a0 a1 a2 a3) := by
 intro a0 a1 a2 a3 k
 have ih0 := impl_Net_share.mono_l k
 unfold impl_Net_share.f
 repeat' (with_reducible exact ih0 _ _ _ _ _ _ _)
set_option maxHeartbeats 8000000 in
set_option maxRecDepth 100000 in
theorem impl_Net_share.calls (k : Nat) (af : Int) (aq : Option Addr) (ar : Nat) (ab : List (S58)) (A1 : Option Addr) (c1 : Nat) (l1 : List Int) (A2 : Option Addr) (c2 : Nat) (l2 : List Int) (r : Int) (w : World) (aw : Kd.C k58 w aq ab.length ab) (ax : ab.length ≤ ar) (hr1 : Kd.C (Kd.int .i64) w A1 l1.length l1) (hc1 : l1.length ≤ c1) (hr2 : Kd.C (Kd.int .i64) w A2 l2.length l2) (hc2 : l2.length ≤ c2) (h : impl_Net_share.f k af ab l1 l2 = some r) :
  Calls Try.prog 51 #[.agg #[.int .i64 af, .slice aq ab.length ar], .slice A1 l1.length c1, .slice A2 l2.length c2] w fun e w' => e = .returned (.int .i64 r) ∧ Below w.heap.size w w' := by
 have aM := Try.underlying25
 have aC := ak aw
 have aJ := ak ax
 clear aw ax
 have HR1 := ak hr1
 have HC1 := ak hc1
 clear hr1 hc1
 have HR2 := ak hr2
 have HC2 := ak hc2
 clear hr2 hc2
 have HB := ak (Below.refl w.heap.size w)
 have H : (impl_Net_share.l0 k l2 0 l1 (l1.length : Int) 0 af ab) = some r := h
 clear h
 have H' := ak H
 clear H
 go_enter Try.func51, Try.ntmps51
 go_wp2_with (((with_reducible refine gate_dst (N := 3) rfl ?_); refine qZj ?hg (N := 3) ?hd (cs := #[.int .i64 af, .slice aq ab.length ar]) (t := 25) ?hr ?_; (case hd => rfl); (case hg => rfl); (case hr => (go_simp; done)); intro au hg w4 hbox hb; have ad := ak (hbox); have aK := ak ((by rw [hg]; exact (qZc (bl HB)) : w.heap.size ≤ au)); have aj := ak ((by rw [hg]; exact (qZc (bl HB)) : w.heap.size ≤ au)); replace HB := ak (qZd (bl HB) hb); clear hb hbox hg))
 go_loopg [7, 12] k (fun kq v7 v12 w' => ∃ (av : Int) (aa : Int), v7 = .int .i64 av ∧ v12 = .int .i64 aa ∧ Aside0 (impl_Net_share.l0 kq l2 av l1 (l1.length : Int) aa af ab = some r) ∧ Aside0 (kq ≤ k) ∧ Aside0 (w'.heap[au]? = some (.cells #[.int .i64 af, (.slice aq ab.length ar)] 25 (0, 0))) ∧ Aside0 (Below w.heap.size w w'))
 case atStart => exact ⟨(0), (0), (by rfl), (by rfl), H', ⟨Nat.le_refl _⟩, ⟨bk ad⟩, ⟨bl1 HB aj⟩⟩
 clear H'
 try clear c1
 try clear c2
 try clear p2
 obtain ⟨av, aa, rfl, rfl, HA, HK1, ad, HB⟩ := hrel
 cases gk with
 | zero => exact absurd HA.out (by simp [impl_Net_share.l0])
 | succ k1 =>
  have H := HA.out
  clear HA
  simp only [impl_Net_share.l0] at H
  by_cases c5 : aa < (l1.length : Int)
  rotate_left
  ·rw [if_neg c5] at H
   have c5b0 : decide (aa < (l1.length : Int)) = false := decide_eq_false c5
   clear c5
   obtain rfl := Option.some.inj H
   go_wp2
   go_ret
   exact ⟨by rfl, bl1 HB aj⟩
  rw [if_pos c5] at H
  have c5b0 : decide (aa < (l1.length : Int)) = true := decide_eq_true c5
  clear c5
  by_cases c6 : 0 ≤ aa
  rotate_left
  ·rw [if_neg c6] at H
   exact absurd H (by simp)
  rw [if_pos c6] at H
  have c6b0 : decide (0 ≤ aa) = true := decide_eq_true c6
  clear c6
  by_cases c7 : aa < (l1.length : Int)
  rotate_left
  ·rw [if_neg c7] at H
   exact absurd H (by simp)
  rw [if_pos c7] at H
  have c7b0 : decide (aa < (l1.length : Int)) = true := decide_eq_true c7
  clear c7
  replace H := Option.bind_eq_some_iff.mp H
  obtain ⟨ay, A80, H⟩ := H
  have A8 := ak A80
  clear A80
  by_cases c9 : ay = true
  rotate_left
  ·replace c9 := Bool.eq_false_iff.mpr c9
   subst c9
   rw [if_neg (show ¬ (false = true) by decide)] at H
   have H' := ak H
   clear H
   have ag : 0 ≤ (aa : Int) := oT (by (with_reducible assumption))
   have ah : aa < (l1.length : Int) := oT (by (with_reducible assumption))
   obtain ⟨aD, az, ac⟩ := Kd.at_int HR1.out aa ag ah
   cases az
   replace ac := hcb HB.out ac
   replace ag := eq_true ag
   replace ah := eq_true ah
   go_wp2_with (((with_reducible refine gate_callee (f := 88) rfl ?_); refine qQj (some 18) rfl rfl Try.func88 (by kernel_rfl) rfl #[.slice A2 l2.length c2, .int .i64 (rd l1 aa)] rfl (by (try simp only [List.map_toArray, List.map_cons, List.map_nil]); rfl) ?_; (with_reducible refine (slices_Contains_int_int.calls k1 _ _ l2 (rd l1 aa) false _ ?side1 ?side2 A8.out).mono ?_); (case side1 => repeat (exact (Kd.C_below HR2.out HB.out))); (case side2 => exact HC2.out); rintro e w' ⟨rfl, ⟨nd, rfl⟩⟩; refine ⟨_, rfl, ?_⟩))
   go_roundg k1
   case measure => have := HK1.out; omega
   case rel => exact ⟨(av), (wrap64 (aa + 1)), (by rfl), (by rfl), H', ⟨by have := HK1.out; omega⟩, ⟨bk ad⟩, ⟨bl1 HB aj⟩⟩
  subst c9
  rw [if_pos rfl] at H
  by_cases c10 : 0 ≤ (rd l1 aa)
  rotate_left
  ·rw [if_neg c10] at H
   exact absurd H (by simp)
  rw [if_pos c10] at H
  have c10b0 : decide (0 ≤ (rd l1 aa)) = true := decide_eq_true c10
  clear c10
  by_cases c11 : (rd l1 aa) < (ab.length : Int)
  rotate_left
  ·rw [if_neg c11] at H
   exact absurd H (by simp)
  rw [if_pos c11] at H
  have c11b0 : decide ((rd l1 aa) < (ab.length : Int)) = true := decide_eq_true c11
  clear c11
  have H' := ak H
  clear H
  have ag : 0 ≤ (aa : Int) := oT (by (with_reducible assumption))
  have ah : aa < (l1.length : Int) := oT (by (with_reducible assumption))
  obtain ⟨aD, az, ac⟩ := Kd.at_int HR1.out aa ag ah
  cases az
  replace ac := hcb HB.out ac
  replace ag := eq_true ag
  replace ah := eq_true ah
  go_wp2_with (((with_reducible refine gate_callee (f := 88) rfl ?_); refine qQj (some 18) rfl rfl Try.func88 (by kernel_rfl) rfl #[.slice A2 l2.length c2, .int .i64 (rd l1 aa)] rfl (by (try simp only [List.map_toArray, List.map_cons, List.map_nil]); rfl) ?_; (with_reducible refine (slices_Contains_int_int.calls k1 _ _ l2 (rd l1 aa) true _ ?side1 ?side2 A8.out).mono ?_); (case side1 => repeat (exact (Kd.C_below HR2.out HB.out))); (case side2 => exact HC2.out); rintro e w' ⟨rfl, ⟨nd, rfl⟩⟩; refine ⟨_, rfl, ?_⟩; have aE := bc wr ad 0 (.int .i64 af) rfl; have aF := bc wr ad 1 (.slice aq ab.length ar) rfl; have aG := fz ad 0; have aH := fz ad 1; have aA : 0 ≤ ((rd l1 aa) : Int) := oT (by (with_reducible assumption)); have aB : (rd l1 aa) < (ab.length : Int) := oT (by (with_reducible assumption)); obtain ⟨aL, aI, al, am, an, ao, ap⟩ := qJk aC.out (rd l1 aa) aA aB; cases aI; replace al := hcb HB.out al; replace am := hcb HB.out am; replace an := hcb HB.out an; replace ao := hcb HB.out ao; replace ap := hcb HB.out ap; replace aA := eq_true aA; replace aB := eq_true aB))
  go_roundg k1
  case measure => have := HK1.out; omega
  case rel => exact ⟨(wrap64 (av + ((qZa ab (rd l1 aa)).f2))), (wrap64 (aa + 1)), (by rfl), (by rfl), H', ⟨by have := HK1.out; omega⟩, ⟨bk ad⟩, ⟨bl1 HB aj⟩⟩
/-! ### impl_SomeShare: function 17 -/
def impl_SomeShare.f (k : Nat) (ac : Int) (ab : List (S58)) (l1 : List Int) (l2 : List Int) : Option (Int) := (impl_WalkOk.f k ac ab l1).bind fun aj => (if aj = true then ((impl_WalkOk.f k ac ab l2).bind fun al => (if al = true then ((impl_Net_share.f k ac ab l1 l2).bind fun am => (some am)) else (some (-1)))) else (some (-1)))
theorem impl_SomeShare.mono : ∀ a0 a1 a2 a3 k, LeO (impl_SomeShare.f k a0 a1 a2 a3) (impl_SomeShare.f (k + 1) a0 a1 a2 a3) := by
 intro a0 a1 a2 a3 k
 unfold impl_SomeShare.f
 repeat' first | (with_reducible exact impl_Net_share.mono _ _ _ _ _) | (with_reducible exact impl_WalkOk.mono _ _ _ _) | (with_reducible exact LeO.refl _) | (with_reducible refine LeO.ite ?_ ?_) | (with_reducible refine LeO.bind ?_ (fun _ => ?_))
set_option maxHeartbeats 8000000 in
set_option maxRecDepth 100000 in
theorem impl_SomeShare.calls (k : Nat) (ac : Int) (ae : Option Addr) (af : Nat) (ab : List (S58)) (A1 : Option Addr) (c1 : Nat) (l1 : List Int) (A2 : Option Addr) (c2 : Nat) (l2 : List Int) (r : Int) (w : World) (an : Kd.C k58 w ae ab.length ab) (ao : ab.length ≤ af) (hr1 : Kd.C (Kd.int .i64) w A1 l1.length l1) (hc1 : l1.length ≤ c1) (hr2 : Kd.C (Kd.int .i64) w A2 l2.length l2) (hc2 : l2.length ≤ c2) (h : impl_SomeShare.f k ac ab l1 l2 = some r) :
  Calls Try.prog 17 #[.agg #[.int .i64 ac, .slice ae ab.length af], .slice A1 l1.length c1, .slice A2 l2.length c2] w fun e w' => e = .returned (.int .i64 r) ∧ Below w.heap.size w w' := by
 have aQ := Try.underlying25
 have ah := ak an
 have ai := ak ao
 clear an ao
 have HR1 := ak hr1
 have HC1 := ak hc1
 clear hr1 hc1
 have HR2 := ak hr2
 have HC2 := ak hc2
 clear hr2 hc2
 have HB := ak (Below.refl w.heap.size w)
 have H : ((impl_WalkOk.f k ac ab l1).bind fun aj => (if aj = true then ((impl_WalkOk.f k ac ab l2).bind fun al => (if al = true then ((impl_Net_share.f k ac ab l1 l2).bind fun am => (some am)) else (some (-1)))) else (some (-1)))) = some r := h
 clear h
 replace H := Option.bind_eq_some_iff.mp H
 obtain ⟨aj, A40, H⟩ := H
 have A4 := ak A40
 clear A40
 by_cases c5 : aj = true
 rotate_left
 ·replace c5 := Bool.eq_false_iff.mpr c5
  subst c5
  rw [if_neg (show ¬ (false = true) by decide)] at H
  obtain rfl := Option.some.inj H
  go_enter Try.func17, Try.ntmps17
  go_wp2_with (first | ((with_reducible refine gate_dst (N := 3) rfl ?_); refine qZj ?hg (N := 3) ?hd (cs := #[.int .i64 ac, .slice ae ab.length af]) (t := 25) ?hr ?_; (case hd => rfl); (case hg => rfl); (case hr => (go_simp; done)); intro ag hg w21 hbox hb; have aa := ak (hbox); have ap := ak ((by rw [hg]; exact (qZc (bl HB)) : w.heap.size ≤ ag)); have ad := ak ((by rw [hg]; exact (qZc (bl HB)) : w.heap.size ≤ ag)); replace HB := ak (qZd (bl HB) hb); clear hb hbox hg; have aq := bc w21 aa 0 (.int .i64 ac) rfl; have ar := bc w21 aa 1 (.slice ae ab.length af) rfl; have au := fz aa 0; have av := fz aa 1) | ((with_reducible refine gate_callee (f := 61) rfl ?_); refine qQj (some 9) rfl rfl Try.func61 (by kernel_rfl) rfl #[.agg #[.int .i64 ac, .slice ae ab.length af], .slice A1 l1.length c1] rfl (by (try simp only [List.map_toArray, List.map_cons, List.map_nil]); rfl) ?_; (with_reducible refine (impl_WalkOk.calls k ac _ _ ab _ _ l1 false _ ?side1 ?side2 ?side3 ?side4 A4.out).mono ?_); (case side1 => repeat (exact (Kd.C_below ah.out HB.out))); (case side2 => exact ai.out); (case side3 => repeat (exact (Kd.C_below HR1.out HB.out))); (case side4 => exact HC1.out); rintro e w23 ⟨rfl, hb⟩; refine ⟨_, rfl, ?_⟩; replace aa := ak (qZe (bk aa) hb); replace HB := ak (qZd (bl1 HB ad) hb); (try clear hb); (try clear hb2); (try clear hk); (try clear hi)))
  go_ret
  exact ⟨by rfl, bl1 HB ad⟩
 subst c5
 rw [if_pos rfl] at H
 replace H := Option.bind_eq_some_iff.mp H
 obtain ⟨al, A60, H⟩ := H
 have A6 := ak A60
 clear A60
 by_cases c7 : al = true
 rotate_left
 ·replace c7 := Bool.eq_false_iff.mpr c7
  subst c7
  rw [if_neg (show ¬ (false = true) by decide)] at H
  obtain rfl := Option.some.inj H
  go_enter Try.func17, Try.ntmps17
  go_wp2_with (first | ((with_reducible refine gate_dst (N := 3) rfl ?_); refine qZj ?hg (N := 3) ?hd (cs := #[.int .i64 ac, .slice ae ab.length af]) (t := 25) ?hr ?_; (case hd => rfl); (case hg => rfl); (case hr => (go_simp; done)); intro ag hg w16 hbox hb; have aa := ak (hbox); have ap := ak ((by rw [hg]; exact (qZc (bl HB)) : w.heap.size ≤ ag)); have ad := ak ((by rw [hg]; exact (qZc (bl HB)) : w.heap.size ≤ ag)); replace HB := ak (qZd (bl HB) hb); clear hb hbox hg; have aw := bc w16 aa 0 (.int .i64 ac) rfl; have ax := bc w16 aa 1 (.slice ae ab.length af) rfl; have ay := fz aa 0; have az := fz aa 1) | ((with_reducible refine gate_callee (f := 61) rfl ?_); refine qQj (some 9) rfl rfl Try.func61 (by kernel_rfl) rfl #[.agg #[.int .i64 ac, .slice ae ab.length af], .slice A1 l1.length c1] rfl (by (try simp only [List.map_toArray, List.map_cons, List.map_nil]); rfl) ?_; (with_reducible refine (impl_WalkOk.calls k ac _ _ ab _ _ l1 true _ ?side1 ?side2 ?side3 ?side4 A4.out).mono ?_); (case side1 => repeat (exact (Kd.C_below ah.out HB.out))); (case side2 => exact ai.out); (case side3 => repeat (exact (Kd.C_below HR1.out HB.out))); (case side4 => exact HC1.out); rintro e w18 ⟨rfl, hb⟩; refine ⟨_, rfl, ?_⟩; replace aa := ak (qZe (bk aa) hb); replace HB := ak (qZd (bl1 HB ad) hb); (try clear hb); (try clear hb2); (try clear hk); (try clear hi); have aA := bc w18 aa 0 (.int .i64 ac) rfl; have aB := bc w18 aa 1 (.slice ae ab.length af) rfl; have aC := fz aa 0; have aD := fz aa 1) | (go_at_call 61; (with_reducible refine (impl_WalkOk.calls k ac _ _ ab _ _ l2 false _ ?side1 ?side2 ?side3 ?side4 A6.out).mono ?_); (case side1 => repeat (exact (Kd.C_below ah.out HB.out))); (case side2 => exact ai.out); (case side3 => repeat (exact (Kd.C_below HR2.out HB.out))); (case side4 => exact HC2.out); rintro e w20 ⟨rfl, hb⟩; have n0_ := ak (qZe (bk aa) hb); have n1_ := ak (qZd (bl1 HB ad) hb); clear aa; clear HB; have aa := n0_; have HB := n1_; clear n0_ n1_; (try clear hb); (try clear hb2); (try clear hk); (try clear hi)))
  go_ret
  exact ⟨by rfl, bl1 HB ad⟩
 subst c7
 rw [if_pos rfl] at H
 replace H := Option.bind_eq_some_iff.mp H
 obtain ⟨am, A80, H⟩ := H
 have A8 := ak A80
 clear A80
 obtain rfl := Option.some.inj H
 go_enter Try.func17, Try.ntmps17
 go_wp2_with (first | ((with_reducible refine gate_dst (N := 3) rfl ?_); refine qZj ?hg (N := 3) ?hd (cs := #[.int .i64 ac, .slice ae ab.length af]) (t := 25) ?hr ?_; (case hd => rfl); (case hg => rfl); (case hr => (go_simp; done)); intro ag hg w9 hbox hb; have aa := ak (hbox); have ap := ak ((by rw [hg]; exact (qZc (bl HB)) : w.heap.size ≤ ag)); have ad := ak ((by rw [hg]; exact (qZc (bl HB)) : w.heap.size ≤ ag)); replace HB := ak (qZd (bl HB) hb); clear hb hbox hg; have aE := bc w9 aa 0 (.int .i64 ac) rfl; have aF := bc w9 aa 1 (.slice ae ab.length af) rfl; have aG := fz aa 0; have aH := fz aa 1) | ((with_reducible refine gate_callee (f := 61) rfl ?_); refine qQj (some 9) rfl rfl Try.func61 (by kernel_rfl) rfl #[.agg #[.int .i64 ac, .slice ae ab.length af], .slice A1 l1.length c1] rfl (by (try simp only [List.map_toArray, List.map_cons, List.map_nil]); rfl) ?_; (with_reducible refine (impl_WalkOk.calls k ac _ _ ab _ _ l1 true _ ?side1 ?side2 ?side3 ?side4 A4.out).mono ?_); (case side1 => repeat (exact (Kd.C_below ah.out HB.out))); (case side2 => exact ai.out); (case side3 => repeat (exact (Kd.C_below HR1.out HB.out))); (case side4 => exact HC1.out); rintro e w11 ⟨rfl, hb⟩; refine ⟨_, rfl, ?_⟩; replace aa := ak (qZe (bk aa) hb); replace HB := ak (qZd (bl1 HB ad) hb); (try clear hb); (try clear hb2); (try clear hk); (try clear hi); have aI := bc w11 aa 0 (.int .i64 ac) rfl; have aJ := bc w11 aa 1 (.slice ae ab.length af) rfl; have aK := fz aa 0; have aL := fz aa 1) | (go_at_call 61; (with_reducible refine (impl_WalkOk.calls k ac _ _ ab _ _ l2 true _ ?side1 ?side2 ?side3 ?side4 A6.out).mono ?_); (case side1 => repeat (exact (Kd.C_below ah.out HB.out))); (case side2 => exact ai.out); (case side3 => repeat (exact (Kd.C_below HR2.out HB.out))); (case side4 => exact HC2.out); rintro e w13 ⟨rfl, hb⟩; have n0_ := ak (qZe (bk aa) hb); have n1_ := ak (qZd (bl1 HB ad) hb); clear aa; clear HB; have aa := n0_; have HB := n1_; clear n0_ n1_; (try clear hb); (try clear hb2); (try clear hk); (try clear hi); have aM := bc w13 aa 0 (.int .i64 ac) rfl; have aN := bc w13 aa 1 (.slice ae ab.length af) rfl; have aO := fz aa 0; have aP := fz aa 1) | ((with_reducible refine gate_callee (f := 51) rfl ?_); refine qQj (some 20) rfl rfl Try.func51 (by kernel_rfl) rfl #[.agg #[.int .i64 ac, .slice ae ab.length af], .slice A1 l1.length c1, .slice A2 l2.length c2] rfl (by (try simp only [List.map_toArray, List.map_cons, List.map_nil]); rfl) ?_; (with_reducible refine (impl_Net_share.calls k ac _ _ ab _ _ l1 _ _ l2 am _ ?side1 ?side2 ?side3 ?side4 ?side5 ?side6 A8.out).mono ?_); (case side1 => repeat (exact (Kd.C_below ah.out HB.out))); (case side2 => exact ai.out); (case side3 => repeat (exact (Kd.C_below HR1.out HB.out))); (case side4 => exact HC1.out); (case side5 => repeat (exact (Kd.C_below HR2.out HB.out))); (case side6 => exact HC2.out); rintro e w15 ⟨rfl, hb⟩; refine ⟨_, rfl, ?_⟩; replace aa := ak (qZe (bk aa) hb); replace HB := ak (qZd (bl1 HB ad) hb); (try clear hb); (try clear hb2); (try clear hk); (try clear hi)))
 go_ret
 exact ⟨by rfl, bl1 HB ad⟩
end Go.Proofs.Ytlgolgfcolnddaa.F
