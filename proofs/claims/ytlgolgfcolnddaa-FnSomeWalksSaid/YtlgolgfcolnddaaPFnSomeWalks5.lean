-- Printed by this claim's repository's tools (px.py, pgo.py, pack.py), one text behind the other. Lean checks it.
import Derived.Test.YtlgolgfcolnddaaFKindsPFnSomeWalks
import Derived.Test.YtlgolgfcolnddaaPFnSomeWalks0
namespace Go.Proofs.Ytlgolgfcolnddaa.F
open Go.RowKit Go.Proofs.YtlgolgfcolnddaaW.PrintWords Go.Proofs.YtlgolgfcolnddaaW.PrintLast Go.Proofs.YtlgolgfcolnddaaW.PrintMore
attribute [local go_sem] qQb qQc qQk qQj qZn qZo qQd qQe
set_option linter.unusedVariables false
set_option linter.unusedSimpArgs false
/-! ### impl_WalkOk: function 61 -/
mutual
def impl_WalkOk.j0 : Nat → List Int → Bool → Int → List (S58) → Option (Bool)
 | 0, _, _, _, _ => none
 | k + 1, x1, x14, aN, ah => if x14 = true then (some false) else (impl_WalkOk.l0 k x1 x1 (x1.length : Int) 0 aN ah)
def impl_WalkOk.l0 : Nat → List Int → List Int → Int → Int → Int → List (S58) → Option (Bool)
 | 0, _, _, _, _, _, _ => none
 | k + 1, x1, x15, x16, x17, aN, ah => if x17 < x16 then (if 0 ≤ x17 then (if x17 < (x15.length : Int) then ((impl_within.f (rd x15 x17) 0 (wrap64 ((ah.length : Int) - 1))).bind fun br => (if br = true then (if x17 > 0 then (if 0 ≤ (wrap64 (x17 - 1)) then (if (wrap64 (x17 - 1)) < (x1.length : Int) then (if 0 ≤ (rd x1 (wrap64 (x17 - 1))) then (if (rd x1 (wrap64 (x17 - 1))) < (ah.length : Int) then (if 0 ≤ (rd x15 x17) then (if (rd x15 x17) < (ah.length : Int) then (if ((qZa ah (rd x1 (wrap64 (x17 - 1)))).f1) = ((qZa ah (rd x15 x17)).f0) then (impl_WalkOk.l0 k x1 x15 x16 (wrap64 (x17 + 1)) aN ah) else (some false)) else (none)) else (none)) else (none)) else (none)) else (none)) else (none)) else (impl_WalkOk.l0 k x1 x15 x16 (wrap64 (x17 + 1)) aN ah)) else (some false))) else (none)) else (none)) else (some true)
end
def impl_WalkOk.f (k : Nat) (ag : Int) (ab : List (S58)) (l1 : List Int) : Option (Bool) := (impl_NetOk.f ag ab).bind fun aZ => (if aZ = true then (impl_WalkOk.j0 k l1 (decide ((l1.length : Int) > 20)) ag ab) else (impl_WalkOk.j0 k l1 true ag ab))
theorem impl_WalkOk.mono_l : ∀ k, (∀ y0 y1 y2 y3, LeO (impl_WalkOk.j0 k y0 y1 y2 y3) (impl_WalkOk.j0 (k + 1) y0 y1 y2 y3)) ∧ (∀ y0 y1 y2 y3 y4 y5, LeO (impl_WalkOk.l0 k y0 y1 y2 y3 y4 y5) (impl_WalkOk.l0 (k + 1) y0 y1 y2 y3 y4 y5))
 | 0 => ⟨fun _ _ _ _ r h => by simp [impl_WalkOk.j0] at h, fun _ _ _ _ _ _ r h => by simp [impl_WalkOk.l0] at h⟩
 | k + 1 => by
  obtain ⟨ih0, ih1⟩ := impl_WalkOk.mono_l k
  refine ⟨?_, ?_⟩
  ·intro y0 y1 y2 y3
   unfold impl_WalkOk.j0
   repeat' first | (with_reducible exact ih1 _ _ _ _ _ _) | (with_reducible exact LeO.refl _) | (with_reducible refine LeO.ite ?_ ?_)
  ·intro y0 y1 y2 y3 y4 y5
   unfold impl_WalkOk.l0
   repeat' first | (with_reducible exact ih1 _ _ _ _ _ _) | (with_reducible exact LeO.refl _) | (with_reducible refine LeO.ite ?_ ?_) | (with_reducible refine LeO.bind ?_ (fun _ => ?_))
theorem impl_WalkOk.mono : ∀ a0 a1 a2 k, LeO (impl_WalkOk.f k a0 a1 a2) (impl_WalkOk.f (k + 1) a0 a1 a2) := by
 intro a0 a1 a2 k
 obtain ⟨ih0, ih1⟩ := impl_WalkOk.mono_l k
 unfold impl_WalkOk.f
 repeat' first | (with_reducible exact ih0 _ _ _ _) | (with_reducible exact LeO.refl _) | (with_reducible refine LeO.ite ?_ ?_) | (with_reducible refine LeO.bind ?_ (fun _ => ?_))
def impl_WalkOk.T6 : Bool × List (List Nat × List Nat) := (true, [([], []), ([], []), ([1], [1]), ([2], [2]), ([3], [3]), ([0, 4], [0, 4]), ([5], [5]), ([6, 5], [6]), ([7], [7]), ([8, 7], [7, 8]), ([9, 7, 7], [7, 9]), ([10], [10]), ([11, 10], [10, 11]), ([10], [10]), ([10], [10]), ([14, 10], [10, 14]), ([13, 15, 10], [10, 13, 15]), ([16, 10], [10, 16]), ([12, 17, 10], [10, 12, 17]), ([18, 10], [10, 18]), ([19, 10], [10, 19]), ([10], [10]), ([21, 10], [10, 21]), ([10], [10]), ([22, 23, 10], [10, 22, 23]), ([24, 10], [10, 24]), ([25, 10], [10, 25]), ([20, 26, 10], [10, 20, 26]), ([10, 27, 7], [7, 10, 27]), ([7, 28], [7, 28])])
def impl_WalkOk.B6 : List Nat := [0, 0, 2, 6, 14, 31, 63, 127, 255, 511, 1023, 2047, 4095, 2047, 2047, 18431, 59391, 124927, 262143, 524287, 1048575, 2047, 2099199, 2047, 14682111, 31459327, 65013759, 134217727, 268435455, 536870911]
theorem impl_WalkOk.tab6 : rtab .any (qWg Try.f61 6) = impl_WalkOk.T6 := by kernel_rfl
theorem impl_WalkOk.bits6 : qJn impl_WalkOk.T6.2 impl_WalkOk.B6 = true := by kernel_rfl
set_option maxHeartbeats 8000000 in
set_option maxRecDepth 100000 in
theorem impl_WalkOk.calls (k : Nat) (ag : Int) (aO : Option Addr) (aL : Nat) (ab : List (S58)) (A1 : Option Addr) (c1 : Nat) (l1 : List Int) (r : Bool) (w : World) (bo : Kd.C k58 w aO ab.length ab) (bp : ab.length ≤ aL) (hr1 : Kd.C (Kd.int .i64) w A1 l1.length l1) (hc1 : l1.length ≤ c1) (h : impl_WalkOk.f k ag ab l1 = some r) :
  Calls Try.prog 61 #[.agg #[.int .i64 ag, .slice aO ab.length aL], .slice A1 l1.length c1] w fun e w' => e = .returned (.bool r) ∧ Below w.heap.size w w' := by
 have bx := Try.underlying25
 have aQ := ak bo
 have bq := ak bp
 clear bo bp
 have HR1 := ak hr1
 have HC1 := ak hc1
 clear hr1 hc1
 have HB := ak (Below.refl w.heap.size w)
 have H : ((impl_NetOk.f ag ab).bind fun aZ => (if aZ = true then (impl_WalkOk.j0 k l1 (decide ((l1.length : Int) > 20)) ag ab) else (impl_WalkOk.j0 k l1 true ag ab))) = some r := h
 clear h
 have HC3 := ak H
 clear H
 go_enter Try.func61, Try.ntmps61
 go_upto_region 1 with (((with_reducible refine gate_dst (N := 2) rfl ?_); refine qZh ?hg (N := 2) ?hd (cs := #[.int .i64 ag, .slice aO ab.length aL]) (t := 25) ?hr ?_; (case hd => rfl); (case hg => rfl); (case hr => (go_simp; done)); intro aH hg w4 hbox hb; have ac := ak (hbox); have bw := ak ((by rw [hg]; exact (qZc (bl HB)) : w.heap.size ≤ aH)); have aI := ak ((by rw [hg]; exact (qZc (bl HB)) : w.heap.size ≤ aH)); replace HB := ak (qZd (bl HB) hb); clear hb hbox hg))
 (try simp only [Act.put, List.setIfInBounds_toArray, List.set_cons_zero, List.set_cons_succ])
 go_cut [14] (fun v14 wc => ∃ (kq : Nat) (aY : Bool), v14 = .bool aY ∧ Aside0 (impl_WalkOk.j0 kq l1 aY ag ab = some r) ∧ Aside0 (kq ≤ k) ∧ Aside0 (wc.heap[aH]? = some (.cells #[.int .i64 ag, (.slice aO ab.length aL)] 25 (0, 0))) ∧ Aside0 (Below w.heap.size w wc))
 case first =>
  have H := HC3.out
  clear HC3
  replace H := Option.bind_eq_some_iff.mp H
  obtain ⟨aZ, A50, H⟩ := H
  have A5 := ak A50
  clear A50
  by_cases c6 : aZ = true
  ·subst c6
   rw [if_pos rfl] at H
   have H' := ak H
   clear H
   have ba := bc w4 ac 0 (.int .i64 ag) rfl
   have bb := bc w4 ac 1 (.slice aO ab.length aL) rfl
   have bd := fz ac 0
   have be := fz ac 1
   go_wp2_with (((with_reducible refine gate_callee (f := 32) rfl ?_); refine qQi (some 8) rfl rfl Try.func32 (by kernel_rfl) rfl #[.agg #[.int .i64 ag, .slice aO ab.length aL]] rfl (by (try simp only [List.map_toArray, List.map_cons, List.map_nil]); rfl) ?_; (with_reducible refine (impl_NetOk.calls ag _ _ ab true _ ?side1 ?side2 A5.out).mono ?_); (case side1 => repeat (exact (Kd.C_below aQ.out HB.out))); (case side2 => exact bq.out); rintro e w8 ⟨rfl, hb⟩; refine ⟨_, rfl, ?_⟩; replace ac := ak (qZe (bk ac) hb); replace HB := ak (qZd (bl1 HB aI) hb); (try clear hb); (try clear hb2); (try clear hk); (try clear hi)))
   go_meet
   case rel => exact ⟨_, (decide ((l1.length : Int) > 20)), (by rfl), H', ⟨by omega⟩, ⟨bk ac⟩, ⟨bl1 HB aI⟩⟩
  replace c6 := Bool.eq_false_iff.mpr c6
  subst c6
  rw [if_neg (show ¬ (false = true) by decide)] at H
  have H' := ak H
  clear H
  have bf := bc w4 ac 0 (.int .i64 ag) rfl
  have bg := bc w4 ac 1 (.slice aO ab.length aL) rfl
  have bh := fz ac 0
  have bi := fz ac 1
  go_wp2_with (((with_reducible refine gate_callee (f := 32) rfl ?_); refine qQi (some 8) rfl rfl Try.func32 (by kernel_rfl) rfl #[.agg #[.int .i64 ag, .slice aO ab.length aL]] rfl (by (try simp only [List.map_toArray, List.map_cons, List.map_nil]); rfl) ?_; (with_reducible refine (impl_NetOk.calls ag _ _ ab false _ ?side1 ?side2 A5.out).mono ?_); (case side1 => repeat (exact (Kd.C_below aQ.out HB.out))); (case side2 => exact bq.out); rintro e w10 ⟨rfl, hb⟩; refine ⟨_, rfl, ?_⟩; replace ac := ak (qZe (bk ac) hb); replace HB := ak (qZd (bl1 HB aI) hb); (try clear hb); (try clear hb2); (try clear hk); (try clear hi)))
  go_meet
  case rel => exact ⟨_, (true), (by rfl), H', ⟨by omega⟩, ⟨bk ac⟩, ⟨bl1 HB aI⟩⟩
 clear HC3
 try clear c1
 try clear p2
 try clear c3
 try clear c6
 try clear ba
 try clear bb
 try clear bf
 try clear bg
 try clear bd
 try clear be
 try clear bh
 try clear bi
 obtain ⟨kq, aY, rfl, HA, HJ2, ac, HB⟩ := hcut
 cases kq with
 | zero => exact absurd HA.out (by simp [impl_WalkOk.j0])
 | succ kj2 =>
  have H := HA.out
  clear HA
  simp only [impl_WalkOk.j0] at H
  by_cases c11 : aY = true
  ·subst c11
   rw [if_pos rfl] at H
   obtain rfl := Option.some.inj H
   go_wp2
   go_ret
   exact ⟨by rfl, bl1 HB aI⟩
  replace c11 := Bool.eq_false_iff.mpr c11
  subst c11
  rw [if_neg (show ¬ (false = true) by decide)] at H
  have H' := ak H
  clear H
  go_wp2
  go_loopg [17] kj2 (fun kq v17 w' => ∃ (aa : Int), v17 = .int .i64 aa ∧ Aside0 (impl_WalkOk.l0 kq l1 l1 (l1.length : Int) aa ag ab = some r) ∧ Aside0 (kq ≤ kj2) ∧ Aside0 (w'.heap[aH]? = some (.cells #[.int .i64 ag, (.slice aO ab.length aL)] 25 (0, 0))) ∧ Aside0 (Below w.heap.size w w'))
  case atStart => exact ⟨(0), (by rfl), H', ⟨Nat.le_refl _⟩, ⟨bk ac⟩, ⟨bl1 HB aI⟩⟩
  clear H'
  try clear c1
  try clear p2
  try clear c3
  try clear c6
  try clear c11
  try clear ba
  try clear bb
  try clear bf
  try clear bg
  try clear bd
  try clear be
  try clear bh
  try clear bi
  try clear p2
  obtain ⟨aa, rfl, HA, HK2, ac, HB⟩ := hrel
  cases gk with
  | zero => exact absurd HA.out (by simp [impl_WalkOk.l0])
  | succ k2 =>
   have H := HA.out
   clear HA
   simp only [impl_WalkOk.l0] at H
   by_cases c12 : aa < (l1.length : Int)
   rotate_left
   ·rw [if_neg c12] at H
    have c12b0 : decide (aa < (l1.length : Int)) = false := decide_eq_false c12
    clear c12
    obtain rfl := Option.some.inj H
    go_wp2
    go_ret
    exact ⟨by rfl, bl1 HB aI⟩
   rw [if_pos c12] at H
   have c12b0 : decide (aa < (l1.length : Int)) = true := decide_eq_true c12
   clear c12
   by_cases c13 : 0 ≤ aa
   rotate_left
   ·rw [if_neg c13] at H
    exact absurd H (by simp)
   rw [if_pos c13] at H
   have c13b0 : decide (0 ≤ aa) = true := decide_eq_true c13
   clear c13
   by_cases c14 : aa < (l1.length : Int)
   rotate_left
   ·rw [if_neg c14] at H
    exact absurd H (by simp)
   rw [if_pos c14] at H
   have c14b0 : decide (aa < (l1.length : Int)) = true := decide_eq_true c14
   clear c14
   replace H := Option.bind_eq_some_iff.mp H
   obtain ⟨br, bv, H⟩ := H
   have A15 := ak bv
   clear bv
   by_cases c16 : br = true
   rotate_left
   ·replace c16 := Bool.eq_false_iff.mpr c16
    subst c16
    rw [if_neg (show ¬ (false = true) by decide)] at H
    obtain rfl := Option.some.inj H
    have aJ : 0 ≤ (aa : Int) := oT (by (with_reducible assumption))
    have aK : aa < (l1.length : Int) := oT (by (with_reducible assumption))
    obtain ⟨aP, aR, af⟩ := Kd.at_int HR1.out aa aJ aK
    cases aR
    replace af := hcb HB.out af
    replace aJ := eq_true aJ
    replace aK := eq_true aK
    try go_wp2
    replace ac := ak (qZp ac.out)
    replace HB := ak (qQg HB.out)
    refine qJj (n := 30) (S := fun w' => w'.cell? ⟨aH, 0, none⟩ = some (.int .i64 ag) ∧ w'.cell? ⟨aH, 1, none⟩ = some (.slice aO ab.length aL)) (ds := []) (ms 30 0) (by kernel_rfl) rfl (by kernel_rfl) ⟨(qZb ac.out 0).trans rfl, (qZb ac.out 1).trans rfl⟩ (fun hHeld => ?_); refine qQo impl_WalkOk.tab6 impl_WalkOk.bits6 (fun HT_ HW_ => ?_)
    generalize wr.drew = w29 at ac HB hHeld ⊢
    refine pu 0 22 ?_ (ms 30 1) rfl rfl HT_ (by kernel_rfl) (fun _ _ _ h => h) (by rfl) ?_ ?_ ?_ ?_
    rotate_left
    ·intro w'
     go_simp
     with_reducible rfl
    rotate_left
    ·simp only [SX]
     rfl
    refine pu 1 23 ?_ (ms 30 3) rfl rfl HT_ (by kernel_rfl) (fun _ _ _ h => h) (by rfl) ?_ ?_ ?_ ?_
    rotate_left
    ·intro w'
     go_simp
     with_reducible rfl
    rotate_left
    ·simp only [SX]
     rfl
    refine tk 2 24 ?_ (ms 30 7) rfl rfl HT_ HW_ (by kernel_rfl) (fun _ _ _ h => h) (by rfl) ?_ hHeld ?_ ?_ ?_
    rotate_left
    ·rintro w' ⟨s0, s1⟩
     go_simp
     with_reducible rfl
    rotate_left
    ·simp only [SX]
     rfl
    refine pu 3 25 ?_ (ms 30 15) rfl rfl HT_ (by kernel_rfl) (fun _ _ _ h => h) (by rfl) ?_ ?_ ?_ ?_
    rotate_left
    ·intro w'
     go_simp
     with_reducible rfl
    rotate_left
    ·simp only [SX]
     rfl
    refine pu 4 26 ?_ (ms 30 31) rfl rfl HT_ (by kernel_rfl) (fun _ _ _ h => h) (by rfl) ?_ ?_ ?_ ?_
    rotate_left
    ·intro w'
     go_simp
     with_reducible rfl
    rotate_left
    ·simp only [SX]
     rfl
    refine one_ (i := 5) (N := some 27) (ms 30 63) rfl rfl (qJa HT_.out (by kernel_rfl)) (by decide) (fun K hK => ?_)
    refine qXc Try.func48 (by kernel_rfl) rfl #[.int .i64 (rd l1 aa), .int .i64 0, .int .i64 (wrap64 ((ab.length : Int) - 1))] (by rfl) rfl rfl (by (try simp only [List.map_toArray, List.map_cons, List.map_nil]); rfl) ?_
    with_reducible refine (impl_within.calls (rd l1 aa) 0 (wrap64 ((ab.length : Int) - 1)) false _ A15.out).mono ?_
    rintro e w' ⟨rfl, ⟨nd, rfl⟩⟩
    refine ⟨_, rfl, ?_⟩
    refine hK.out _ _ ⟨(qZb ac.out 0).trans rfl, (qZb ac.out 1).trans rfl⟩ (fun hHeld => ?_)
    clear hK K
    refine qJd (a' := ?_) ?_ ?_
    rotate_left
    ·show Act.put _ (some 27) _ = _
     simp only [SX]
     rfl
    refine pu 6 28 ?_ (ms 30 127) rfl rfl HT_ (by kernel_rfl) (fun _ _ _ h => h) (by rfl) ?_ ?_ ?_ ?_
    rotate_left
    ·intro w'
     go_simp
     with_reducible rfl
    rotate_left
    ·simp only [SX]
     rfl
    refine pu 7 29 ?_ (ms 30 255) rfl rfl HT_ (by kernel_rfl) (fun _ _ _ h => h) (by rfl) ?_ ?_ ?_ ?_
    rotate_left
    ·intro w'
     go_simp
     with_reducible rfl
    rotate_left
    ·simp only [SX]
     rfl
    refine qZm (i := 8) (N := some 30) (v := undef) (a' := ?_) (ms 30 511) rfl rfl (qZi HT_.out (by kernel_rfl)) (fun _ _ _ h => h) (Or.inr ⟨by rfl, rfl⟩) ?_ ?_
    rotate_left
    ·simp only [SX]
     rfl
    refine qZm (i := 9) (N := some 31) (v := undef) (a' := ?_) (ms 30 1023) rfl rfl (qZi HT_.out (by kernel_rfl)) (fun _ _ _ h => h) (Or.inr ⟨by rfl, rfl⟩) ?_ ?_
    rotate_left
    ·simp only [SX]
     rfl
    refine qZm (i := 10) (N := some 32) (v := undef) (a' := ?_) (ms 30 2047) rfl rfl (qZi HT_.out (by kernel_rfl)) (fun _ _ _ h => h) (Or.inr ⟨by rfl, rfl⟩) ?_ ?_
    rotate_left
    ·simp only [SX]
     rfl
    refine qZm (i := 11) (N := some 33) (v := undef) (a' := ?_) (ms 30 4095) rfl rfl (qZi HT_.out (by kernel_rfl)) (fun _ _ _ h => h) (Or.inr ⟨by rfl, rfl⟩) ?_ ?_
    rotate_left
    ·simp only [SX]
     rfl
    refine qZm (i := 12) (N := some 34) (v := undef) (a' := ?_) (ms 30 8191) rfl rfl (qZi HT_.out (by kernel_rfl)) (fun _ _ _ h => h) (Or.inr ⟨by rfl, rfl⟩) ?_ ?_
    rotate_left
    ·simp only [SX]
     rfl
    refine qZm (i := 13) (N := some 35) (v := undef) (a' := ?_) (ms 30 16383) rfl rfl (qZi HT_.out (by kernel_rfl)) (fun _ _ _ h => h) (Or.inr ⟨by rfl, rfl⟩) ?_ ?_
    rotate_left
    ·simp only [SX]
     rfl
    refine qZm (i := 14) (N := some 36) (v := undef) (a' := ?_) (ms 30 32767) rfl rfl (qZi HT_.out (by kernel_rfl)) (fun _ _ _ h => h) (Or.inr ⟨by rfl, rfl⟩) ?_ ?_
    rotate_left
    ·simp only [SX]
     rfl
    refine qZm (i := 15) (N := some 37) (v := undef) (a' := ?_) (ms 30 65535) rfl rfl (qZi HT_.out (by kernel_rfl)) (fun _ _ _ h => h) (Or.inr ⟨by rfl, rfl⟩) ?_ ?_
    rotate_left
    ·simp only [SX]
     rfl
    refine qZm (i := 16) (N := some 38) (v := undef) (a' := ?_) (ms 30 131071) rfl rfl (qZi HT_.out (by kernel_rfl)) (fun _ _ _ h => h) (Or.inr ⟨by rfl, rfl⟩) ?_ ?_
    rotate_left
    ·simp only [SX]
     rfl
    refine qZm (i := 17) (N := some 39) (v := undef) (a' := ?_) (ms 30 262143) rfl rfl (qZi HT_.out (by kernel_rfl)) (fun _ _ _ h => h) (Or.inr ⟨by rfl, rfl⟩) ?_ ?_
    rotate_left
    ·simp only [SX]
     rfl
    refine qZm (i := 18) (N := some 40) (v := undef) (a' := ?_) (ms 30 524287) rfl rfl (qZi HT_.out (by kernel_rfl)) (fun _ _ _ h => h) (Or.inr ⟨by rfl, rfl⟩) ?_ ?_
    rotate_left
    ·simp only [SX]
     rfl
    refine qZm (i := 19) (N := some 41) (v := undef) (a' := ?_) (ms 30 1048575) rfl rfl (qZi HT_.out (by kernel_rfl)) (fun _ _ _ h => h) (Or.inr ⟨by rfl, rfl⟩) ?_ ?_
    rotate_left
    ·simp only [SX]
     rfl
    refine qZm (i := 20) (N := some 42) (v := undef) (a' := ?_) (ms 30 2097151) rfl rfl (qZi HT_.out (by kernel_rfl)) (fun _ _ _ h => h) (Or.inr ⟨by rfl, rfl⟩) ?_ ?_
    rotate_left
    ·simp only [SX]
     rfl
    refine qZm (i := 21) (N := some 43) (v := undef) (a' := ?_) (ms 30 4194303) rfl rfl (qZi HT_.out (by kernel_rfl)) (fun _ _ _ h => h) (Or.inr ⟨by rfl, rfl⟩) ?_ ?_
    rotate_left
    ·simp only [SX]
     rfl
    refine qZm (i := 22) (N := some 44) (v := undef) (a' := ?_) (ms 30 8388607) rfl rfl (qZi HT_.out (by kernel_rfl)) (fun _ _ _ h => h) (Or.inr ⟨by rfl, rfl⟩) ?_ ?_
    rotate_left
    ·simp only [SX]
     rfl
    refine qZm (i := 23) (N := some 45) (v := undef) (a' := ?_) (ms 30 16777215) rfl rfl (qZi HT_.out (by kernel_rfl)) (fun _ _ _ h => h) (Or.inr ⟨by rfl, rfl⟩) ?_ ?_
    rotate_left
    ·simp only [SX]
     rfl
    refine qZm (i := 24) (N := some 46) (v := undef) (a' := ?_) (ms 30 33554431) rfl rfl (qZi HT_.out (by kernel_rfl)) (fun _ _ _ h => h) (Or.inr ⟨by rfl, rfl⟩) ?_ ?_
    rotate_left
    ·simp only [SX]
     rfl
    refine qZm (i := 25) (N := some 47) (v := undef) (a' := ?_) (ms 30 67108863) rfl rfl (qZi HT_.out (by kernel_rfl)) (fun _ _ _ h => h) (Or.inr ⟨by rfl, rfl⟩) ?_ ?_
    rotate_left
    ·simp only [SX]
     rfl
    refine qZm (i := 26) (N := some 48) (v := undef) (a' := ?_) (ms 30 134217727) rfl rfl (qZi HT_.out (by kernel_rfl)) (fun _ _ _ h => h) (Or.inr ⟨by rfl, rfl⟩) ?_ ?_
    rotate_left
    ·simp only [SX]
     rfl
    refine qZm (i := 27) (N := some 49) (v := undef) (a' := ?_) (ms 30 268435455) rfl rfl (qZi HT_.out (by kernel_rfl)) (fun _ _ _ h => h) (Or.inr ⟨by rfl, rfl⟩) ?_ ?_
    rotate_left
    ·simp only [SX]
     rfl
    refine qZm (i := 28) (N := some 50) (v := undef) (a' := ?_) (ms 30 536870911) rfl rfl (qZi HT_.out (by kernel_rfl)) (fun _ _ _ h => h) (Or.inr ⟨by rfl, rfl⟩) ?_ ?_
    rotate_left
    ·simp only [SX]
     rfl
    refine pu 29 51 ?_ (ms 30 1073741823) rfl rfl HT_ (by kernel_rfl) (fun _ _ _ h => h) (by rfl) ?_ ?_ ?_ ?_
    rotate_left
    ·intro w'
     go_simp
     with_reducible rfl
    rotate_left
    ·simp only [SX]
     rfl
    refine qXe (qJg HT_.out (by kernel_rfl)) ?_
    try go_wp2
    go_ret
    exact ⟨by rfl, bl1 HB aI⟩
   subst c16
   rw [if_pos rfl] at H
   by_cases c17 : aa > 0
   rotate_left
   ·rw [if_neg c17] at H
    have c17b0 : decide (0 < aa) = false := decide_eq_false c17
    clear c17
    have H' := ak H
    clear H
    have aJ : 0 ≤ (aa : Int) := oT (by (with_reducible assumption))
    have aK : aa < (l1.length : Int) := oT (by (with_reducible assumption))
    obtain ⟨aP, aR, af⟩ := Kd.at_int HR1.out aa aJ aK
    cases aR
    replace af := hcb HB.out af
    replace aJ := eq_true aJ
    replace aK := eq_true aK
    try go_wp2
    replace ac := ak (qZp ac.out)
    replace HB := ak (qQg HB.out)
    refine qJj (n := 30) (S := fun w' => w'.cell? ⟨aH, 0, none⟩ = some (.int .i64 ag) ∧ w'.cell? ⟨aH, 1, none⟩ = some (.slice aO ab.length aL)) (ds := []) (ms 30 0) (by kernel_rfl) rfl (by kernel_rfl) ⟨(qZb ac.out 0).trans rfl, (qZb ac.out 1).trans rfl⟩ (fun hHeld => ?_); refine qQo impl_WalkOk.tab6 impl_WalkOk.bits6 (fun HT_ HW_ => ?_)
    generalize wr.drew = w28 at ac HB hHeld ⊢
    refine pu 0 22 ?_ (ms 30 1) rfl rfl HT_ (by kernel_rfl) (fun _ _ _ h => h) (by rfl) ?_ ?_ ?_ ?_
    rotate_left
    ·intro w'
     go_simp
     with_reducible rfl
    rotate_left
    ·simp only [SX]
     rfl
    refine pu 1 23 ?_ (ms 30 3) rfl rfl HT_ (by kernel_rfl) (fun _ _ _ h => h) (by rfl) ?_ ?_ ?_ ?_
    rotate_left
    ·intro w'
     go_simp
     with_reducible rfl
    rotate_left
    ·simp only [SX]
     rfl
    refine tk 2 24 ?_ (ms 30 7) rfl rfl HT_ HW_ (by kernel_rfl) (fun _ _ _ h => h) (by rfl) ?_ hHeld ?_ ?_ ?_
    rotate_left
    ·rintro w' ⟨s0, s1⟩
     go_simp
     with_reducible rfl
    rotate_left
    ·simp only [SX]
     rfl
    refine pu 3 25 ?_ (ms 30 15) rfl rfl HT_ (by kernel_rfl) (fun _ _ _ h => h) (by rfl) ?_ ?_ ?_ ?_
    rotate_left
    ·intro w'
     go_simp
     with_reducible rfl
    rotate_left
    ·simp only [SX]
     rfl
    refine pu 4 26 ?_ (ms 30 31) rfl rfl HT_ (by kernel_rfl) (fun _ _ _ h => h) (by rfl) ?_ ?_ ?_ ?_
    rotate_left
    ·intro w'
     go_simp
     with_reducible rfl
    rotate_left
    ·simp only [SX]
     rfl
    refine one_ (i := 5) (N := some 27) (ms 30 63) rfl rfl (qJa HT_.out (by kernel_rfl)) (by decide) (fun K hK => ?_)
    refine qXc Try.func48 (by kernel_rfl) rfl #[.int .i64 (rd l1 aa), .int .i64 0, .int .i64 (wrap64 ((ab.length : Int) - 1))] (by rfl) rfl rfl (by (try simp only [List.map_toArray, List.map_cons, List.map_nil]); rfl) ?_
    with_reducible refine (impl_within.calls (rd l1 aa) 0 (wrap64 ((ab.length : Int) - 1)) true _ A15.out).mono ?_
    rintro e w' ⟨rfl, ⟨nd, rfl⟩⟩
    refine ⟨_, rfl, ?_⟩
    refine hK.out _ _ ⟨(qZb ac.out 0).trans rfl, (qZb ac.out 1).trans rfl⟩ (fun hHeld => ?_)
    clear hK K
    refine qJd (a' := ?_) ?_ ?_
    rotate_left
    ·show Act.put _ (some 27) _ = _
     simp only [SX]
     rfl
    refine pu 6 28 ?_ (ms 30 127) rfl rfl HT_ (by kernel_rfl) (fun _ _ _ h => h) (by rfl) ?_ ?_ ?_ ?_
    rotate_left
    ·intro w'
     go_simp
     with_reducible rfl
    rotate_left
    ·simp only [SX]
     rfl
    refine pu 7 29 ?_ (ms 30 255) rfl rfl HT_ (by kernel_rfl) (fun _ _ _ h => h) (by rfl) ?_ ?_ ?_ ?_
    rotate_left
    ·intro w'
     go_simp
     with_reducible rfl
    rotate_left
    ·simp only [SX]
     rfl
    refine pu 8 30 ?_ (ms 30 511) rfl rfl HT_ (by kernel_rfl) (fun _ _ _ h => h) (by rfl) ?_ ?_ ?_ ?_
    rotate_left
    ·intro w'
     go_simp
     with_reducible rfl
    rotate_left
    ·simp only [SX]
     rfl
    refine pu 9 31 ?_ (ms 30 1023) rfl rfl HT_ (by kernel_rfl) (fun _ _ _ h => h) (by rfl) ?_ ?_ ?_ ?_
    rotate_left
    ·intro w'
     go_simp
     with_reducible rfl
    rotate_left
    ·simp only [SX]
     rfl
    refine pu 10 32 ?_ (ms 30 2047) rfl rfl HT_ (by kernel_rfl) (fun _ _ _ h => h) (by rfl) ?_ ?_ ?_ ?_
    rotate_left
    ·intro w'
     go_simp
     with_reducible rfl
    rotate_left
    ·simp only [SX]
     rfl
    refine qZm (i := 11) (N := some 33) (v := undef) (a' := ?_) (ms 30 4095) rfl rfl (qZi HT_.out (by kernel_rfl)) (fun _ _ _ h => h) (Or.inr ⟨by rfl, rfl⟩) ?_ ?_
    rotate_left
    ·simp only [SX]
     rfl
    refine qZm (i := 12) (N := some 34) (v := undef) (a' := ?_) (ms 30 8191) rfl rfl (qZi HT_.out (by kernel_rfl)) (fun _ _ _ h => h) (Or.inr ⟨by rfl, rfl⟩) ?_ ?_
    rotate_left
    ·simp only [SX]
     rfl
    refine qZm (i := 13) (N := some 35) (v := undef) (a' := ?_) (ms 30 16383) rfl rfl (qZi HT_.out (by kernel_rfl)) (fun _ _ _ h => h) (Or.inr ⟨by rfl, rfl⟩) ?_ ?_
    rotate_left
    ·simp only [SX]
     rfl
    refine qZm (i := 14) (N := some 36) (v := undef) (a' := ?_) (ms 30 32767) rfl rfl (qZi HT_.out (by kernel_rfl)) (fun _ _ _ h => h) (Or.inr ⟨by rfl, rfl⟩) ?_ ?_
    rotate_left
    ·simp only [SX]
     rfl
    refine qZm (i := 15) (N := some 37) (v := undef) (a' := ?_) (ms 30 65535) rfl rfl (qZi HT_.out (by kernel_rfl)) (fun _ _ _ h => h) (Or.inr ⟨by rfl, rfl⟩) ?_ ?_
    rotate_left
    ·simp only [SX]
     rfl
    refine qZm (i := 16) (N := some 38) (v := undef) (a' := ?_) (ms 30 131071) rfl rfl (qZi HT_.out (by kernel_rfl)) (fun _ _ _ h => h) (Or.inr ⟨by rfl, rfl⟩) ?_ ?_
    rotate_left
    ·simp only [SX]
     rfl
    refine qZm (i := 17) (N := some 39) (v := undef) (a' := ?_) (ms 30 262143) rfl rfl (qZi HT_.out (by kernel_rfl)) (fun _ _ _ h => h) (Or.inr ⟨by rfl, rfl⟩) ?_ ?_
    rotate_left
    ·simp only [SX]
     rfl
    refine qZm (i := 18) (N := some 40) (v := undef) (a' := ?_) (ms 30 524287) rfl rfl (qZi HT_.out (by kernel_rfl)) (fun _ _ _ h => h) (Or.inr ⟨by rfl, rfl⟩) ?_ ?_
    rotate_left
    ·simp only [SX]
     rfl
    refine qZm (i := 19) (N := some 41) (v := undef) (a' := ?_) (ms 30 1048575) rfl rfl (qZi HT_.out (by kernel_rfl)) (fun _ _ _ h => h) (Or.inr ⟨by rfl, rfl⟩) ?_ ?_
    rotate_left
    ·simp only [SX]
     rfl
    refine qZm (i := 20) (N := some 42) (v := undef) (a' := ?_) (ms 30 2097151) rfl rfl (qZi HT_.out (by kernel_rfl)) (fun _ _ _ h => h) (Or.inr ⟨by rfl, rfl⟩) ?_ ?_
    rotate_left
    ·simp only [SX]
     rfl
    refine qZm (i := 21) (N := some 43) (v := undef) (a' := ?_) (ms 30 4194303) rfl rfl (qZi HT_.out (by kernel_rfl)) (fun _ _ _ h => h) (Or.inr ⟨by rfl, rfl⟩) ?_ ?_
    rotate_left
    ·simp only [SX]
     rfl
    refine qZm (i := 22) (N := some 44) (v := undef) (a' := ?_) (ms 30 8388607) rfl rfl (qZi HT_.out (by kernel_rfl)) (fun _ _ _ h => h) (Or.inr ⟨by rfl, rfl⟩) ?_ ?_
    rotate_left
    ·simp only [SX]
     rfl
    refine qZm (i := 23) (N := some 45) (v := undef) (a' := ?_) (ms 30 16777215) rfl rfl (qZi HT_.out (by kernel_rfl)) (fun _ _ _ h => h) (Or.inr ⟨by rfl, rfl⟩) ?_ ?_
    rotate_left
    ·simp only [SX]
     rfl
    refine qZm (i := 24) (N := some 46) (v := undef) (a' := ?_) (ms 30 33554431) rfl rfl (qZi HT_.out (by kernel_rfl)) (fun _ _ _ h => h) (Or.inr ⟨by rfl, rfl⟩) ?_ ?_
    rotate_left
    ·simp only [SX]
     rfl
    refine qZm (i := 25) (N := some 47) (v := undef) (a' := ?_) (ms 30 67108863) rfl rfl (qZi HT_.out (by kernel_rfl)) (fun _ _ _ h => h) (Or.inr ⟨by rfl, rfl⟩) ?_ ?_
    rotate_left
    ·simp only [SX]
     rfl
    refine qZm (i := 26) (N := some 48) (v := undef) (a' := ?_) (ms 30 134217727) rfl rfl (qZi HT_.out (by kernel_rfl)) (fun _ _ _ h => h) (Or.inr ⟨by rfl, rfl⟩) ?_ ?_
    rotate_left
    ·simp only [SX]
     rfl
    refine qZm (i := 27) (N := some 49) (v := undef) (a' := ?_) (ms 30 268435455) rfl rfl (qZi HT_.out (by kernel_rfl)) (fun _ _ _ h => h) (Or.inr ⟨by rfl, rfl⟩) ?_ ?_
    rotate_left
    ·simp only [SX]
     rfl
    refine pu 28 50 ?_ (ms 30 536870911) rfl rfl HT_ (by kernel_rfl) (fun _ _ _ h => h) (by rfl) ?_ ?_ ?_ ?_
    rotate_left
    ·intro w'
     go_simp
     with_reducible rfl
    rotate_left
    ·simp only [SX]
     rfl
    refine pu 29 51 ?_ (ms 30 1073741823) rfl rfl HT_ (by kernel_rfl) (fun _ _ _ h => h) (by rfl) ?_ ?_ ?_ ?_
    rotate_left
    ·intro w'
     go_simp
     with_reducible rfl
    rotate_left
    ·simp only [SX]
     rfl
    refine qXe (qJg HT_.out (by kernel_rfl)) ?_
    try go_wp2
    go_roundg k2
    case measure => have := HJ2.out; have := HK2.out; omega
    case rel => exact ⟨(wrap64 (aa + 1)), (by rfl), H', ⟨by have := HJ2.out; have := HK2.out; omega⟩, ⟨bk ac⟩, ⟨bl1 HB aI⟩⟩
   rw [if_pos c17] at H
   have c17b0 : decide (0 < aa) = true := decide_eq_true c17
   clear c17
   obtain ⟨ad, bj⟩ : ∃ j_ : Int, (wrap64 (aa - 1)) = j_ := ⟨_, rfl⟩
   replace H : (if 0 ≤ (ad) then (if (ad) < (l1.length : Int) then (if 0 ≤ (rd l1 (ad)) then (if (rd l1 (ad)) < (ab.length : Int) then (if 0 ≤ (rd l1 aa) then (if (rd l1 aa) < (ab.length : Int) then (if ((qZa ab (rd l1 (ad))).f1) = ((qZa ab (rd l1 aa)).f0) then (impl_WalkOk.l0 k2 l1 l1 (l1.length : Int) (wrap64 (aa + 1)) ag ab) else (some false)) else (none)) else (none)) else (none)) else (none)) else (none)) else (none)) = some r := by (rw [bj] at H; exact H)
   (try rw [bj] at A15)
   have hji18w : (IntKind.i64.wrap (aa - 1)) = ad := (i64_w _).trans bj
   by_cases c19 : 0 ≤ (ad)
   rotate_left
   ·rw [if_neg c19] at H
    exact absurd H (by simp)
   rw [if_pos c19] at H
   have c19b0 : decide (0 ≤ (ad)) = true := decide_eq_true c19
   clear c19
   by_cases c20 : (ad) < (l1.length : Int)
   rotate_left
   ·rw [if_neg c20] at H
    exact absurd H (by simp)
   rw [if_pos c20] at H
   have c20b0 : decide ((ad) < (l1.length : Int)) = true := decide_eq_true c20
   clear c20
   by_cases c21 : 0 ≤ (rd l1 (ad))
   rotate_left
   ·rw [if_neg c21] at H
    exact absurd H (by simp)
   rw [if_pos c21] at H
   have c21b0 : decide (0 ≤ (rd l1 (ad))) = true := decide_eq_true c21
   clear c21
   by_cases c22 : (rd l1 (ad)) < (ab.length : Int)
   rotate_left
   ·rw [if_neg c22] at H
    exact absurd H (by simp)
   rw [if_pos c22] at H
   have c22b0 : decide ((rd l1 (ad)) < (ab.length : Int)) = true := decide_eq_true c22
   clear c22
   by_cases c23 : 0 ≤ (rd l1 aa)
   rotate_left
   ·rw [if_neg c23] at H
    exact absurd H (by simp)
   rw [if_pos c23] at H
   have c23b0 : decide (0 ≤ (rd l1 aa)) = true := decide_eq_true c23
   clear c23
   by_cases c24 : (rd l1 aa) < (ab.length : Int)
   rotate_left
   ·rw [if_neg c24] at H
    exact absurd H (by simp)
   rw [if_pos c24] at H
   have c24b0 : decide ((rd l1 aa) < (ab.length : Int)) = true := decide_eq_true c24
   clear c24
   by_cases c25 : ((qZa ab (rd l1 (ad))).f1) = ((qZa ab (rd l1 aa)).f0)
   rotate_left
   ·rw [if_neg c25] at H
    have c25b0 : (((qZa ab (rd l1 (ad))).f1) == ((qZa ab (rd l1 aa)).f0)) = false := beq_eq_false_iff_ne.mpr c25
    have c25b1 : (((qZa ab (rd l1 (ad))).f1) != ((qZa ab (rd l1 aa)).f0)) = true := bne_iff_ne.mpr c25
    obtain rfl := Option.some.inj H
    have aJ : 0 ≤ (aa : Int) := oT (by (with_reducible assumption))
    have aK : aa < (l1.length : Int) := oT (by (with_reducible assumption))
    obtain ⟨aP, aR, af⟩ := Kd.at_int HR1.out aa aJ aK
    cases aR
    replace af := hcb HB.out af
    replace aJ := eq_true aJ
    replace aK := eq_true aK
    try go_wp2
    replace ac := ak (qZp ac.out)
    replace HB := ak (qQg HB.out)
    have aS : 0 ≤ ((ad) : Int) := oT (by (with_reducible assumption))
    have aT : (ad) < (l1.length : Int) := oT (by (with_reducible assumption))
    obtain ⟨bm, bs, ai⟩ := Kd.at_int HR1.out (ad) aS aT
    have aj := ai
    obtain rfl : aP = bm := (by injection bs)
    replace ai := hcb HB.out ai
    replace aS := eq_true aS
    replace aT := eq_true aT
    have aU : 0 ≤ ((rd l1 (ad)) : Int) := oT (by (with_reducible assumption))
    have aV : (rd l1 (ad)) < (ab.length : Int) := oT (by (with_reducible assumption))
    obtain ⟨ae, bt, al, am, an, ao, ap⟩ := qJi aQ.out (rd l1 (ad)) aU aV
    have aq := ap
    have ar := ao
    have au := an
    have av := am
    have aw := al
    cases bt
    replace al := hcb HB.out al
    replace am := hcb HB.out am
    replace an := hcb HB.out an
    replace ao := hcb HB.out ao
    replace ap := hcb HB.out ap
    replace aU := eq_true aU
    replace aV := eq_true aV
    have aW : 0 ≤ ((rd l1 aa) : Int) := oT (by (with_reducible assumption))
    have aX : (rd l1 aa) < (ab.length : Int) := oT (by (with_reducible assumption))
    obtain ⟨bn, bu, ax, ay, az, aA, aB⟩ := qJi aQ.out (rd l1 aa) aW aX
    have aC := aB
    have aD := aA
    have aE := az
    have aF := ay
    have aG := ax
    obtain rfl : ae = bn := (by injection bu)
    replace ax := hcb HB.out ax
    replace ay := hcb HB.out ay
    replace az := hcb HB.out az
    replace aA := hcb HB.out aA
    replace aB := hcb HB.out aB
    replace aW := eq_true aW
    replace aX := eq_true aX
    refine qJj (n := 30) (S := fun w' => w'.cell? ⟨aH, 0, none⟩ = some (.int .i64 ag) ∧ w'.cell? ⟨aH, 1, none⟩ = some (.slice (some ae) ab.length aL) ∧ w'.cell? (aP.add ((ad)).toNat) = some (.int .i64 (rd l1 (ad))) ∧ w'.cell? (ae.add (((rd l1 (ad))).toNat * 5)) = some (.int .i64 ((qZa ab (rd l1 (ad))).f0)) ∧ w'.cell? ⟨(ae.add (((rd l1 (ad))).toNat * 5)).block, (ae.add (((rd l1 (ad))).toNat * 5)).off + 1, none⟩ = some (.int .i64 ((qZa ab (rd l1 (ad))).f1)) ∧ w'.cell? ⟨(ae.add (((rd l1 (ad))).toNat * 5)).block, (ae.add (((rd l1 (ad))).toNat * 5)).off + 2, none⟩ = some (.int .i64 ((qZa ab (rd l1 (ad))).f2)) ∧ w'.cell? ⟨(ae.add (((rd l1 (ad))).toNat * 5)).block, (ae.add (((rd l1 (ad))).toNat * 5)).off + 3, none⟩ = some (.int .i64 ((qZa ab (rd l1 (ad))).f3)) ∧ w'.cell? ⟨(ae.add (((rd l1 (ad))).toNat * 5)).block, (ae.add (((rd l1 (ad))).toNat * 5)).off + 4, none⟩ = some (.int .i64 ((qZa ab (rd l1 (ad))).f4)) ∧ w'.cell? (ae.add (((rd l1 aa)).toNat * 5)) = some (.int .i64 ((qZa ab (rd l1 aa)).f0)) ∧ w'.cell? ⟨(ae.add (((rd l1 aa)).toNat * 5)).block, (ae.add (((rd l1 aa)).toNat * 5)).off + 1, none⟩ = some (.int .i64 ((qZa ab (rd l1 aa)).f1)) ∧ w'.cell? ⟨(ae.add (((rd l1 aa)).toNat * 5)).block, (ae.add (((rd l1 aa)).toNat * 5)).off + 2, none⟩ = some (.int .i64 ((qZa ab (rd l1 aa)).f2)) ∧ w'.cell? ⟨(ae.add (((rd l1 aa)).toNat * 5)).block, (ae.add (((rd l1 aa)).toNat * 5)).off + 3, none⟩ = some (.int .i64 ((qZa ab (rd l1 aa)).f3)) ∧ w'.cell? ⟨(ae.add (((rd l1 aa)).toNat * 5)).block, (ae.add (((rd l1 aa)).toNat * 5)).off + 4, none⟩ = some (.int .i64 ((qZa ab (rd l1 aa)).f4))) (ds := []) (ms 30 0) (by kernel_rfl) rfl (by kernel_rfl) ⟨(qZb ac.out 0).trans rfl, (qZb ac.out 1).trans rfl, ((HB.out.cell (World.block_lt_of_cell? w _ aj)).trans aj), ((HB.out.cell (World.block_lt_of_cell? w _ aw)).trans aw), ((HB.out.cell (World.block_lt_of_cell? w _ av)).trans av), ((HB.out.cell (World.block_lt_of_cell? w _ au)).trans au), ((HB.out.cell (World.block_lt_of_cell? w _ ar)).trans ar), ((HB.out.cell (World.block_lt_of_cell? w _ aq)).trans aq), ((HB.out.cell (World.block_lt_of_cell? w _ aG)).trans aG), ((HB.out.cell (World.block_lt_of_cell? w _ aF)).trans aF), ((HB.out.cell (World.block_lt_of_cell? w _ aE)).trans aE), ((HB.out.cell (World.block_lt_of_cell? w _ aD)).trans aD), ((HB.out.cell (World.block_lt_of_cell? w _ aC)).trans aC)⟩ (fun hHeld => ?_); refine qQo impl_WalkOk.tab6 impl_WalkOk.bits6 (fun HT_ HW_ => ?_)
    generalize wr.drew = w27 at ac HB ai al am an ao ap ax ay az aA aB hHeld ⊢
    refine pu 0 22 ?_ (ms 30 1) rfl rfl HT_ (by kernel_rfl) (fun _ _ _ h => h) (by rfl) ?_ ?_ ?_ ?_
    rotate_left
    ·intro w'
     go_simp
     with_reducible rfl
    rotate_left
    ·simp only [SX]
     rfl
    refine pu 1 23 ?_ (ms 30 3) rfl rfl HT_ (by kernel_rfl) (fun _ _ _ h => h) (by rfl) ?_ ?_ ?_ ?_
    rotate_left
    ·intro w'
     go_simp
     with_reducible rfl
    rotate_left
    ·simp only [SX]
     rfl
    refine tk 2 24 ?_ (ms 30 7) rfl rfl HT_ HW_ (by kernel_rfl) (fun _ _ _ h => h) (by rfl) ?_ hHeld ?_ ?_ ?_
    rotate_left
    ·rintro w' ⟨s0, s1, s2, s3, s4, s5, s6, s7, s8, s9, s10, s11, s12⟩
     go_simp
     with_reducible rfl
    rotate_left
    ·simp only [SX]
     rfl
    refine pu 3 25 ?_ (ms 30 15) rfl rfl HT_ (by kernel_rfl) (fun _ _ _ h => h) (by rfl) ?_ ?_ ?_ ?_
    rotate_left
    ·intro w'
     go_simp
     with_reducible rfl
    rotate_left
    ·simp only [SX]
     rfl
    refine pu 4 26 ?_ (ms 30 31) rfl rfl HT_ (by kernel_rfl) (fun _ _ _ h => h) (by rfl) ?_ ?_ ?_ ?_
    rotate_left
    ·intro w'
     go_simp
     with_reducible rfl
    rotate_left
    ·simp only [SX]
     rfl
    refine one_ (i := 5) (N := some 27) (ms 30 63) rfl rfl (qJa HT_.out (by kernel_rfl)) (by decide) (fun K hK => ?_)
    refine qXc Try.func48 (by kernel_rfl) rfl #[.int .i64 (rd l1 aa), .int .i64 0, .int .i64 (wrap64 ((ab.length : Int) - 1))] (by rfl) rfl rfl (by (try simp only [List.map_toArray, List.map_cons, List.map_nil]); rfl) ?_
    with_reducible refine (impl_within.calls (rd l1 aa) 0 (wrap64 ((ab.length : Int) - 1)) true _ A15.out).mono ?_
    rintro e w' ⟨rfl, ⟨nd, rfl⟩⟩
    refine ⟨_, rfl, ?_⟩
    refine hK.out _ _ ⟨(qZb ac.out 0).trans rfl, (qZb ac.out 1).trans rfl, ((HB.out.cell (World.block_lt_of_cell? w _ aj)).trans aj), ((HB.out.cell (World.block_lt_of_cell? w _ aw)).trans aw), ((HB.out.cell (World.block_lt_of_cell? w _ av)).trans av), ((HB.out.cell (World.block_lt_of_cell? w _ au)).trans au), ((HB.out.cell (World.block_lt_of_cell? w _ ar)).trans ar), ((HB.out.cell (World.block_lt_of_cell? w _ aq)).trans aq), ((HB.out.cell (World.block_lt_of_cell? w _ aG)).trans aG), ((HB.out.cell (World.block_lt_of_cell? w _ aF)).trans aF), ((HB.out.cell (World.block_lt_of_cell? w _ aE)).trans aE), ((HB.out.cell (World.block_lt_of_cell? w _ aD)).trans aD), ((HB.out.cell (World.block_lt_of_cell? w _ aC)).trans aC)⟩ (fun hHeld => ?_)
    clear hK K
    refine qJd (a' := ?_) ?_ ?_
    rotate_left
    ·show Act.put _ (some 27) _ = _
     simp only [SX]
     rfl
    refine pu 6 28 ?_ (ms 30 127) rfl rfl HT_ (by kernel_rfl) (fun _ _ _ h => h) (by rfl) ?_ ?_ ?_ ?_
    rotate_left
    ·intro w'
     go_simp
     with_reducible rfl
    rotate_left
    ·simp only [SX]
     rfl
    refine pu 7 29 ?_ (ms 30 255) rfl rfl HT_ (by kernel_rfl) (fun _ _ _ h => h) (by rfl) ?_ ?_ ?_ ?_
    rotate_left
    ·intro w'
     go_simp
     with_reducible rfl
    rotate_left
    ·simp only [SX]
     rfl
    refine pu 8 30 ?_ (ms 30 511) rfl rfl HT_ (by kernel_rfl) (fun _ _ _ h => h) (by rfl) ?_ ?_ ?_ ?_
    rotate_left
    ·intro w'
     go_simp
     with_reducible rfl
    rotate_left
    ·simp only [SX]
     rfl
    refine pu 9 31 ?_ (ms 30 1023) rfl rfl HT_ (by kernel_rfl) (fun _ _ _ h => h) (by rfl) ?_ ?_ ?_ ?_
    rotate_left
    ·intro w'
     go_simp
     with_reducible rfl
    rotate_left
    ·simp only [SX]
     rfl
    refine pu 10 32 ?_ (ms 30 2047) rfl rfl HT_ (by kernel_rfl) (fun _ _ _ h => h) (by rfl) ?_ ?_ ?_ ?_
    rotate_left
    ·intro w'
     go_simp
     with_reducible rfl
    rotate_left
    ·simp only [SX]
     rfl
    refine pu 11 33 ?_ (ms 30 4095) rfl rfl HT_ (by kernel_rfl) (fun _ _ _ h => h) (by rfl) ?_ ?_ ?_ ?_
    rotate_left
    ·intro w'
     go_simp
     with_reducible rfl
    rotate_left
    ·simp only [SX]
     rfl
    refine pu 13 35 ?_ (ms 30 12287) rfl rfl HT_ (by kernel_rfl) (fun _ _ _ h => h) (by rfl) ?_ ?_ ?_ ?_
    rotate_left
    ·intro w'
     go_simp
     with_reducible rfl
    rotate_left
    ·simp only [SX]
     rfl
    refine pu 14 36 ?_ (ms 30 28671) rfl rfl HT_ (by kernel_rfl) (fun _ _ _ h => h) (by rfl) ?_ ?_ ?_ ?_
    rotate_left
    ·intro w'
     go_simp
     with_reducible rfl
    rotate_left
    ·simp only [SX]
     rfl
    refine pu 15 37 ?_ (ms 30 61439) rfl rfl HT_ (by kernel_rfl) (fun _ _ _ h => h) (by rfl) ?_ ?_ ?_ ?_
    rotate_left
    ·intro w'
     go_simp
     with_reducible rfl
    rotate_left
    ·simp only [SX]
     rfl
    refine pu 16 38 ?_ (ms 30 126975) rfl rfl HT_ (by kernel_rfl) (fun _ _ _ h => h) (by rfl) ?_ ?_ ?_ ?_
    rotate_left
    ·intro w'
     go_simp
     with_reducible rfl
    rotate_left
    ·simp only [SX]
     rfl
    refine pu 21 43 ?_ (ms 30 2224127) rfl rfl HT_ (by kernel_rfl) (fun _ _ _ h => h) (by rfl) ?_ ?_ ?_ ?_
    rotate_left
    ·intro w'
     go_simp
     with_reducible rfl
    rotate_left
    ·simp only [SX]
     rfl
    refine pu 23 45 ?_ (ms 30 10612735) rfl rfl HT_ (by kernel_rfl) (fun _ _ _ h => h) (by rfl) ?_ ?_ ?_ ?_
    rotate_left
    ·intro w'
     go_simp
     with_reducible rfl
    rotate_left
    ·simp only [SX]
     rfl
    refine tk 12 34 ?_ (ms 30 10616831) rfl rfl HT_ HW_ (by kernel_rfl) (fun _ _ _ h => h) (by rfl) ?_ hHeld ?_ ?_ ?_
    rotate_left
    ·rintro w' ⟨s0, s1, s2, s3, s4, s5, s6, s7, s8, s9, s10, s11, s12⟩
     go_simp
     with_reducible rfl
    rotate_left
    ·simp only [SX]
     rfl
    refine tk 17 39 ?_ (ms 30 10747903) rfl rfl HT_ HW_ (by kernel_rfl) (fun _ _ _ h => h) (by rfl) ?_ hHeld ?_ ?_ ?_
    rotate_left
    ·rintro w' ⟨s0, s1, s2, s3, s4, s5, s6, s7, s8, s9, s10, s11, s12⟩
     go_simp
     with_reducible rfl
    rotate_left
    ·simp only [SX]
     rfl
    refine pu 18 40 ?_ (ms 30 11010047) rfl rfl HT_ (by kernel_rfl) (fun _ _ _ h => h) (by rfl) ?_ ?_ ?_ ?_
    rotate_left
    ·intro w'
     go_simp
     with_reducible rfl
    rotate_left
    ·simp only [SX]
     rfl
    refine pu 19 41 ?_ (ms 30 11534335) rfl rfl HT_ (by kernel_rfl) (fun _ _ _ h => h) (by rfl) ?_ ?_ ?_ ?_
    rotate_left
    ·intro w'
     go_simp
     with_reducible rfl
    rotate_left
    ·simp only [SX]
     rfl
    refine tk 20 42 ?_ (ms 30 12582911) rfl rfl HT_ HW_ (by kernel_rfl) (fun _ _ _ h => h) (by rfl) ?_ hHeld ?_ ?_ ?_
    rotate_left
    ·rintro w' ⟨s0, s1, s2, s3, s4, s5, s6, s7, s8, s9, s10, s11, s12⟩
     go_simp
     with_reducible rfl
    rotate_left
    ·simp only [SX]
     rfl
    refine tk 22 44 ?_ (ms 30 16777215) rfl rfl HT_ HW_ (by kernel_rfl) (fun _ _ _ h => h) (by rfl) ?_ hHeld ?_ ?_ ?_
    rotate_left
    ·rintro w' ⟨s0, s1, s2, s3, s4, s5, s6, s7, s8, s9, s10, s11, s12⟩
     go_simp
     with_reducible rfl
    rotate_left
    ·simp only [SX]
     rfl
    refine pu 24 46 ?_ (ms 30 33554431) rfl rfl HT_ (by kernel_rfl) (fun _ _ _ h => h) (by rfl) ?_ ?_ ?_ ?_
    rotate_left
    ·intro w'
     go_simp
     with_reducible rfl
    rotate_left
    ·simp only [SX]
     rfl
    refine pu 25 47 ?_ (ms 30 67108863) rfl rfl HT_ (by kernel_rfl) (fun _ _ _ h => h) (by rfl) ?_ ?_ ?_ ?_
    rotate_left
    ·intro w'
     go_simp
     with_reducible rfl
    rotate_left
    ·simp only [SX]
     rfl
    refine tk 26 48 ?_ (ms 30 134217727) rfl rfl HT_ HW_ (by kernel_rfl) (fun _ _ _ h => h) (by rfl) ?_ hHeld ?_ ?_ ?_
    rotate_left
    ·rintro w' ⟨s0, s1, s2, s3, s4, s5, s6, s7, s8, s9, s10, s11, s12⟩
     go_simp
     with_reducible rfl
    rotate_left
    ·simp only [SX]
     rfl
    refine pu 27 49 ?_ (ms 30 268435455) rfl rfl HT_ (by kernel_rfl) (fun _ _ _ h => h) (by rfl) ?_ ?_ ?_ ?_
    rotate_left
    ·intro w'
     go_simp
     with_reducible rfl
    rotate_left
    ·simp only [SX]
     rfl
    refine pu 28 50 ?_ (ms 30 536870911) rfl rfl HT_ (by kernel_rfl) (fun _ _ _ h => h) (by rfl) ?_ ?_ ?_ ?_
    rotate_left
    ·intro w'
     go_simp
     with_reducible rfl
    rotate_left
    ·simp only [SX]
     rfl
    refine pu 29 51 ?_ (ms 30 1073741823) rfl rfl HT_ (by kernel_rfl) (fun _ _ _ h => h) (by rfl) ?_ ?_ ?_ ?_
    rotate_left
    ·intro w'
     go_simp
     with_reducible rfl
    rotate_left
    ·simp only [SX]
     rfl
    refine qXe (qJg HT_.out (by kernel_rfl)) ?_
    try go_wp2
    go_ret
    exact ⟨by rfl, bl1 HB aI⟩
   rw [if_pos c25] at H
   have c25b0 : (((qZa ab (rd l1 (ad))).f1) == ((qZa ab (rd l1 aa)).f0)) = true := beq_iff_eq.mpr c25
   have c25b1 : (((qZa ab (rd l1 (ad))).f1) != ((qZa ab (rd l1 aa)).f0)) = false := bne_eq_false_iff_eq.mpr c25
   clear c25
   have H' := ak H
   clear H
   have aJ : 0 ≤ (aa : Int) := oT (by (with_reducible assumption))
   have aK : aa < (l1.length : Int) := oT (by (with_reducible assumption))
   obtain ⟨aP, aR, af⟩ := Kd.at_int HR1.out aa aJ aK
   cases aR
   replace af := hcb HB.out af
   replace aJ := eq_true aJ
   replace aK := eq_true aK
   try go_wp2
   replace ac := ak (qZp ac.out)
   replace HB := ak (qQg HB.out)
   have aS : 0 ≤ ((ad) : Int) := oT (by (with_reducible assumption))
   have aT : (ad) < (l1.length : Int) := oT (by (with_reducible assumption))
   obtain ⟨bm, bs, ai⟩ := Kd.at_int HR1.out (ad) aS aT
   have aj := ai
   obtain rfl : aP = bm := (by injection bs)
   replace ai := hcb HB.out ai
   replace aS := eq_true aS
   replace aT := eq_true aT
   have aU : 0 ≤ ((rd l1 (ad)) : Int) := oT (by (with_reducible assumption))
   have aV : (rd l1 (ad)) < (ab.length : Int) := oT (by (with_reducible assumption))
   obtain ⟨ae, bt, al, am, an, ao, ap⟩ := qJi aQ.out (rd l1 (ad)) aU aV
   have aq := ap
   have ar := ao
   have au := an
   have av := am
   have aw := al
   cases bt
   replace al := hcb HB.out al
   replace am := hcb HB.out am
   replace an := hcb HB.out an
   replace ao := hcb HB.out ao
   replace ap := hcb HB.out ap
   replace aU := eq_true aU
   replace aV := eq_true aV
   have aW : 0 ≤ ((rd l1 aa) : Int) := oT (by (with_reducible assumption))
   have aX : (rd l1 aa) < (ab.length : Int) := oT (by (with_reducible assumption))
   obtain ⟨bn, bu, ax, ay, az, aA, aB⟩ := qJi aQ.out (rd l1 aa) aW aX
   have aC := aB
   have aD := aA
   have aE := az
   have aF := ay
   have aG := ax
   obtain rfl : ae = bn := (by injection bu)
   replace ax := hcb HB.out ax
   replace ay := hcb HB.out ay
   replace az := hcb HB.out az
   replace aA := hcb HB.out aA
   replace aB := hcb HB.out aB
   replace aW := eq_true aW
   replace aX := eq_true aX
   refine qJj (n := 30) (S := fun w' => w'.cell? ⟨aH, 0, none⟩ = some (.int .i64 ag) ∧ w'.cell? ⟨aH, 1, none⟩ = some (.slice (some ae) ab.length aL) ∧ w'.cell? (aP.add ((ad)).toNat) = some (.int .i64 (rd l1 (ad))) ∧ w'.cell? (ae.add (((rd l1 (ad))).toNat * 5)) = some (.int .i64 ((qZa ab (rd l1 (ad))).f0)) ∧ w'.cell? ⟨(ae.add (((rd l1 (ad))).toNat * 5)).block, (ae.add (((rd l1 (ad))).toNat * 5)).off + 1, none⟩ = some (.int .i64 ((qZa ab (rd l1 (ad))).f1)) ∧ w'.cell? ⟨(ae.add (((rd l1 (ad))).toNat * 5)).block, (ae.add (((rd l1 (ad))).toNat * 5)).off + 2, none⟩ = some (.int .i64 ((qZa ab (rd l1 (ad))).f2)) ∧ w'.cell? ⟨(ae.add (((rd l1 (ad))).toNat * 5)).block, (ae.add (((rd l1 (ad))).toNat * 5)).off + 3, none⟩ = some (.int .i64 ((qZa ab (rd l1 (ad))).f3)) ∧ w'.cell? ⟨(ae.add (((rd l1 (ad))).toNat * 5)).block, (ae.add (((rd l1 (ad))).toNat * 5)).off + 4, none⟩ = some (.int .i64 ((qZa ab (rd l1 (ad))).f4)) ∧ w'.cell? (ae.add (((rd l1 aa)).toNat * 5)) = some (.int .i64 ((qZa ab (rd l1 aa)).f0)) ∧ w'.cell? ⟨(ae.add (((rd l1 aa)).toNat * 5)).block, (ae.add (((rd l1 aa)).toNat * 5)).off + 1, none⟩ = some (.int .i64 ((qZa ab (rd l1 aa)).f1)) ∧ w'.cell? ⟨(ae.add (((rd l1 aa)).toNat * 5)).block, (ae.add (((rd l1 aa)).toNat * 5)).off + 2, none⟩ = some (.int .i64 ((qZa ab (rd l1 aa)).f2)) ∧ w'.cell? ⟨(ae.add (((rd l1 aa)).toNat * 5)).block, (ae.add (((rd l1 aa)).toNat * 5)).off + 3, none⟩ = some (.int .i64 ((qZa ab (rd l1 aa)).f3)) ∧ w'.cell? ⟨(ae.add (((rd l1 aa)).toNat * 5)).block, (ae.add (((rd l1 aa)).toNat * 5)).off + 4, none⟩ = some (.int .i64 ((qZa ab (rd l1 aa)).f4))) (ds := []) (ms 30 0) (by kernel_rfl) rfl (by kernel_rfl) ⟨(qZb ac.out 0).trans rfl, (qZb ac.out 1).trans rfl, ((HB.out.cell (World.block_lt_of_cell? w _ aj)).trans aj), ((HB.out.cell (World.block_lt_of_cell? w _ aw)).trans aw), ((HB.out.cell (World.block_lt_of_cell? w _ av)).trans av), ((HB.out.cell (World.block_lt_of_cell? w _ au)).trans au), ((HB.out.cell (World.block_lt_of_cell? w _ ar)).trans ar), ((HB.out.cell (World.block_lt_of_cell? w _ aq)).trans aq), ((HB.out.cell (World.block_lt_of_cell? w _ aG)).trans aG), ((HB.out.cell (World.block_lt_of_cell? w _ aF)).trans aF), ((HB.out.cell (World.block_lt_of_cell? w _ aE)).trans aE), ((HB.out.cell (World.block_lt_of_cell? w _ aD)).trans aD), ((HB.out.cell (World.block_lt_of_cell? w _ aC)).trans aC)⟩ (fun hHeld => ?_); refine qQo impl_WalkOk.tab6 impl_WalkOk.bits6 (fun HT_ HW_ => ?_)
   generalize wr.drew = w26 at ac HB ai al am an ao ap ax ay az aA aB hHeld ⊢
   refine pu 0 22 ?_ (ms 30 1) rfl rfl HT_ (by kernel_rfl) (fun _ _ _ h => h) (by rfl) ?_ ?_ ?_ ?_
   rotate_left
   ·intro w'
    go_simp
    with_reducible rfl
   rotate_left
   ·simp only [SX]
    rfl
   refine pu 1 23 ?_ (ms 30 3) rfl rfl HT_ (by kernel_rfl) (fun _ _ _ h => h) (by rfl) ?_ ?_ ?_ ?_
   rotate_left
   ·intro w'
    go_simp
    with_reducible rfl
   rotate_left
   ·simp only [SX]
    rfl
   refine tk 2 24 ?_ (ms 30 7) rfl rfl HT_ HW_ (by kernel_rfl) (fun _ _ _ h => h) (by rfl) ?_ hHeld ?_ ?_ ?_
   rotate_left
   ·rintro w' ⟨s0, s1, s2, s3, s4, s5, s6, s7, s8, s9, s10, s11, s12⟩
    go_simp
    with_reducible rfl
   rotate_left
   ·simp only [SX]
    rfl
   refine pu 3 25 ?_ (ms 30 15) rfl rfl HT_ (by kernel_rfl) (fun _ _ _ h => h) (by rfl) ?_ ?_ ?_ ?_
   rotate_left
   ·intro w'
    go_simp
    with_reducible rfl
   rotate_left
   ·simp only [SX]
    rfl
   refine pu 4 26 ?_ (ms 30 31) rfl rfl HT_ (by kernel_rfl) (fun _ _ _ h => h) (by rfl) ?_ ?_ ?_ ?_
   rotate_left
   ·intro w'
    go_simp
    with_reducible rfl
   rotate_left
   ·simp only [SX]
    rfl
   refine one_ (i := 5) (N := some 27) (ms 30 63) rfl rfl (qJa HT_.out (by kernel_rfl)) (by decide) (fun K hK => ?_)
   refine qXc Try.func48 (by kernel_rfl) rfl #[.int .i64 (rd l1 aa), .int .i64 0, .int .i64 (wrap64 ((ab.length : Int) - 1))] (by rfl) rfl rfl (by (try simp only [List.map_toArray, List.map_cons, List.map_nil]); rfl) ?_
   with_reducible refine (impl_within.calls (rd l1 aa) 0 (wrap64 ((ab.length : Int) - 1)) true _ A15.out).mono ?_
   rintro e w' ⟨rfl, ⟨nd, rfl⟩⟩
   refine ⟨_, rfl, ?_⟩
   refine hK.out _ _ ⟨(qZb ac.out 0).trans rfl, (qZb ac.out 1).trans rfl, ((HB.out.cell (World.block_lt_of_cell? w _ aj)).trans aj), ((HB.out.cell (World.block_lt_of_cell? w _ aw)).trans aw), ((HB.out.cell (World.block_lt_of_cell? w _ av)).trans av), ((HB.out.cell (World.block_lt_of_cell? w _ au)).trans au), ((HB.out.cell (World.block_lt_of_cell? w _ ar)).trans ar), ((HB.out.cell (World.block_lt_of_cell? w _ aq)).trans aq), ((HB.out.cell (World.block_lt_of_cell? w _ aG)).trans aG), ((HB.out.cell (World.block_lt_of_cell? w _ aF)).trans aF), ((HB.out.cell (World.block_lt_of_cell? w _ aE)).trans aE), ((HB.out.cell (World.block_lt_of_cell? w _ aD)).trans aD), ((HB.out.cell (World.block_lt_of_cell? w _ aC)).trans aC)⟩ (fun hHeld => ?_)
   clear hK K
   refine qJd (a' := ?_) ?_ ?_
   rotate_left
   ·show Act.put _ (some 27) _ = _
    simp only [SX]
    rfl
   refine pu 6 28 ?_ (ms 30 127) rfl rfl HT_ (by kernel_rfl) (fun _ _ _ h => h) (by rfl) ?_ ?_ ?_ ?_
   rotate_left
   ·intro w'
    go_simp
    with_reducible rfl
   rotate_left
   ·simp only [SX]
    rfl
   refine pu 7 29 ?_ (ms 30 255) rfl rfl HT_ (by kernel_rfl) (fun _ _ _ h => h) (by rfl) ?_ ?_ ?_ ?_
   rotate_left
   ·intro w'
    go_simp
    with_reducible rfl
   rotate_left
   ·simp only [SX]
    rfl
   refine pu 8 30 ?_ (ms 30 511) rfl rfl HT_ (by kernel_rfl) (fun _ _ _ h => h) (by rfl) ?_ ?_ ?_ ?_
   rotate_left
   ·intro w'
    go_simp
    with_reducible rfl
   rotate_left
   ·simp only [SX]
    rfl
   refine pu 9 31 ?_ (ms 30 1023) rfl rfl HT_ (by kernel_rfl) (fun _ _ _ h => h) (by rfl) ?_ ?_ ?_ ?_
   rotate_left
   ·intro w'
    go_simp
    with_reducible rfl
   rotate_left
   ·simp only [SX]
    rfl
   refine pu 10 32 ?_ (ms 30 2047) rfl rfl HT_ (by kernel_rfl) (fun _ _ _ h => h) (by rfl) ?_ ?_ ?_ ?_
   rotate_left
   ·intro w'
    go_simp
    with_reducible rfl
   rotate_left
   ·simp only [SX]
    rfl
   refine pu 11 33 ?_ (ms 30 4095) rfl rfl HT_ (by kernel_rfl) (fun _ _ _ h => h) (by rfl) ?_ ?_ ?_ ?_
   rotate_left
   ·intro w'
    go_simp
    with_reducible rfl
   rotate_left
   ·simp only [SX]
    rfl
   refine pu 13 35 ?_ (ms 30 12287) rfl rfl HT_ (by kernel_rfl) (fun _ _ _ h => h) (by rfl) ?_ ?_ ?_ ?_
   rotate_left
   ·intro w'
    go_simp
    with_reducible rfl
   rotate_left
   ·simp only [SX]
    rfl
   refine pu 14 36 ?_ (ms 30 28671) rfl rfl HT_ (by kernel_rfl) (fun _ _ _ h => h) (by rfl) ?_ ?_ ?_ ?_
   rotate_left
   ·intro w'
    go_simp
    with_reducible rfl
   rotate_left
   ·simp only [SX]
    rfl
   refine pu 15 37 ?_ (ms 30 61439) rfl rfl HT_ (by kernel_rfl) (fun _ _ _ h => h) (by rfl) ?_ ?_ ?_ ?_
   rotate_left
   ·intro w'
    go_simp
    with_reducible rfl
   rotate_left
   ·simp only [SX]
    rfl
   refine pu 16 38 ?_ (ms 30 126975) rfl rfl HT_ (by kernel_rfl) (fun _ _ _ h => h) (by rfl) ?_ ?_ ?_ ?_
   rotate_left
   ·intro w'
    go_simp
    with_reducible rfl
   rotate_left
   ·simp only [SX]
    rfl
   refine pu 21 43 ?_ (ms 30 2224127) rfl rfl HT_ (by kernel_rfl) (fun _ _ _ h => h) (by rfl) ?_ ?_ ?_ ?_
   rotate_left
   ·intro w'
    go_simp
    with_reducible rfl
   rotate_left
   ·simp only [SX]
    rfl
   refine pu 23 45 ?_ (ms 30 10612735) rfl rfl HT_ (by kernel_rfl) (fun _ _ _ h => h) (by rfl) ?_ ?_ ?_ ?_
   rotate_left
   ·intro w'
    go_simp
    with_reducible rfl
   rotate_left
   ·simp only [SX]
    rfl
   refine tk 12 34 ?_ (ms 30 10616831) rfl rfl HT_ HW_ (by kernel_rfl) (fun _ _ _ h => h) (by rfl) ?_ hHeld ?_ ?_ ?_
   rotate_left
   ·rintro w' ⟨s0, s1, s2, s3, s4, s5, s6, s7, s8, s9, s10, s11, s12⟩
    go_simp
    with_reducible rfl
   rotate_left
   ·simp only [SX]
    rfl
   refine tk 17 39 ?_ (ms 30 10747903) rfl rfl HT_ HW_ (by kernel_rfl) (fun _ _ _ h => h) (by rfl) ?_ hHeld ?_ ?_ ?_
   rotate_left
   ·rintro w' ⟨s0, s1, s2, s3, s4, s5, s6, s7, s8, s9, s10, s11, s12⟩
    go_simp
    with_reducible rfl
   rotate_left
   ·simp only [SX]
    rfl
   refine pu 18 40 ?_ (ms 30 11010047) rfl rfl HT_ (by kernel_rfl) (fun _ _ _ h => h) (by rfl) ?_ ?_ ?_ ?_
   rotate_left
   ·intro w'
    go_simp
    with_reducible rfl
   rotate_left
   ·simp only [SX]
    rfl
   refine pu 19 41 ?_ (ms 30 11534335) rfl rfl HT_ (by kernel_rfl) (fun _ _ _ h => h) (by rfl) ?_ ?_ ?_ ?_
   rotate_left
   ·intro w'
    go_simp
    with_reducible rfl
   rotate_left
   ·simp only [SX]
    rfl
   refine tk 20 42 ?_ (ms 30 12582911) rfl rfl HT_ HW_ (by kernel_rfl) (fun _ _ _ h => h) (by rfl) ?_ hHeld ?_ ?_ ?_
   rotate_left
   ·rintro w' ⟨s0, s1, s2, s3, s4, s5, s6, s7, s8, s9, s10, s11, s12⟩
    go_simp
    with_reducible rfl
   rotate_left
   ·simp only [SX]
    rfl
   refine tk 22 44 ?_ (ms 30 16777215) rfl rfl HT_ HW_ (by kernel_rfl) (fun _ _ _ h => h) (by rfl) ?_ hHeld ?_ ?_ ?_
   rotate_left
   ·rintro w' ⟨s0, s1, s2, s3, s4, s5, s6, s7, s8, s9, s10, s11, s12⟩
    go_simp
    with_reducible rfl
   rotate_left
   ·simp only [SX]
    rfl
   refine pu 24 46 ?_ (ms 30 33554431) rfl rfl HT_ (by kernel_rfl) (fun _ _ _ h => h) (by rfl) ?_ ?_ ?_ ?_
   rotate_left
   ·intro w'
    go_simp
    with_reducible rfl
   rotate_left
   ·simp only [SX]
    rfl
   refine pu 25 47 ?_ (ms 30 67108863) rfl rfl HT_ (by kernel_rfl) (fun _ _ _ h => h) (by rfl) ?_ ?_ ?_ ?_
   rotate_left
   ·intro w'
    go_simp
    with_reducible rfl
   rotate_left
   ·simp only [SX]
    rfl
   refine tk 26 48 ?_ (ms 30 134217727) rfl rfl HT_ HW_ (by kernel_rfl) (fun _ _ _ h => h) (by rfl) ?_ hHeld ?_ ?_ ?_
   rotate_left
   ·rintro w' ⟨s0, s1, s2, s3, s4, s5, s6, s7, s8, s9, s10, s11, s12⟩
    go_simp
    with_reducible rfl
   rotate_left
   ·simp only [SX]
    rfl
   refine pu 27 49 ?_ (ms 30 268435455) rfl rfl HT_ (by kernel_rfl) (fun _ _ _ h => h) (by rfl) ?_ ?_ ?_ ?_
   rotate_left
   ·intro w'
    go_simp
    with_reducible rfl
   rotate_left
   ·simp only [SX]
    rfl
   refine pu 28 50 ?_ (ms 30 536870911) rfl rfl HT_ (by kernel_rfl) (fun _ _ _ h => h) (by rfl) ?_ ?_ ?_ ?_
   rotate_left
   ·intro w'
    go_simp
    with_reducible rfl
   rotate_left
   ·simp only [SX]
    rfl
   refine pu 29 51 ?_ (ms 30 1073741823) rfl rfl HT_ (by kernel_rfl) (fun _ _ _ h => h) (by rfl) ?_ ?_ ?_ ?_
   rotate_left
   ·intro w'
    go_simp
    with_reducible rfl
   rotate_left
   ·simp only [SX]
    rfl
   refine qXe (qJg HT_.out (by kernel_rfl)) ?_
   try go_wp2
   go_roundg k2
   case measure => have := HJ2.out; have := HK2.out; omega
   case rel => exact ⟨(wrap64 (aa + 1)), (by rfl), H', ⟨by have := HJ2.out; have := HK2.out; omega⟩, ⟨bk ac⟩, ⟨bl1 HB aI⟩⟩
/-! ### laws_wkEnds: function 28 -/
def laws_wkEnds.f (k : Nat) (au : Int) (aa : List (S58)) (l1 : List Int) (a2 : Int) (a3 : Int) : Option (Bool) := if (l1.length : Int) = 0 then (some (a2 == a3)) else ((impl_WalkOk.f k au aa l1).bind fun aR => (if aR = true then (if 0 < (l1.length : Int) then (if 0 ≤ (rd l1 0) then (if (rd l1 0) < (aa.length : Int) then (if ((qZa aa (rd l1 0)).f0) = a2 then (if 0 ≤ (wrap64 ((l1.length : Int) - 1)) then (if (wrap64 ((l1.length : Int) - 1)) < (l1.length : Int) then (if 0 ≤ (rd l1 (wrap64 ((l1.length : Int) - 1))) then (if (rd l1 (wrap64 ((l1.length : Int) - 1))) < (aa.length : Int) then (some (((qZa aa (rd l1 (wrap64 ((l1.length : Int) - 1)))).f1) == a3)) else (none)) else (none)) else (none)) else (none)) else (some false)) else (none)) else (none)) else (none)) else (some false)))
theorem laws_wkEnds.mono : ∀ a0 a1 a2 a3 a4 k, LeO (laws_wkEnds.f k a0 a1 a2 a3 a4) (laws_wkEnds.f (k + 1) a0 a1 a2 a3 a4) := by
 intro a0 a1 a2 a3 a4 k
 unfold laws_wkEnds.f
 repeat' first | (with_reducible exact impl_WalkOk.mono _ _ _ _) | (with_reducible exact LeO.refl _) | (with_reducible refine LeO.ite ?_ ?_) | (with_reducible refine LeO.bind ?_ (fun _ => ?_))
def laws_wkEnds.T3 : Bool × List (List Nat × List Nat) := (true, [([], []), ([], []), ([0, 1], [0, 1]), ([2, 2], [2]), ([3], [3]), ([4, 3], [3, 4]), ([3], [3]), ([6, 3], [3, 6]), ([7, 3], [3, 7]), ([5, 8, 3], [3, 5, 8]), ([9, 3], [3, 9]), ([10, 3], [3, 10]), ([3], [3]), ([11, 12, 3], [3, 11, 12]), ([3, 13], [3, 13]), ([14, 3], [14]), ([15], [15]), ([16, 15], [15, 16]), ([15], [15]), ([15], [15]), ([19, 15], [15, 19]), ([20, 15], [15, 20]), ([18, 21, 15], [15, 18, 21]), ([22, 15], [15, 22]), ([17, 23, 15], [15, 17, 23]), ([24, 15], [15, 24]), ([25, 15], [15, 25]), ([15], [15]), ([26, 27, 15], [15, 26, 27]), ([15, 28], [15, 28]), ([29, 15, 0, 1, 2, 3, 4, 5, 6, 7, 8, 9, 10, 11, 12, 13, 14, 15, 16, 17, 18, 19, 20, 21, 22, 23, 24, 25, 26, 27, 28, 29], [29])])
def laws_wkEnds.B3 : List Nat := [0, 0, 3, 7, 15, 31, 15, 79, 207, 511, 1023, 2047, 15, 8191, 16383, 32767, 65535, 131071, 65535, 65535, 589823, 1638399, 3997695, 8191999, 16777215, 33554431, 67108863, 65535, 268435455, 536870911, 1073741823]
theorem laws_wkEnds.tab3 : rtab .any (qWg Try.f28 3) = laws_wkEnds.T3 := by kernel_rfl
theorem laws_wkEnds.bits3 : qJn laws_wkEnds.T3.2 laws_wkEnds.B3 = true := by kernel_rfl
set_option maxHeartbeats 8000000 in
set_option maxRecDepth 100000 in
theorem laws_wkEnds.calls (k : Nat) (au : Int) (aL : Option Addr) (aw : Nat) (aa : List (S58)) (A1 : Option Addr) (c1 : Nat) (l1 : List Int) (a2 : Int) (a3 : Int) (r : Bool) (w : World) (aV : Kd.C k58 w aL aa.length aa) (aW : aa.length ≤ aw) (hr1 : Kd.C (Kd.int .i64) w A1 l1.length l1) (hc1 : l1.length ≤ c1) (h : laws_wkEnds.f k au aa l1 a2 a3 = some r) :
  Calls Try.prog 28 #[.agg #[.int .i64 au, .slice aL aa.length aw], .slice A1 l1.length c1, .int .i64 a2, .int .i64 a3] w fun e w' => e = .returned (.bool r) ∧ Below w.heap.size w w' := by
 have bj := Try.underlying25
 have aK := ak aV
 have aS := ak aW
 clear aV aW
 have HR1 := ak hr1
 have HC1 := ak hc1
 clear hr1 hc1
 have HB := ak (Below.refl w.heap.size w)
 have H : (if (l1.length : Int) = 0 then (some (a2 == a3)) else ((impl_WalkOk.f k au aa l1).bind fun aR => (if aR = true then (if 0 < (l1.length : Int) then (if 0 ≤ (rd l1 0) then (if (rd l1 0) < (aa.length : Int) then (if ((qZa aa (rd l1 0)).f0) = a2 then (if 0 ≤ (wrap64 ((l1.length : Int) - 1)) then (if (wrap64 ((l1.length : Int) - 1)) < (l1.length : Int) then (if 0 ≤ (rd l1 (wrap64 ((l1.length : Int) - 1))) then (if (rd l1 (wrap64 ((l1.length : Int) - 1))) < (aa.length : Int) then (some (((qZa aa (rd l1 (wrap64 ((l1.length : Int) - 1)))).f1) == a3)) else (none)) else (none)) else (none)) else (none)) else (some false)) else (none)) else (none)) else (none)) else (some false)))) = some r := h
 clear h
 by_cases c5 : (l1.length : Int) = 0
 ·rw [if_pos c5] at H
  have c5b0 : ((l1.length : Int) == 0) = true := beq_iff_eq.mpr c5
  have c5b1 : ((l1.length : Int) != 0) = false := bne_eq_false_iff_eq.mpr c5
  clear c5
  obtain rfl := Option.some.inj H
  go_enter Try.func28, Try.ntmps28
  go_wp2_with (((with_reducible refine gate_dst (N := 4) rfl ?_); refine qZh ?hg (N := 4) ?hd (cs := #[.int .i64 au, .slice aL aa.length aw]) (t := 25) ?hr ?_; (case hd => rfl); (case hg => rfl); (case hr => (go_simp; done)); intro ag hg w6 hbox hb; have ac := ak (hbox); have aT := ak ((by rw [hg]; exact (qZc (bl HB)) : w.heap.size ≤ ag)); have av := ak ((by rw [hg]; exact (qZc (bl HB)) : w.heap.size ≤ ag)); replace HB := ak (qZd (bl HB) hb); clear hb hbox hg))
  go_ret
  exact ⟨by rfl, bl1 HB av⟩
 rw [if_neg c5] at H
 have c5b0 : ((l1.length : Int) == 0) = false := beq_eq_false_iff_ne.mpr c5
 have c5b1 : ((l1.length : Int) != 0) = true := bne_iff_ne.mpr c5
 have c5b2 : ¬ (l1 = []) := fun h_ => c5 (by rw [h_]; rfl)
 replace H := Option.bind_eq_some_iff.mp H
 obtain ⟨aR, A70, H⟩ := H
 have A7 := ak A70
 clear A70
 by_cases c8 : aR = true
 rotate_left
 ·replace c8 := Bool.eq_false_iff.mpr c8
  subst c8
  rw [if_neg (show ¬ (false = true) by decide)] at H
  obtain rfl := Option.some.inj H
  go_enter Try.func28, Try.ntmps28
  try go_wp2_with (((with_reducible refine gate_dst (N := 4) rfl ?_); refine qZh ?hg (N := 4) ?hd (cs := #[.int .i64 au, .slice aL aa.length aw]) (t := 25) ?hr ?_; (case hd => rfl); (case hg => rfl); (case hr => (go_simp; done)); intro ag hg w24 hbox hb; have ac := ak (hbox); have aT := ak ((by rw [hg]; exact (qZc (bl HB)) : w.heap.size ≤ ag)); have av := ak ((by rw [hg]; exact (qZc (bl HB)) : w.heap.size ≤ ag)); replace HB := ak (qZd (bl HB) hb); clear hb hbox hg))
  replace ac := ak (qZp ac.out)
  replace HB := ak (qQg HB.out)
  refine qJj (n := 31) (S := fun w' => w'.cell? ⟨ag, 0, none⟩ = some (.int .i64 au) ∧ w'.cell? ⟨ag, 1, none⟩ = some (.slice aL aa.length aw)) (ds := []) (ms 31 0) (by kernel_rfl) rfl (by kernel_rfl) ⟨(qZb ac.out 0).trans rfl, (qZb ac.out 1).trans rfl⟩ (fun hHeld => ?_); refine qQo laws_wkEnds.tab3 laws_wkEnds.bits3 (fun HT_ HW_ => ?_)
  generalize w24.drew = w25 at ac HB hHeld ⊢
  refine pu 1 16 ?_ (ms 31 2) rfl rfl HT_ (by kernel_rfl) (fun _ _ _ h => h) (by rfl) ?_ ?_ ?_ ?_
  rotate_left
  ·intro w'
   go_simp
   with_reducible rfl
  rotate_left
  ·simp only [SX]
   rfl
  refine tk 0 15 ?_ (ms 31 3) rfl rfl HT_ HW_ (by kernel_rfl) (fun _ _ _ h => h) (by rfl) ?_ hHeld ?_ ?_ ?_
  rotate_left
  ·rintro w' ⟨s0, s1⟩
   go_simp
   with_reducible rfl
  rotate_left
  ·simp only [SX]
   rfl
  refine one_ (i := 2) (N := some 17) (ms 31 7) rfl rfl (qJa HT_.out (by kernel_rfl)) (by decide) (fun K hK => ?_)
  refine qXc Try.func61 (by kernel_rfl) rfl #[.agg #[.int .i64 au, .slice aL aa.length aw], .slice A1 l1.length c1] (by rfl) rfl rfl (by (try simp only [List.map_toArray, List.map_cons, List.map_nil]); rfl) ?_
  with_reducible refine (impl_WalkOk.calls k au _ _ aa _ _ l1 false _ ?side1 ?side2 ?side3 ?side4 A7.out).mono ?_
  (case side1 => repeat (exact (Kd.C_below aK.out HB.out)))
  (case side2 => exact aS.out)
  (case side3 => repeat (exact (Kd.C_below HR1.out HB.out)))
  (case side4 => exact HC1.out)
  rintro e w26 ⟨rfl, hb⟩
  refine ⟨_, rfl, ?_⟩
  replace ac := ak (qZe (bk ac) hb)
  replace HB := ak (qZd (bl1 HB av) hb)
  (try clear hb)
  (try clear hb2)
  (try clear hk)
  (try clear hi)
  refine hK.out _ _ ⟨(qZb ac.out 0).trans rfl, (qZb ac.out 1).trans rfl⟩ (fun hHeld => ?_)
  clear hK K
  refine qJd (a' := ?_) ?_ ?_
  rotate_left
  ·show Act.put _ (some 17) _ = _
   simp only [SX]
   rfl
  refine pu 3 18 ?_ (ms 31 15) rfl rfl HT_ (by kernel_rfl) (fun _ _ _ h => h) (by rfl) ?_ ?_ ?_ ?_
  rotate_left
  ·intro w'
   go_simp
   with_reducible rfl
  rotate_left
  ·simp only [SX]
   rfl
  refine qZm (i := 4) (N := some 19) (v := undef) (a' := ?_) (ms 31 31) rfl rfl (qZi HT_.out (by kernel_rfl)) (fun _ _ _ h => h) (Or.inr ⟨by rfl, rfl⟩) ?_ ?_
  rotate_left
  ·simp only [SX]
   rfl
  refine qZm (i := 5) (N := some 20) (v := undef) (a' := ?_) (ms 31 63) rfl rfl (qZi HT_.out (by kernel_rfl)) (fun _ _ _ h => h) (Or.inr ⟨by rfl, rfl⟩) ?_ ?_
  rotate_left
  ·simp only [SX]
   rfl
  refine qZm (i := 6) (N := some 21) (v := undef) (a' := ?_) (ms 31 127) rfl rfl (qZi HT_.out (by kernel_rfl)) (fun _ _ _ h => h) (Or.inr ⟨by rfl, rfl⟩) ?_ ?_
  rotate_left
  ·simp only [SX]
   rfl
  refine qZm (i := 7) (N := some 22) (v := undef) (a' := ?_) (ms 31 255) rfl rfl (qZi HT_.out (by kernel_rfl)) (fun _ _ _ h => h) (Or.inr ⟨by rfl, rfl⟩) ?_ ?_
  rotate_left
  ·simp only [SX]
   rfl
  refine qZm (i := 8) (N := some 23) (v := undef) (a' := ?_) (ms 31 511) rfl rfl (qZi HT_.out (by kernel_rfl)) (fun _ _ _ h => h) (Or.inr ⟨by rfl, rfl⟩) ?_ ?_
  rotate_left
  ·simp only [SX]
   rfl
  refine qZm (i := 9) (N := some 24) (v := undef) (a' := ?_) (ms 31 1023) rfl rfl (qZi HT_.out (by kernel_rfl)) (fun _ _ _ h => h) (Or.inr ⟨by rfl, rfl⟩) ?_ ?_
  rotate_left
  ·simp only [SX]
   rfl
  refine qZm (i := 10) (N := some 25) (v := undef) (a' := ?_) (ms 31 2047) rfl rfl (qZi HT_.out (by kernel_rfl)) (fun _ _ _ h => h) (Or.inr ⟨by rfl, rfl⟩) ?_ ?_
  rotate_left
  ·simp only [SX]
   rfl
  refine qZm (i := 11) (N := some 26) (v := undef) (a' := ?_) (ms 31 4095) rfl rfl (qZi HT_.out (by kernel_rfl)) (fun _ _ _ h => h) (Or.inr ⟨by rfl, rfl⟩) ?_ ?_
  rotate_left
  ·simp only [SX]
   rfl
  refine qZm (i := 12) (N := some 27) (v := undef) (a' := ?_) (ms 31 8191) rfl rfl (qZi HT_.out (by kernel_rfl)) (fun _ _ _ h => h) (Or.inr ⟨by rfl, rfl⟩) ?_ ?_
  rotate_left
  ·simp only [SX]
   rfl
  refine qZm (i := 13) (N := some 28) (v := undef) (a' := ?_) (ms 31 16383) rfl rfl (qZi HT_.out (by kernel_rfl)) (fun _ _ _ h => h) (Or.inr ⟨by rfl, rfl⟩) ?_ ?_
  rotate_left
  ·simp only [SX]
   rfl
  refine pu 14 29 ?_ (ms 31 32767) rfl rfl HT_ (by kernel_rfl) (fun _ _ _ h => h) (by rfl) ?_ ?_ ?_ ?_
  rotate_left
  ·intro w'
   go_simp
   with_reducible rfl
  rotate_left
  ·simp only [SX]
   rfl
  refine pu 15 30 ?_ (ms 31 65535) rfl rfl HT_ (by kernel_rfl) (fun _ _ _ h => h) (by rfl) ?_ ?_ ?_ ?_
  rotate_left
  ·intro w'
   go_simp
   with_reducible rfl
  rotate_left
  ·simp only [SX]
   rfl
  refine qZm (i := 16) (N := some 31) (v := undef) (a' := ?_) (ms 31 131071) rfl rfl (qZi HT_.out (by kernel_rfl)) (fun _ _ _ h => h) (Or.inr ⟨by rfl, rfl⟩) ?_ ?_
  rotate_left
  ·simp only [SX]
   rfl
  refine qZm (i := 17) (N := some 32) (v := undef) (a' := ?_) (ms 31 262143) rfl rfl (qZi HT_.out (by kernel_rfl)) (fun _ _ _ h => h) (Or.inr ⟨by rfl, rfl⟩) ?_ ?_
  rotate_left
  ·simp only [SX]
   rfl
  refine qZm (i := 18) (N := some 33) (v := undef) (a' := ?_) (ms 31 524287) rfl rfl (qZi HT_.out (by kernel_rfl)) (fun _ _ _ h => h) (Or.inr ⟨by rfl, rfl⟩) ?_ ?_
  rotate_left
  ·simp only [SX]
   rfl
  refine qZm (i := 19) (N := some 34) (v := undef) (a' := ?_) (ms 31 1048575) rfl rfl (qZi HT_.out (by kernel_rfl)) (fun _ _ _ h => h) (Or.inr ⟨by rfl, rfl⟩) ?_ ?_
  rotate_left
  ·simp only [SX]
   rfl
  refine qZm (i := 20) (N := some 35) (v := undef) (a' := ?_) (ms 31 2097151) rfl rfl (qZi HT_.out (by kernel_rfl)) (fun _ _ _ h => h) (Or.inr ⟨by rfl, rfl⟩) ?_ ?_
  rotate_left
  ·simp only [SX]
   rfl
  refine qZm (i := 21) (N := some 36) (v := undef) (a' := ?_) (ms 31 4194303) rfl rfl (qZi HT_.out (by kernel_rfl)) (fun _ _ _ h => h) (Or.inr ⟨by rfl, rfl⟩) ?_ ?_
  rotate_left
  ·simp only [SX]
   rfl
  refine qZm (i := 22) (N := some 37) (v := undef) (a' := ?_) (ms 31 8388607) rfl rfl (qZi HT_.out (by kernel_rfl)) (fun _ _ _ h => h) (Or.inr ⟨by rfl, rfl⟩) ?_ ?_
  rotate_left
  ·simp only [SX]
   rfl
  refine qZm (i := 23) (N := some 38) (v := undef) (a' := ?_) (ms 31 16777215) rfl rfl (qZi HT_.out (by kernel_rfl)) (fun _ _ _ h => h) (Or.inr ⟨by rfl, rfl⟩) ?_ ?_
  rotate_left
  ·simp only [SX]
   rfl
  refine qZm (i := 24) (N := some 39) (v := undef) (a' := ?_) (ms 31 33554431) rfl rfl (qZi HT_.out (by kernel_rfl)) (fun _ _ _ h => h) (Or.inr ⟨by rfl, rfl⟩) ?_ ?_
  rotate_left
  ·simp only [SX]
   rfl
  refine qZm (i := 25) (N := some 40) (v := undef) (a' := ?_) (ms 31 67108863) rfl rfl (qZi HT_.out (by kernel_rfl)) (fun _ _ _ h => h) (Or.inr ⟨by rfl, rfl⟩) ?_ ?_
  rotate_left
  ·simp only [SX]
   rfl
  refine qZm (i := 26) (N := some 41) (v := undef) (a' := ?_) (ms 31 134217727) rfl rfl (qZi HT_.out (by kernel_rfl)) (fun _ _ _ h => h) (Or.inr ⟨by rfl, rfl⟩) ?_ ?_
  rotate_left
  ·simp only [SX]
   rfl
  refine qZm (i := 27) (N := some 42) (v := undef) (a' := ?_) (ms 31 268435455) rfl rfl (qZi HT_.out (by kernel_rfl)) (fun _ _ _ h => h) (Or.inr ⟨by rfl, rfl⟩) ?_ ?_
  rotate_left
  ·simp only [SX]
   rfl
  refine qZm (i := 28) (N := some 43) (v := undef) (a' := ?_) (ms 31 536870911) rfl rfl (qZi HT_.out (by kernel_rfl)) (fun _ _ _ h => h) (Or.inr ⟨by rfl, rfl⟩) ?_ ?_
  rotate_left
  ·simp only [SX]
   rfl
  refine pu 29 44 ?_ (ms 31 1073741823) rfl rfl HT_ (by kernel_rfl) (fun _ _ _ h => h) (by rfl) ?_ ?_ ?_ ?_
  rotate_left
  ·intro w'
   go_simp
   with_reducible rfl
  rotate_left
  ·simp only [SX]
   rfl
  refine pu 30 8 ?_ (ms 31 2147483647) rfl rfl HT_ (by kernel_rfl) (fun _ _ _ h => h) (by rfl) ?_ ?_ ?_ ?_
  rotate_left
  ·intro w'
   go_simp
   with_reducible rfl
  rotate_left
  ·simp only [SX]
   rfl
  refine qXe (qJg HT_.out (by kernel_rfl)) ?_
  try go_wp2
  go_ret
  exact ⟨by rfl, bl1 HB av⟩
 subst c8
 rw [if_pos rfl] at H
 by_cases c9 : 0 < (l1.length : Int)
 rotate_left
 ·rw [if_neg c9] at H
  exact absurd H (by simp)
 rw [if_pos c9] at H
 have c9b0 : decide (0 < (l1.length : Int)) = true := decide_eq_true c9
 have c9b1 : decide (0 < l1.length) = true := decide_eq_true (by omega)
 clear c9
 by_cases c10 : 0 ≤ (rd l1 0)
 rotate_left
 ·rw [if_neg c10] at H
  exact absurd H (by simp)
 rw [if_pos c10] at H
 have c10b0 : decide (0 ≤ (rd l1 0)) = true := decide_eq_true c10
 clear c10
 by_cases c11 : (rd l1 0) < (aa.length : Int)
 rotate_left
 ·rw [if_neg c11] at H
  exact absurd H (by simp)
 rw [if_pos c11] at H
 have c11b0 : decide ((rd l1 0) < (aa.length : Int)) = true := decide_eq_true c11
 clear c11
 by_cases c12 : ((qZa aa (rd l1 0)).f0) = a2
 rotate_left
 ·rw [if_neg c12] at H
  have c12b0 : (((qZa aa (rd l1 0)).f0) == a2) = false := beq_eq_false_iff_ne.mpr c12
  have c12b1 : (((qZa aa (rd l1 0)).f0) != a2) = true := bne_iff_ne.mpr c12
  obtain rfl := Option.some.inj H
  go_enter Try.func28, Try.ntmps28
  try go_wp2_with (((with_reducible refine gate_dst (N := 4) rfl ?_); refine qZh ?hg (N := 4) ?hd (cs := #[.int .i64 au, .slice aL aa.length aw]) (t := 25) ?hr ?_; (case hd => rfl); (case hg => rfl); (case hr => (go_simp; done)); intro ag hg w21 hbox hb; have ac := ak (hbox); have aT := ak ((by rw [hg]; exact (qZc (bl HB)) : w.heap.size ≤ ag)); have av := ak ((by rw [hg]; exact (qZc (bl HB)) : w.heap.size ≤ ag)); replace HB := ak (qZd (bl HB) hb); clear hb hbox hg))
  replace ac := ak (qZp ac.out)
  replace HB := ak (qQg HB.out)
  have aN : 0 ≤ (0 : Int) := (by omega)
  have aO : 0 < (l1.length : Int) := oT (by (with_reducible assumption))
  obtain ⟨aJ, aX, af⟩ := Kd.at_int HR1.out 0 aN aO
  have ad := af
  (try rw [show ((0 : Int)).toNat = 0 from rfl] at ad)
  (try rw [show 0 * 1 = 0 from rfl] at ad)
  (try rw [Addr.add_zero'] at ad)
  cases aX
  have be : (0 < l1.length) = True := eq_true (by omega)
  (try rw [show ((0 : Int)).toNat = 0 from rfl] at af)
  (try rw [Addr.add_zero'] at af)
  replace af := hcb HB.out af
  replace aN := eq_true aN
  replace aO := eq_true aO
  have aP : 0 ≤ ((rd l1 0) : Int) := oT (by (with_reducible assumption))
  have aQ : (rd l1 0) < (aa.length : Int) := oT (by (with_reducible assumption))
  obtain ⟨ab, aY, ah, ai, aj, al, am⟩ := qJi aK.out (rd l1 0) aP aQ
  have an := am
  have ao := al
  have ap := aj
  have aq := ai
  have ar := ah
  cases aY
  replace ah := hcb HB.out ah
  replace ai := hcb HB.out ai
  replace aj := hcb HB.out aj
  replace al := hcb HB.out al
  replace am := hcb HB.out am
  replace aP := eq_true aP
  replace aQ := eq_true aQ
  refine qJj (n := 31) (S := fun w' => w'.cell? ⟨ag, 0, none⟩ = some (.int .i64 au) ∧ w'.cell? ⟨ag, 1, none⟩ = some (.slice (some ab) aa.length aw) ∧ w'.cell? aJ = some (.int .i64 (rd l1 0)) ∧ w'.cell? (ab.add (((rd l1 0)).toNat * 5)) = some (.int .i64 ((qZa aa (rd l1 0)).f0)) ∧ w'.cell? ⟨(ab.add (((rd l1 0)).toNat * 5)).block, (ab.add (((rd l1 0)).toNat * 5)).off + 1, none⟩ = some (.int .i64 ((qZa aa (rd l1 0)).f1)) ∧ w'.cell? ⟨(ab.add (((rd l1 0)).toNat * 5)).block, (ab.add (((rd l1 0)).toNat * 5)).off + 2, none⟩ = some (.int .i64 ((qZa aa (rd l1 0)).f2)) ∧ w'.cell? ⟨(ab.add (((rd l1 0)).toNat * 5)).block, (ab.add (((rd l1 0)).toNat * 5)).off + 3, none⟩ = some (.int .i64 ((qZa aa (rd l1 0)).f3)) ∧ w'.cell? ⟨(ab.add (((rd l1 0)).toNat * 5)).block, (ab.add (((rd l1 0)).toNat * 5)).off + 4, none⟩ = some (.int .i64 ((qZa aa (rd l1 0)).f4))) (ds := []) (ms 31 0) (by kernel_rfl) rfl (by kernel_rfl) ⟨(qZb ac.out 0).trans rfl, (qZb ac.out 1).trans rfl, ((HB.out.cell (World.block_lt_of_cell? w _ ad)).trans ad), ((HB.out.cell (World.block_lt_of_cell? w _ ar)).trans ar), ((HB.out.cell (World.block_lt_of_cell? w _ aq)).trans aq), ((HB.out.cell (World.block_lt_of_cell? w _ ap)).trans ap), ((HB.out.cell (World.block_lt_of_cell? w _ ao)).trans ao), ((HB.out.cell (World.block_lt_of_cell? w _ an)).trans an)⟩ (fun hHeld => ?_); refine qQo laws_wkEnds.tab3 laws_wkEnds.bits3 (fun HT_ HW_ => ?_)
  generalize w21.drew = w22 at ac HB af ah ai aj al am hHeld ⊢
  refine pu 1 16 ?_ (ms 31 2) rfl rfl HT_ (by kernel_rfl) (fun _ _ _ h => h) (by rfl) ?_ ?_ ?_ ?_
  rotate_left
  ·intro w'
   go_simp
   with_reducible rfl
  rotate_left
  ·simp only [SX]
   rfl
  refine tk 0 15 ?_ (ms 31 3) rfl rfl HT_ HW_ (by kernel_rfl) (fun _ _ _ h => h) (by rfl) ?_ hHeld ?_ ?_ ?_
  rotate_left
  ·rintro w' ⟨s0, s1, s2, s3, s4, s5, s6, s7⟩
   go_simp
   with_reducible rfl
  rotate_left
  ·simp only [SX]
   rfl
  refine one_ (i := 2) (N := some 17) (ms 31 7) rfl rfl (qJa HT_.out (by kernel_rfl)) (by decide) (fun K hK => ?_)
  refine qXc Try.func61 (by kernel_rfl) rfl #[.agg #[.int .i64 au, .slice (some ab) aa.length aw], .slice (some aJ) l1.length c1] (by rfl) rfl rfl (by (try simp only [List.map_toArray, List.map_cons, List.map_nil]); rfl) ?_
  with_reducible refine (impl_WalkOk.calls k au _ _ aa _ _ l1 true _ ?side1 ?side2 ?side3 ?side4 A7.out).mono ?_
  (case side1 => repeat (exact (Kd.C_below aK.out HB.out)))
  (case side2 => exact aS.out)
  (case side3 => repeat (exact (Kd.C_below HR1.out HB.out)))
  (case side4 => exact HC1.out)
  rintro e w23 ⟨rfl, hb⟩
  refine ⟨_, rfl, ?_⟩
  replace ac := ak (qZe (bk ac) hb)
  replace HB := ak (qZd (bl1 HB av) hb)
  (try clear hb)
  (try clear hb2)
  (try clear hk)
  (try clear hi)
  refine hK.out _ _ ⟨(qZb ac.out 0).trans rfl, (qZb ac.out 1).trans rfl, ((HB.out.cell (World.block_lt_of_cell? w _ ad)).trans ad), ((HB.out.cell (World.block_lt_of_cell? w _ ar)).trans ar), ((HB.out.cell (World.block_lt_of_cell? w _ aq)).trans aq), ((HB.out.cell (World.block_lt_of_cell? w _ ap)).trans ap), ((HB.out.cell (World.block_lt_of_cell? w _ ao)).trans ao), ((HB.out.cell (World.block_lt_of_cell? w _ an)).trans an)⟩ (fun hHeld => ?_)
  clear hK K
  refine qJd (a' := ?_) ?_ ?_
  rotate_left
  ·show Act.put _ (some 17) _ = _
   simp only [SX]
   rfl
  refine pu 3 18 ?_ (ms 31 15) rfl rfl HT_ (by kernel_rfl) (fun _ _ _ h => h) (by rfl) ?_ ?_ ?_ ?_
  rotate_left
  ·intro w'
   go_simp
   with_reducible rfl
  rotate_left
  ·simp only [SX]
   rfl
  refine pu 4 19 ?_ (ms 31 31) rfl rfl HT_ (by kernel_rfl) (fun _ _ _ h => h) (by rfl) ?_ ?_ ?_ ?_
  rotate_left
  ·intro w'
   go_simp
   with_reducible rfl
  rotate_left
  ·simp only [SX]
   rfl
  refine pu 6 21 ?_ (ms 31 95) rfl rfl HT_ (by kernel_rfl) (fun _ _ _ h => h) (by rfl) ?_ ?_ ?_ ?_
  rotate_left
  ·intro w'
   go_simp
   with_reducible rfl
  rotate_left
  ·simp only [SX]
   rfl
  refine pu 7 22 ?_ (ms 31 223) rfl rfl HT_ (by kernel_rfl) (fun _ _ _ h => h) (by rfl) ?_ ?_ ?_ ?_
  rotate_left
  ·intro w'
   go_simp
   with_reducible rfl
  rotate_left
  ·simp only [SX]
   rfl
  refine pu 12 27 ?_ (ms 31 4319) rfl rfl HT_ (by kernel_rfl) (fun _ _ _ h => h) (by rfl) ?_ ?_ ?_ ?_
  rotate_left
  ·intro w'
   go_simp
   with_reducible rfl
  rotate_left
  ·simp only [SX]
   rfl
  refine tk 5 20 ?_ (ms 31 4351) rfl rfl HT_ HW_ (by kernel_rfl) (fun _ _ _ h => h) (by rfl) ?_ hHeld ?_ ?_ ?_
  rotate_left
  ·rintro w' ⟨s0, s1, s2, s3, s4, s5, s6, s7⟩
   go_simp
   with_reducible rfl
  rotate_left
  ·simp only [SX]
   rfl
  refine tk 8 23 ?_ (ms 31 4607) rfl rfl HT_ HW_ (by kernel_rfl) (fun _ _ _ h => h) (by rfl) ?_ hHeld ?_ ?_ ?_
  rotate_left
  ·rintro w' ⟨s0, s1, s2, s3, s4, s5, s6, s7⟩
   go_simp
   with_reducible rfl
  rotate_left
  ·simp only [SX]
   rfl
  refine pu 9 24 ?_ (ms 31 5119) rfl rfl HT_ (by kernel_rfl) (fun _ _ _ h => h) (by rfl) ?_ ?_ ?_ ?_
  rotate_left
  ·intro w'
   go_simp
   with_reducible rfl
  rotate_left
  ·simp only [SX]
   rfl
  refine pu 10 25 ?_ (ms 31 6143) rfl rfl HT_ (by kernel_rfl) (fun _ _ _ h => h) (by rfl) ?_ ?_ ?_ ?_
  rotate_left
  ·intro w'
   go_simp
   with_reducible rfl
  rotate_left
  ·simp only [SX]
   rfl
  refine tk 11 26 ?_ (ms 31 8191) rfl rfl HT_ HW_ (by kernel_rfl) (fun _ _ _ h => h) (by rfl) ?_ hHeld ?_ ?_ ?_
  rotate_left
  ·rintro w' ⟨s0, s1, s2, s3, s4, s5, s6, s7⟩
   go_simp
   with_reducible rfl
  rotate_left
  ·simp only [SX]
   rfl
  refine pu 13 28 ?_ (ms 31 16383) rfl rfl HT_ (by kernel_rfl) (fun _ _ _ h => h) (by rfl) ?_ ?_ ?_ ?_
  rotate_left
  ·intro w'
   go_simp
   with_reducible rfl
  rotate_left
  ·simp only [SX]
   rfl
  refine pu 14 29 ?_ (ms 31 32767) rfl rfl HT_ (by kernel_rfl) (fun _ _ _ h => h) (by rfl) ?_ ?_ ?_ ?_
  rotate_left
  ·intro w'
   go_simp
   with_reducible rfl
  rotate_left
  ·simp only [SX]
   rfl
  refine pu 15 30 ?_ (ms 31 65535) rfl rfl HT_ (by kernel_rfl) (fun _ _ _ h => h) (by rfl) ?_ ?_ ?_ ?_
  rotate_left
  ·intro w'
   go_simp
   with_reducible rfl
  rotate_left
  ·simp only [SX]
   rfl
  refine qZm (i := 16) (N := some 31) (v := undef) (a' := ?_) (ms 31 131071) rfl rfl (qZi HT_.out (by kernel_rfl)) (fun _ _ _ h => h) (Or.inr ⟨by rfl, rfl⟩) ?_ ?_
  rotate_left
  ·simp only [SX]
   rfl
  refine qZm (i := 17) (N := some 32) (v := undef) (a' := ?_) (ms 31 262143) rfl rfl (qZi HT_.out (by kernel_rfl)) (fun _ _ _ h => h) (Or.inr ⟨by rfl, rfl⟩) ?_ ?_
  rotate_left
  ·simp only [SX]
   rfl
  refine qZm (i := 18) (N := some 33) (v := undef) (a' := ?_) (ms 31 524287) rfl rfl (qZi HT_.out (by kernel_rfl)) (fun _ _ _ h => h) (Or.inr ⟨by rfl, rfl⟩) ?_ ?_
  rotate_left
  ·simp only [SX]
   rfl
  refine qZm (i := 19) (N := some 34) (v := undef) (a' := ?_) (ms 31 1048575) rfl rfl (qZi HT_.out (by kernel_rfl)) (fun _ _ _ h => h) (Or.inr ⟨by rfl, rfl⟩) ?_ ?_
  rotate_left
  ·simp only [SX]
   rfl
  refine qZm (i := 20) (N := some 35) (v := undef) (a' := ?_) (ms 31 2097151) rfl rfl (qZi HT_.out (by kernel_rfl)) (fun _ _ _ h => h) (Or.inr ⟨by rfl, rfl⟩) ?_ ?_
  rotate_left
  ·simp only [SX]
   rfl
  refine qZm (i := 21) (N := some 36) (v := undef) (a' := ?_) (ms 31 4194303) rfl rfl (qZi HT_.out (by kernel_rfl)) (fun _ _ _ h => h) (Or.inr ⟨by rfl, rfl⟩) ?_ ?_
  rotate_left
  ·simp only [SX]
   rfl
  refine qZm (i := 22) (N := some 37) (v := undef) (a' := ?_) (ms 31 8388607) rfl rfl (qZi HT_.out (by kernel_rfl)) (fun _ _ _ h => h) (Or.inr ⟨by rfl, rfl⟩) ?_ ?_
  rotate_left
  ·simp only [SX]
   rfl
  refine qZm (i := 23) (N := some 38) (v := undef) (a' := ?_) (ms 31 16777215) rfl rfl (qZi HT_.out (by kernel_rfl)) (fun _ _ _ h => h) (Or.inr ⟨by rfl, rfl⟩) ?_ ?_
  rotate_left
  ·simp only [SX]
   rfl
  refine qZm (i := 24) (N := some 39) (v := undef) (a' := ?_) (ms 31 33554431) rfl rfl (qZi HT_.out (by kernel_rfl)) (fun _ _ _ h => h) (Or.inr ⟨by rfl, rfl⟩) ?_ ?_
  rotate_left
  ·simp only [SX]
   rfl
  refine qZm (i := 25) (N := some 40) (v := undef) (a' := ?_) (ms 31 67108863) rfl rfl (qZi HT_.out (by kernel_rfl)) (fun _ _ _ h => h) (Or.inr ⟨by rfl, rfl⟩) ?_ ?_
  rotate_left
  ·simp only [SX]
   rfl
  refine qZm (i := 26) (N := some 41) (v := undef) (a' := ?_) (ms 31 134217727) rfl rfl (qZi HT_.out (by kernel_rfl)) (fun _ _ _ h => h) (Or.inr ⟨by rfl, rfl⟩) ?_ ?_
  rotate_left
  ·simp only [SX]
   rfl
  refine qZm (i := 27) (N := some 42) (v := undef) (a' := ?_) (ms 31 268435455) rfl rfl (qZi HT_.out (by kernel_rfl)) (fun _ _ _ h => h) (Or.inr ⟨by rfl, rfl⟩) ?_ ?_
  rotate_left
  ·simp only [SX]
   rfl
  refine qZm (i := 28) (N := some 43) (v := undef) (a' := ?_) (ms 31 536870911) rfl rfl (qZi HT_.out (by kernel_rfl)) (fun _ _ _ h => h) (Or.inr ⟨by rfl, rfl⟩) ?_ ?_
  rotate_left
  ·simp only [SX]
   rfl
  refine pu 29 44 ?_ (ms 31 1073741823) rfl rfl HT_ (by kernel_rfl) (fun _ _ _ h => h) (by rfl) ?_ ?_ ?_ ?_
  rotate_left
  ·intro w'
   go_simp
   with_reducible rfl
  rotate_left
  ·simp only [SX]
   rfl
  refine pu 30 8 ?_ (ms 31 2147483647) rfl rfl HT_ (by kernel_rfl) (fun _ _ _ h => h) (by rfl) ?_ ?_ ?_ ?_
  rotate_left
  ·intro w'
   go_simp
   with_reducible rfl
  rotate_left
  ·simp only [SX]
   rfl
  refine qXe (qJg HT_.out (by kernel_rfl)) ?_
  try go_wp2
  go_ret
  exact ⟨by rfl, bl1 HB av⟩
 rw [if_pos c12] at H
 have c12b0 : (((qZa aa (rd l1 0)).f0) == a2) = true := beq_iff_eq.mpr c12
 have c12b1 : (((qZa aa (rd l1 0)).f0) != a2) = false := bne_eq_false_iff_eq.mpr c12
 clear c12
 obtain ⟨ae, aU⟩ : ∃ j_ : Int, (wrap64 ((l1.length : Int) - 1)) = j_ := ⟨_, rfl⟩
 replace H : (if 0 ≤ (ae) then (if (ae) < (l1.length : Int) then (if 0 ≤ (rd l1 (ae)) then (if (rd l1 (ae)) < (aa.length : Int) then (some (((qZa aa (rd l1 (ae))).f1) == a3)) else (none)) else (none)) else (none)) else (none)) = some r := by (rw [aU] at H; exact H)
 (try rw [aU] at A7)
 have hji13w : (IntKind.i64.wrap ((l1.length : Int) - 1)) = ae := (i64_w _).trans aU
 by_cases c14 : 0 ≤ (ae)
 rotate_left
 ·rw [if_neg c14] at H
  exact absurd H (by simp)
 rw [if_pos c14] at H
 have c14b0 : decide (0 ≤ (ae)) = true := decide_eq_true c14
 clear c14
 by_cases c15 : (ae) < (l1.length : Int)
 rotate_left
 ·rw [if_neg c15] at H
  exact absurd H (by simp)
 rw [if_pos c15] at H
 have c15b0 : decide ((ae) < (l1.length : Int)) = true := decide_eq_true c15
 clear c15
 by_cases c16 : 0 ≤ (rd l1 (ae))
 rotate_left
 ·rw [if_neg c16] at H
  exact absurd H (by simp)
 rw [if_pos c16] at H
 have c16b0 : decide (0 ≤ (rd l1 (ae))) = true := decide_eq_true c16
 clear c16
 by_cases c17 : (rd l1 (ae)) < (aa.length : Int)
 rotate_left
 ·rw [if_neg c17] at H
  exact absurd H (by simp)
 rw [if_pos c17] at H
 have c17b0 : decide ((rd l1 (ae)) < (aa.length : Int)) = true := decide_eq_true c17
 clear c17
 obtain rfl := Option.some.inj H
 go_enter Try.func28, Try.ntmps28
 try go_wp2_with (((with_reducible refine gate_dst (N := 4) rfl ?_); refine qZh ?hg (N := 4) ?hd (cs := #[.int .i64 au, .slice aL aa.length aw]) (t := 25) ?hr ?_; (case hd => rfl); (case hg => rfl); (case hr => (go_simp; done)); intro ag hg w18 hbox hb; have ac := ak (hbox); have aT := ak ((by rw [hg]; exact (qZc (bl HB)) : w.heap.size ≤ ag)); have av := ak ((by rw [hg]; exact (qZc (bl HB)) : w.heap.size ≤ ag)); replace HB := ak (qZd (bl HB) hb); clear hb hbox hg))
 replace ac := ak (qZp ac.out)
 replace HB := ak (qQg HB.out)
 have aN : 0 ≤ (0 : Int) := (by omega)
 have aO : 0 < (l1.length : Int) := oT (by (with_reducible assumption))
 obtain ⟨aJ, aX, af⟩ := Kd.at_int HR1.out 0 aN aO
 have ad := af
 (try rw [show ((0 : Int)).toNat = 0 from rfl] at ad)
 (try rw [show 0 * 1 = 0 from rfl] at ad)
 (try rw [Addr.add_zero'] at ad)
 cases aX
 have be : (0 < l1.length) = True := eq_true (by omega)
 (try rw [show ((0 : Int)).toNat = 0 from rfl] at af)
 (try rw [Addr.add_zero'] at af)
 replace af := hcb HB.out af
 replace aN := eq_true aN
 replace aO := eq_true aO
 have aP : 0 ≤ ((rd l1 0) : Int) := oT (by (with_reducible assumption))
 have aQ : (rd l1 0) < (aa.length : Int) := oT (by (with_reducible assumption))
 obtain ⟨ab, aY, ah, ai, aj, al, am⟩ := qJi aK.out (rd l1 0) aP aQ
 have an := am
 have ao := al
 have ap := aj
 have aq := ai
 have ar := ah
 cases aY
 replace ah := hcb HB.out ah
 replace ai := hcb HB.out ai
 replace aj := hcb HB.out aj
 replace al := hcb HB.out al
 replace am := hcb HB.out am
 replace aP := eq_true aP
 replace aQ := eq_true aQ
 have aZ : 0 ≤ ((ae) : Int) := oT (by (with_reducible assumption))
 have ba : (ae) < (l1.length : Int) := oT (by (with_reducible assumption))
 obtain ⟨bf, bh, ax⟩ := Kd.at_int HR1.out (ae) aZ ba
 have ay := ax
 obtain rfl : aJ = bf := (by injection bh)
 replace ax := hcb HB.out ax
 replace aZ := eq_true aZ
 replace ba := eq_true ba
 have bb : 0 ≤ ((rd l1 (ae)) : Int) := oT (by (with_reducible assumption))
 have bd : (rd l1 (ae)) < (aa.length : Int) := oT (by (with_reducible assumption))
 obtain ⟨bg, bi, az, aA, aB, aC, aD⟩ := qJi aK.out (rd l1 (ae)) bb bd
 have aE := aD
 have aF := aC
 have aG := aB
 have aH := aA
 have aI := az
 obtain rfl : ab = bg := (by injection bi)
 replace az := hcb HB.out az
 replace aA := hcb HB.out aA
 replace aB := hcb HB.out aB
 replace aC := hcb HB.out aC
 replace aD := hcb HB.out aD
 replace bb := eq_true bb
 replace bd := eq_true bd
 refine qJj (n := 31) (S := fun w' => w'.cell? ⟨ag, 0, none⟩ = some (.int .i64 au) ∧ w'.cell? ⟨ag, 1, none⟩ = some (.slice (some ab) aa.length aw) ∧ w'.cell? aJ = some (.int .i64 (rd l1 0)) ∧ w'.cell? (ab.add (((rd l1 0)).toNat * 5)) = some (.int .i64 ((qZa aa (rd l1 0)).f0)) ∧ w'.cell? ⟨(ab.add (((rd l1 0)).toNat * 5)).block, (ab.add (((rd l1 0)).toNat * 5)).off + 1, none⟩ = some (.int .i64 ((qZa aa (rd l1 0)).f1)) ∧ w'.cell? ⟨(ab.add (((rd l1 0)).toNat * 5)).block, (ab.add (((rd l1 0)).toNat * 5)).off + 2, none⟩ = some (.int .i64 ((qZa aa (rd l1 0)).f2)) ∧ w'.cell? ⟨(ab.add (((rd l1 0)).toNat * 5)).block, (ab.add (((rd l1 0)).toNat * 5)).off + 3, none⟩ = some (.int .i64 ((qZa aa (rd l1 0)).f3)) ∧ w'.cell? ⟨(ab.add (((rd l1 0)).toNat * 5)).block, (ab.add (((rd l1 0)).toNat * 5)).off + 4, none⟩ = some (.int .i64 ((qZa aa (rd l1 0)).f4)) ∧ w'.cell? (aJ.add ((ae)).toNat) = some (.int .i64 (rd l1 (ae))) ∧ w'.cell? (ab.add (((rd l1 (ae))).toNat * 5)) = some (.int .i64 ((qZa aa (rd l1 (ae))).f0)) ∧ w'.cell? ⟨(ab.add (((rd l1 (ae))).toNat * 5)).block, (ab.add (((rd l1 (ae))).toNat * 5)).off + 1, none⟩ = some (.int .i64 ((qZa aa (rd l1 (ae))).f1)) ∧ w'.cell? ⟨(ab.add (((rd l1 (ae))).toNat * 5)).block, (ab.add (((rd l1 (ae))).toNat * 5)).off + 2, none⟩ = some (.int .i64 ((qZa aa (rd l1 (ae))).f2)) ∧ w'.cell? ⟨(ab.add (((rd l1 (ae))).toNat * 5)).block, (ab.add (((rd l1 (ae))).toNat * 5)).off + 3, none⟩ = some (.int .i64 ((qZa aa (rd l1 (ae))).f3)) ∧ w'.cell? ⟨(ab.add (((rd l1 (ae))).toNat * 5)).block, (ab.add (((rd l1 (ae))).toNat * 5)).off + 4, none⟩ = some (.int .i64 ((qZa aa (rd l1 (ae))).f4))) (ds := []) (ms 31 0) (by kernel_rfl) rfl (by kernel_rfl) ⟨(qZb ac.out 0).trans rfl, (qZb ac.out 1).trans rfl, ((HB.out.cell (World.block_lt_of_cell? w _ ad)).trans ad), ((HB.out.cell (World.block_lt_of_cell? w _ ar)).trans ar), ((HB.out.cell (World.block_lt_of_cell? w _ aq)).trans aq), ((HB.out.cell (World.block_lt_of_cell? w _ ap)).trans ap), ((HB.out.cell (World.block_lt_of_cell? w _ ao)).trans ao), ((HB.out.cell (World.block_lt_of_cell? w _ an)).trans an), ((HB.out.cell (World.block_lt_of_cell? w _ ay)).trans ay), ((HB.out.cell (World.block_lt_of_cell? w _ aI)).trans aI), ((HB.out.cell (World.block_lt_of_cell? w _ aH)).trans aH), ((HB.out.cell (World.block_lt_of_cell? w _ aG)).trans aG), ((HB.out.cell (World.block_lt_of_cell? w _ aF)).trans aF), ((HB.out.cell (World.block_lt_of_cell? w _ aE)).trans aE)⟩ (fun hHeld => ?_); refine qQo laws_wkEnds.tab3 laws_wkEnds.bits3 (fun HT_ HW_ => ?_)
 generalize w18.drew = w19 at ac HB af ah ai aj al am ax az aA aB aC aD hHeld ⊢
 refine pu 1 16 ?_ (ms 31 2) rfl rfl HT_ (by kernel_rfl) (fun _ _ _ h => h) (by rfl) ?_ ?_ ?_ ?_
 rotate_left
 ·intro w'
  go_simp
  with_reducible rfl
 rotate_left
 ·simp only [SX]
  rfl
 refine tk 0 15 ?_ (ms 31 3) rfl rfl HT_ HW_ (by kernel_rfl) (fun _ _ _ h => h) (by rfl) ?_ hHeld ?_ ?_ ?_
 rotate_left
 ·rintro w' ⟨s0, s1, s2, s3, s4, s5, s6, s7, s8, s9, s10, s11, s12, s13⟩
  go_simp
  with_reducible rfl
 rotate_left
 ·simp only [SX]
  rfl
 refine one_ (i := 2) (N := some 17) (ms 31 7) rfl rfl (qJa HT_.out (by kernel_rfl)) (by decide) (fun K hK => ?_)
 refine qXc Try.func61 (by kernel_rfl) rfl #[.agg #[.int .i64 au, .slice (some ab) aa.length aw], .slice (some aJ) l1.length c1] (by rfl) rfl rfl (by (try simp only [List.map_toArray, List.map_cons, List.map_nil]); rfl) ?_
 with_reducible refine (impl_WalkOk.calls k au _ _ aa _ _ l1 true _ ?side1 ?side2 ?side3 ?side4 A7.out).mono ?_
 (case side1 => repeat (exact (Kd.C_below aK.out HB.out)))
 (case side2 => exact aS.out)
 (case side3 => repeat (exact (Kd.C_below HR1.out HB.out)))
 (case side4 => exact HC1.out)
 rintro e w20 ⟨rfl, hb⟩
 refine ⟨_, rfl, ?_⟩
 replace ac := ak (qZe (bk ac) hb)
 replace HB := ak (qZd (bl1 HB av) hb)
 (try clear hb)
 (try clear hb2)
 (try clear hk)
 (try clear hi)
 refine hK.out _ _ ⟨(qZb ac.out 0).trans rfl, (qZb ac.out 1).trans rfl, ((HB.out.cell (World.block_lt_of_cell? w _ ad)).trans ad), ((HB.out.cell (World.block_lt_of_cell? w _ ar)).trans ar), ((HB.out.cell (World.block_lt_of_cell? w _ aq)).trans aq), ((HB.out.cell (World.block_lt_of_cell? w _ ap)).trans ap), ((HB.out.cell (World.block_lt_of_cell? w _ ao)).trans ao), ((HB.out.cell (World.block_lt_of_cell? w _ an)).trans an), ((HB.out.cell (World.block_lt_of_cell? w _ ay)).trans ay), ((HB.out.cell (World.block_lt_of_cell? w _ aI)).trans aI), ((HB.out.cell (World.block_lt_of_cell? w _ aH)).trans aH), ((HB.out.cell (World.block_lt_of_cell? w _ aG)).trans aG), ((HB.out.cell (World.block_lt_of_cell? w _ aF)).trans aF), ((HB.out.cell (World.block_lt_of_cell? w _ aE)).trans aE)⟩ (fun hHeld => ?_)
 clear hK K
 refine qJd (a' := ?_) ?_ ?_
 rotate_left
 ·show Act.put _ (some 17) _ = _
  simp only [SX]
  rfl
 refine pu 3 18 ?_ (ms 31 15) rfl rfl HT_ (by kernel_rfl) (fun _ _ _ h => h) (by rfl) ?_ ?_ ?_ ?_
 rotate_left
 ·intro w'
  go_simp
  with_reducible rfl
 rotate_left
 ·simp only [SX]
  rfl
 refine pu 4 19 ?_ (ms 31 31) rfl rfl HT_ (by kernel_rfl) (fun _ _ _ h => h) (by rfl) ?_ ?_ ?_ ?_
 rotate_left
 ·intro w'
  go_simp
  with_reducible rfl
 rotate_left
 ·simp only [SX]
  rfl
 refine pu 6 21 ?_ (ms 31 95) rfl rfl HT_ (by kernel_rfl) (fun _ _ _ h => h) (by rfl) ?_ ?_ ?_ ?_
 rotate_left
 ·intro w'
  go_simp
  with_reducible rfl
 rotate_left
 ·simp only [SX]
  rfl
 refine pu 7 22 ?_ (ms 31 223) rfl rfl HT_ (by kernel_rfl) (fun _ _ _ h => h) (by rfl) ?_ ?_ ?_ ?_
 rotate_left
 ·intro w'
  go_simp
  with_reducible rfl
 rotate_left
 ·simp only [SX]
  rfl
 refine pu 12 27 ?_ (ms 31 4319) rfl rfl HT_ (by kernel_rfl) (fun _ _ _ h => h) (by rfl) ?_ ?_ ?_ ?_
 rotate_left
 ·intro w'
  go_simp
  with_reducible rfl
 rotate_left
 ·simp only [SX]
  rfl
 refine tk 5 20 ?_ (ms 31 4351) rfl rfl HT_ HW_ (by kernel_rfl) (fun _ _ _ h => h) (by rfl) ?_ hHeld ?_ ?_ ?_
 rotate_left
 ·rintro w' ⟨s0, s1, s2, s3, s4, s5, s6, s7, s8, s9, s10, s11, s12, s13⟩
  go_simp
  with_reducible rfl
 rotate_left
 ·simp only [SX]
  rfl
 refine tk 8 23 ?_ (ms 31 4607) rfl rfl HT_ HW_ (by kernel_rfl) (fun _ _ _ h => h) (by rfl) ?_ hHeld ?_ ?_ ?_
 rotate_left
 ·rintro w' ⟨s0, s1, s2, s3, s4, s5, s6, s7, s8, s9, s10, s11, s12, s13⟩
  go_simp
  with_reducible rfl
 rotate_left
 ·simp only [SX]
  rfl
 refine pu 9 24 ?_ (ms 31 5119) rfl rfl HT_ (by kernel_rfl) (fun _ _ _ h => h) (by rfl) ?_ ?_ ?_ ?_
 rotate_left
 ·intro w'
  go_simp
  with_reducible rfl
 rotate_left
 ·simp only [SX]
  rfl
 refine pu 10 25 ?_ (ms 31 6143) rfl rfl HT_ (by kernel_rfl) (fun _ _ _ h => h) (by rfl) ?_ ?_ ?_ ?_
 rotate_left
 ·intro w'
  go_simp
  with_reducible rfl
 rotate_left
 ·simp only [SX]
  rfl
 refine tk 11 26 ?_ (ms 31 8191) rfl rfl HT_ HW_ (by kernel_rfl) (fun _ _ _ h => h) (by rfl) ?_ hHeld ?_ ?_ ?_
 rotate_left
 ·rintro w' ⟨s0, s1, s2, s3, s4, s5, s6, s7, s8, s9, s10, s11, s12, s13⟩
  go_simp
  with_reducible rfl
 rotate_left
 ·simp only [SX]
  rfl
 refine pu 13 28 ?_ (ms 31 16383) rfl rfl HT_ (by kernel_rfl) (fun _ _ _ h => h) (by rfl) ?_ ?_ ?_ ?_
 rotate_left
 ·intro w'
  go_simp
  with_reducible rfl
 rotate_left
 ·simp only [SX]
  rfl
 refine pu 14 29 ?_ (ms 31 32767) rfl rfl HT_ (by kernel_rfl) (fun _ _ _ h => h) (by rfl) ?_ ?_ ?_ ?_
 rotate_left
 ·intro w'
  go_simp
  with_reducible rfl
 rotate_left
 ·simp only [SX]
  rfl
 refine pu 15 30 ?_ (ms 31 65535) rfl rfl HT_ (by kernel_rfl) (fun _ _ _ h => h) (by rfl) ?_ ?_ ?_ ?_
 rotate_left
 ·intro w'
  go_simp
  with_reducible rfl
 rotate_left
 ·simp only [SX]
  rfl
 refine pu 16 31 ?_ (ms 31 131071) rfl rfl HT_ (by kernel_rfl) (fun _ _ _ h => h) (by rfl) ?_ ?_ ?_ ?_
 rotate_left
 ·intro w'
  go_simp
  with_reducible rfl
 rotate_left
 ·simp only [SX]
  rfl
 refine pu 18 33 ?_ (ms 31 393215) rfl rfl HT_ (by kernel_rfl) (fun _ _ _ h => h) (by rfl) ?_ ?_ ?_ ?_
 rotate_left
 ·intro w'
  go_simp
  with_reducible rfl
 rotate_left
 ·simp only [SX]
  rfl
 refine pu 19 34 ?_ (ms 31 917503) rfl rfl HT_ (by kernel_rfl) (fun _ _ _ h => h) (by rfl) ?_ ?_ ?_ ?_
 rotate_left
 ·intro w'
  go_simp
  with_reducible rfl
 rotate_left
 ·simp only [SX]
  rfl
 refine pu 20 35 ?_ (ms 31 1966079) rfl rfl HT_ (by kernel_rfl) (fun _ _ _ h => h) (by rfl) ?_ ?_ ?_ ?_
 rotate_left
 ·intro w'
  go_simp
  with_reducible rfl
 rotate_left
 ·simp only [SX]
  rfl
 refine pu 21 36 ?_ (ms 31 4063231) rfl rfl HT_ (by kernel_rfl) (fun _ _ _ h => h) (by rfl) ?_ ?_ ?_ ?_
 rotate_left
 ·intro w'
  go_simp
  with_reducible rfl
 rotate_left
 ·simp only [SX]
  rfl
 refine pu 22 37 ?_ (ms 31 8257535) rfl rfl HT_ (by kernel_rfl) (fun _ _ _ h => h) (by rfl) ?_ ?_ ?_ ?_
 rotate_left
 ·intro w'
  go_simp
  with_reducible rfl
 rotate_left
 ·simp only [SX]
  rfl
 refine pu 27 42 ?_ (ms 31 142475263) rfl rfl HT_ (by kernel_rfl) (fun _ _ _ h => h) (by rfl) ?_ ?_ ?_ ?_
 rotate_left
 ·intro w'
  go_simp
  with_reducible rfl
 rotate_left
 ·simp only [SX]
  rfl
 refine tk 17 32 ?_ (ms 31 142606335) rfl rfl HT_ HW_ (by kernel_rfl) (fun _ _ _ h => h) (by rfl) ?_ hHeld ?_ ?_ ?_
 rotate_left
 ·rintro w' ⟨s0, s1, s2, s3, s4, s5, s6, s7, s8, s9, s10, s11, s12, s13⟩
  go_simp
  with_reducible rfl
 rotate_left
 ·simp only [SX]
  rfl
 refine tk 23 38 ?_ (ms 31 150994943) rfl rfl HT_ HW_ (by kernel_rfl) (fun _ _ _ h => h) (by rfl) ?_ hHeld ?_ ?_ ?_
 rotate_left
 ·rintro w' ⟨s0, s1, s2, s3, s4, s5, s6, s7, s8, s9, s10, s11, s12, s13⟩
  go_simp
  with_reducible rfl
 rotate_left
 ·simp only [SX]
  rfl
 refine pu 24 39 ?_ (ms 31 167772159) rfl rfl HT_ (by kernel_rfl) (fun _ _ _ h => h) (by rfl) ?_ ?_ ?_ ?_
 rotate_left
 ·intro w'
  go_simp
  with_reducible rfl
 rotate_left
 ·simp only [SX]
  rfl
 refine pu 25 40 ?_ (ms 31 201326591) rfl rfl HT_ (by kernel_rfl) (fun _ _ _ h => h) (by rfl) ?_ ?_ ?_ ?_
 rotate_left
 ·intro w'
  go_simp
  with_reducible rfl
 rotate_left
 ·simp only [SX]
  rfl
 refine tk 26 41 ?_ (ms 31 268435455) rfl rfl HT_ HW_ (by kernel_rfl) (fun _ _ _ h => h) (by rfl) ?_ hHeld ?_ ?_ ?_
 rotate_left
 ·rintro w' ⟨s0, s1, s2, s3, s4, s5, s6, s7, s8, s9, s10, s11, s12, s13⟩
  go_simp
  with_reducible rfl
 rotate_left
 ·simp only [SX]
  rfl
 refine pu 28 43 ?_ (ms 31 536870911) rfl rfl HT_ (by kernel_rfl) (fun _ _ _ h => h) (by rfl) ?_ ?_ ?_ ?_
 rotate_left
 ·intro w'
  go_simp
  with_reducible rfl
 rotate_left
 ·simp only [SX]
  rfl
 refine pu 29 44 ?_ (ms 31 1073741823) rfl rfl HT_ (by kernel_rfl) (fun _ _ _ h => h) (by rfl) ?_ ?_ ?_ ?_
 rotate_left
 ·intro w'
  go_simp
  with_reducible rfl
 rotate_left
 ·simp only [SX]
  rfl
 refine pu 30 8 ?_ (ms 31 2147483647) rfl rfl HT_ (by kernel_rfl) (fun _ _ _ h => h) (by rfl) ?_ ?_ ?_ ?_
 rotate_left
 ·intro w'
  go_simp
  with_reducible rfl
 rotate_left
 ·simp only [SX]
  rfl
 refine qXe (qJg HT_.out (by kernel_rfl)) ?_
 try go_wp2
 go_ret
 exact ⟨by rfl, bl1 HB av⟩
/-! ### impl_Net_along: function 66 -/
def impl_Net_along.l0 : Nat → List Int → List Int → Int → Int → Int → List (S58) → Option (List Int)
 | 0, _, _, _, _, _, _ => none
 | k + 1, x5, x23, x24, x25, aQ, ax => if x25 < x24 then (if 0 ≤ x25 then (if x25 < (x23.length : Int) then (if 0 ≤ (rd x23 x25) then (if (rd x23 x25) < (ax.length : Int) then (if x5.length < 17592186044416 then (impl_Net_along.l0 k (x5 ++ [(qZa ax (rd x23 x25)).f1]) x23 x24 (wrap64 (x25 + 1)) aQ ax) else (none)) else (none)) else (none)) else (none)) else (none)) else (some x5)
def impl_Net_along.f (k : Nat) (am : Int) (aa : List (S58)) (l1 : List Int) : Option (List Int) := if 0 ≤ (wrap64 ((l1.length : Int) + 1)) then (if (wrap64 ((l1.length : Int) + 1) : Int).toNat ≤ 35184372088832 then ((some (([] : List Int) : List Int)).bind fun an => (if 0 < (l1.length : Int) then (if 0 ≤ (rd l1 0) then (if (rd l1 0) < (aa.length : Int) then (if an.length < 17592186044416 then (impl_Net_along.l0 k (an ++ [(qZa aa (rd l1 0)).f0]) l1 (l1.length : Int) 0 am aa) else (none)) else (none)) else (none)) else (none))) else (none)) else (none)
theorem impl_Net_along.mono_l : ∀ k, (∀ y0 y1 y2 y3 y4 y5, LeO (impl_Net_along.l0 k y0 y1 y2 y3 y4 y5) (impl_Net_along.l0 (k + 1) y0 y1 y2 y3 y4 y5))
 | 0 => fun _ _ _ _ _ _ r h => by simp [impl_Net_along.l0] at h
 | k + 1 => by
  have ih0 := impl_Net_along.mono_l k
  ·intro y0 y1 y2 y3 y4 y5
   unfold impl_Net_along.l0
   repeat' first | (with_reducible exact ih0 _ _ _ _ _ _) | (with_reducible exact LeO.refl _) | (with_reducible refine LeO.ite ?_ ?_)
theorem impl_Net_along.mono : ∀ a0 a1 a2 k, LeO (impl_Net_along.f k a0 a1 a2) (impl_Net_along.f (k + 1) a0 a1 a2) := by
 intro a0 a1 a2 k
 have ih0 := impl_Net_along.mono_l k
 unfold impl_Net_along.f
 repeat' first | (with_reducible exact ih0 _ _ _ _ _ _) | (with_reducible exact LeO.refl _) | (with_reducible refine LeO.ite ?_ ?_) | (with_reducible refine LeO.bind ?_ (fun _ => ?_))
def impl_Net_along.T2 : Bool × List (List Nat × List Nat) := (true, [([], []), ([], []), ([1], [1]), ([], []), ([3], [3]), ([4], [4]), ([2, 5], [2, 5]), ([6], [6]), ([7], [7]), ([8], [8]), ([0, 9], [0, 9]), ([10, 10, 0, 1, 2, 3, 4, 5, 6, 7, 8, 9, 10], [0, 10])])
def impl_Net_along.B2 : List Nat := [0, 0, 2, 0, 8, 24, 62, 126, 254, 510, 1023, 2047]
theorem impl_Net_along.tab2 : rtab .any (qWg Try.f66 2) = impl_Net_along.T2 := by kernel_rfl
theorem impl_Net_along.bits2 : qJn impl_Net_along.T2.2 impl_Net_along.B2 = true := by kernel_rfl
set_option maxHeartbeats 8000000 in
set_option maxRecDepth 100000 in
theorem impl_Net_along.calls (k : Nat) (am : Int) (bb : Option Addr) (aH : Nat) (aa : List (S58)) (A1 : Option Addr) (c1 : Nat) (l1 : List Int) (r : List Int) (w : World) (aX : Kd.C k58 w bb aa.length aa) (aY : aa.length ≤ aH) (hr1 : Kd.C (Kd.int .i64) w A1 l1.length l1) (hc1 : l1.length ≤ c1) (h : impl_Net_along.f k am aa l1 = some r) :
  Calls Try.prog 66 #[.agg #[.int .i64 am, .slice bb aa.length aH], .slice A1 l1.length c1] w fun e w' => ∃ v0_ : Value, e = .returned (v0_) ∧ Kd.R (Kd.int .i64) 3 w' w.heap.size (fun _ => True) v0_ r ∧ Below w.heap.size w w' := by
 have bJ := Try.underlying25
 have aZ := ak aX
 have bG := ak aY
 clear aX aY
 have HR1 := ak hr1
 have HC1 := ak hc1
 clear hr1 hc1
 have HB := ak (Below.refl w.heap.size w)
 have H : (if 0 ≤ (wrap64 ((l1.length : Int) + 1)) then (if (wrap64 ((l1.length : Int) + 1) : Int).toNat ≤ 35184372088832 then ((some (([] : List Int) : List Int)).bind fun an => (if 0 < (l1.length : Int) then (if 0 ≤ (rd l1 0) then (if (rd l1 0) < (aa.length : Int) then (if an.length < 17592186044416 then (impl_Net_along.l0 k (an ++ [(qZa aa (rd l1 0)).f0]) l1 (l1.length : Int) 0 am aa) else (none)) else (none)) else (none)) else (none))) else (none)) else (none)) = some r := h
 clear h
 obtain ⟨ji3, bi⟩ : ∃ j_ : Int, (wrap64 ((l1.length : Int) + 1)) = j_ := ⟨_, rfl⟩
 replace H : (if 0 ≤ (ji3) then (if (ji3 : Int).toNat ≤ 35184372088832 then ((some (([] : List Int) : List Int)).bind fun an => (if 0 < (l1.length : Int) then (if 0 ≤ (rd l1 0) then (if (rd l1 0) < (aa.length : Int) then (if an.length < 17592186044416 then (impl_Net_along.l0 k (an ++ [(qZa aa (rd l1 0)).f0]) l1 (l1.length : Int) 0 am aa) else (none)) else (none)) else (none)) else (none))) else (none)) else (none)) = some r := by (rw [bi] at H; exact H)
 have hji3w : (IntKind.i64.wrap ((l1.length : Int) + 1)) = ji3 := (i64_w _).trans bi
 by_cases c4 : 0 ≤ (ji3)
 rotate_left
 ·rw [if_neg c4] at H
  exact absurd H (by simp)
 rw [if_pos c4] at H
 have c4b0 := eq_true c4
 have c4b1 : decide (0 ≤ (ji3)) = true := decide_eq_true c4
 clear c4
 by_cases c5 : (ji3 : Int).toNat ≤ 35184372088832
 rotate_left
 ·rw [if_neg c5] at H
  exact absurd H (by simp)
 rw [if_pos c5] at H
 have c5b0 := eq_true c5
 have c5b1 : decide ((ji3 : Int).toNat ≤ 35184372088832) = true := decide_eq_true c5
 clear c5
 obtain ⟨an, aJ⟩ : ∃ y_ : List Int, y_ = (([] : List Int)) := ⟨_, rfl⟩
 replace H : (if 0 < (l1.length : Int) then (if 0 ≤ (rd l1 0) then (if (rd l1 0) < (aa.length : Int) then (if an.length < 17592186044416 then (impl_Net_along.l0 k (an ++ [(qZa aa (rd l1 0)).f0]) l1 (l1.length : Int) 0 am aa) else (none)) else (none)) else (none)) else (none)) = some r := by (have H2_ := (Option.bind_some _ _).symm.trans H; rw [aJ]; with_reducible exact H2_)
 have bj := ak aJ
 clear aJ
 by_cases c6 : 0 < (l1.length : Int)
 rotate_left
 ·rw [if_neg c6] at H
  exact absurd H (by simp)
 rw [if_pos c6] at H
 have c6b0 : decide (0 < (l1.length : Int)) = true := decide_eq_true c6
 have c6b1 : decide (0 < l1.length) = true := decide_eq_true (by omega)
 clear c6
 by_cases c7 : 0 ≤ (rd l1 0)
 rotate_left
 ·rw [if_neg c7] at H
  exact absurd H (by simp)
 rw [if_pos c7] at H
 have c7b0 : decide (0 ≤ (rd l1 0)) = true := decide_eq_true c7
 clear c7
 by_cases c8 : (rd l1 0) < (aa.length : Int)
 rotate_left
 ·rw [if_neg c8] at H
  exact absurd H (by simp)
 rw [if_pos c8] at H
 have c8b0 : decide ((rd l1 0) < (aa.length : Int)) = true := decide_eq_true c8
 clear c8
 by_cases c9 : an.length < 17592186044416
 rotate_left
 ·rw [if_neg c9] at H
  exact absurd H (by simp)
 rw [if_pos c9] at H
 have bA := ak c9
 clear c9
 obtain ⟨bm, aK⟩ : ∃ y_ : List Int, y_ = (an ++ [(qZa aa (rd l1 0)).f0]) := ⟨_, rfl⟩
 replace H : (impl_Net_along.l0 k bm l1 (l1.length : Int) 0 am aa) = some r := by (rw [aK]; with_reducible exact H)
 have bn := ak aK
 clear aK
 have H' := ak H
 clear H
 go_enter Try.func66, Try.ntmps66
 try go_wp2_with (first | ((with_reducible refine gate_dst (N := 2) rfl ?_); refine qZh ?hg (N := 2) ?hd (cs := #[.int .i64 am, .slice bb aa.length aH]) (t := 25) ?hr ?_; (case hd => rfl); (case hg => rfl); (case hr => (go_simp; done)); intro ay hg w10 hbox hb; have ab := ak (hbox); have bH := ak ((by rw [hg]; exact (qZc (bl HB)) : w.heap.size ≤ ay)); have ao := ak ((by rw [hg]; exact (qZc (bl HB)) : w.heap.size ≤ ay)); replace HB := ak (qZd (bl HB) hb); clear hb hbox hg) | ((with_reducible refine gate_dst (N := 11) rfl ?_); refine Kd.R_make0 (Kd.int .i64) _ 3 rfl (N := 11) rfl 33 _ _ rfl ji3 rfl rfl Try.underlying33 (.int .i64 0) 8 qVg (by decide) (ok := fun _ => True) trivial (oT (by (with_reducible assumption))) (Nat.le_trans (Nat.mul_le_mul_right _ (oT (by (with_reducible assumption)) : ji3.toNat ≤ 35184372088832)) (by omega)) (Below.refl _ _) (Nat.le_refl _) ?_; intro bB w11 bd hb hg_ hnew_; clear hg_ hnew_; (rw [← bj.out] at bd); have aw := ak (Kd.R_lower bd (qZc (bl1 HB ao))); replace ab := ak (qZe (bk ab) hb); replace HB := ak (qZd (bl1 HB ao) hb); clear hb bd))
 replace aw := ak (Kd.R_drew aw.out)
 replace ab := ak (qZp ab.out)
 replace HB := ak (qQg HB.out)
 have aR : 0 ≤ (0 : Int) := (by omega)
 have aT : 0 < (l1.length : Int) := oT (by (with_reducible assumption))
 obtain ⟨ba, bC, al⟩ := Kd.at_int HR1.out 0 aR aT
 have ad := al
 (try rw [show ((0 : Int)).toNat = 0 from rfl] at ad)
 (try rw [show 0 * 1 = 0 from rfl] at ad)
 (try rw [Addr.add_zero'] at ad)
 cases bC
 have bI : (0 < l1.length) = True := eq_true (by omega)
 (try rw [show ((0 : Int)).toNat = 0 from rfl] at al)
 (try rw [Addr.add_zero'] at al)
 replace al := hcb HB.out al
 replace aR := eq_true aR
 replace aT := eq_true aT
 have aU : 0 ≤ ((rd l1 0) : Int) := oT (by (with_reducible assumption))
 have aV : (rd l1 0) < (aa.length : Int) := oT (by (with_reducible assumption))
 obtain ⟨aj, bD, ap, aq, ar, au, av⟩ := qJi aZ.out (rd l1 0) aU aV
 have ae := av
 have af := au
 have ag := ar
 have ah := aq
 have ai := ap
 cases bD
 replace ap := hcb HB.out ap
 replace aq := hcb HB.out aq
 replace ar := hcb HB.out ar
 replace au := hcb HB.out au
 replace av := hcb HB.out av
 replace aU := eq_true aU
 replace aV := eq_true aV
 refine qJj (n := 12) (S := fun w' => w'.cell? ⟨ay, 0, none⟩ = some (.int .i64 am) ∧ w'.cell? ⟨ay, 1, none⟩ = some (.slice (some aj) aa.length aH) ∧ w'.cell? ba = some (.int .i64 (rd l1 0)) ∧ w'.cell? (aj.add (((rd l1 0)).toNat * 5)) = some (.int .i64 ((qZa aa (rd l1 0)).f0)) ∧ w'.cell? ⟨(aj.add (((rd l1 0)).toNat * 5)).block, (aj.add (((rd l1 0)).toNat * 5)).off + 1, none⟩ = some (.int .i64 ((qZa aa (rd l1 0)).f1)) ∧ w'.cell? ⟨(aj.add (((rd l1 0)).toNat * 5)).block, (aj.add (((rd l1 0)).toNat * 5)).off + 2, none⟩ = some (.int .i64 ((qZa aa (rd l1 0)).f2)) ∧ w'.cell? ⟨(aj.add (((rd l1 0)).toNat * 5)).block, (aj.add (((rd l1 0)).toNat * 5)).off + 3, none⟩ = some (.int .i64 ((qZa aa (rd l1 0)).f3)) ∧ w'.cell? ⟨(aj.add (((rd l1 0)).toNat * 5)).block, (aj.add (((rd l1 0)).toNat * 5)).off + 4, none⟩ = some (.int .i64 ((qZa aa (rd l1 0)).f4))) (ds := []) (ms 12 0) (by kernel_rfl) rfl (by kernel_rfl) ⟨(qZb ab.out 0).trans rfl, (qZb ab.out 1).trans rfl, ((HB.out.cell (World.block_lt_of_cell? w _ ad)).trans ad), ((HB.out.cell (World.block_lt_of_cell? w _ ai)).trans ai), ((HB.out.cell (World.block_lt_of_cell? w _ ah)).trans ah), ((HB.out.cell (World.block_lt_of_cell? w _ ag)).trans ag), ((HB.out.cell (World.block_lt_of_cell? w _ af)).trans af), ((HB.out.cell (World.block_lt_of_cell? w _ ae)).trans ae)⟩ (fun hHeld => ?_); refine qQo impl_Net_along.tab2 impl_Net_along.bits2 (fun HT_ HW_ => ?_)
 generalize w11.drew = w13 at aw ab HB al ap aq ar au av hHeld ⊢
 refine pu 0 12 ?_ (ms 12 1) rfl rfl HT_ (by kernel_rfl) (fun _ _ _ h => h) (by rfl) ?_ ?_ ?_ ?_
 rotate_left
 ·intro w'
  go_simp
  with_reducible rfl
 rotate_left
 ·simp only [SX]
  rfl
 refine pu 1 13 ?_ (ms 12 3) rfl rfl HT_ (by kernel_rfl) (fun _ _ _ h => h) (by rfl) ?_ ?_ ?_ ?_
 rotate_left
 ·intro w'
  go_simp
  with_reducible rfl
 rotate_left
 ·simp only [SX]
  rfl
 refine pu 3 15 ?_ (ms 12 11) rfl rfl HT_ (by kernel_rfl) (fun _ _ _ h => h) (by rfl) ?_ ?_ ?_ ?_
 rotate_left
 ·intro w'
  go_simp
  with_reducible rfl
 rotate_left
 ·simp only [SX]
  rfl
 refine pu 4 16 ?_ (ms 12 27) rfl rfl HT_ (by kernel_rfl) (fun _ _ _ h => h) (by rfl) ?_ ?_ ?_ ?_
 rotate_left
 ·intro w'
  go_simp
  with_reducible rfl
 rotate_left
 ·simp only [SX]
  rfl
 refine tk 2 14 ?_ (ms 12 31) rfl rfl HT_ HW_ (by kernel_rfl) (fun _ _ _ h => h) (by rfl) ?_ hHeld ?_ ?_ ?_
 rotate_left
 ·rintro w' ⟨s0, s1, s2, s3, s4, s5, s6, s7⟩
  go_simp
  with_reducible rfl
 rotate_left
 ·simp only [SX]
  rfl
 refine tk 5 17 ?_ (ms 12 63) rfl rfl HT_ HW_ (by kernel_rfl) (fun _ _ _ h => h) (by rfl) ?_ hHeld ?_ ?_ ?_
 rotate_left
 ·rintro w' ⟨s0, s1, s2, s3, s4, s5, s6, s7⟩
  go_simp
  with_reducible rfl
 rotate_left
 ·simp only [SX]
  rfl
 refine pu 6 18 ?_ (ms 12 127) rfl rfl HT_ (by kernel_rfl) (fun _ _ _ h => h) (by rfl) ?_ ?_ ?_ ?_
 rotate_left
 ·intro w'
  go_simp
  with_reducible rfl
 rotate_left
 ·simp only [SX]
  rfl
 refine pu 7 19 ?_ (ms 12 255) rfl rfl HT_ (by kernel_rfl) (fun _ _ _ h => h) (by rfl) ?_ ?_ ?_ ?_
 rotate_left
 ·intro w'
  go_simp
  with_reducible rfl
 rotate_left
 ·simp only [SX]
  rfl
 refine tk 8 20 ?_ (ms 12 511) rfl rfl HT_ HW_ (by kernel_rfl) (fun _ _ _ h => h) (by rfl) ?_ hHeld ?_ ?_ ?_
 rotate_left
 ·rintro w' ⟨s0, s1, s2, s3, s4, s5, s6, s7⟩
  go_simp
  with_reducible rfl
 rotate_left
 ·simp only [SX]
  rfl
 refine one_ (i := 9) (N := some 21) (ms 12 1023) rfl rfl (qJa HT_.out (by kernel_rfl)) (by decide) (fun K hK => ?_)
 refine value_ (w1 := ?_) (v := ?_) (by rfl) rfl ?_ ?_
 rotate_left 2
 ·go_simp
  constructor
  rotate_left
  ·rfl
  rfl
 refine hK.out _ _ ⟨(qZb (qQl ab.out _) 0).trans rfl, (qZb (qQl ab.out _) 1).trans rfl, (World.cell?_alloc_lt _ _ _ (World.block_lt_of_cell? _ _ (((HB.out.cell (World.block_lt_of_cell? w _ ad)).trans ad)))).trans (((HB.out.cell (World.block_lt_of_cell? w _ ad)).trans ad)), (World.cell?_alloc_lt _ _ _ (World.block_lt_of_cell? _ _ (((HB.out.cell (World.block_lt_of_cell? w _ ai)).trans ai)))).trans (((HB.out.cell (World.block_lt_of_cell? w _ ai)).trans ai)), (World.cell?_alloc_lt _ _ _ (World.block_lt_of_cell? _ _ (((HB.out.cell (World.block_lt_of_cell? w _ ah)).trans ah)))).trans (((HB.out.cell (World.block_lt_of_cell? w _ ah)).trans ah)), (World.cell?_alloc_lt _ _ _ (World.block_lt_of_cell? _ _ (((HB.out.cell (World.block_lt_of_cell? w _ ag)).trans ag)))).trans (((HB.out.cell (World.block_lt_of_cell? w _ ag)).trans ag)), (World.cell?_alloc_lt _ _ _ (World.block_lt_of_cell? _ _ (((HB.out.cell (World.block_lt_of_cell? w _ af)).trans af)))).trans (((HB.out.cell (World.block_lt_of_cell? w _ af)).trans af)), (World.cell?_alloc_lt _ _ _ (World.block_lt_of_cell? _ _ (((HB.out.cell (World.block_lt_of_cell? w _ ae)).trans ae)))).trans (((HB.out.cell (World.block_lt_of_cell? w _ ae)).trans ae))⟩ (fun hHeld => ?_)
 clear hK K
 refine qJd (a' := ?_) ?_ ?_
 rotate_left
 ·show Act.put _ (some 21) _ = _
  simp only [SX]
  rfl
 refine one_ (i := 10) (N := some 22) (ms 12 2047) rfl rfl (qJa HT_.out (by kernel_rfl)) (by decide) (fun K hK => ?_)
 refine Kd.R_append_step (Kd.int .i64) (w0 := w) w.heap.size (by rfl) (.tmp 12) (.tmp 21) 33 3 (.int .i64 0) 8 rfl Try.underlying33 qVg rfl (by decide) (by omega) bB an ((qZa aa (rd l1 0)).f0) [.int .i64 ((qZa aa (rd l1 0)).f0)] (fun _ => True) (fun _ => False) rfl rfl ?aP (fun _ hk => hk.elim) ?aF ?aO ?aB ?aS ?aL ?_
 (case aP => exact rfl)
 (case aB => exact (bl1 HB ao))
 (case aF => exact (fun _ _ => trivial))
 (case aO => exact (rk aw))
 (case aS => exact (qZc (bl1 HB ao)))
 (case aL => have := bA.out; omega)
 intro bK w14 ho hb hg hat
 rw [← bn.out] at ho
 have n0_ := ak (qZj (bk ab) hg (Kd.R_ne aw.out ab.out (by decide)))
 have n1_ := ak (hb)
 have n2_ := ak (ho)
 clear ab
 clear HB
 clear aw
 have ab := n0_
 have HB := n1_
 have bo := n2_
 clear n0_ n1_ n2_
 clear ho hb hg hat
 refine hK.out _ _ ⟨(qZb ab.out 0).trans rfl, (qZb ab.out 1).trans rfl, ((HB.out.cell (World.block_lt_of_cell? w _ ad)).trans ad), ((HB.out.cell (World.block_lt_of_cell? w _ ai)).trans ai), ((HB.out.cell (World.block_lt_of_cell? w _ ah)).trans ah), ((HB.out.cell (World.block_lt_of_cell? w _ ag)).trans ag), ((HB.out.cell (World.block_lt_of_cell? w _ af)).trans af), ((HB.out.cell (World.block_lt_of_cell? w _ ae)).trans ae)⟩ (fun hHeld => ?_)
 clear hK K
 refine qJd (a' := ?_) ?_ ?_
 rotate_left
 ·show Act.put _ (some 22) _ = _
  simp only [SX]
  rfl
 refine pu 11 5 ?_ (ms 12 4095) rfl rfl HT_ (by kernel_rfl) (fun _ _ _ h => h) (by rfl) ?_ ?_ ?_ ?_
 rotate_left
 ·intro w'
  go_simp
  with_reducible rfl
 rotate_left
 ·simp only [SX]
  rfl
 refine qXe (qJg HT_.out (by kernel_rfl)) ?_
 try go_wp2
 go_loopg [5, 25] k (fun kq v5 v25 w' => ∃ (aI : List Int) (ac : Int), v25 = .int .i64 ac ∧ Aside0 (impl_Net_along.l0 kq aI l1 (l1.length : Int) ac am aa = some r) ∧ Aside0 (kq ≤ k) ∧ Aside0 (Kd.R (Kd.int .i64) 3 w' w.heap.size (fun _ => True) v5 aI) ∧ Aside0 (w'.heap[ay]? = some (.cells #[.int .i64 am, (.slice (some aj) aa.length aH)] 25 (0, 0))) ∧ Aside0 (Below w.heap.size w w'))
 case atStart => exact ⟨(bm), (0), (by rfl), H', ⟨Nat.le_refl _⟩, ⟨rk bo⟩, ⟨bk ab⟩, ⟨bl1 HB ao⟩⟩
 clear H'
 try clear c1
 try clear p2
 try clear p3
 try clear q3
 try clear hx3
 try clear qi3
 try clear c4
 try clear c4b0
 try clear c4b1
 try clear c5
 try clear c5b0
 try clear c5b1
 try clear c6
 try clear c6b0
 try clear c6b1
 try clear p6
 try clear c7
 try clear c7b0
 try clear c8
 try clear c8b0
 try clear c9
 try clear al
 try clear ap
 try clear aq
 try clear ar
 try clear au
 try clear av
 try clear aR
 try clear aU
 try clear aT
 try clear aV
 obtain ⟨aI, ac, rfl, HA, HK1, aW, ab, HB⟩ := hrel
 cases gk with
 | zero => exact absurd HA.out (by simp [impl_Net_along.l0])
 | succ k1 =>
  have H := HA.out
  clear HA
  simp only [impl_Net_along.l0] at H
  by_cases c15 : ac < (l1.length : Int)
  rotate_left
  ·rw [if_neg c15] at H
   have c15b0 : decide (ac < (l1.length : Int)) = false := decide_eq_false c15
   clear c15
   obtain rfl := Option.some.inj H
   go_wp2
   go_ret
   exact ⟨_, by rfl, rk aW, bl1 HB ao⟩
  rw [if_pos c15] at H
  have c15b0 : decide (ac < (l1.length : Int)) = true := decide_eq_true c15
  clear c15
  by_cases c16 : 0 ≤ ac
  rotate_left
  ·rw [if_neg c16] at H
   exact absurd H (by simp)
  rw [if_pos c16] at H
  have c16b0 : decide (0 ≤ ac) = true := decide_eq_true c16
  clear c16
  by_cases c17 : ac < (l1.length : Int)
  rotate_left
  ·rw [if_neg c17] at H
   exact absurd H (by simp)
  rw [if_pos c17] at H
  have c17b0 : decide (ac < (l1.length : Int)) = true := decide_eq_true c17
  clear c17
  by_cases c18 : 0 ≤ (rd l1 ac)
  rotate_left
  ·rw [if_neg c18] at H
   exact absurd H (by simp)
  rw [if_pos c18] at H
  have c18b0 : decide (0 ≤ (rd l1 ac)) = true := decide_eq_true c18
  clear c18
  by_cases c19 : (rd l1 ac) < (aa.length : Int)
  rotate_left
  ·rw [if_neg c19] at H
   exact absurd H (by simp)
  rw [if_pos c19] at H
  have c19b0 : decide ((rd l1 ac) < (aa.length : Int)) = true := decide_eq_true c19
  clear c19
  by_cases c20 : aI.length < 17592186044416
  rotate_left
  ·rw [if_neg c20] at H
   exact absurd H (by simp)
  rw [if_pos c20] at H
  have bp := ak c20
  clear c20
  obtain ⟨bq, aN⟩ : ∃ y_ : List Int, y_ = (aI ++ [(qZa aa (rd l1 ac)).f1]) := ⟨_, rfl⟩
  replace H : (impl_Net_along.l0 k1 bq l1 (l1.length : Int) (wrap64 (ac + 1)) am aa) = some r := by (rw [aN]; with_reducible exact H)
  have br := ak aN
  clear aN
  have H' := ak H
  clear H
  have be : 0 ≤ (ac : Int) := oT (by (with_reducible assumption))
  have bf : ac < (l1.length : Int) := oT (by (with_reducible assumption))
  obtain ⟨bs, bE, az⟩ := Kd.at_int HR1.out ac be bf
  obtain rfl : ba = bs := (by injection bE)
  replace az := hcb HB.out az
  replace be := eq_true be
  replace bf := eq_true bf
  have bv := bc wr ab 0 (.int .i64 am) rfl
  have bw := bc wr ab 1 (.slice (some aj) aa.length aH) rfl
  have bx := fz ab 0
  have bz := fz ab 1
  have bg : 0 ≤ ((rd l1 ac) : Int) := oT (by (with_reducible assumption))
  have bh : (rd l1 ac) < (aa.length : Int) := oT (by (with_reducible assumption))
  obtain ⟨bt, bF, aA, aC, aD, aE, aG⟩ := qJi aZ.out (rd l1 ac) bg bh
  obtain rfl : aj = bt := (by injection bF)
  replace aA := hcb HB.out aA
  replace aC := hcb HB.out aC
  replace aD := hcb HB.out aD
  replace aE := hcb HB.out aE
  replace aG := hcb HB.out aG
  replace bg := eq_true bg
  replace bh := eq_true bh
  go_wp2_with (((with_reducible refine gate_builtin (b := .append) (xs := #[.tmp 29, .tmp 36]) rfl ?_); at_builtin; refine Kd.R_append (Kd.int .i64) (w0 := w) w.heap.size rfl (.tmp 29) (.tmp 36) 33 3 (.int .i64 0) 8 rfl Try.underlying33 qVg rfl (by decide) (by omega) u5 aI ((qZa aa (rd l1 ac)).f1) [.int .i64 ((qZa aa (rd l1 ac)).f1)] (fun _ => True) (fun _ => False) rfl rfl ?aP (fun _ hk => hk.elim) ?aF ?aO ?aB ?aS ?aL ?_; (case aP => exact rfl); (case aB => exact (bl1 HB ao)); (case aF => exact (fun _ _ => trivial)); (case aO => exact (rk aW)); (case aS => exact (qZc (bl1 HB ao))); (case aL => have := bp.out; omega); intro bL w22 ho hb hg hat; rw [← br.out] at ho; have n0_ := ak (qZj (bk ab) hg (Kd.R_ne aW.out ab.out (by decide))); have n1_ := ak (hb); have n2_ := ak (ho); clear ab; clear HB; clear aW; have ab := n0_; have HB := n1_; have bu := n2_; clear n0_ n1_ n2_; clear ho hb hg hat))
  go_roundg k1
  case measure => have := HK1.out; omega
  case rel => exact ⟨(bq), (wrap64 (ac + 1)), (by rfl), H', ⟨by have := HK1.out; omega⟩, ⟨rk bu⟩, ⟨bk ab⟩, ⟨bl1 HB ao⟩⟩
/-! ### impl_WalkPlain: function 29 -/
mutual
def impl_WalkPlain.j0 : Nat → List Int → Bool → Int → List (S58) → Option (List Int)
 | 0, _, _, _, _ => none
 | k + 1, x1, x18, bb, bd => if x18 = true then (some ([] : List Int)) else ((impl_Net_along.f k bb bd x1).bind fun ab => (if ((x1.length : Int) : Int).toNat ≤ 35184372088832 then (impl_WalkPlain.l0 k x1 ab (([] : List Int)) 0) else (none)))
def impl_WalkPlain.l0 : Nat → List Int → List Int → List Int → Int → Option (List Int)
 | 0, _, _, _, _ => none
 | k + 1, x1, x5, x6, x7 => impl_WalkPlain.l1 k x1 x5 x6 x7 x5 (x5.length : Int) 0
def impl_WalkPlain.l1 : Nat → List Int → List Int → List Int → Int → List Int → Int → Int → Option (List Int)
 | 0, _, _, _, _, _, _, _ => none
 | k + 1, x1, x5, x6, x7, x27, x28, x29 => if x29 < x28 then (if 0 ≤ x29 then (if x29 < (x27.length : Int) then (if 0 ≤ x7 then (if x7 < (x5.length : Int) then (if (rd x27 x29) = (rd x5 x7) then (impl_WalkPlain.l1 k x1 x5 x6 (mx x7 x29) x27 x28 (wrap64 (x29 + 1))) else (impl_WalkPlain.l1 k x1 x5 x6 x7 x27 x28 (wrap64 (x29 + 1)))) else (none)) else (none)) else (none)) else (none)) else (if x7 = (x1.length : Int) then (some (x6)) else (if 0 ≤ x7 then (if x7 < (x1.length : Int) then (if x6.length < 17592186044416 then (impl_WalkPlain.l0 k x1 x5 (x6 ++ [rd x1 x7]) (wrap64 (x7 + 1))) else (none)) else (none)) else (none)))
end
def impl_WalkPlain.f (k : Nat) (ag : Int) (ae : List (S58)) (l1 : List Int) : Option (List Int) := (impl_WalkOk.f k ag ae l1).bind fun aT => (if aT = true then (impl_WalkPlain.j0 k l1 ((l1.length : Int) == 0) ag ae) else (impl_WalkPlain.j0 k l1 true ag ae))
theorem impl_WalkPlain.mono_l : ∀ k, (∀ y0 y1 y2 y3, LeO (impl_WalkPlain.j0 k y0 y1 y2 y3) (impl_WalkPlain.j0 (k + 1) y0 y1 y2 y3)) ∧ (∀ y0 y1 y2 y3, LeO (impl_WalkPlain.l0 k y0 y1 y2 y3) (impl_WalkPlain.l0 (k + 1) y0 y1 y2 y3)) ∧ (∀ y0 y1 y2 y3 y4 y5 y6, LeO (impl_WalkPlain.l1 k y0 y1 y2 y3 y4 y5 y6) (impl_WalkPlain.l1 (k + 1) y0 y1 y2 y3 y4 y5 y6))
 | 0 => ⟨fun _ _ _ _ r h => by simp [impl_WalkPlain.j0] at h, fun _ _ _ _ r h => by simp [impl_WalkPlain.l0] at h, fun _ _ _ _ _ _ _ r h => by simp [impl_WalkPlain.l1] at h⟩
 | k + 1 => by
  obtain ⟨ih0, ih1, ih2⟩ := impl_WalkPlain.mono_l k
  refine ⟨?_, ?_, ?_⟩
  ·intro y0 y1 y2 y3
   unfold impl_WalkPlain.j0
   repeat' first | (with_reducible exact ih1 _ _ _ _) | (with_reducible exact impl_Net_along.mono _ _ _ _) | (with_reducible exact LeO.refl _) | (with_reducible refine LeO.ite ?_ ?_) | (with_reducible refine LeO.bind ?_ (fun _ => ?_))
  ·intro y0 y1 y2 y3
   unfold impl_WalkPlain.l0
   repeat' (with_reducible exact ih2 _ _ _ _ _ _ _)
  ·intro y0 y1 y2 y3 y4 y5 y6
   unfold impl_WalkPlain.l1
   repeat' first | (with_reducible exact ih1 _ _ _ _) | (with_reducible exact ih2 _ _ _ _ _ _ _) | (with_reducible exact LeO.refl _) | (with_reducible refine LeO.ite ?_ ?_)
theorem impl_WalkPlain.mono : ∀ a0 a1 a2 k, LeO (impl_WalkPlain.f k a0 a1 a2) (impl_WalkPlain.f (k + 1) a0 a1 a2) := by
 intro a0 a1 a2 k
 obtain ⟨ih0, ih1, ih2⟩ := impl_WalkPlain.mono_l k
 unfold impl_WalkPlain.f
 repeat' first | (with_reducible exact ih0 _ _ _ _) | (with_reducible exact impl_WalkOk.mono _ _ _ _) | (with_reducible refine LeO.ite ?_ ?_) | (with_reducible refine LeO.bind ?_ (fun _ => ?_))
set_option maxHeartbeats 8000000 in
set_option maxRecDepth 100000 in
theorem impl_WalkPlain.calls (k : Nat) (ag : Int) (al : Option Addr) (am : Nat) (ae : List (S58)) (A1 : Option Addr) (c1 : Nat) (l1 : List Int) (r : List Int) (w : World) (bi : Kd.C k58 w al ae.length ae) (bj : ae.length ≤ am) (hr1 : Kd.C (Kd.int .i64) w A1 l1.length l1) (hc1 : l1.length ≤ c1) (h : impl_WalkPlain.f k ag ae l1 = some r) :
  Calls Try.prog 29 #[.agg #[.int .i64 ag, .slice al ae.length am], .slice A1 l1.length c1] w fun e w' => ∃ v0_ : Value, e = .returned (v0_) ∧ Kd.R (Kd.int .i64) 3 w' w.heap.size (fun _ => True) v0_ r ∧ Below w.heap.size w w' := by
 have bR := Try.underlying25
 have aU := ak bi
 have aV := ak bj
 clear bi bj
 have HR1 := ak hr1
 have HC1 := ak hc1
 clear hr1 hc1
 have HB := ak (Below.refl w.heap.size w)
 have H : ((impl_WalkOk.f k ag ae l1).bind fun aT => (if aT = true then (impl_WalkPlain.j0 k l1 ((l1.length : Int) == 0) ag ae) else (impl_WalkPlain.j0 k l1 true ag ae))) = some r := h
 clear h
 have HC3 := ak H
 clear H
 go_enter Try.func29, Try.ntmps29
 go_upto_region 1 with (((with_reducible refine gate_dst (N := 2) rfl ?_); refine qZh ?hg (N := 2) ?hd (cs := #[.int .i64 ag, .slice al ae.length am]) (t := 25) ?hr ?_; (case hd => rfl); (case hg => rfl); (case hr => (go_simp; done)); intro ao hg w4 hbox hb; have aa := ak (hbox); have bP := ak ((by rw [hg]; exact (qZc (bl HB)) : w.heap.size ≤ ao)); have af := ak ((by rw [hg]; exact (qZc (bl HB)) : w.heap.size ≤ ao)); replace HB := ak (qZd (bl HB) hb); clear hb hbox hg))
 (try simp only [Act.put, List.setIfInBounds_toArray, List.set_cons_zero, List.set_cons_succ])
 go_cut [18] (fun v18 wc => ∃ (kq : Nat) (aE : Bool), v18 = .bool aE ∧ Aside0 (impl_WalkPlain.j0 kq l1 aE ag ae = some r) ∧ Aside0 (kq ≤ k) ∧ Aside0 (wc.heap[ao]? = some (.cells #[.int .i64 ag, (.slice al ae.length am)] 25 (0, 0))) ∧ Aside0 (Below w.heap.size w wc))
 case first =>
  have H := HC3.out
  clear HC3
  replace H := Option.bind_eq_some_iff.mp H
  obtain ⟨aT, A50, H⟩ := H
  have A5 := ak A50
  clear A50
  by_cases c6 : aT = true
  ·subst c6
   rw [if_pos rfl] at H
   have H' := ak H
   clear H
   have ap := bc w4 aa 0 (.int .i64 ag) rfl
   have aq := bc w4 aa 1 (.slice al ae.length am) rfl
   have ar := fz aa 0
   have au := fz aa 1
   go_wp2_with (((with_reducible refine gate_callee (f := 61) rfl ?_); refine qQi (some 12) rfl rfl Try.func61 (by kernel_rfl) rfl #[.agg #[.int .i64 ag, .slice al ae.length am], .slice A1 l1.length c1] rfl (by (try simp only [List.map_toArray, List.map_cons, List.map_nil]); rfl) ?_; (with_reducible refine (impl_WalkOk.calls k ag _ _ ae _ _ l1 true _ ?side1 ?side2 ?side3 ?side4 A5.out).mono ?_); (case side1 => repeat (exact (Kd.C_below aU.out HB.out))); (case side2 => exact aV.out); (case side3 => repeat (exact (Kd.C_below HR1.out HB.out))); (case side4 => exact HC1.out); rintro e w8 ⟨rfl, hb⟩; refine ⟨_, rfl, ?_⟩; replace aa := ak (qZe (bk aa) hb); replace HB := ak (qZd (bl1 HB af) hb); (try clear hb); (try clear hb2); (try clear hk); (try clear hi)))
   go_meet
   case rel => exact ⟨_, (((l1.length : Int) == 0)), (by rfl), H', ⟨by omega⟩, ⟨bk aa⟩, ⟨bl1 HB af⟩⟩
  replace c6 := Bool.eq_false_iff.mpr c6
  subst c6
  rw [if_neg (show ¬ (false = true) by decide)] at H
  have H' := ak H
  clear H
  have av := bc w4 aa 0 (.int .i64 ag) rfl
  have aw := bc w4 aa 1 (.slice al ae.length am) rfl
  have ax := fz aa 0
  have ay := fz aa 1
  go_wp2_with (((with_reducible refine gate_callee (f := 61) rfl ?_); refine qQi (some 12) rfl rfl Try.func61 (by kernel_rfl) rfl #[.agg #[.int .i64 ag, .slice al ae.length am], .slice A1 l1.length c1] rfl (by (try simp only [List.map_toArray, List.map_cons, List.map_nil]); rfl) ?_; (with_reducible refine (impl_WalkOk.calls k ag _ _ ae _ _ l1 false _ ?side1 ?side2 ?side3 ?side4 A5.out).mono ?_); (case side1 => repeat (exact (Kd.C_below aU.out HB.out))); (case side2 => exact aV.out); (case side3 => repeat (exact (Kd.C_below HR1.out HB.out))); (case side4 => exact HC1.out); rintro e w10 ⟨rfl, hb⟩; refine ⟨_, rfl, ?_⟩; replace aa := ak (qZe (bk aa) hb); replace HB := ak (qZd (bl1 HB af) hb); (try clear hb); (try clear hb2); (try clear hk); (try clear hi)))
  go_meet
  case rel => exact ⟨_, (true), (by rfl), H', ⟨by omega⟩, ⟨bk aa⟩, ⟨bl1 HB af⟩⟩
 clear HC3
 try clear c1
 try clear c2
 try clear p2
 try clear c6
 try clear ap
 try clear aq
 try clear av
 try clear aw
 try clear ar
 try clear au
 try clear ax
 try clear ay
 obtain ⟨kq, aE, rfl, HA, HJ2, aa, HB⟩ := hcut
 cases kq with
 | zero => exact absurd HA.out (by simp [impl_WalkPlain.j0])
 | succ kj2 =>
  have H := HA.out
  clear HA
  simp only [impl_WalkPlain.j0] at H
  by_cases c11 : aE = true
  ·subst c11
   rw [if_pos rfl] at H
   obtain rfl := Option.some.inj H
   go_wp2
   go_ret
   exact ⟨_, by rfl, by exact Kd.R_nil _ _ _ _ _, bl1 HB af⟩
  replace c11 := Bool.eq_false_iff.mpr c11
  subst c11
  rw [if_neg (show ¬ (false = true) by decide)] at H
  replace H := Option.bind_eq_some_iff.mp H
  obtain ⟨ab, bx, H⟩ := H
  have A12 := ak bx
  clear bx
  by_cases c13 : ((l1.length : Int) : Int).toNat ≤ 35184372088832
  rotate_left
  ·rw [if_neg c13] at H
   exact absurd H (by simp)
  rw [if_pos c13] at H
  have c13b0 := eq_true c13
  have c13b1 : decide (((l1.length : Int) : Int).toNat ≤ 35184372088832) = true := decide_eq_true c13
  clear c13
  obtain ⟨bz, aW⟩ : ∃ y_ : List Int, y_ = (([] : List Int)) := ⟨_, rfl⟩
  replace H : (impl_WalkPlain.l0 kj2 l1 ab bz 0) = some r := by (rw [aW]; with_reducible exact H)
  have bA := ak aW
  clear aW
  have H' := ak H
  clear H
  have aG := bc wc aa 0 (.int .i64 ag) rfl
  have aH := bc wc aa 1 (.slice al ae.length am) rfl
  have aI := fz aa 0
  have aJ := fz aa 1
  go_wp2_with (first | ((with_reducible refine gate_callee (f := 66) rfl ?_); refine qQi (some 21) rfl rfl Try.func66 (by kernel_rfl) rfl #[.agg #[.int .i64 ag, .slice al ae.length am], .slice A1 l1.length c1] rfl (by (try simp only [List.map_toArray, List.map_cons, List.map_nil]); rfl) ?_; (with_reducible refine (impl_Net_along.calls kj2 ag _ _ ae _ _ l1 ab _ ?side1 ?side2 ?side3 ?side4 A12.out).mono ?_); (case side1 => repeat (exact (Kd.C_below aU.out HB.out))); (case side2 => exact aV.out); (case side3 => repeat (exact (Kd.C_below HR1.out HB.out))); (case side4 => exact HC1.out); rintro e w15 ⟨bB, rfl, ho0, hb⟩; refine ⟨_, rfl, ?_⟩; have aK := ak (Kd.R_lower ho0 (qZc (bl1 HB af))); replace aa := ak (qZe (bk aa) hb); replace HB := ak (qZd (bl1 HB af) hb); (try clear hb); (try clear hb2); (try clear hk); (try clear hi); (try clear ho0)) | ((with_reducible refine gate_dst (N := 24) rfl ?_); refine Kd.R_make0 (Kd.int .i64) _ 3 rfl (N := 24) rfl 33 _ _ rfl (l1.length : Int) rfl rfl Try.underlying33 (.int .i64 0) 8 qVg (by decide) (ok := fun _ => True) trivial (by omega) (Nat.le_trans (Nat.mul_le_mul_right _ (oT (by (with_reducible assumption)) : (l1.length : Int).toNat ≤ 35184372088832)) (by omega)) (Below.refl _ _) (Nat.le_refl _) ?_; intro bS w16 be hb hg_ hnew_; clear hg_ hnew_; (rw [← bA.out] at be); have bC := ak (Kd.R_lower (Kd.R_new' be (Kd.R_lt (rk aK))) (qZc (bl1 HB af))); replace aK := ak (Kd.R_elder' (rk aK) (Kd.R_base be) hb); replace aa := ak (qZe (bk aa) hb); replace HB := ak (qZd (bl1 HB af) hb); clear hb be))
  go_loopg [6, 7] kj2 (fun kq v6 v7 w' => ∃ (ah : List Int) (bf : Int), v7 = .int .i64 bf ∧ Aside0 (impl_WalkPlain.l0 kq l1 ab ah bf = some r) ∧ Aside0 (kq ≤ kj2) ∧ Aside0 (Kd.R (Kd.int .i64) 3 w' w.heap.size (fun k_ => some k_ ≠ (v6 : Value).ownBlock) bB ab) ∧ Aside0 (Kd.R (Kd.int .i64) 3 w' w.heap.size (fun k_ => some k_ ≠ (bB : Value).ownBlock) v6 ah) ∧ Aside0 (w'.heap[ao]? = some (.cells #[.int .i64 ag, (.slice al ae.length am)] 25 (0, 0))) ∧ Aside0 (Below w.heap.size w w'))
  case atStart => exact ⟨(bz), (0), (by rfl), H', ⟨Nat.le_refl _⟩, ⟨by exact Kd.R_mono aK.out (fun _ hk => hk.2)⟩, ⟨by exact Kd.R_mono bC.out (fun _ hk => hk.2)⟩, ⟨bk aa⟩, ⟨bl1 HB af⟩⟩
  clear H'
  try clear c1
  try clear c2
  try clear p2
  try clear c6
  try clear c11
  try clear c13
  try clear c13b0
  try clear c13b1
  try clear aG
  try clear aH
  try clear ap
  try clear aq
  try clear av
  try clear aw
  try clear aI
  try clear aJ
  try clear ar
  try clear au
  try clear ax
  try clear ay
  try clear p2
  obtain ⟨ah, bf, rfl, HA, HK2, ai, an, aa, HB⟩ := hrel
  cases gk with
  | zero => exact absurd HA.out (by simp [impl_WalkPlain.l0])
  | succ k2 =>
   have H := HA.out
   clear HA
   simp only [impl_WalkPlain.l0] at H
   have H' := ak H
   clear H
   obtain ⟨aQ, aR, bK⟩ := Kd.R_slice ai.out
   subst bK
   go_wp2
   go_loopg [7, 29] k2 (fun kq v7 v29 w' => ∃ (ad : Int) (ac : Int), v7 = .int .i64 ad ∧ v29 = .int .i64 ac ∧ Aside0 (impl_WalkPlain.l1 kq l1 ab ah ad ab (ab.length : Int) ac = some r) ∧ Aside0 (kq ≤ k2) ∧ Aside0 (Kd.R (Kd.int .i64) 3 w' w.heap.size (fun k_ => some k_ ≠ (u6 : Value).ownBlock) (.slice aQ ab.length aR) ab) ∧ Aside0 (Kd.R (Kd.int .i64) 3 w' w.heap.size (fun k_ => some k_ ≠ ((.slice aQ ab.length aR) : Value).ownBlock ∧ some k_ ≠ ((.slice aQ ab.length aR) : Value).ownBlock) u6 ah) ∧ Aside0 (Kd.R (Kd.int .i64) 3 w' w.heap.size (fun k_ => some k_ ≠ (u6 : Value).ownBlock) (.slice aQ ab.length aR) ab) ∧ Aside0 (w'.heap[ao]? = some (.cells #[.int .i64 ag, (.slice al ae.length am)] 25 (0, 0))) ∧ Aside0 (Below w.heap.size w w'))
   case atStart => exact ⟨(bf), (0), (by rfl), (by rfl), H', ⟨Nat.le_refl _⟩, ⟨rk ai⟩, ⟨by exact Kd.R_mono an.out (fun _ hk => ⟨hk, hk⟩)⟩, ⟨rk ai⟩, ⟨bk aa⟩, ⟨bl1 HB af⟩⟩
   clear H'
   try clear c1
   try clear c2
   try clear p2
   try clear c6
   try clear c11
   try clear c13
   try clear c13b0
   try clear c13b1
   try clear aG
   try clear aH
   try clear ap
   try clear aq
   try clear av
   try clear aw
   try clear aI
   try clear aJ
   try clear ar
   try clear au
   try clear ax
   try clear ay
   try clear p2
   obtain ⟨ad, ac, rfl, rfl, HA, HK3, ai, an, aj, aa, HB⟩ := hrel
   cases gk with
   | zero => exact absurd HA.out (by simp [impl_WalkPlain.l1])
   | succ k3 =>
    have H := HA.out
    clear HA
    simp only [impl_WalkPlain.l1] at H
    by_cases c19 : ac < (ab.length : Int)
    ·rw [if_pos c19] at H
     have c19b0 : decide (ac < (ab.length : Int)) = true := decide_eq_true c19
     clear c19
     by_cases c20 : 0 ≤ ac
     rotate_left
     ·rw [if_neg c20] at H
      exact absurd H (by simp)
     rw [if_pos c20] at H
     have c20b0 : decide (0 ≤ ac) = true := decide_eq_true c20
     clear c20
     by_cases c21 : ac < (ab.length : Int)
     rotate_left
     ·rw [if_neg c21] at H
      exact absurd H (by simp)
     rw [if_pos c21] at H
     have c21b0 : decide (ac < (ab.length : Int)) = true := decide_eq_true c21
     clear c21
     by_cases c22 : 0 ≤ ad
     rotate_left
     ·rw [if_neg c22] at H
      exact absurd H (by simp)
     rw [if_pos c22] at H
     have c22b0 : decide (0 ≤ ad) = true := decide_eq_true c22
     clear c22
     by_cases c23 : ad < (ab.length : Int)
     rotate_left
     ·rw [if_neg c23] at H
      exact absurd H (by simp)
     rw [if_pos c23] at H
     have c23b0 : decide (ad < (ab.length : Int)) = true := decide_eq_true c23
     clear c23
     by_cases c24 : (rd ab ac) = (rd ab ad)
     rotate_left
     ·rw [if_neg c24] at H
      have c24b0 : ((rd ab ac) == (rd ab ad)) = false := beq_eq_false_iff_ne.mpr c24
      have c24b1 : ((rd ab ac) != (rd ab ad)) = true := bne_iff_ne.mpr c24
      have H' := ak H
      clear H
      have az : 0 ≤ (ac : Int) := oT (by (with_reducible assumption))
      have aA : ac < (ab.length : Int) := oT (by (with_reducible assumption))
      obtain ⟨aX, bp, bg⟩ := Kd.at_int (Kd.R_reads' aj.out).2.2 ac az aA
      cases bp
      replace az := eq_true az
      replace aA := eq_true aA
      have aC : 0 ≤ (ad : Int) := oT (by (with_reducible assumption))
      have aD : ad < (ab.length : Int) := oT (by (with_reducible assumption))
      obtain ⟨aY, bq, bh⟩ := Kd.at_int (Kd.R_reads' ai.out).2.2 ad aC aD
      obtain rfl : aX = aY := (by injection bq)
      replace aC := eq_true aC
      replace aD := eq_true aD
      go_wp2
      go_roundg k3
      case measure => have := HJ2.out; have := HK2.out; have := HK3.out; omega
      case rel => exact ⟨(ad), (wrap64 (ac + 1)), (by rfl), (by rfl), H', ⟨by have := HJ2.out; have := HK2.out; have := HK3.out; omega⟩, ⟨rk ai⟩, ⟨rk an⟩, ⟨rk aj⟩, ⟨bk aa⟩, ⟨bl1 HB af⟩⟩
     rw [if_pos c24] at H
     have c24b0 : ((rd ab ac) == (rd ab ad)) = true := beq_iff_eq.mpr c24
     have c24b1 : ((rd ab ac) != (rd ab ad)) = false := bne_eq_false_iff_eq.mpr c24
     clear c24
     obtain ⟨br, bm⟩ : ∃ j_ : Int, (mx ad ac) = j_ := ⟨_, rfl⟩
     replace H : (impl_WalkPlain.l1 k3 l1 ab ah br ab (ab.length : Int) (wrap64 (ac + 1))) = some r := by (rw [bm] at H; exact H)
     have bL : (if ad < ac then ac else ad) = br := bm
     have H' := ak H
     clear H
     have az : 0 ≤ (ac : Int) := oT (by (with_reducible assumption))
     have aA : ac < (ab.length : Int) := oT (by (with_reducible assumption))
     obtain ⟨aX, bp, bg⟩ := Kd.at_int (Kd.R_reads' aj.out).2.2 ac az aA
     cases bp
     replace az := eq_true az
     replace aA := eq_true aA
     have aC : 0 ≤ (ad : Int) := oT (by (with_reducible assumption))
     have aD : ad < (ab.length : Int) := oT (by (with_reducible assumption))
     obtain ⟨aY, bq, bh⟩ := Kd.at_int (Kd.R_reads' ai.out).2.2 ad aC aD
     obtain rfl : aX = aY := (by injection bq)
     replace aC := eq_true aC
     replace aD := eq_true aD
     go_wp2
     go_roundg k3
     case measure => have := HJ2.out; have := HK2.out; have := HK3.out; omega
     case rel => exact ⟨(br), (wrap64 (ac + 1)), (by rfl), (by rfl), H', ⟨by have := HJ2.out; have := HK2.out; have := HK3.out; omega⟩, ⟨rk ai⟩, ⟨rk an⟩, ⟨rk aj⟩, ⟨bk aa⟩, ⟨bl1 HB af⟩⟩
    rw [if_neg c19] at H
    have c19b0 : decide (ac < (ab.length : Int)) = false := decide_eq_false c19
    clear c19
    by_cases c26 : ad = (l1.length : Int)
    ·rw [if_pos c26] at H
     have c26b0 : (ad == (l1.length : Int)) = true := beq_iff_eq.mpr c26
     have c26b1 : (ad != (l1.length : Int)) = false := bne_eq_false_iff_eq.mpr c26
     clear c26
     obtain ⟨bs, aZ⟩ : ∃ y_ : List Int, y_ = (ah) := ⟨_, rfl⟩
     replace H : (some bs) = some r := by (rw [aZ]; with_reducible exact H)
     have bn := ak aZ
     clear aZ
     obtain rfl := Option.some.inj H
     obtain ⟨bt, bD, bM⟩ := Kd.R_slice an.out
     subst bM
     obtain ⟨i028, bo, _, bE, _⟩ := info_parts qVg
     have bu := Kd.R_clip an.out
     rw [← bn.out] at bu
     have bN : ∀ W : World, (Instr.slice 33 (.slice bt ah.length bD) none (some (.int .i64 (ah.length : Int))) (some (.int .i64 (ah.length : Int)))).run Try.prog W = .ok (.slice bt bs.length bs.length) W := by rw [bn.out]; exact jZk 33 3 Try.underlying33 bo bt ah.length bD (Kd.R_reads' an.out).2.1
     clear bo bE an
     have bF := ak bu
     clear bu
     go_wp2
     go_ret
     exact ⟨_, by rfl, by exact Kd.R_mono bF.out (fun _ hk => trivial), bl1 HB af⟩
    rw [if_neg c26] at H
    have c26b0 : (ad == (l1.length : Int)) = false := beq_eq_false_iff_ne.mpr c26
    have c26b1 : (ad != (l1.length : Int)) = true := bne_iff_ne.mpr c26
    by_cases c29 : 0 ≤ ad
    rotate_left
    ·rw [if_neg c29] at H
     exact absurd H (by simp)
    rw [if_pos c29] at H
    have c29b0 : decide (0 ≤ ad) = true := decide_eq_true c29
    clear c29
    by_cases c30 : ad < (l1.length : Int)
    rotate_left
    ·rw [if_neg c30] at H
     exact absurd H (by simp)
    rw [if_pos c30] at H
    have c30b0 : decide (ad < (l1.length : Int)) = true := decide_eq_true c30
    clear c30
    by_cases c31 : ah.length < 17592186044416
    rotate_left
    ·rw [if_neg c31] at H
     exact absurd H (by simp)
    rw [if_pos c31] at H
    have bG := ak c31
    clear c31
    obtain ⟨bH, ba⟩ : ∃ y_ : List Int, y_ = (ah ++ [rd l1 ad]) := ⟨_, rfl⟩
    replace H : (impl_WalkPlain.l0 k3 l1 ab bH (wrap64 (ad + 1))) = some r := by (rw [ba]; with_reducible exact H)
    have bI := ak ba
    clear ba
    have H' := ak H
    clear H
    have bv : 0 ≤ (ad : Int) := oT (by (with_reducible assumption))
    have bw : ad < (l1.length : Int) := oT (by (with_reducible assumption))
    obtain ⟨bQ, bO, aN⟩ := Kd.at_int HR1.out ad bv bw
    cases bO
    replace aN := hcb HB.out aN
    replace bv := eq_true bv
    replace bw := eq_true bw
    go_wp2_with (((with_reducible refine gate_builtin (b := .append) (xs := #[.tmp 54, .tmp 59]) rfl ?_); at_builtin; refine Kd.R_append (Kd.int .i64) (w0 := w) w.heap.size rfl (.tmp 54) (.tmp 59) 33 3 (.int .i64 0) 8 rfl Try.underlying33 qVg rfl (by decide) (by omega) u6 ah (rd l1 ad) [.int .i64 (rd l1 ad)] (fun k_ => some k_ ≠ (.slice aQ ab.length aR : Value).ownBlock ∧ some k_ ≠ (.slice aQ ab.length aR : Value).ownBlock) (fun _ => False) rfl rfl ?aP (fun _ hk => hk.elim) ?aF ?aO ?aB ?aS ?aL ?_; (case aP => exact rfl); (case aB => exact (bl1 HB af)); (case aF => exact (fun k_ hk => ⟨Kd.fresh' (Kd.R_lt (rk ai)) k_ hk, Kd.fresh' (Kd.R_lt (rk aj)) k_ hk⟩)); (case aO => exact (rk an)); (case aS => exact (qZc (bl1 HB af))); (case aL => have := bG.out; omega); intro bT w32 ho hb hg hat; rw [← bI.out] at ho; have n0_ := ak (Kd.R_after (ok := (fun _ => True)) (by exact Kd.R_mono ai.out (fun _ hk => ⟨trivial, hk⟩)) hg hat); have n1_ := ak (Kd.R_after (ok := (fun _ => True)) (by exact Kd.R_mono aj.out (fun _ hk => ⟨trivial, hk⟩)) hg hat); have n2_ := ak (qZj (bk aa) hg (Kd.R_ne an.out aa.out (by decide))); have n3_ := ak (hb); have n4_ := ak (ho); clear ai; clear aj; clear aa; clear HB; clear an; have ai := n0_; have aj := n1_; have aa := n2_; have HB := n3_; have bJ := n4_; clear n0_ n1_ n2_ n3_ n4_; clear ho hb hg hat))
    go_roundg k3
    case measure => have := HJ2.out; have := HK2.out; have := HK3.out; omega
    case rel => exact ⟨(bH), (wrap64 (ad + 1)), (by rfl), H', ⟨by have := HJ2.out; have := HK2.out; have := HK3.out; omega⟩, ⟨by exact Kd.R_mono ai.out (fun _ hk => hk.2)⟩, ⟨by exact Kd.R_mono bJ.out (fun _ hk => hk.1)⟩, ⟨bk aa⟩, ⟨bl1 HB af⟩⟩
/-! ### impl_Net_cost: function 49 -/
def impl_Net_cost.l0 : Nat → Int → List Int → Int → Int → Int → List (S58) → Option (Int)
 | 0, _, _, _, _, _, _ => none
 | k + 1, x5, x8, x9, x10, aq, ad => if x10 < x9 then (if 0 ≤ x10 then (if x10 < (x8.length : Int) then (if 0 ≤ (rd x8 x10) then (if (rd x8 x10) < (ad.length : Int) then (impl_Net_cost.l0 k (wrap64 (x5 + ((qZa ad (rd x8 x10)).f2))) x8 x9 (wrap64 (x10 + 1)) aq ad) else (none)) else (none)) else (none)) else (none)) else (some x5)
def impl_Net_cost.f (k : Nat) (ae : Int) (ab : List (S58)) (l1 : List Int) : Option (Int) := impl_Net_cost.l0 k 0 l1 (l1.length : Int) 0 ae ab
theorem impl_Net_cost.mono_l : ∀ k, (∀ y0 y1 y2 y3 y4 y5, LeO (impl_Net_cost.l0 k y0 y1 y2 y3 y4 y5) (impl_Net_cost.l0 (k + 1) y0 y1 y2 y3 y4 y5))
 | 0 => fun _ _ _ _ _ _ r h => by simp [impl_Net_cost.l0] at h
 | k + 1 => by
  have ih0 := impl_Net_cost.mono_l k
  ·intro y0 y1 y2 y3 y4 y5
   unfold impl_Net_cost.l0
   repeat' first | (with_reducible exact ih0 _ _ _ _ _ _) | (with_reducible exact LeO.refl _) | (with_reducible refine LeO.ite ?_ ?_)
theorem impl_Net_cost.mono : ∀ a0 a1 a2 k, LeO (impl_Net_cost.f k a0 a1 a2) (impl_Net_cost.f (k + 1) a0 a1 a2) := by
 intro a0 a1 a2 k
 have ih0 := impl_Net_cost.mono_l k
 unfold impl_Net_cost.f
 repeat' (with_reducible exact ih0 _ _ _ _ _ _)
set_option maxHeartbeats 8000000 in
set_option maxRecDepth 100000 in
theorem impl_Net_cost.calls (k : Nat) (ae : Int) (am : Option Addr) (an : Nat) (ab : List (S58)) (A1 : Option Addr) (c1 : Nat) (l1 : List Int) (r : Int) (w : World) (au : Kd.C k58 w am ab.length ab) (av : ab.length ≤ an) (hr1 : Kd.C (Kd.int .i64) w A1 l1.length l1) (hc1 : l1.length ≤ c1) (h : impl_Net_cost.f k ae ab l1 = some r) :
  Calls Try.prog 49 #[.agg #[.int .i64 ae, .slice am ab.length an], .slice A1 l1.length c1] w fun e w' => e = .returned (.int .i64 r) ∧ Below w.heap.size w w' := by
 have aL := Try.underlying25
 have aA := ak au
 have aH := ak av
 clear au av
 have HR1 := ak hr1
 have HC1 := ak hc1
 clear hr1 hc1
 have HB := ak (Below.refl w.heap.size w)
 have H : (impl_Net_cost.l0 k 0 l1 (l1.length : Int) 0 ae ab) = some r := h
 clear h
 have H' := ak H
 clear H
 go_enter Try.func49, Try.ntmps49
 go_wp2_with (((with_reducible refine gate_dst (N := 2) rfl ?_); refine qZh ?hg (N := 2) ?hd (cs := #[.int .i64 ae, .slice am ab.length an]) (t := 25) ?hr ?_; (case hd => rfl); (case hg => rfl); (case hr => (go_simp; done)); intro ao hg w3 hbox hb; have ac := ak (hbox); have aI := ak ((by rw [hg]; exact (qZc (bl HB)) : w.heap.size ≤ ao)); have ap := ak ((by rw [hg]; exact (qZc (bl HB)) : w.heap.size ≤ ao)); replace HB := ak (qZd (bl HB) hb); clear hb hbox hg))
 go_loopg [5, 10] k (fun kq v5 v10 w' => ∃ (ar : Int) (aa : Int), v5 = .int .i64 ar ∧ v10 = .int .i64 aa ∧ Aside0 (impl_Net_cost.l0 kq ar l1 (l1.length : Int) aa ae ab = some r) ∧ Aside0 (kq ≤ k) ∧ Aside0 (w'.heap[ao]? = some (.cells #[.int .i64 ae, (.slice am ab.length an)] 25 (0, 0))) ∧ Aside0 (Below w.heap.size w w'))
 case atStart => exact ⟨(0), (0), (by rfl), (by rfl), H', ⟨Nat.le_refl _⟩, ⟨bk ac⟩, ⟨bl1 HB ap⟩⟩
 clear H'
 try clear c1
 try clear p2
 obtain ⟨ar, aa, rfl, rfl, HA, HK1, ac, HB⟩ := hrel
 cases gk with
 | zero => exact absurd HA.out (by simp [impl_Net_cost.l0])
 | succ k1 =>
  have H := HA.out
  clear HA
  simp only [impl_Net_cost.l0] at H
  by_cases c4 : aa < (l1.length : Int)
  rotate_left
  ·rw [if_neg c4] at H
   have c4b0 : decide (aa < (l1.length : Int)) = false := decide_eq_false c4
   clear c4
   obtain rfl := Option.some.inj H
   go_wp2
   go_ret
   exact ⟨by rfl, bl1 HB ap⟩
  rw [if_pos c4] at H
  have c4b0 : decide (aa < (l1.length : Int)) = true := decide_eq_true c4
  clear c4
  by_cases c5 : 0 ≤ aa
  rotate_left
  ·rw [if_neg c5] at H
   exact absurd H (by simp)
  rw [if_pos c5] at H
  have c5b0 : decide (0 ≤ aa) = true := decide_eq_true c5
  clear c5
  by_cases c6 : aa < (l1.length : Int)
  rotate_left
  ·rw [if_neg c6] at H
   exact absurd H (by simp)
  rw [if_pos c6] at H
  have c6b0 : decide (aa < (l1.length : Int)) = true := decide_eq_true c6
  clear c6
  by_cases c7 : 0 ≤ (rd l1 aa)
  rotate_left
  ·rw [if_neg c7] at H
   exact absurd H (by simp)
  rw [if_pos c7] at H
  have c7b0 : decide (0 ≤ (rd l1 aa)) = true := decide_eq_true c7
  clear c7
  by_cases c8 : (rd l1 aa) < (ab.length : Int)
  rotate_left
  ·rw [if_neg c8] at H
   exact absurd H (by simp)
  rw [if_pos c8] at H
  have c8b0 : decide ((rd l1 aa) < (ab.length : Int)) = true := decide_eq_true c8
  clear c8
  have H' := ak H
  clear H
  have aw : 0 ≤ (aa : Int) := oT (by (with_reducible assumption))
  have ax : aa < (l1.length : Int) := oT (by (with_reducible assumption))
  obtain ⟨aJ, aB, af⟩ := Kd.at_int HR1.out aa aw ax
  cases aB
  replace af := hcb HB.out af
  replace aw := eq_true aw
  replace ax := eq_true ax
  have aC := bc wr ac 0 (.int .i64 ae) rfl
  have aD := bc wr ac 1 (.slice am ab.length an) rfl
  have aE := fz ac 0
  have aF := fz ac 1
  have ay : 0 ≤ ((rd l1 aa) : Int) := oT (by (with_reducible assumption))
  have az : (rd l1 aa) < (ab.length : Int) := oT (by (with_reducible assumption))
  obtain ⟨aK, aG, ag, ah, ai, aj, al⟩ := qJi aA.out (rd l1 aa) ay az
  cases aG
  replace ag := hcb HB.out ag
  replace ah := hcb HB.out ah
  replace ai := hcb HB.out ai
  replace aj := hcb HB.out aj
  replace al := hcb HB.out al
  replace ay := eq_true ay
  replace az := eq_true az
  go_wp2
  go_roundg k1
  case measure => have := HK1.out; omega
  case rel => exact ⟨(wrap64 (ar + ((qZa ab (rd l1 aa)).f2))), (wrap64 (aa + 1)), (by rfl), (by rfl), H', ⟨by have := HK1.out; omega⟩, ⟨bk ac⟩, ⟨bl1 HB ap⟩⟩
/-! ### impl_WalkCost: function 16 -/
def impl_WalkCost.f (k : Nat) (ac : Int) (ab : List (S58)) (l1 : List Int) : Option (Int) := (impl_WalkOk.f k ac ab l1).bind fun ah => (if ah = true then ((impl_Net_cost.f k ac ab l1).bind fun ai => (some ai)) else (some (-1)))
theorem impl_WalkCost.mono : ∀ a0 a1 a2 k, LeO (impl_WalkCost.f k a0 a1 a2) (impl_WalkCost.f (k + 1) a0 a1 a2) := by
 intro a0 a1 a2 k
 unfold impl_WalkCost.f
 repeat' first | (with_reducible exact impl_Net_cost.mono _ _ _ _) | (with_reducible exact impl_WalkOk.mono _ _ _ _) | (with_reducible exact LeO.refl _) | (with_reducible refine LeO.ite ?_ ?_) | (with_reducible refine LeO.bind ?_ (fun _ => ?_))
set_option maxHeartbeats 8000000 in
set_option maxRecDepth 100000 in
theorem impl_WalkCost.calls (k : Nat) (ac : Int) (ad : Option Addr) (ae : Nat) (ab : List (S58)) (A1 : Option Addr) (c1 : Nat) (l1 : List Int) (r : Int) (w : World) (am : Kd.C k58 w ad ab.length ab) (an : ab.length ≤ ae) (hr1 : Kd.C (Kd.int .i64) w A1 l1.length l1) (hc1 : l1.length ≤ c1) (h : impl_WalkCost.f k ac ab l1 = some r) :
  Calls Try.prog 16 #[.agg #[.int .i64 ac, .slice ad ab.length ae], .slice A1 l1.length c1] w fun e w' => e = .returned (.int .i64 r) ∧ Below w.heap.size w w' := by
 have aD := Try.underlying25
 have aj := ak am
 have al := ak an
 clear am an
 have HR1 := ak hr1
 have HC1 := ak hc1
 clear hr1 hc1
 have HB := ak (Below.refl w.heap.size w)
 have H : ((impl_WalkOk.f k ac ab l1).bind fun ah => (if ah = true then ((impl_Net_cost.f k ac ab l1).bind fun ai => (some ai)) else (some (-1)))) = some r := h
 clear h
 replace H := Option.bind_eq_some_iff.mp H
 obtain ⟨ah, A30, H⟩ := H
 have A3 := ak A30
 clear A30
 by_cases c4 : ah = true
 rotate_left
 ·replace c4 := Bool.eq_false_iff.mpr c4
  subst c4
  rw [if_neg (show ¬ (false = true) by decide)] at H
  obtain rfl := Option.some.inj H
  go_enter Try.func16, Try.ntmps16
  go_wp2_with (first | ((with_reducible refine gate_dst (N := 2) rfl ?_); refine qZh ?hg (N := 2) ?hd (cs := #[.int .i64 ac, .slice ad ab.length ae]) (t := 25) ?hr ?_; (case hd => rfl); (case hg => rfl); (case hr => (go_simp; done)); intro ag hg w11 hbox hb; have aa := ak (hbox); have ao := ak ((by rw [hg]; exact (qZc (bl HB)) : w.heap.size ≤ ag)); have af := ak ((by rw [hg]; exact (qZc (bl HB)) : w.heap.size ≤ ag)); replace HB := ak (qZd (bl HB) hb); clear hb hbox hg; have ap := bc w11 aa 0 (.int .i64 ac) rfl; have aq := bc w11 aa 1 (.slice ad ab.length ae) rfl; have ar := fz aa 0; have au := fz aa 1) | ((with_reducible refine gate_callee (f := 61) rfl ?_); refine qQi (some 7) rfl rfl Try.func61 (by kernel_rfl) rfl #[.agg #[.int .i64 ac, .slice ad ab.length ae], .slice A1 l1.length c1] rfl (by (try simp only [List.map_toArray, List.map_cons, List.map_nil]); rfl) ?_; (with_reducible refine (impl_WalkOk.calls k ac _ _ ab _ _ l1 false _ ?side1 ?side2 ?side3 ?side4 A3.out).mono ?_); (case side1 => repeat (exact (Kd.C_below aj.out HB.out))); (case side2 => exact al.out); (case side3 => repeat (exact (Kd.C_below HR1.out HB.out))); (case side4 => exact HC1.out); rintro e w13 ⟨rfl, hb⟩; refine ⟨_, rfl, ?_⟩; replace aa := ak (qZe (bk aa) hb); replace HB := ak (qZd (bl1 HB af) hb); (try clear hb); (try clear hb2); (try clear hk); (try clear hi)))
  go_ret
  exact ⟨by rfl, bl1 HB af⟩
 subst c4
 rw [if_pos rfl] at H
 replace H := Option.bind_eq_some_iff.mp H
 obtain ⟨ai, A50, H⟩ := H
 have A5 := ak A50
 clear A50
 obtain rfl := Option.some.inj H
 go_enter Try.func16, Try.ntmps16
 go_wp2_with (first | ((with_reducible refine gate_dst (N := 2) rfl ?_); refine qZh ?hg (N := 2) ?hd (cs := #[.int .i64 ac, .slice ad ab.length ae]) (t := 25) ?hr ?_; (case hd => rfl); (case hg => rfl); (case hr => (go_simp; done)); intro ag hg w6 hbox hb; have aa := ak (hbox); have ao := ak ((by rw [hg]; exact (qZc (bl HB)) : w.heap.size ≤ ag)); have af := ak ((by rw [hg]; exact (qZc (bl HB)) : w.heap.size ≤ ag)); replace HB := ak (qZd (bl HB) hb); clear hb hbox hg; have av := bc w6 aa 0 (.int .i64 ac) rfl; have aw := bc w6 aa 1 (.slice ad ab.length ae) rfl; have ax := fz aa 0; have ay := fz aa 1) | ((with_reducible refine gate_callee (f := 61) rfl ?_); refine qQi (some 7) rfl rfl Try.func61 (by kernel_rfl) rfl #[.agg #[.int .i64 ac, .slice ad ab.length ae], .slice A1 l1.length c1] rfl (by (try simp only [List.map_toArray, List.map_cons, List.map_nil]); rfl) ?_; (with_reducible refine (impl_WalkOk.calls k ac _ _ ab _ _ l1 true _ ?side1 ?side2 ?side3 ?side4 A3.out).mono ?_); (case side1 => repeat (exact (Kd.C_below aj.out HB.out))); (case side2 => exact al.out); (case side3 => repeat (exact (Kd.C_below HR1.out HB.out))); (case side4 => exact HC1.out); rintro e w8 ⟨rfl, hb⟩; refine ⟨_, rfl, ?_⟩; replace aa := ak (qZe (bk aa) hb); replace HB := ak (qZd (bl1 HB af) hb); (try clear hb); (try clear hb2); (try clear hk); (try clear hi); have az := bc w8 aa 0 (.int .i64 ac) rfl; have aA := bc w8 aa 1 (.slice ad ab.length ae) rfl; have aB := fz aa 0; have aC := fz aa 1) | ((with_reducible refine gate_callee (f := 49) rfl ?_); refine qQi (some 11) rfl rfl Try.func49 (by kernel_rfl) rfl #[.agg #[.int .i64 ac, .slice ad ab.length ae], .slice A1 l1.length c1] rfl (by (try simp only [List.map_toArray, List.map_cons, List.map_nil]); rfl) ?_; (with_reducible refine (impl_Net_cost.calls k ac _ _ ab _ _ l1 ai _ ?side1 ?side2 ?side3 ?side4 A5.out).mono ?_); (case side1 => repeat (exact (Kd.C_below aj.out HB.out))); (case side2 => exact al.out); (case side3 => repeat (exact (Kd.C_below HR1.out HB.out))); (case side4 => exact HC1.out); rintro e w10 ⟨rfl, hb⟩; refine ⟨_, rfl, ?_⟩; replace aa := ak (qZe (bk aa) hb); replace HB := ak (qZd (bl1 HB af) hb); (try clear hb); (try clear hb2); (try clear hk); (try clear hi)))
 go_ret
 exact ⟨by rfl, bl1 HB af⟩
/-! ### laws_wkAhead: function 30 -/
def laws_wkAhead.l0 : Nat → List Int → List Int → Int → Option (Bool)
 | 0, _, _, _ => none
 | k + 1, x1, x2, x9 => if x9 < (x1.length : Int) then (if 0 ≤ x9 then (if x9 < (x2.length : Int) then (if (rd x1 x9) = (rd x2 x9) then (laws_wkAhead.l0 k x1 x2 (wrap64 (x9 + 1))) else (some (decide ((rd x1 x9) < (rd x2 x9))))) else (none)) else (none)) else (some false)
def laws_wkAhead.f (k : Nat) (ad : Int) (ac : List (S58)) (l1 : List Int) (l2 : List Int) : Option (Bool) := (impl_WalkCost.f k ad ac l1).bind fun af => ((impl_WalkCost.f k ad ac l2).bind fun ag => (if af = ag then (if (l1.length : Int) = (l2.length : Int) then (laws_wkAhead.l0 k l1 l2 0) else (some (decide ((l1.length : Int) < (l2.length : Int))))) else (some (decide (af < ag)))))
theorem laws_wkAhead.mono_l : ∀ k, (∀ y0 y1 y2, LeO (laws_wkAhead.l0 k y0 y1 y2) (laws_wkAhead.l0 (k + 1) y0 y1 y2))
 | 0 => fun _ _ _ r h => by simp [laws_wkAhead.l0] at h
 | k + 1 => by
  have ih0 := laws_wkAhead.mono_l k
  ·intro y0 y1 y2
   unfold laws_wkAhead.l0
   repeat' first | (with_reducible exact ih0 _ _ _) | (with_reducible exact LeO.refl _) | (with_reducible refine LeO.ite ?_ ?_)
theorem laws_wkAhead.mono : ∀ a0 a1 a2 a3 k, LeO (laws_wkAhead.f k a0 a1 a2 a3) (laws_wkAhead.f (k + 1) a0 a1 a2 a3) := by
 intro a0 a1 a2 a3 k
 have ih0 := laws_wkAhead.mono_l k
 unfold laws_wkAhead.f
 repeat' first | (with_reducible exact ih0 _ _ _) | (with_reducible exact impl_WalkCost.mono _ _ _ _) | (with_reducible exact LeO.refl _) | (with_reducible refine LeO.ite ?_ ?_) | (with_reducible refine LeO.bind ?_ (fun _ => ?_))
set_option maxHeartbeats 8000000 in
set_option maxRecDepth 100000 in
theorem laws_wkAhead.calls (k : Nat) (ad : Int) (al : Option Addr) (am : Nat) (ac : List (S58)) (A1 : Option Addr) (c1 : Nat) (l1 : List Int) (A2 : Option Addr) (c2 : Nat) (l2 : List Int) (r : Bool) (w : World) (aB : Kd.C k58 w al ac.length ac) (aC : ac.length ≤ am) (hr1 : Kd.C (Kd.int .i64) w A1 l1.length l1) (hc1 : l1.length ≤ c1) (hr2 : Kd.C (Kd.int .i64) w A2 l2.length l2) (hc2 : l2.length ≤ c2) (h : laws_wkAhead.f k ad ac l1 l2 = some r) :
  Calls Try.prog 30 #[.agg #[.int .i64 ad, .slice al ac.length am], .slice A1 l1.length c1, .slice A2 l2.length c2] w fun e w' => e = .returned (.bool r) ∧ Below w.heap.size w w' := by
 have bo := Try.underlying25
 have an := ak aB
 have ao := ak aC
 clear aB aC
 have HR1 := ak hr1
 have HC1 := ak hc1
 clear hr1 hc1
 have HR2 := ak hr2
 have HC2 := ak hc2
 clear hr2 hc2
 have HB := ak (Below.refl w.heap.size w)
 have H : ((impl_WalkCost.f k ad ac l1).bind fun af => ((impl_WalkCost.f k ad ac l2).bind fun ag => (if af = ag then (if (l1.length : Int) = (l2.length : Int) then (laws_wkAhead.l0 k l1 l2 0) else (some (decide ((l1.length : Int) < (l2.length : Int))))) else (some (decide (af < ag)))))) = some r := h
 clear h
 replace H := Option.bind_eq_some_iff.mp H
 obtain ⟨af, A40, H⟩ := H
 have A4 := ak A40
 clear A40
 replace H := Option.bind_eq_some_iff.mp H
 obtain ⟨ag, A50, H⟩ := H
 have A5 := ak A50
 clear A50
 by_cases c6 : af = ag
 rotate_left
 ·rw [if_neg c6] at H
  have c6b0 : (af == ag) = false := beq_eq_false_iff_ne.mpr c6
  have c6b1 : (af != ag) = true := bne_iff_ne.mpr c6
  obtain rfl := Option.some.inj H
  go_enter Try.func30, Try.ntmps30
  go_wp2_with (first | ((with_reducible refine gate_dst (N := 3) rfl ?_); refine qZh ?hg (N := 3) ?hd (cs := #[.int .i64 ad, .slice al ac.length am]) (t := 25) ?hr ?_; (case hd => rfl); (case hg => rfl); (case hr => (go_simp; done)); intro ah hg w22 hbox hb; have aa := ak (hbox); have aD := ak ((by rw [hg]; exact (qZc (bl HB)) : w.heap.size ≤ ah)); have ae := ak ((by rw [hg]; exact (qZc (bl HB)) : w.heap.size ≤ ah)); replace HB := ak (qZd (bl HB) hb); clear hb hbox hg; have aT := bc w22 aa 0 (.int .i64 ad) rfl; have aU := bc w22 aa 1 (.slice al ac.length am) rfl; have aV := fz aa 0; have aW := fz aa 1) | (go_at_call 16; (with_reducible refine (impl_WalkCost.calls k ad _ _ ac _ _ l1 af _ ?side1 ?side2 ?side3 ?side4 A4.out).mono ?_); (case side1 => repeat (exact (Kd.C_below an.out HB.out))); (case side2 => exact ao.out); (case side3 => repeat (exact (Kd.C_below HR1.out HB.out))); (case side4 => exact HC1.out); rintro e w24 ⟨rfl, hb⟩; have n0_ := ak (qZe (bk aa) hb); have n1_ := ak (qZd (bl1 HB ae) hb); clear aa; clear HB; have aa := n0_; have HB := n1_; clear n0_ n1_; (try clear hb); (try clear hb2); (try clear hk); (try clear hi); have aX := bc w24 aa 0 (.int .i64 ad) rfl; have aY := bc w24 aa 1 (.slice al ac.length am) rfl; have aZ := fz aa 0; have ba := fz aa 1) | (go_at_call 16; (with_reducible refine (impl_WalkCost.calls k ad _ _ ac _ _ l2 ag _ ?side1 ?side2 ?side3 ?side4 A5.out).mono ?_); (case side1 => repeat (exact (Kd.C_below an.out HB.out))); (case side2 => exact ao.out); (case side3 => repeat (exact (Kd.C_below HR2.out HB.out))); (case side4 => exact HC2.out); rintro e w26 ⟨rfl, hb⟩; have n0_ := ak (qZe (bk aa) hb); have n1_ := ak (qZd (bl1 HB ae) hb); clear aa; clear HB; have aa := n0_; have HB := n1_; clear n0_ n1_; (try clear hb); (try clear hb2); (try clear hk); (try clear hi)) | go_step)
  go_ret
  exact ⟨by rfl, bl1 HB ae⟩
 rw [if_pos c6] at H
 have c6b0 : (af == ag) = true := beq_iff_eq.mpr c6
 have c6b1 : (af != ag) = false := bne_eq_false_iff_eq.mpr c6
 clear c6
 by_cases c7 : (l1.length : Int) = (l2.length : Int)
 rotate_left
 ·rw [if_neg c7] at H
  have c7b0 : ((l1.length : Int) == (l2.length : Int)) = false := beq_eq_false_iff_ne.mpr c7
  have c7b1 : ((l1.length : Int) != (l2.length : Int)) = true := bne_iff_ne.mpr c7
  have c7b2 : (l1.length == l2.length) = false := by (simp at c7 ⊢; omega)
  obtain rfl := Option.some.inj H
  go_enter Try.func30, Try.ntmps30
  go_wp2_with (first | ((with_reducible refine gate_dst (N := 3) rfl ?_); refine qZh ?hg (N := 3) ?hd (cs := #[.int .i64 ad, .slice al ac.length am]) (t := 25) ?hr ?_; (case hd => rfl); (case hg => rfl); (case hr => (go_simp; done)); intro ah hg w17 hbox hb; have aa := ak (hbox); have aD := ak ((by rw [hg]; exact (qZc (bl HB)) : w.heap.size ≤ ah)); have ae := ak ((by rw [hg]; exact (qZc (bl HB)) : w.heap.size ≤ ah)); replace HB := ak (qZd (bl HB) hb); clear hb hbox hg; have bb := bc w17 aa 0 (.int .i64 ad) rfl; have bd := bc w17 aa 1 (.slice al ac.length am) rfl; have be := fz aa 0; have bf := fz aa 1) | (go_at_call 16; (with_reducible refine (impl_WalkCost.calls k ad _ _ ac _ _ l1 af _ ?side1 ?side2 ?side3 ?side4 A4.out).mono ?_); (case side1 => repeat (exact (Kd.C_below an.out HB.out))); (case side2 => exact ao.out); (case side3 => repeat (exact (Kd.C_below HR1.out HB.out))); (case side4 => exact HC1.out); rintro e w19 ⟨rfl, hb⟩; have n0_ := ak (qZe (bk aa) hb); have n1_ := ak (qZd (bl1 HB ae) hb); clear aa; clear HB; have aa := n0_; have HB := n1_; clear n0_ n1_; (try clear hb); (try clear hb2); (try clear hk); (try clear hi); have bg := bc w19 aa 0 (.int .i64 ad) rfl; have bh := bc w19 aa 1 (.slice al ac.length am) rfl; have bi := fz aa 0; have bj := fz aa 1) | (go_at_call 16; (with_reducible refine (impl_WalkCost.calls k ad _ _ ac _ _ l2 ag _ ?side1 ?side2 ?side3 ?side4 A5.out).mono ?_); (case side1 => repeat (exact (Kd.C_below an.out HB.out))); (case side2 => exact ao.out); (case side3 => repeat (exact (Kd.C_below HR2.out HB.out))); (case side4 => exact HC2.out); rintro e w21 ⟨rfl, hb⟩; have n0_ := ak (qZe (bk aa) hb); have n1_ := ak (qZd (bl1 HB ae) hb); clear aa; clear HB; have aa := n0_; have HB := n1_; clear n0_ n1_; (try clear hb); (try clear hb2); (try clear hk); (try clear hi)) | go_step)
  go_ret
  exact ⟨by (simp [qXp, qVb] <;> rfl), bl1 HB ae⟩
 rw [if_pos c7] at H
 have c7b0 : ((l1.length : Int) == (l2.length : Int)) = true := beq_iff_eq.mpr c7
 have c7b1 : ((l1.length : Int) != (l2.length : Int)) = false := bne_eq_false_iff_eq.mpr c7
 have c7b2 : (l1.length == l2.length) = true := by (simp at c7 ⊢; omega)
 clear c7
 have H' := ak H
 clear H
 go_enter Try.func30, Try.ntmps30
 go_wp2_with (first | ((with_reducible refine gate_dst (N := 3) rfl ?_); refine qZh ?hg (N := 3) ?hd (cs := #[.int .i64 ad, .slice al ac.length am]) (t := 25) ?hr ?_; (case hd => rfl); (case hg => rfl); (case hr => (go_simp; done)); intro ah hg w8 hbox hb; have aa := ak (hbox); have aD := ak ((by rw [hg]; exact (qZc (bl HB)) : w.heap.size ≤ ah)); have ae := ak ((by rw [hg]; exact (qZc (bl HB)) : w.heap.size ≤ ah)); replace HB := ak (qZd (bl HB) hb); clear hb hbox hg; have aG := bc w8 aa 0 (.int .i64 ad) rfl; have aH := bc w8 aa 1 (.slice al ac.length am) rfl; have aI := fz aa 0; have aJ := fz aa 1) | (go_at_call 16; (with_reducible refine (impl_WalkCost.calls k ad _ _ ac _ _ l1 af _ ?side1 ?side2 ?side3 ?side4 A4.out).mono ?_); (case side1 => repeat (exact (Kd.C_below an.out HB.out))); (case side2 => exact ao.out); (case side3 => repeat (exact (Kd.C_below HR1.out HB.out))); (case side4 => exact HC1.out); rintro e w10 ⟨rfl, hb⟩; have n0_ := ak (qZe (bk aa) hb); have n1_ := ak (qZd (bl1 HB ae) hb); clear aa; clear HB; have aa := n0_; have HB := n1_; clear n0_ n1_; (try clear hb); (try clear hb2); (try clear hk); (try clear hi); have ax := bc w10 aa 0 (.int .i64 ad) rfl; have ay := bc w10 aa 1 (.slice al ac.length am) rfl; have az := fz aa 0; have aA := fz aa 1) | (go_at_call 16; (with_reducible refine (impl_WalkCost.calls k ad _ _ ac _ _ l2 ag _ ?side1 ?side2 ?side3 ?side4 A5.out).mono ?_); (case side1 => repeat (exact (Kd.C_below an.out HB.out))); (case side2 => exact ao.out); (case side3 => repeat (exact (Kd.C_below HR2.out HB.out))); (case side4 => exact HC2.out); rintro e w12 ⟨rfl, hb⟩; have n0_ := ak (qZe (bk aa) hb); have n1_ := ak (qZd (bl1 HB ae) hb); clear aa; clear HB; have aa := n0_; have HB := n1_; clear n0_ n1_; (try clear hb); (try clear hb2); (try clear hk); (try clear hi)) | go_step)
 go_loopg [9] k (fun kq v9 w' => ∃ (ab : Int), v9 = .int .i64 ab ∧ Aside0 (laws_wkAhead.l0 kq l1 l2 ab = some r) ∧ Aside0 (kq ≤ k) ∧ Aside0 (w'.heap[ah]? = some (.cells #[.int .i64 ad, (.slice al ac.length am)] 25 (0, 0))) ∧ Aside0 (Below w.heap.size w w'))
 case atStart => exact ⟨(0), (by rfl), H', ⟨Nat.le_refl _⟩, ⟨bk aa⟩, ⟨bl1 HB ae⟩⟩
 clear H'
 try clear c1
 try clear c2
 try clear p2
 try clear c3
 try clear c6
 try clear c6b0
 try clear c6b1
 try clear c7
 try clear c7b0
 try clear c7b1
 try clear c7b2
 try clear ax
 try clear ay
 try clear aG
 try clear aH
 try clear az
 try clear aA
 try clear aI
 try clear aJ
 obtain ⟨ab, rfl, HA, HK1, aa, HB⟩ := hrel
 cases gk with
 | zero => exact absurd HA.out (by simp [laws_wkAhead.l0])
 | succ k1 =>
  have H := HA.out
  clear HA
  simp only [laws_wkAhead.l0] at H
  by_cases c13 : ab < (l1.length : Int)
  rotate_left
  ·rw [if_neg c13] at H
   have c13b0 : decide (ab < (l1.length : Int)) = false := decide_eq_false c13
   clear c13
   obtain rfl := Option.some.inj H
   go_wp2
   repeat (go_quiet (fail); try go_wp2)
   go_ret
   exact ⟨by rfl, bl1 HB ae⟩
  rw [if_pos c13] at H
  have c13b0 : decide (ab < (l1.length : Int)) = true := decide_eq_true c13
  clear c13
  by_cases c14 : 0 ≤ ab
  rotate_left
  ·rw [if_neg c14] at H
   exact absurd H (by simp)
  rw [if_pos c14] at H
  have c14b0 : decide (0 ≤ ab) = true := decide_eq_true c14
  clear c14
  by_cases c15 : ab < (l2.length : Int)
  rotate_left
  ·rw [if_neg c15] at H
   exact absurd H (by simp)
  rw [if_pos c15] at H
  have c15b0 : decide (ab < (l2.length : Int)) = true := decide_eq_true c15
  clear c15
  by_cases c16 : (rd l1 ab) = (rd l2 ab)
  ·rw [if_pos c16] at H
   have c16b0 : ((rd l1 ab) == (rd l2 ab)) = true := beq_iff_eq.mpr c16
   have c16b1 : ((rd l1 ab) != (rd l2 ab)) = false := bne_eq_false_iff_eq.mpr c16
   clear c16
   have H' := ak H
   clear H
   have ap : 0 ≤ (ab : Int) := oT (by (with_reducible assumption))
   have aq : ab < (l1.length : Int) := oT (by (with_reducible assumption))
   obtain ⟨aE, aK, ai⟩ := Kd.at_int HR1.out ab ap aq
   cases aK
   replace ai := hcb HB.out ai
   replace ap := eq_true ap
   replace aq := eq_true aq
   have ar : 0 ≤ (ab : Int) := oT (by (with_reducible assumption))
   have au : ab < (l2.length : Int) := oT (by (with_reducible assumption))
   obtain ⟨aF, aL, aj⟩ := Kd.at_int HR2.out ab ar au
   cases aL
   replace aj := hcb HB.out aj
   replace ar := eq_true ar
   replace au := eq_true au
   go_wp2
   repeat (go_quiet (fail); try go_wp2)
   go_roundg k1
   case measure => have := HK1.out; omega
   case rel => exact ⟨(wrap64 (ab + 1)), (by rfl), H', ⟨by have := HK1.out; omega⟩, ⟨bk aa⟩, ⟨bl1 HB ae⟩⟩
  rw [if_neg c16] at H
  have c16b0 : ((rd l1 ab) == (rd l2 ab)) = false := beq_eq_false_iff_ne.mpr c16
  have c16b1 : ((rd l1 ab) != (rd l2 ab)) = true := bne_iff_ne.mpr c16
  obtain rfl := Option.some.inj H
  have ap : 0 ≤ (ab : Int) := oT (by (with_reducible assumption))
  have aq : ab < (l1.length : Int) := oT (by (with_reducible assumption))
  obtain ⟨aE, aK, ai⟩ := Kd.at_int HR1.out ab ap aq
  cases aK
  replace ai := hcb HB.out ai
  replace ap := eq_true ap
  replace aq := eq_true aq
  have ar : 0 ≤ (ab : Int) := oT (by (with_reducible assumption))
  have au : ab < (l2.length : Int) := oT (by (with_reducible assumption))
  obtain ⟨aF, aL, aj⟩ := Kd.at_int HR2.out ab ar au
  cases aL
  replace aj := hcb HB.out aj
  replace ar := eq_true ar
  replace au := eq_true au
  have aN : 0 ≤ (ab : Int) := oT (by (with_reducible assumption))
  have aO : ab < (l1.length : Int) := oT (by (with_reducible assumption))
  obtain ⟨aR, bm, av⟩ := Kd.at_int HR1.out ab aN aO
  obtain rfl : aE = aR := (by injection bm)
  replace av := hcb HB.out av
  replace aN := eq_true aN
  replace aO := eq_true aO
  have aP : 0 ≤ (ab : Int) := oT (by (with_reducible assumption))
  have aQ : ab < (l2.length : Int) := oT (by (with_reducible assumption))
  obtain ⟨aS, bn, aw⟩ := Kd.at_int HR2.out ab aP aQ
  obtain rfl : aF = aS := (by injection bn)
  replace aw := hcb HB.out aw
  replace aP := eq_true aP
  replace aQ := eq_true aQ
  go_wp2
  repeat (go_quiet (fail); try go_wp2)
  go_ret
  exact ⟨by rfl, bl1 HB ae⟩
end Go.Proofs.Ytlgolgfcolnddaa.F
