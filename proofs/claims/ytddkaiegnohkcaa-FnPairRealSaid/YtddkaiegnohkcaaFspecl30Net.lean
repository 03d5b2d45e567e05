-- Printed by wip/px/px.py of this claim's repository (the kit's printer, extended there). Lean checks it.
import Derived.Test.YtddkaiegnohkcaaFKinds
import Derived.Test.YtddkaiegnohkcaaFspecl30Open
import Derived.Test.YtddkaiegnohkcaaFspecl30Rdpick
import Derived.Test.YtddkaiegnohkcaaFspecl30Rdone
namespace Go.Proofs.Ytddkaiegnohkcaa.F
open Go.RowKit Go.Proofs.YtddkaiegnohkcaaW.PrintWords Go.Proofs.YtddkaiegnohkcaaW.PrintLast Go.Proofs.YtddkaiegnohkcaaW.PrintMore
attribute [local go_sem] max2_int min2_int max_two min_two max_three min_three max_four min_four   -- for this text's walks alone
set_option linter.unusedVariables false
set_option linter.unusedSimpArgs false

/-! ### spec_l30Net: function 66 -/
def spec_l30Net.l0 : Nat → Int → List Int → Int → Int → List (S33) → Option (Int × (List (S33)) × Int)
 | 0, _, _, _, _, _ => none
 | k + 1, x4, x1000, x1001, x218000, x218001 => if x4 > 0 then ((spec_l30Rd_pick.f k x1000 x1001 x218000).bind fun bt220 => ((spec_l30Rd_pick.f k x1000 bt220.2 x218000).bind fun bt222 => ((spec_l30Rd_pick.f k x1000 bt222.2 100).bind fun bt224 => ((spec_l30Rd_one.f k x1000 bt224.2 (([0, 1, 2, 5, 9, bt224.1] : List Int))).bind fun bt229 => ((spec_l30Rd_one.f k x1000 bt229.2 (([0, 0, 3, 8] : List Int))).bind fun bt234 => ((spec_l30Rd_pick.f k x1000 bt234.2 10).bind fun bt236 => (if bt220.1 = bt222.1 then (if x218000 = 0 then (none) else (if x218001.length < 3518437208883 then (spec_l30Net.l0 k (wrap64 (x4 - 1)) x1000 bt236.2 x218000 (x218001 ++ [(⟨bt220.1, Int.tmod (wrap64 (bt222.1 + 1)) x218000, bt229.1, bt234.1, bt236.1⟩ : S33)])) else (none))) else (if x218001.length < 3518437208883 then (spec_l30Net.l0 k (wrap64 (x4 - 1)) x1000 bt236.2 x218000 (x218001 ++ [(⟨bt220.1, bt222.1, bt229.1, bt234.1, bt236.1⟩ : S33)])) else (none))))))))) else (some (x218000, x218001, x1001))
def spec_l30Net.f (k : Nat) (s0_0 : List Int) (s0_1 : Int) : Option (Int × (List (S33)) × Int) := (spec_l30Rd_pick.f k s0_0 s0_1 5).bind fun bt215 => ((spec_l30Rd_pick.f k s0_0 bt215.2 14).bind fun bt218 => (spec_l30Net.l0 k bt218.1 s0_0 bt218.2 (wrap64 (2 + bt215.1)) ([] : List (S33))))
theorem spec_l30Net.mono_l : ∀ k, (∀ y0 y1 y2 y3 y4, LeO (spec_l30Net.l0 k y0 y1 y2 y3 y4) (spec_l30Net.l0 (k + 1) y0 y1 y2 y3 y4))
 | 0 => fun _ _ _ _ _ r h => by simp [spec_l30Net.l0] at h
 | k + 1 => by
  have ih0 := spec_l30Net.mono_l k
  ·intro y0 y1 y2 y3 y4
   unfold spec_l30Net.l0
   repeat' first
   | (with_reducible exact ih0 _ _ _ _ _)
   | (with_reducible exact spec_l30Rd_one.mono _ _ _ _)
   | (with_reducible exact spec_l30Rd_pick.mono _ _ _ _)
   | (with_reducible exact LeO.refl _)
   | (with_reducible exact LeO.none _)
   | (with_reducible refine LeO.ite ?_ ?_)
   | (with_reducible refine LeO.bind ?_ (fun _ => ?_))
   | exact ih0 _ _ _ _ _
   | exact spec_l30Rd_one.mono _ _ _ _
   | exact spec_l30Rd_pick.mono _ _ _ _
   | exact LeO.none _
   | refine LeO.ite ?_ ?_
   | refine LeO.bind ?_ (fun _ => ?_)
theorem spec_l30Net.mono : ∀ a0 a1 k, LeO (spec_l30Net.f k a0 a1) (spec_l30Net.f (k + 1) a0 a1) := by
 intro a0 a1 k
 have ih0 := spec_l30Net.mono_l k
 unfold spec_l30Net.f
 repeat' first
   | (with_reducible exact ih0 _ _ _ _ _)
   | (with_reducible exact spec_l30Rd_one.mono _ _ _ _)
   | (with_reducible exact spec_l30Rd_pick.mono _ _ _ _)
   | (with_reducible exact LeO.refl _)
   | (with_reducible exact LeO.none _)
   | (with_reducible refine LeO.ite ?_ ?_)
   | (with_reducible refine LeO.bind ?_ (fun _ => ?_))
   | exact ih0 _ _ _ _ _
   | exact spec_l30Rd_one.mono _ _ _ _
   | exact spec_l30Rd_pick.mono _ _ _ _
   | exact LeO.none _
   | refine LeO.ite ?_ ?_
   | refine LeO.bind ?_ (fun _ => ?_)
def spec_l30Net.T5 : Bool × List (List Nat × List Nat) := (true, [([], []), ([], []), ([1], [1]), ([0, 2], [0, 2]), ([], []), ([], []), ([5], [5]), ([4, 6, 3], [4, 6]), ([], []), ([], []), ([9, 7], [9]), ([10], [10]), ([8, 11, 10], [8, 11]), ([], []), ([], []), ([13, 14, 12], [13, 14]), ([], []), ([16, 15], [16]), ([3, 7, 12, 15, 17], [3, 7, 12, 15, 17]), ([], []), ([19, 18, 17, 0, 1, 2, 3, 4, 5, 6, 7, 8, 9, 10, 11, 12, 13, 14, 15, 16, 17, 18, 19], [18, 19])])
def spec_l30Net.B5 : List Nat := [0, 0, 2, 7, 0, 0, 32, 127, 0, 0, 767, 1791, 4095, 0, 0, 32767, 0, 131071, 262143, 0, 1048575]
theorem spec_l30Net.tab5 : rtab .any (opsOf Try.f66 5) = spec_l30Net.T5 := by kernel_rfl
theorem spec_l30Net.bits5 : waitsOk spec_l30Net.T5.2 spec_l30Net.B5 = true := by kernel_rfl
theorem spec_l30Net.fix_world {P : Program} {ops : Array Oper} {Q : Exit → Act → World → Prop} {l : List Oper} {a : Act} {W : World} {g : Nat} {o : Obj} (hb : W.heap[g]? = some o) (h : ∀ W', W = W' → W'.heap[g]? = some o → wpList P ops Q l a W') : wpList P ops Q l a W := h W rfl hb
/-- What the region of spec.l30Net that draws an arc makes, in whatever order. -/
def spec_l30Net.Lr (t116 t118 t120 t125 t130 t132 : Int) (v27 v30 : Value) (gb : Nat) (s : Nat) (b c : Bool) : List (Tmp × Value) :=
 ([(19, .int .i64 t116), (23, .int .i64 t118), (26, .int .i64 t120), (27, v27), (28, .int .i64 t125), (31, .int .i64 t130), (33, .int .i64 t132), (34, .agg #[.int .i64 t116, .int .i64 t118, .int .i64 t125, .int .i64 t130, .int .i64 t132])] : List (Tmp × Value)).take s ++ ((if b then [(30, v30)] else []) ++ (if c then [(5, .pointer (some ⟨gb, 0, none⟩))] else []))
set_option maxHeartbeats 4000000 in
set_option maxRecDepth 100000 in
theorem spec_l30Net.reg5 {Q : Exit → Act → World → Prop} {S : World → Prop} {FS : Option Nat → World → Prop} (k1 : Nat) {w0 w w1 : World} {g : Nat} {s0 : List Int} {p0 W t116 t117 t118 t119 t120 t121 t125 t126 t130 t131 t132 t133 : Int}
  (a0 : Act) (hsz : a0.tmps.size = 54)
  (h16 : a0.eval (.tmp 16) = .pointer (some ⟨g, 0, none⟩)) (h18 : a0.eval (.tmp 18) = .int .i64 W) (h20 : a0.eval (.tmp 20) = .pointer (some ⟨g, 0, none⟩)) (h22 : a0.eval (.tmp 22) = .int .i64 W) (h24 : a0.eval (.tmp 24) = .pointer (some ⟨g, 0, none⟩)) (h25 : a0.eval (.tmp 25) = .pointer (some ⟨g, 0, none⟩)) (h29 : a0.eval (.tmp 29) = .pointer (some ⟨g, 0, none⟩)) (h32 : a0.eval (.tmp 32) = .pointer (some ⟨g, 0, none⟩))
  (hS : ∀ o w', FS o w' → S w') (hF : ∀ o w1 w2 p, IsS89 w0 w1 g s0 p → KeepBut w1 w2 g none → FS o w1 → FS o w2) (hE : ∀ w1, FS none w1 → FS (some w1.heap.size) w1)
  (hI : IsS89 w0 w1 g s0 p0) (hK : KeepBut w w1 g none) (hB : Below w0.heap.size w0 w1) (hFS : FS none w1)
  (A12 : spec_l30Rd_pick.f k1 s0 p0 W = some (t116, t117)) (A13 : spec_l30Rd_pick.f k1 s0 t117 W = some (t118, t119)) (A14 : spec_l30Rd_pick.f k1 s0 t119 100 = some (t120, t121))
  (A15 : spec_l30Rd_one.f k1 s0 t121 [0, 1, 2, 5, 9, t120] = some (t125, t126)) (A16 : spec_l30Rd_one.f k1 s0 t126 [0, 0, 3, 8] = some (t130, t131)) (A17 : spec_l30Rd_pick.f k1 s0 t131 10 = some (t132, t133))
  (hJ : ∀ (v27 v30 : Value) (gb : Nat) (w' : World), FS (some gb) w' → w'.heap[gb]? = some (.cells #[.int .i64 0, .int .i64 0, .int .i64 0, .int .i64 0, .int .i64 0] 33 (0, 0)) → w.heap.size ≤ gb → gb ≠ g → IsS89 w0 w' g s0 t133 → KeepBut w w' g none → Below w0.heap.size w0 w' →
   wpAnyLast Try.prog .any (opsOf Try.f66 5) Q S [] 1 (ms 21 1048575) (putAll a0 [(19, .int .i64 t116), (23, .int .i64 t118), (26, .int .i64 t120), (27, v27), (28, .int .i64 t125), (31, .int .i64 t130), (33, .int .i64 t132), (34, .agg #[.int .i64 t116, .int .i64 t118, .int .i64 t125, .int .i64 t130, .int .i64 t132]), (30, v30), (5, .pointer (some ⟨gb, 0, none⟩))]) w') :
  wpAnyLast Try.prog .any (opsOf Try.f66 5) Q S [] 11 (ms 21 74615) a0 w1 := by
 have mv : ∀ {s : Nat} {b c : Bool} {v27 v30 : Value} {gb : Nat} {wa wb : World} {p : Int}, IsS89 w0 wa g s0 p → KeepBut wa wb g none →
   (FS (if c then some gb else none) wa ∧ (s = 4 → Kd.R (Kd.int .i64) 3 wa w.heap.size (fun _ => True) v27 [0, 1, 2, 5, 9, t120]) ∧ (b = true → Kd.R (Kd.int .i64) 3 wa w.heap.size (fun _ => True) v30 [0, 0, 3, 8]) ∧ (c = true → wa.heap[gb]? = some (.cells #[.int .i64 0, .int .i64 0, .int .i64 0, .int .i64 0, .int .i64 0] 33 (0, 0)) ∧ w.heap.size ≤ gb ∧ gb ≠ g)) →
   (FS (if c then some gb else none) wb ∧ (s = 4 → Kd.R (Kd.int .i64) 3 wb w.heap.size (fun _ => True) v27 [0, 1, 2, 5, 9, t120]) ∧ (b = true → Kd.R (Kd.int .i64) 3 wb w.heap.size (fun _ => True) v30 [0, 0, 3, 8]) ∧ (c = true → wb.heap[gb]? = some (.cells #[.int .i64 0, .int .i64 0, .int .i64 0, .int .i64 0, .int .i64 0] 33 (0, 0)) ∧ w.heap.size ≤ gb ∧ gb ≠ g)) := by
  intro s b c v27 v30 gb wa wb p hi hk ⟨h1, h2, h3, h4⟩
  exact ⟨hF _ _ _ _ hi hk h1, fun e => Kd.R_mono (Kd.R_keep (IsS89.apart hi (h2 e) (by decide)) hk (fun _ h => h.2)) (fun _ h => h.1), fun e => Kd.R_mono (Kd.R_keep (IsS89.apart hi (h3 e) (by decide)) hk (fun _ h => h.2)) (fun _ h => h.1), fun e => ⟨KeepBut.blk hk (h4 e).1 (h4 e).2.2 (by simp), (h4 e).2⟩⟩
 refine chain_ spec_l30Net.tab5 21 1 74615 14 19 5 [3, 7, 10, 11, 12, 15, 17, 18] (by kernel_rfl)
  (fun s b c a w' => ∃ (v27 v30 : Value) (gb : Nat), a = putAll a0 (spec_l30Net.Lr t116 t118 t120 t125 t130 t132 v27 v30 gb s b c) ∧ IsS89 w0 w' g s0 (([p0, t117, t119, t121, t121, t126, t131, t133, t133] : List Int).getD s 0) ∧ KeepBut w w' g none ∧ Below w0.heap.size w0 w' ∧
   FS (if c then some gb else none) w' ∧ (s = 4 → Kd.R (Kd.int .i64) 3 w' w.heap.size (fun _ => True) v27 [0, 1, 2, 5, 9, t120]) ∧ (b = true → Kd.R (Kd.int .i64) 3 w' w.heap.size (fun _ => True) v30 [0, 0, 3, 8]) ∧ (c = true → w'.heap[gb]? = some (.cells #[.int .i64 0, .int .i64 0, .int .i64 0, .int .i64 0, .int .i64 0] 33 (0, 0)) ∧ w.heap.size ≤ gb ∧ gb ≠ g))
  (fun s b c a w' h => by obtain ⟨_, _, gb, _, _, _, _, h, _⟩ := h; exact hS _ _ h) ?_ ?_ ?_ ?_ ⟨.bool true, .bool true, 0, rfl, hI, hK, hB, hFS, (fun h => absurd h (by decide)), (fun h => absurd h (by decide)), (fun h => absurd h (by decide))⟩
 ·rintro s b c a wa hs hb ⟨v27, v30, gb, ha, hi, hk, hbl, ht⟩
  rcases s with _ | _ | _ | _ | _ | _ | _ | _ | s
  ·skip
   have e16 : a.eval (.tmp 16) = .pointer (some ⟨g, 0, none⟩) := by rw [ha]; exact (eval_skip _ _ _ (by cases b <;> cases c <;> rfl)).trans h16
   have e18 : a.eval (.tmp 18) = .int .i64 W := by rw [ha]; exact (eval_skip _ _ _ (by cases b <;> cases c <;> rfl)).trans h18
   refine wpOp_step (i := 3) rfl (fun K hKc => ?_)
   refine goes_ Try.func67 (by kernel_rfl) rfl #[.pointer (some ⟨g, 0, none⟩), .int .i64 W] rfl rfl rfl (by simp only [List.map_toArray, List.map_cons, List.map_nil, e16, e18] <;> rfl) ?_
   refine (spec_l30Rd_pick.calls k1 g s0 p0 W t116 t117 w0 _ hi hbl A12).mono ?_
   rintro e wb ⟨rfl, hi2, hb2, hk2⟩
   obtain ⟨m1, m2, m3, m4⟩ := mv hi hk2 ht
   refine ⟨_, rfl, hKc _ _ ⟨v27, v30, gb, ?_, hi2, hk.trans hk2 (.inl rfl), hb2, m1, fun h => absurd h (by decide), m3, m4⟩⟩
   rw [ha]; refine (put_mid _ _ _ _ _ (by cases b <;> cases c <;> rfl)).trans (congrArg _ ?_); cases b <;> cases c <;> rfl
  ·skip
   have e20 : a.eval (.tmp 20) = .pointer (some ⟨g, 0, none⟩) := by rw [ha]; exact (eval_skip _ _ _ (by cases b <;> cases c <;> rfl)).trans h20
   have e22 : a.eval (.tmp 22) = .int .i64 W := by rw [ha]; exact (eval_skip _ _ _ (by cases b <;> cases c <;> rfl)).trans h22
   refine wpOp_step (i := 7) rfl (fun K hKc => ?_)
   refine goes_ Try.func67 (by kernel_rfl) rfl #[.pointer (some ⟨g, 0, none⟩), .int .i64 W] rfl rfl rfl (by simp only [List.map_toArray, List.map_cons, List.map_nil, e20, e22] <;> rfl) ?_
   refine (spec_l30Rd_pick.calls k1 g s0 t117 W t118 t119 w0 _ hi hbl A13).mono ?_
   rintro e wb ⟨rfl, hi2, hb2, hk2⟩
   obtain ⟨m1, m2, m3, m4⟩ := mv hi hk2 ht
   refine ⟨_, rfl, hKc _ _ ⟨v27, v30, gb, ?_, hi2, hk.trans hk2 (.inl rfl), hb2, m1, fun h => absurd h (by decide), m3, m4⟩⟩
   rw [ha]; refine (put_mid _ _ _ _ _ (by cases b <;> cases c <;> rfl)).trans (congrArg _ ?_); cases b <;> cases c <;> rfl
  ·skip
   have e25 : a.eval (.tmp 25) = .pointer (some ⟨g, 0, none⟩) := by rw [ha]; exact (eval_skip _ _ _ (by cases b <;> cases c <;> rfl)).trans h25
   refine wpOp_step (i := 10) rfl (fun K hKc => ?_)
   refine goes_ Try.func67 (by kernel_rfl) rfl #[.pointer (some ⟨g, 0, none⟩), .int .i64 100] rfl rfl rfl (by simp only [List.map_toArray, List.map_cons, List.map_nil, e25] <;> rfl) ?_
   refine (spec_l30Rd_pick.calls k1 g s0 t119 100 t120 t121 w0 _ hi hbl A14).mono ?_
   rintro e wb ⟨rfl, hi2, hb2, hk2⟩
   obtain ⟨m1, m2, m3, m4⟩ := mv hi hk2 ht
   refine ⟨_, rfl, hKc _ _ ⟨v27, v30, gb, ?_, hi2, hk.trans hk2 (.inl rfl), hb2, m1, fun h => absurd h (by decide), m3, m4⟩⟩
   rw [ha]; refine (put_mid _ _ _ _ _ (by cases b <;> cases c <;> rfl)).trans (congrArg _ ?_); cases b <;> cases c <;> rfl
  ·skip
   have e26 : a.eval (.tmp 26) = .int .i64 t120 := by rw [ha]; exact eval_here a0 [(19, .int .i64 t116), (23, .int .i64 t118)] _ 26 _ (by cases b <;> cases c <;> rfl) (by rw [hsz]; decide)
   refine wpOp_step (i := 11) (o := { dst := some 27, op := Go.Op.buildSlice 26 6 #[(0, Go.Operand.const (Go.Value.int Go.IntKind.i64 0)), (1, Go.Operand.const (Go.Value.int Go.IntKind.i64 1)), (2, Go.Operand.const (Go.Value.int Go.IntKind.i64 2)), (3, Go.Operand.const (Go.Value.int Go.IntKind.i64 5)), (4, Go.Operand.const (Go.Value.int Go.IntKind.i64 9)), (5, Go.Operand.tmp 26)], type := 26, pos := "l30_draw.go:60", after := #[{ on := 10, ground := Go.Ground.data }], guard := none }) rfl (fun K hKc => ?_)
   refine Kd.R_lit_step (Kd.int .i64) _ 3 rfl (N := 27) rfl (xs := ([0, 1, 2, 5, 9, t120] : List Int)) (inner := [.int .i64 0, .int .i64 1, .int .i64 2, .int .i64 5, .int .i64 9, .int .i64 t120]) (ok := fun _ => True) (okp := fun _ => True) ?hr ?hp (fun _ hk => hk) trivial (Below.refl _ _) (Nat.le_refl _) (by simp) ?_
   case hr => simp only [Act.eval, Array.getD_eq_getD_getElem?] at e26; clear ha; first | (go_simp; done) | (go_simp; rfl)
   case hp => exact (Reps.one (show Kd.M (Kd.int .i64) _ _ _ 0 [.int .i64 0] from rfl) (Reps.one (show Kd.M (Kd.int .i64) _ _ _ 1 [.int .i64 1] from rfl) (Reps.one (show Kd.M (Kd.int .i64) _ _ _ 2 [.int .i64 2] from rfl) (Reps.one (show Kd.M (Kd.int .i64) _ _ _ 5 [.int .i64 5] from rfl) (Reps.one (show Kd.M (Kd.int .i64) _ _ _ 9 [.int .i64 9] from rfl) (Reps.one (show Kd.M (Kd.int .i64) _ _ _ t120 [.int .i64 t120] from rfl) (Reps.none _ _)))))))
   intro v wb ho hb2 _ _
   have hk2 := KeepBut.of_below hb2 g none
   obtain ⟨m1, m2, m3, m4⟩ := mv hi hk2 ht
   refine hKc _ _ ⟨v, v30, gb, ?_, IsS89.below hi hb2, hk.trans hk2 (.inl rfl), below_step hbl hb2, m1, fun _ => Kd.R_lower ho (keep_size hk), m3, m4⟩
   rw [ha]; refine (put_mid _ _ _ _ _ (by cases b <;> cases c <;> rfl)).trans (congrArg _ ?_); cases b <;> cases c <;> rfl
  ·skip
   have h27 := ht.2.1 rfl
   obtain ⟨Ao, co, rfl⟩ := Kd.R_slice h27
   have e27 : a.eval (.tmp 27) = .slice Ao ([0, 1, 2, 5, 9, t120] : List Int).length co := by rw [ha]; exact eval_here a0 [(19, .int .i64 t116), (23, .int .i64 t118), (26, .int .i64 t120)] _ 27 _ (by cases b <;> cases c <;> rfl) (by rw [hsz]; decide)
   have e24 : a.eval (.tmp 24) = .pointer (some ⟨g, 0, none⟩) := by rw [ha]; exact (eval_skip _ _ _ (by cases b <;> cases c <;> rfl)).trans h24
   refine wpOp_step (i := 12) rfl (fun K hKc => ?_)
   refine goes_ Try.func58 (by kernel_rfl) rfl #[.pointer (some ⟨g, 0, none⟩), .slice Ao ([0, 1, 2, 5, 9, t120] : List Int).length co] rfl rfl rfl (by simp only [List.map_toArray, List.map_cons, List.map_nil, e24, e27] <;> rfl) ?_
   refine (spec_l30Rd_one.calls k1 g s0 t121 _ _ [0, 1, 2, 5, 9, t120] t125 t126 w0 _ hi hbl (Kd.R_reads' h27).2.2 (Kd.R_reads' h27).2.1 (far_slice (IsS89.own_ne hi h27 (by decide))) A15).mono ?_
   rintro e wb ⟨rfl, hi2, hb2, hk2⟩
   obtain ⟨m1, m2, m3, m4⟩ := mv hi hk2 ht
   refine ⟨_, rfl, hKc _ _ ⟨.slice Ao ([0, 1, 2, 5, 9, t120] : List Int).length co, v30, gb, ?_, hi2, hk.trans hk2 (.inl rfl), hb2, m1, fun h => absurd h (by decide), m3, m4⟩⟩
   rw [ha]; refine (put_mid _ _ _ _ _ (by cases b <;> cases c <;> rfl)).trans (congrArg _ ?_); cases b <;> cases c <;> rfl
  ·skip
   obtain rfl : b = true := hb rfl
   have h30 := ht.2.2.1 rfl
   obtain ⟨Ao, co, rfl⟩ := Kd.R_slice h30
   have e30 : a.eval (.tmp 30) = .slice Ao ([0, 0, 3, 8] : List Int).length co := by rw [ha]; exact eval_here a0 [(19, .int .i64 t116), (23, .int .i64 t118), (26, .int .i64 t120), (27, v27), (28, .int .i64 t125)] _ 30 _ (by cases c <;> rfl) (by rw [hsz]; decide)
   have e29 : a.eval (.tmp 29) = .pointer (some ⟨g, 0, none⟩) := by rw [ha]; exact (eval_skip _ _ _ (by cases c <;> rfl)).trans h29
   refine wpOp_step (i := 15) rfl (fun K hKc => ?_)
   refine goes_ Try.func58 (by kernel_rfl) rfl #[.pointer (some ⟨g, 0, none⟩), .slice Ao ([0, 0, 3, 8] : List Int).length co] rfl rfl rfl (by simp only [List.map_toArray, List.map_cons, List.map_nil, e29, e30] <;> rfl) ?_
   refine (spec_l30Rd_one.calls k1 g s0 t126 _ _ [0, 0, 3, 8] t130 t131 w0 _ hi hbl (Kd.R_reads' h30).2.2 (Kd.R_reads' h30).2.1 (far_slice (IsS89.own_ne hi h30 (by decide))) A16).mono ?_
   rintro e wb ⟨rfl, hi2, hb2, hk2⟩
   obtain ⟨m1, m2, m3, m4⟩ := mv hi hk2 ht
   refine ⟨_, rfl, hKc _ _ ⟨v27, .slice Ao ([0, 0, 3, 8] : List Int).length co, gb, ?_, hi2, hk.trans hk2 (.inl rfl), hb2, m1, fun h => absurd h (by decide), m3, m4⟩⟩
   rw [ha]; refine (put_mid _ _ _ _ _ (by cases c <;> rfl)).trans (congrArg _ ?_); cases c <;> rfl
  ·skip
   have e32 : a.eval (.tmp 32) = .pointer (some ⟨g, 0, none⟩) := by rw [ha]; exact (eval_skip _ _ _ (by cases b <;> cases c <;> rfl)).trans h32
   refine wpOp_step (i := 17) rfl (fun K hKc => ?_)
   refine goes_ Try.func67 (by kernel_rfl) rfl #[.pointer (some ⟨g, 0, none⟩), .int .i64 10] rfl rfl rfl (by simp only [List.map_toArray, List.map_cons, List.map_nil, e32] <;> rfl) ?_
   refine (spec_l30Rd_pick.calls k1 g s0 t131 10 t132 t133 w0 _ hi hbl A17).mono ?_
   rintro e wb ⟨rfl, hi2, hb2, hk2⟩
   obtain ⟨m1, m2, m3, m4⟩ := mv hi hk2 ht
   refine ⟨_, rfl, hKc _ _ ⟨v27, v30, gb, ?_, hi2, hk.trans hk2 (.inl rfl), hb2, m1, fun h => absurd h (by decide), m3, m4⟩⟩
   rw [ha]; refine (put_mid _ _ _ _ _ (by cases b <;> cases c <;> rfl)).trans (congrArg _ ?_); cases b <;> cases c <;> rfl
  ·skip
   have e19 : a.eval (.tmp 19) = .int .i64 t116 := by rw [ha]; exact eval_here a0 [] _ 19 _ (by cases b <;> cases c <;> rfl) (by rw [hsz]; decide)
   have e23 : a.eval (.tmp 23) = .int .i64 t118 := by rw [ha]; exact eval_here a0 [(19, .int .i64 t116)] _ 23 _ (by cases b <;> cases c <;> rfl) (by rw [hsz]; decide)
   have e28 : a.eval (.tmp 28) = .int .i64 t125 := by rw [ha]; exact eval_here a0 [(19, .int .i64 t116), (23, .int .i64 t118), (26, .int .i64 t120), (27, v27)] _ 28 _ (by cases b <;> cases c <;> rfl) (by rw [hsz]; decide)
   have e31 : a.eval (.tmp 31) = .int .i64 t130 := by rw [ha]; exact eval_here a0 [(19, .int .i64 t116), (23, .int .i64 t118), (26, .int .i64 t120), (27, v27), (28, .int .i64 t125)] _ 31 _ (by cases b <;> cases c <;> rfl) (by rw [hsz]; decide)
   have e33 : a.eval (.tmp 33) = .int .i64 t132 := by rw [ha]; exact eval_here a0 [(19, .int .i64 t116), (23, .int .i64 t118), (26, .int .i64 t120), (27, v27), (28, .int .i64 t125), (31, .int .i64 t130)] _ 33 _ (by cases b <;> cases c <;> rfl) (by rw [hsz]; decide)
   refine wpOp_step (i := 18) (o := { dst := some 34, op := Go.Op.build 33 #[(0, Go.Operand.tmp 19), (1, Go.Operand.tmp 23), (2, Go.Operand.tmp 28), (3, Go.Operand.tmp 31), (4, Go.Operand.tmp 33)], type := 33, pos := "l30_draw.go:60", after := #[{ on := 3, ground := Go.Ground.data }, { on := 7, ground := Go.Ground.data }, { on := 12, ground := Go.Ground.data }, { on := 15, ground := Go.Ground.data }, { on := 17, ground := Go.Ground.data }], guard := none }) rfl (fun K hKc => ?_)
   refine value_ (w1 := wa) (v := .agg #[.int .i64 t116, .int .i64 t118, .int .i64 t125, .int .i64 t130, .int .i64 t132]) rfl rfl ?_ ?_
   ·simp only [Act.eval, Array.getD_eq_getD_getElem?] at e19 e23 e28 e31 e33; clear ha; first | (go_simp; done) | (go_simp; rfl)
   ·refine hKc _ _ ⟨v27, v30, gb, ?_, hi, hk, hbl, ht.1, fun h => absurd h (by decide), ht.2.2⟩
    rw [ha]; refine (put_mid _ _ _ _ _ (by cases b <;> cases c <;> rfl)).trans (congrArg _ ?_); cases b <;> cases c <;> rfl
  ·exact absurd hs (by simp)
 ·rintro s c a wa ⟨v27, v30, gb, ha, hi, hk, hbl, ht⟩
  refine wpOp_step (i := 14) (o := { dst := some 30, op := Go.Op.buildSlice 26 4 #[(0, Go.Operand.const (Go.Value.int Go.IntKind.i64 0)), (1, Go.Operand.const (Go.Value.int Go.IntKind.i64 0)), (2, Go.Operand.const (Go.Value.int Go.IntKind.i64 3)), (3, Go.Operand.const (Go.Value.int Go.IntKind.i64 8))], type := 26, pos := "l30_draw.go:60", after := #[], guard := none }) rfl (fun K hKc => ?_)
  refine Kd.R_lit_step (Kd.int .i64) _ 3 rfl (N := 30) rfl (xs := ([0, 0, 3, 8] : List Int)) (inner := [.int .i64 0, .int .i64 0, .int .i64 3, .int .i64 8]) (ok := fun _ => True) (okp := fun _ => True) ?hr ?hp (fun _ hk => hk) trivial (Below.refl _ _) (Nat.le_refl _) (by simp) ?_
  case hr => clear ha; first | (go_simp; done) | (go_simp; rfl)
  case hp => exact (Reps.one (show Kd.M (Kd.int .i64) _ _ _ 0 [.int .i64 0] from rfl) (Reps.one (show Kd.M (Kd.int .i64) _ _ _ 0 [.int .i64 0] from rfl) (Reps.one (show Kd.M (Kd.int .i64) _ _ _ 3 [.int .i64 3] from rfl) (Reps.one (show Kd.M (Kd.int .i64) _ _ _ 8 [.int .i64 8] from rfl) (Reps.none _ _)))))
  intro v wb ho hb2 _ _
  have hk2 := KeepBut.of_below hb2 g none
  obtain ⟨m1, m2, m3, m4⟩ := mv hi hk2 ht
  refine hKc _ _ ⟨v27, v, gb, ?_, IsS89.below hi hb2, hk.trans hk2 (.inl rfl), below_step hbl hb2, m1, m2, fun _ => Kd.R_lower ho (keep_size hk), m4⟩
  rw [ha]; exact put_mid _ _ _ _ _ (by cases c <;> rfl)
 ·rintro s b a wa ⟨v27, v30, gb, ha, hi, hk, hbl, ht⟩
  refine wpOp_step (i := 19) (o := { dst := some 5, op := Go.Op.alloc 33, type := 0, pos := "l30_draw.go:60", after := #[], guard := none }) rfl (fun K hKc => ?_)
  refine box_step rfl (N := 5) rfl (cs := #[.int .i64 0, .int .i64 0, .int .i64 0, .int .i64 0, .int .i64 0]) (t := 33) ?hr ?_
  case hr => clear ha; first | (go_simp; done) | (go_simp; rfl)
  intro gb2 hg wb hbox hb2
  have hk2 := KeepBut.of_below hb2 g none
  obtain ⟨m1, m2, m3, m4⟩ := mv hi hk2 ht
  refine hKc _ _ ⟨v27, v30, gb2, ?_, IsS89.below hi hb2, hk.trans hk2 (.inl rfl), below_step hbl hb2, ?_, m2, m3, fun _ => ⟨hbox, ?_, ?_⟩⟩
  ·have key : ∀ (A X : List (Tmp × Value)) (v : Value), (putAll a0 (A ++ (X ++ []))).put (some 5) v = putAll a0 (A ++ (X ++ [(5, v)])) := by
    intro A X v
    have h := put_mid a0 (A ++ X) [] 5 v rfl
    rw [List.append_nil, List.append_assoc] at h
    rw [List.append_nil]
    exact h
   rw [ha]; exact key _ (if b then [(30, v30)] else []) _
  ·have h1 := hE wa ht.1
   rw [← hg] at h1
   exact hF _ _ _ _ hi hk2 h1
  ·rw [hg]; exact keep_size hk
  ·rw [hg]; exact Nat.ne_of_gt (IsS89.lt hi)
 ·rintro a wa ⟨v27, v30, gb, ha, hi, hk, hbl, h1, _, _, h4⟩
  have h4 := h4 rfl
  rw [ha]
  exact hJ v27 v30 gb wa h1 h4.1 h4.2.1 h4.2.2 hi hk hbl
set_option maxHeartbeats 8000000 in
set_option maxRecDepth 100000 in
theorem spec_l30Net.calls (k : Nat) (g : Nat) (s0_0 : List Int) (s0_1 : Int) (r1 : Int) (r2 : List (S33)) (r3 : Int) (w0 w : World) (hI : IsS89 w0 w g s0_0 s0_1) (hB : Below w0.heap.size w0 w) (h : spec_l30Net.f k s0_0 s0_1 = some (r1, r2, r3)) :
  Calls Try.prog 66 #[.pointer (some ⟨g, 0, none⟩)] w fun e w' => ∃ v1_ : Value, e = .returned (.agg #[.int .i64 r1, v1_]) ∧ Kd.R k33 33 w' w.heap.size (fun _ => True) v1_ r2 ∧ IsS89 w0 w' g s0_0 r3 ∧ Below w0.heap.size w0 w' ∧ KeepBut w w' g none := by
 have hu25 := Try.underlying25
 have hu33 := Try.underlying33
 have HI0 := ak hI
 have HK := ak (KeepBut.refl w g none)
 have HL := ak hB.size
 clear hI
 have HW0 := ak hB.size
 have HB := ak hB
 clear hB
 have H : ((spec_l30Rd_pick.f k s0_0 s0_1 5).bind fun bt215 => ((spec_l30Rd_pick.f k s0_0 bt215.2 14).bind fun bt218 => (spec_l30Net.l0 k bt218.1 s0_0 bt218.2 (wrap64 (2 + bt215.1)) ([] : List (S33))))) = some (r1, r2, r3) := h
 clear h
 replace H := Option.bind_eq_some_iff.mp H
 obtain ⟨⟨t215, t216⟩, A20, H⟩ := H
 have A2 := ak A20
 clear A20
 replace H := Option.bind_eq_some_iff.mp H
 obtain ⟨⟨t218, t219⟩, A30, H⟩ := H
 have A3 := ak A30
 clear A30
 have H' := ak H
 clear H
 go_enter Try.func66, Try.ntmps66
 go_wp2_with (first | ((with_reducible refine gate_dst (N := 2) rfl ?_); refine box_event ?hg (N := 2) ?hd (cs := #[.int .i64 0, .slice none 0 0]) (t := 25) ?hr ?_; (case hd => rfl); (case hg => rfl); (case hr => first | (go_simp; done) | (go_simp; rfl)); intro gb214 hg w4 hbox hb; replace HB := ak (below_step (by repeat (first | (with_reducible first | exact HB.out | apply below_alloc | apply pw_below_drewN | apply below_drew1 | refine below_set ?_ (IsS89.ge HI0.out)) | exact HB.out)) hb); have BK214 := ak (hbox); have GW214 := ak ((by rw [hg]; exact (keep_size (w := w) (g := g) (row := none) (by repeat (first | (with_reducible first | exact HK.out | apply KeepBut.set_ | apply keep_drewN | apply keep_drew | apply keep_alloc) | exact HK.out))) : w.heap.size ≤ gb214)); have GE214 := ak ((Nat.le_trans HW0.out (by rw [hg]; exact (keep_size (w := w) (g := g) (row := none) (by repeat (first | (with_reducible first | exact HK.out | apply KeepBut.set_ | apply keep_drewN | apply keep_drew | apply keep_alloc) | exact HK.out))) : w.heap.size ≤ gb214) : w0.heap.size ≤ gb214)); replace HK := ak (KeepBut.trans (by repeat (first | (with_reducible first | exact HK.out | apply KeepBut.set_ | apply keep_drewN | apply keep_drew | apply keep_alloc) | exact HK.out)) (KeepBut.of_below hb g none) (.inl rfl)); have NB0_214 := ak ((by rw [hg]; exact Nat.ne_of_lt (IsS89.lt (show IsS89 w0 _ g s0_0 s0_1 from by repeat (first | (with_reducible first | exact HI0.out | apply IsS89.alloc | apply IsS89.drewN | apply IsS89.drew | apply IsS89.set_1) | exact HI0.out))) : g ≠ gb214)); have NB214_0 := ak ((by rw [hg]; exact Nat.ne_of_gt (IsS89.lt (show IsS89 w0 _ g s0_0 s0_1 from by repeat (first | (with_reducible first | exact HI0.out | apply IsS89.alloc | apply IsS89.drewN | apply IsS89.drew | apply IsS89.set_1) | exact HI0.out))) : gb214 ≠ g)); replace HI0 := ak (IsS89.below (by repeat (first | (with_reducible first | exact HI0.out | apply IsS89.alloc | apply IsS89.drewN | apply IsS89.drew | apply IsS89.set_1) | exact HI0.out)) hb); clear hb hbox hg) | ((with_reducible refine gate_callee (f := 67) rfl ?_); refine goesL_ (some 7) rfl rfl Try.func67 (by kernel_rfl) rfl #[.pointer (some ⟨g, 0, none⟩), .int .i64 5] rfl (by (try simp only [List.map_toArray, List.map_cons, List.map_nil]); first | done | rfl | (simp only [List.length_drop, List.length_take]; rfl)) ?_; (with_reducible refine (spec_l30Rd_pick.calls k g s0_0 s0_1 5 t215 t216 w0 _ ?side1 ?side2 A2.out).mono ?_); (case side1 => repeat (first | (with_reducible first | exact HI0.out | apply IsS89.alloc | apply IsS89.drewN | apply IsS89.drew | apply IsS89.set_1 | refine IsS89.far ?_ NB0_214.out _) | exact HI0.out)); (case side2 => repeat (first | (with_reducible first | exact HB.out | apply below_alloc | apply pw_below_drewN | apply below_drew1 | refine below_set ?_ (IsS89.ge HI0.out) | refine below_set ?_ GE214.out) | exact HB.out)); rintro e w5 ⟨rfl, hi, hb, hk⟩; refine ⟨_, rfl, ?_⟩; replace BK214 := ak (KeepBut.blk hk (g' := gb214) (o := .cells #[.int .i64 0, .slice none 0 0] 25 (0, 0)) (bk BK214) NB214_0.out (by simp)); replace HK := ak (KeepBut.trans (by repeat (first | (with_reducible first | exact HK.out | apply KeepBut.set_ | apply keep_drewN | apply keep_drew | apply keep_alloc | refine keep_far ?_ GW214.out _) | exact HK.out)) hk (.inl rfl)); replace HB := ak (hb); replace HI0 := ak (hi); (try clear hb); (try clear hb2); (try clear hk); (try clear hi)) | ((with_reducible refine gate_dst (N := 3) rfl ?_); refine box_event ?hg (N := 3) ?hd (cs := #[.int .i64 0, .slice none 0 0]) (t := 25) ?hr ?_; (case hd => rfl); (case hg => rfl); (case hr => first | (go_simp; done) | (go_simp; rfl)); intro gb217 hg w6 hbox hb; replace HB := ak (below_step (by repeat (first | (with_reducible first | exact HB.out | apply below_alloc | apply pw_below_drewN | apply below_drew1 | refine below_set ?_ (IsS89.ge HI0.out) | refine below_set ?_ GE214.out) | exact HB.out)) hb); have BK217 := ak (hbox); have GW217 := ak ((by rw [hg]; exact (keep_size (w := w) (g := g) (row := none) (by repeat (first | (with_reducible first | exact HK.out | apply KeepBut.set_ | apply keep_drewN | apply keep_drew | apply keep_alloc | refine keep_far ?_ GW214.out _) | exact HK.out))) : w.heap.size ≤ gb217)); have GE217 := ak ((Nat.le_trans HW0.out (by rw [hg]; exact (keep_size (w := w) (g := g) (row := none) (by repeat (first | (with_reducible first | exact HK.out | apply KeepBut.set_ | apply keep_drewN | apply keep_drew | apply keep_alloc | refine keep_far ?_ GW214.out _) | exact HK.out))) : w.heap.size ≤ gb217) : w0.heap.size ≤ gb217)); replace HK := ak (KeepBut.trans (by repeat (first | (with_reducible first | exact HK.out | apply KeepBut.set_ | apply keep_drewN | apply keep_drew | apply keep_alloc | refine keep_far ?_ GW214.out _) | exact HK.out)) (KeepBut.of_below hb g none) (.inl rfl)); have NB214_217 := ak ((by rw [hg]; exact Nat.ne_of_lt (blk_lt (bk BK214)) : gb214 ≠ gb217)); have NB217_214 := ak ((by rw [hg]; exact Nat.ne_of_gt (blk_lt (bk BK214)) : gb217 ≠ gb214)); replace BK214 := ak (blk_below (bk BK214) hb); have NB0_217 := ak ((by rw [hg]; exact Nat.ne_of_lt (IsS89.lt (show IsS89 w0 _ g s0_0 t216 from by repeat (first | (with_reducible first | exact HI0.out | apply IsS89.alloc | apply IsS89.drewN | apply IsS89.drew | apply IsS89.set_1 | refine IsS89.far ?_ NB0_214.out _) | exact HI0.out))) : g ≠ gb217)); have NB217_0 := ak ((by rw [hg]; exact Nat.ne_of_gt (IsS89.lt (show IsS89 w0 _ g s0_0 t216 from by repeat (first | (with_reducible first | exact HI0.out | apply IsS89.alloc | apply IsS89.drewN | apply IsS89.drew | apply IsS89.set_1 | refine IsS89.far ?_ NB0_214.out _) | exact HI0.out))) : gb217 ≠ g)); replace HI0 := ak (IsS89.below (by repeat (first | (with_reducible first | exact HI0.out | apply IsS89.alloc | apply IsS89.drewN | apply IsS89.drew | apply IsS89.set_1 | refine IsS89.far ?_ NB0_214.out _) | exact HI0.out)) hb); clear hb hbox hg; have hnb7 := NB217_214.out; have hnc7 := NB214_217.out; have hnb8 := NB217_0.out; have hnc8 := NB0_217.out; have hcz9_0 := bc w6 BK217 0 (.int .i64 0) rfl; have hcz9_1 := bc w6 BK217 1 (.slice none 0 0) rfl; have hfz9_0 := fz BK217 0; have hfz9_1 := fz BK217 1) | ((with_reducible refine gate_callee (f := 67) rfl ?_); refine goesL_ (some 11) rfl rfl Try.func67 (by kernel_rfl) rfl #[.pointer (some ⟨g, 0, none⟩), .int .i64 14] rfl (by (try simp only [List.map_toArray, List.map_cons, List.map_nil]); first | done | rfl | (simp only [List.length_drop, List.length_take]; rfl)) ?_; (with_reducible refine (spec_l30Rd_pick.calls k g s0_0 t216 14 t218 t219 w0 _ ?side1 ?side2 A3.out).mono ?_); (case side1 => repeat (first | (with_reducible first | exact HI0.out | apply IsS89.alloc | apply IsS89.drewN | apply IsS89.drew | apply IsS89.set_1 | refine IsS89.far ?_ NB0_214.out _ | refine IsS89.far ?_ NB0_217.out _) | exact HI0.out)); (case side2 => repeat (first | (with_reducible first | exact HB.out | apply below_alloc | apply pw_below_drewN | apply below_drew1 | refine below_set ?_ (IsS89.ge HI0.out) | refine below_set ?_ GE214.out | refine below_set ?_ GE217.out) | exact HB.out)); rintro e w10 ⟨rfl, hi, hb, hk⟩; refine ⟨_, rfl, ?_⟩; replace BK214 := ak (KeepBut.blk hk (g' := gb214) (o := .cells #[.int .i64 0, .slice none 0 0] 25 (0, 0)) (by (with_reducible repeat (first | refine blk_drewN ?_ _ | refine blk_drew ?_ | refine blk_alloc ?_ _)); refine blk_far ?_ NB214_217.out _; refine blk_far ?_ NB214_217.out _; (with_reducible repeat (first | refine blk_drewN ?_ _ | refine blk_drew ?_ | refine blk_alloc ?_ _)); exact BK214.out) NB214_0.out (by simp)); replace BK217 := ak (KeepBut.blk hk (g' := gb217) (o := .cells #[.int .i64 (wrap64 (2 + t215)), .slice none 0 0] 25 (0, 0)) (by (with_reducible repeat (first | refine blk_drewN ?_ _ | refine blk_drew ?_ | refine blk_alloc ?_ _)); refine blk_put (cs := #[.int .i64 (wrap64 (2 + t215)), .slice none 0 0]) ?_ 1 _ rfl; refine blk_put (cs := #[.int .i64 0, .slice none 0 0]) ?_ 0 _ rfl; (with_reducible repeat (first | refine blk_drewN ?_ _ | refine blk_drew ?_ | refine blk_alloc ?_ _)); exact BK217.out) NB217_0.out (by simp)); replace HK := ak (KeepBut.trans (by repeat (first | (with_reducible first | exact HK.out | apply KeepBut.set_ | apply keep_drewN | apply keep_drew | apply keep_alloc | refine keep_far ?_ GW214.out _ | refine keep_far ?_ GW217.out _) | exact HK.out)) hk (.inl rfl)); replace HB := ak (hb); replace HI0 := ak (hi); (try clear hb); (try clear hb2); (try clear hk); (try clear hi)))
 go_loopg [4] k (fun kq v4 w' => ∃ (x4_1 : Int) (x1001_1 : Int) (x218001_1 : List (S33)) (u218001 : Value), v4 = .int .i64 x4_1 ∧ Aside0 (spec_l30Net.l0 kq x4_1 s0_0 x1001_1 (wrap64 (2 + t215)) x218001_1 = some (r1, r2, r3)) ∧ Aside0 (kq ≤ k) ∧ Aside0 (Kd.R k33 33 w' w.heap.size (fun _ => True) u218001 x218001_1) ∧ Aside0 (w'.heap[gb214]? = some (.cells #[.int .i64 0, (.slice none 0 0)] 25 (0, 0))) ∧ Aside0 (w'.heap[gb217]? = some (.cells #[.int .i64 (wrap64 (2 + t215)), u218001] 25 (0, 0))) ∧ Aside0 (IsS89 w0 w' g s0_0 x1001_1) ∧ Aside0 (KeepBut w w' g none) ∧ Aside0 (Below w0.heap.size w0 w'))
 case atStart => exact ⟨(t218), (t219), (([] : List (S33))), (.slice none 0 0), (by first | rfl | (simp; done) | (simp [*]; done)), H', ⟨Nat.le_refl _⟩, ⟨by first | exact Kd.R_nil _ _ _ _ _ | exact Kd.N_nil _ _ _ _ _ | exact Kd.V_nil _ _ _ _ _ | exact Kd.Q_nil _ _ _ _ _ | exact Kd.S_nil _ _ _ _ _⟩, ⟨bk BK214⟩, ⟨bk BK217⟩, ⟨by repeat (first | (with_reducible first | exact HI0.out | apply IsS89.alloc | apply IsS89.drewN | apply IsS89.drew | apply IsS89.set_1 | refine IsS89.far ?_ NB0_214.out _ | refine IsS89.far ?_ NB0_217.out _) | exact HI0.out)⟩, ⟨by repeat (first | (with_reducible first | exact HK.out | apply KeepBut.set_ | apply keep_drewN | apply keep_drew | apply keep_alloc | refine keep_far ?_ GW214.out _ | refine keep_far ?_ GW217.out _) | exact HK.out)⟩, ⟨by repeat (first | (with_reducible first | exact HB.out | apply below_alloc | apply pw_below_drewN | apply below_drew1 | refine below_set ?_ (IsS89.ge HI0.out) | refine below_set ?_ GE214.out | refine below_set ?_ GE217.out) | exact HB.out)⟩⟩
 clear H'
 try clear p2
 try clear c6
 try clear p6
 try clear c7
 try clear c8
 try clear hcz9_0
 try clear hcz9_1
 try clear hfz9_0
 try clear hfz9_1
 obtain ⟨x4_1, x1001_1, x218001_1, u218001, rfl, HA, HK1, HO_218001, BK214, BK217, HI0, HK, HB⟩ := hrel
 cases gk with
 | zero => exact absurd HA.out (by simp [spec_l30Net.l0])
 | succ k1 =>
  have H := HA.out
  clear HA
  simp only [spec_l30Net.l0] at H
  by_cases c11 : x4_1 > 0
  rotate_left
  ·rw [if_neg c11] at H
   have c11b0 : decide (0 < x4_1) = false := decide_eq_false c11
   clear c11
   simp only [Option.some.injEq, Prod.mk.injEq] at H
   obtain ⟨rfl, rfl, rfl⟩ := H
   have hnb82 := NB217_214.out
   have hnc82 := NB214_217.out
   have hnb83 := NB217_0.out
   have hnc83 := NB0_217.out
   have hcz84_0 := bc wr BK217 0 (.int .i64 (wrap64 (2 + t215))) rfl
   have hcz84_1 := bc wr BK217 1 (u218001) rfl
   have hfz84_0 := fz BK217 0
   have hfz84_1 := fz BK217 1
   have hnb85 := NB214_0.out
   have hnc85 := NB0_214.out
   have hcz86_0 := bc wr BK214 0 (.int .i64 0) rfl
   have hcz86_1 := bc wr BK214 1 (.slice none 0 0) rfl
   have hfz86_0 := fz BK214 0
   have hfz86_1 := fz BK214 1
   obtain ⟨Ao87, co87, eo87⟩ := Kd.R_slice HO_218001.out
   subst eo87
   go_wp2
   refine bodyPost_ret (results_cell_row rfl _ _ gb214 25 #[.int .i64 (wrap64 (2 + t215)), .slice Ao87 x218001_1.length co87] (0, 0) _ rfl (by (with_reducible repeat (first | refine blk_drewN ?_ _ | refine blk_drew ?_ | refine blk_alloc ?_ _)); refine blk_put (cs := #[.int .i64 (wrap64 (2 + t215)), .slice none 0 0]) ?_ 1 _ rfl; refine blk_put (cs := #[.int .i64 0, .slice none 0 0]) ?_ 0 _ rfl; (with_reducible repeat (first | refine blk_drewN ?_ _ | refine blk_drew ?_ | refine blk_alloc ?_ _)); exact BK214.out) Try.underlying25 rfl (by kernel_rfl)) rfl ?_
   exact ⟨_, by first | rfl | (simp [errW_none, errW_some] <;> rfl) | (simp [*, errW_none, errW_some] <;> rfl), by (with_reducible repeat (first | apply Kd.R_alloc | apply Kd.R_drewN | apply Kd.R_drew)); exact Kd.R_mono (Kd.R_far (p := ⟨gb214, 1, none⟩) (Kd.R_far (p := ⟨gb214, 0, none⟩) (Kd.R_types HO_218001.out BK214.out (by decide)) (fun _ hk => hk.2) (.int .i64 (wrap64 (2 + t215)))) (fun _ hk => hk.2) (.slice Ao87 x218001_1.length co87)) (fun _ hk => trivial), by repeat (first | (with_reducible first | exact HI0.out | apply IsS89.alloc | apply IsS89.drewN | apply IsS89.drew | apply IsS89.set_1 | refine IsS89.far ?_ NB0_214.out _ | refine IsS89.far ?_ NB0_217.out _) | exact HI0.out), by repeat (first | (with_reducible first | exact HB.out | apply below_alloc | apply pw_below_drewN | apply below_drew1 | refine below_set ?_ (IsS89.ge HI0.out) | refine below_set ?_ GE214.out | refine below_set ?_ GE217.out) | exact HB.out), by repeat (first | (with_reducible first | exact HK.out | apply KeepBut.set_ | apply keep_drewN | apply keep_drew | apply keep_alloc | refine keep_far ?_ GW214.out _ | refine keep_far ?_ GW217.out _) | exact HK.out)⟩
  rw [if_pos c11] at H
  have c11b0 : decide (0 < x4_1) = true := decide_eq_true c11
  clear c11
  replace H := Option.bind_eq_some_iff.mp H
  obtain ⟨⟨t220, t221⟩, A120, H⟩ := H
  have A12 := ak A120
  clear A120
  replace H := Option.bind_eq_some_iff.mp H
  obtain ⟨⟨t222, t223⟩, A130, H⟩ := H
  have A13 := ak A130
  clear A130
  replace H := Option.bind_eq_some_iff.mp H
  obtain ⟨⟨t224, t225⟩, A140, H⟩ := H
  have A14 := ak A140
  clear A140
  obtain ⟨y226, hy226⟩ : ∃ y_ : List Int, y_ = (([0, 1, 2, 5, 9, t224] : List Int)) := ⟨_, rfl⟩
  replace H : ((spec_l30Rd_one.f k1 s0_0 t225 y226).bind fun bt229 => ((spec_l30Rd_one.f k1 s0_0 bt229.2 (([0, 0, 3, 8] : List Int))).bind fun bt234 => ((spec_l30Rd_pick.f k1 s0_0 bt234.2 10).bind fun bt236 => (if t220 = t222 then (if (wrap64 (2 + t215)) = 0 then (none) else (if x218001_1.length < 3518437208883 then (spec_l30Net.l0 k1 (wrap64 (x4_1 - 1)) s0_0 bt236.2 (wrap64 (2 + t215)) (x218001_1 ++ [(⟨t220, Int.tmod (wrap64 (t222 + 1)) (wrap64 (2 + t215)), bt229.1, bt234.1, bt236.1⟩ : S33)])) else (none))) else (if x218001_1.length < 3518437208883 then (spec_l30Net.l0 k1 (wrap64 (x4_1 - 1)) s0_0 bt236.2 (wrap64 (2 + t215)) (x218001_1 ++ [(⟨t220, t222, bt229.1, bt234.1, bt236.1⟩ : S33)])) else (none)))))) = some (r1, r2, r3) := by first | (rw [hy226]; with_reducible exact H) | (have H2_ := (Option.bind_some _ _).symm.trans H; rw [hy226]; with_reducible exact H2_) | (have H2_ := (Option.bind_some _ _).symm.trans H; with_reducible exact H2_) | with_reducible exact H | (rw [hy226]; exact H) | exact H
  have Ny226 := ak hy226
  clear hy226
  replace H := Option.bind_eq_some_iff.mp H
  obtain ⟨⟨t229, t230⟩, A150, H⟩ := H
  have A15 := ak A150
  clear A150
  obtain ⟨y231, hy231⟩ : ∃ y_ : List Int, y_ = (([0, 0, 3, 8] : List Int)) := ⟨_, rfl⟩
  replace H : ((spec_l30Rd_one.f k1 s0_0 t230 y231).bind fun bt234 => ((spec_l30Rd_pick.f k1 s0_0 bt234.2 10).bind fun bt236 => (if t220 = t222 then (if (wrap64 (2 + t215)) = 0 then (none) else (if x218001_1.length < 3518437208883 then (spec_l30Net.l0 k1 (wrap64 (x4_1 - 1)) s0_0 bt236.2 (wrap64 (2 + t215)) (x218001_1 ++ [(⟨t220, Int.tmod (wrap64 (t222 + 1)) (wrap64 (2 + t215)), t229, bt234.1, bt236.1⟩ : S33)])) else (none))) else (if x218001_1.length < 3518437208883 then (spec_l30Net.l0 k1 (wrap64 (x4_1 - 1)) s0_0 bt236.2 (wrap64 (2 + t215)) (x218001_1 ++ [(⟨t220, t222, t229, bt234.1, bt236.1⟩ : S33)])) else (none))))) = some (r1, r2, r3) := by first | (rw [hy231]; with_reducible exact H) | (have H2_ := (Option.bind_some _ _).symm.trans H; rw [hy231]; with_reducible exact H2_) | (have H2_ := (Option.bind_some _ _).symm.trans H; with_reducible exact H2_) | with_reducible exact H | (rw [hy231]; exact H) | exact H
  have Ny231 := ak hy231
  clear hy231
  replace H := Option.bind_eq_some_iff.mp H
  obtain ⟨⟨t234, t235⟩, A160, H⟩ := H
  have A16 := ak A160
  clear A160
  replace H := Option.bind_eq_some_iff.mp H
  obtain ⟨⟨t236, t237⟩, A170, H⟩ := H
  have A17 := ak A170
  clear A170
  by_cases c18 : t220 = t222
  rotate_left
  ·rw [if_neg c18] at H
   have c18b0 : (t220 == t222) = false := beq_eq_false_iff_ne.mpr c18
   have c18b1 : (t220 != t222) = true := bne_iff_ne.mpr c18
   by_cases c51 : x218001_1.length < 3518437208883
   rotate_left
   ·rw [if_neg c51] at H
    exact absurd H (by simp)
   rw [if_pos c51] at H
   have LMc51 := ak c51
   clear c51
   obtain ⟨y242, hy242⟩ : ∃ y_ : List (S33), y_ = (x218001_1 ++ [(⟨t220, t222, t229, t234, t236⟩ : S33)]) := ⟨_, rfl⟩
   replace H : (spec_l30Net.l0 k1 (wrap64 (x4_1 - 1)) s0_0 t237 (wrap64 (2 + t215)) y242) = some (r1, r2, r3) := by first | (rw [hy242]; with_reducible exact H) | (have H2_ := (Option.bind_some _ _).symm.trans H; rw [hy242]; with_reducible exact H2_) | (have H2_ := (Option.bind_some _ _).symm.trans H; with_reducible exact H2_) | with_reducible exact H | (rw [hy242]; exact H) | exact H
   have Ny242 := ak hy242
   clear hy242
   have H' := ak H
   clear H
   try go_wp2
   replace HO_218001 := ak (Kd.R_drew HO_218001.out)
   replace BK214 := ak (blk_drew BK214.out)
   replace BK217 := ak (blk_drew BK217.out)
   replace HI0 := ak (IsS89.drew HI0.out)
   replace HK := ak (keep_drew HK.out)
   replace HB := ak (below_drew1 HB.out)
   refine start_ (n := 21) (S := fun w' => w'.cell? ⟨gb217, 0, none⟩ = some (.int .i64 (wrap64 (2 + t215))) ∧ w'.cell? ⟨gb217, 1, none⟩ = some (u218001)) (ds := []) (ms 21 0) (by kernel_rfl) rfl (by kernel_rfl) ⟨(blk_cell BK217.out 0).trans rfl, (blk_cell BK217.out 1).trans rfl⟩ (fun hHeld => ?_); refine with_tabW spec_l30Net.tab5 spec_l30Net.bits5 (fun HT_ HW_ => ?_)
   generalize wr.drew = w52 at HO_218001 BK214 BK217 HI0 HK HB hHeld ⊢
   refine pu 0 16 ?_ (ms 21 1) rfl rfl HT_ (by kernel_rfl) (fun _ _ _ h => h) (by rfl) ?_ ?_ ?_ ?_
   rotate_left
   ·intro w'
    go_simp
    with_reducible rfl
   rotate_left
   ·simp only [SX]
    rfl
   refine pu 1 17 ?_ (ms 21 3) rfl rfl HT_ (by kernel_rfl) (fun _ _ _ h => h) (by rfl) ?_ ?_ ?_ ?_
   rotate_left
   ·intro w'
    go_simp
    with_reducible rfl
   rotate_left
   ·simp only [SX]
    rfl
   refine pu 4 20 ?_ (ms 21 19) rfl rfl HT_ (by kernel_rfl) (fun _ _ _ h => h) (by rfl) ?_ ?_ ?_ ?_
   rotate_left
   ·intro w'
    go_simp
    with_reducible rfl
   rotate_left
   ·simp only [SX]
    rfl
   refine pu 5 21 ?_ (ms 21 51) rfl rfl HT_ (by kernel_rfl) (fun _ _ _ h => h) (by rfl) ?_ ?_ ?_ ?_
   rotate_left
   ·intro w'
    go_simp
    with_reducible rfl
   rotate_left
   ·simp only [SX]
    rfl
   refine pu 8 24 ?_ (ms 21 307) rfl rfl HT_ (by kernel_rfl) (fun _ _ _ h => h) (by rfl) ?_ ?_ ?_ ?_
   rotate_left
   ·intro w'
    go_simp
    with_reducible rfl
   rotate_left
   ·simp only [SX]
    rfl
   refine pu 9 25 ?_ (ms 21 819) rfl rfl HT_ (by kernel_rfl) (fun _ _ _ h => h) (by rfl) ?_ ?_ ?_ ?_
   rotate_left
   ·intro w'
    go_simp
    with_reducible rfl
   rotate_left
   ·simp only [SX]
    rfl
   refine pu 13 29 ?_ (ms 21 9011) rfl rfl HT_ (by kernel_rfl) (fun _ _ _ h => h) (by rfl) ?_ ?_ ?_ ?_
   rotate_left
   ·intro w'
    go_simp
    with_reducible rfl
   rotate_left
   ·simp only [SX]
    rfl
   refine pu 16 32 ?_ (ms 21 74547) rfl rfl HT_ (by kernel_rfl) (fun _ _ _ h => h) (by rfl) ?_ ?_ ?_ ?_
   rotate_left
   ·intro w'
    go_simp
    with_reducible rfl
   rotate_left
   ·simp only [SX]
    rfl
   refine tk 2 18 ?_ (ms 21 74551) rfl rfl HT_ HW_ (by kernel_rfl) (fun _ _ _ h => h) (by rfl) ?_ hHeld ?_ ?_ ?_
   rotate_left
   ·rintro w' ⟨s0, s1⟩
    go_simp
    with_reducible rfl
   rotate_left
   ·simp only [SX]
    rfl
   refine tk 6 22 ?_ (ms 21 74615) rfl rfl HT_ HW_ (by kernel_rfl) (fun _ _ _ h => h) (by rfl) ?_ hHeld ?_ ?_ ?_
   rotate_left
   ·rintro w' ⟨s0, s1⟩
    go_simp
    with_reducible rfl
   rotate_left
   ·simp only [SX]
    rfl
   refine join_ (σ := Value × Value × Nat) 1 (ms 21 1048575) (fun s_ => [(19, .int .i64 t220), (23, .int .i64 t222), (26, .int .i64 t224), (27, s_.1), (28, .int .i64 t229), (31, .int .i64 t234), (33, .int .i64 t236), (34, .agg #[.int .i64 t220, .int .i64 t222, .int .i64 t229, .int .i64 t234, .int .i64 t236]), (30, s_.2.1), (5, .pointer (some ⟨s_.2.2, 0, none⟩))]) (fun s_ w' => (w'.cell? ⟨gb217, 0, none⟩ = some (.int .i64 (wrap64 (2 + t215))) ∧ w'.cell? ⟨gb217, 1, none⟩ = some (u218001)) ∧ (Kd.R k33 33 w' w.heap.size (fun k_ => k_ ≠ s_.2.2) u218001 x218001_1) ∧ (w'.heap[gb214]? = some (.cells #[.int .i64 0, .slice none 0 0] 25 (0, 0))) ∧ (w'.heap[gb217]? = some (.cells #[.int .i64 (wrap64 (2 + t215)), u218001] 25 (0, 0))) ∧ (w'.heap[s_.2.2]? = some (.cells #[.int .i64 0, .int .i64 0, .int .i64 0, .int .i64 0, .int .i64 0] 33 (0, 0))) ∧ (w.heap.size ≤ s_.2.2) ∧ (w0.heap.size ≤ s_.2.2) ∧ (g ≠ s_.2.2) ∧ (s_.2.2 ≠ g) ∧ (gb214 ≠ s_.2.2) ∧ (s_.2.2 ≠ gb214) ∧ (gb217 ≠ s_.2.2) ∧ (s_.2.2 ≠ gb217) ∧ (IsS89 w0 w' g s0_0 t237) ∧ (KeepBut w w' g none) ∧ (Below w0.heap.size w0 w')) ?_ ?_
   rotate_left
   ·intro hJ
    have a15 := A15.out
    have a16 := A16.out
    rw [Ny226.out] at a15
    rw [Ny231.out] at a16
    refine spec_l30Net.reg5 (FS := (fun o w' => (w'.cell? ⟨gb217, 0, none⟩ = some (.int .i64 (wrap64 (2 + t215))) ∧ w'.cell? ⟨gb217, 1, none⟩ = some (u218001)) ∧ (Kd.R k33 33 w' w.heap.size (fun k_ => some k_ ≠ o) u218001 x218001_1) ∧ (w'.heap[gb214]? = some (.cells #[.int .i64 0, .slice none 0 0] 25 (0, 0))) ∧ (w'.heap[gb217]? = some (.cells #[.int .i64 (wrap64 (2 + t215)), u218001] 25 (0, 0))) ∧ (some gb214 ≠ o ∧ some gb217 ≠ o))) _ _ rfl rfl rfl rfl rfl rfl rfl rfl rfl (fun o w' h => h.1) ?_ ?_ HI0.out HK.out HB.out ⟨hHeld, Kd.R_mono HO_218001.out (fun _ _ => by simp), BK214.out, BK217.out, by simp⟩ A12.out A13.out A14.out a15 a16 A17.out ?_
    ·rintro o wa wb p hi hk ⟨_, h1, h2, h3, h4⟩
     have b2 := KeepBut.blk hk h2 NB214_0.out (by simp)
     have b3 := KeepBut.blk hk h3 NB217_0.out (by simp)
     exact ⟨⟨(blk_cell b3 0).trans rfl, (blk_cell b3 1).trans rfl⟩, Kd.R_mono (Kd.R_keep (IsS89.apart hi h1 (by decide)) hk (fun _ h => h.2)) (fun _ h => h.1), b2, b3, h4⟩
    ·rintro wa ⟨h0, h1, h2, h3, _⟩
     exact ⟨h0, Kd.R_mono (Kd.R_elderB h1 wa.heap.size (Nat.le_refl _)) (fun k hk => by have := hk.2; simpa using this), h2, h3, by simpa using Nat.ne_of_lt (blk_lt h2), by simpa using Nat.ne_of_lt (blk_lt h3)⟩
    rintro v27 v30 gb w' ⟨h0, h1, h2, h3, h4, h5⟩ hbox hgw hgg hi hk hb
    have e4 : gb214 ≠ gb := by simpa using h4
    have e5 : gb217 ≠ gb := by simpa using h5
    exact hJ (v27, v30, gb) w' ⟨h0, Kd.R_mono h1 (fun k hk => by simpa using hk), h2, h3, hbox, hgw, Nat.le_trans HW0.out hgw, hgg.symm, hgg, e4, e4.symm, e5, e5.symm, hi, hk, hb⟩
   rintro ⟨v227, v232, gb238⟩ w66 ⟨hS_, h2_, h3_, h4_, h5_, h6_, h7_, h8_, h9_, h10_, h11_, h12_, h13_, h14_, h15_, h16_⟩
   replace HO_218001 : Aside0 (Kd.R k33 33 w66 w.heap.size (fun k_ => k_ ≠ gb238) u218001 x218001_1) := ⟨h2_⟩
   replace BK214 : Aside0 (w66.heap[gb214]? = some (.cells #[.int .i64 0, .slice none 0 0] 25 (0, 0))) := ⟨h3_⟩
   replace BK217 : Aside0 (w66.heap[gb217]? = some (.cells #[.int .i64 (wrap64 (2 + t215)), u218001] 25 (0, 0))) := ⟨h4_⟩
   have BK238 : Aside0 (w66.heap[gb238]? = some (.cells #[.int .i64 0, .int .i64 0, .int .i64 0, .int .i64 0, .int .i64 0] 33 (0, 0))) := ⟨h5_⟩
   have GW238 : Aside0 (w.heap.size ≤ gb238) := ⟨h6_⟩
   have GE238 : Aside0 (w0.heap.size ≤ gb238) := ⟨h7_⟩
   have NB0_238 : Aside0 (g ≠ gb238) := ⟨h8_⟩
   have NB238_0 : Aside0 (gb238 ≠ g) := ⟨h9_⟩
   have NB214_238 : Aside0 (gb214 ≠ gb238) := ⟨h10_⟩
   have NB238_214 : Aside0 (gb238 ≠ gb214) := ⟨h11_⟩
   have NB217_238 : Aside0 (gb217 ≠ gb238) := ⟨h12_⟩
   have NB238_217 : Aside0 (gb238 ≠ gb217) := ⟨h13_⟩
   replace HI0 : Aside0 (IsS89 w0 w66 g s0_0 t237) := ⟨h14_⟩
   replace HK : Aside0 (KeepBut w w66 g none) := ⟨h15_⟩
   replace HB : Aside0 (Below w0.heap.size w0 w66) := ⟨h16_⟩
   clear h2_ h3_ h4_ h5_ h6_ h7_ h8_ h9_ h10_ h11_ h12_ h13_ h14_ h15_ h16_
   have hHeld : w66.cell? ⟨gb217, 0, none⟩ = some (.int .i64 (wrap64 (2 + t215))) ∧ w66.cell? ⟨gb217, 1, none⟩ = some (u218001) := hS_
   refine norm_ (a' := ?_) ?_ ?_
   rotate_left
   ·simp only [putAll, Act.put, List.setIfInBounds_toArray, List.set_cons_zero, List.set_cons_succ]
    rfl
   refine one_ (i := 20) (N := none) (ms 21 2097151) rfl rfl (one_of HT_.out (by kernel_rfl)) (by decide) (fun K hK => ?_)
   have hs67 : w66.cell? ⟨gb238, 0, none⟩ = some (.int .i64 0) := (blk_cell BK238.out 0).trans rfl
   have hfs67 := blk_frozen BK238.out 0
   have hns67_0 := NB214_238.out
   have hns67_1 := NB217_238.out
   have hms67_0 := NB238_214.out
   have hms67_1 := NB238_217.out
   have hs68 : w66.cell? ⟨gb238, 1, none⟩ = some (.int .i64 0) := (blk_cell BK238.out 1).trans rfl
   have hfs68 := blk_frozen BK238.out 1
   have hns68_0 := NB214_238.out
   have hns68_1 := NB217_238.out
   have hms68_0 := NB238_214.out
   have hms68_1 := NB238_217.out
   have hs69 : w66.cell? ⟨gb238, 2, none⟩ = some (.int .i64 0) := (blk_cell BK238.out 2).trans rfl
   have hfs69 := blk_frozen BK238.out 2
   have hns69_0 := NB214_238.out
   have hns69_1 := NB217_238.out
   have hms69_0 := NB238_214.out
   have hms69_1 := NB238_217.out
   have hs70 : w66.cell? ⟨gb238, 3, none⟩ = some (.int .i64 0) := (blk_cell BK238.out 3).trans rfl
   have hfs70 := blk_frozen BK238.out 3
   have hns70_0 := NB214_238.out
   have hns70_1 := NB217_238.out
   have hms70_0 := NB238_214.out
   have hms70_1 := NB238_217.out
   have hs71 : w66.cell? ⟨gb238, 4, none⟩ = some (.int .i64 0) := (blk_cell BK238.out 4).trans rfl
   have hfs71 := blk_frozen BK238.out 4
   have hns71_0 := NB214_238.out
   have hns71_1 := NB217_238.out
   have hms71_0 := NB238_214.out
   have hms71_1 := NB238_217.out
   refine skip_ (w1 := ?_) (by rfl) rfl ?_ ?_
   rotate_left
   ·go_simp
    rfl
   refine hK.out _ _ ⟨((cell_far (p := ⟨gb238, _, none⟩) NB217_238.out _).trans (((cell_far (p := ⟨gb238, _, none⟩) NB217_238.out _).trans (((cell_far (p := ⟨gb238, _, none⟩) NB217_238.out _).trans (((cell_far (p := ⟨gb238, _, none⟩) NB217_238.out _).trans (((cell_far (p := ⟨gb238, _, none⟩) NB217_238.out _).trans (hHeld.1)))))))))), ((cell_far (p := ⟨gb238, _, none⟩) NB217_238.out _).trans (((cell_far (p := ⟨gb238, _, none⟩) NB217_238.out _).trans (((cell_far (p := ⟨gb238, _, none⟩) NB217_238.out _).trans (((cell_far (p := ⟨gb238, _, none⟩) NB217_238.out _).trans (((cell_far (p := ⟨gb238, _, none⟩) NB217_238.out _).trans (hHeld.2))))))))))⟩ (fun hHeld => ?_)
   clear hK K
   refine done_ (done_of HT_.out (by kernel_rfl)) ?_
   have hnb72 := NB238_214.out
   have hnc72 := NB214_238.out
   have hnb73 := NB238_217.out
   have hnc73 := NB217_238.out
   have hnb74 := NB238_0.out
   have hnc74 := NB0_238.out
   have hcz75_0 := bc w66 BK238 0 (.int .i64 0) rfl
   have hcz75_1 := bc w66 BK238 1 (.int .i64 0) rfl
   have hcz75_2 := bc w66 BK238 2 (.int .i64 0) rfl
   have hcz75_3 := bc w66 BK238 3 (.int .i64 0) rfl
   have hcz75_4 := bc w66 BK238 4 (.int .i64 0) rfl
   have hfz75_0 := fz BK238 0
   have hfz75_1 := fz BK238 1
   have hfz75_2 := fz BK238 2
   have hfz75_3 := fz BK238 3
   have hfz75_4 := fz BK238 4
   have hnb76 := NB217_214.out
   have hnc76 := NB214_217.out
   have hnb77 := NB217_0.out
   have hnc77 := NB0_217.out
   have hcz78_0 := bc w66 BK217 0 (.int .i64 (wrap64 (2 + t215))) rfl
   have hcz78_1 := bc w66 BK217 1 (u218001) rfl
   have hfz78_0 := fz BK217 0
   have hfz78_1 := fz BK217 1
   try go_wp2_with (first | ((with_reducible refine gate_dst (N := 49) rfl ?_); (fail_if_success clear hW_); refine spec_l30Net.fix_world (g := gb238) (o := .cells #[.int .i64 t220, .int .i64 t222, .int .i64 t229, .int .i64 t234, .int .i64 t236] 33 (0, 0)) (by (with_reducible repeat (first | refine blk_drewN ?_ _ | refine blk_drew ?_ | refine blk_alloc ?_ _)); refine blk_put (cs := #[.int .i64 t220, .int .i64 t222, .int .i64 t229, .int .i64 t234, .int .i64 0]) ?_ 4 _ rfl; refine blk_put (cs := #[.int .i64 t220, .int .i64 t222, .int .i64 t229, .int .i64 0, .int .i64 0]) ?_ 3 _ rfl; refine blk_put (cs := #[.int .i64 t220, .int .i64 t222, .int .i64 0, .int .i64 0, .int .i64 0]) ?_ 2 _ rfl; refine blk_put (cs := #[.int .i64 t220, .int .i64 0, .int .i64 0, .int .i64 0, .int .i64 0]) ?_ 1 _ rfl; refine blk_put (cs := #[.int .i64 0, .int .i64 0, .int .i64 0, .int .i64 0, .int .i64 0]) ?_ 0 _ rfl; (with_reducible repeat (first | refine blk_drewN ?_ _ | refine blk_drew ?_ | refine blk_alloc ?_ _)); exact BK238.out) ?_; intro W_ hW_ hBW_; have hcw_0 : W_.cell? ⟨gb238, 0, none⟩ = some (.int .i64 t220) := (blk_cell hBW_ 0).trans rfl; have hcw_1 : W_.cell? ⟨gb238, 1, none⟩ = some (.int .i64 t222) := (blk_cell hBW_ 1).trans rfl; have hcw_2 : W_.cell? ⟨gb238, 2, none⟩ = some (.int .i64 t229) := (blk_cell hBW_ 2).trans rfl; have hcw_3 : W_.cell? ⟨gb238, 3, none⟩ = some (.int .i64 t234) := (blk_cell hBW_ 3).trans rfl; have hcw_4 : W_.cell? ⟨gb238, 4, none⟩ = some (.int .i64 t236) := (blk_cell hBW_ 4).trans rfl) | ((with_reducible refine gate_dst (N := 50) rfl ?_); clear hBW_ hcw_0 hcw_1 hcw_2 hcw_3 hcw_4; subst hW_) | ((with_reducible refine gate_builtin (b := .append) (xs := #[.tmp 48, .tmp 50]) rfl ?_); at_builtin; refine Kd.R_append k33 w.heap.size rfl (.tmp 48) (.tmp 50) 23 33 (.agg #[(.int .i64 0), (.int .i64 0), (.int .i64 0), (.int .i64 0), (.int .i64 0)]) 40 rfl Try.underlying23 info33 rfl (by decide) (by omega) u218001 x218001_1 (⟨t220, t222, t229, t234, t236⟩ : S33) [.int .i64 t220, .int .i64 t222, .int .i64 t229, .int .i64 t234, .int .i64 t236] (fun k_ => k_ ≠ gb238) (fun _ => False) rfl (by first | (go_simp; done) | (go_simp; rfl)) ?aP (fun _ hk => hk.elim) ?aF ?aO (Below.refl _ _) ?aS ?aL ?_; (case aP => exact k33_mkM _ _ _ (⟨t220, t222, t229, t234, t236⟩ : S33)); (case aF => exact (fun k_ hk => Kd.freshB (g := gb238) (o := .cells #[.int .i64 t220, .int .i64 t222, .int .i64 t229, .int .i64 t234, .int .i64 t236] 33 (0, 0)) (by (with_reducible repeat (first | refine blk_drewN ?_ _ | refine blk_drew ?_ | refine blk_alloc ?_ _)); refine blk_put (cs := #[.int .i64 t220, .int .i64 t222, .int .i64 t229, .int .i64 t234, .int .i64 0]) ?_ 4 _ rfl; refine blk_put (cs := #[.int .i64 t220, .int .i64 t222, .int .i64 t229, .int .i64 0, .int .i64 0]) ?_ 3 _ rfl; refine blk_put (cs := #[.int .i64 t220, .int .i64 t222, .int .i64 0, .int .i64 0, .int .i64 0]) ?_ 2 _ rfl; refine blk_put (cs := #[.int .i64 t220, .int .i64 0, .int .i64 0, .int .i64 0, .int .i64 0]) ?_ 1 _ rfl; refine blk_put (cs := #[.int .i64 0, .int .i64 0, .int .i64 0, .int .i64 0, .int .i64 0]) ?_ 0 _ rfl; (with_reducible repeat (first | refine blk_drewN ?_ _ | refine blk_drew ?_ | refine blk_alloc ?_ _)); exact BK238.out) k_ hk)); (case aO => exact (by (with_reducible repeat (first | apply Kd.R_alloc | apply Kd.R_drewN | apply Kd.R_drew)); exact Kd.R_mono (Kd.R_far (p := ⟨gb238, 4, none⟩) (Kd.R_far (p := ⟨gb238, 3, none⟩) (Kd.R_far (p := ⟨gb238, 2, none⟩) (Kd.R_far (p := ⟨gb238, 1, none⟩) (Kd.R_far (p := ⟨gb238, 0, none⟩) (Kd.R_mono HO_218001.out (fun k_ hk => (⟨hk, hk⟩ : _ ∧ k_ ≠ gb238))) (fun _ hk => hk.2) (.int .i64 t220)) (fun _ hk => hk.2) (.int .i64 t222)) (fun _ hk => hk.2) (.int .i64 t229)) (fun _ hk => hk.2) (.int .i64 t234)) (fun _ hk => hk.2) (.int .i64 t236)) (fun _ hk => hk.1))); (case aS => exact (keep_size (w := w) (g := g) (row := none) (by repeat (first | (with_reducible first | exact HK.out | apply KeepBut.set_ | apply keep_drewN | apply keep_drew | apply keep_alloc | refine keep_far ?_ GW214.out _ | refine keep_far ?_ GW217.out _ | refine keep_far ?_ GW238.out _) | exact HK.out)))); (case aL => have := LMc51.out; omega); intro v243 w79 ho hb hg hat; rw [← Ny242.out] at ho; have n0_ := ak (blk_grown (g := gb214) (o := .cells #[.int .i64 0, .slice none 0 0] 25 (0, 0)) (by (with_reducible repeat (first | refine blk_drewN ?_ _ | refine blk_drew ?_ | refine blk_alloc ?_ _)); refine blk_far ?_ NB214_238.out _; refine blk_far ?_ NB214_238.out _; refine blk_far ?_ NB214_238.out _; refine blk_far ?_ NB214_238.out _; refine blk_far ?_ NB214_238.out _; (with_reducible repeat (first | refine blk_drewN ?_ _ | refine blk_drew ?_ | refine blk_alloc ?_ _)); exact BK214.out) hg (Kd.R_ne HO_218001.out BK214.out (by decide))); have n1_ := ak (blk_grown (g := gb217) (o := .cells #[.int .i64 (wrap64 (2 + t215)), u218001] 25 (0, 0)) (by (with_reducible repeat (first | refine blk_drewN ?_ _ | refine blk_drew ?_ | refine blk_alloc ?_ _)); refine blk_far ?_ NB217_238.out _; refine blk_far ?_ NB217_238.out _; refine blk_far ?_ NB217_238.out _; refine blk_far ?_ NB217_238.out _; refine blk_far ?_ NB217_238.out _; (with_reducible repeat (first | refine blk_drewN ?_ _ | refine blk_drew ?_ | refine blk_alloc ?_ _)); exact BK217.out) hg (Kd.R_ne HO_218001.out BK217.out (by decide))); have n2_ := ak (IsS89.grown (w0 := w0) (f0 := s0_0) (f1 := t237) (by repeat (first | (with_reducible first | exact HI0.out | apply IsS89.alloc | apply IsS89.drewN | apply IsS89.drew | apply IsS89.set_1 | refine IsS89.far ?_ NB0_214.out _ | refine IsS89.far ?_ NB0_217.out _ | refine IsS89.far ?_ NB0_238.out _) | exact HI0.out)) hg (IsS89.own_ne HI0.out HO_218001.out (by decide))); have n5_ := ak (blk_grown (g := gb238) (o := .cells #[.int .i64 t220, .int .i64 t222, .int .i64 t229, .int .i64 t234, .int .i64 t236] 33 (0, 0)) (by (with_reducible repeat (first | refine blk_drewN ?_ _ | refine blk_drew ?_ | refine blk_alloc ?_ _)); refine blk_put (cs := #[.int .i64 t220, .int .i64 t222, .int .i64 t229, .int .i64 t234, .int .i64 0]) ?_ 4 _ rfl; refine blk_put (cs := #[.int .i64 t220, .int .i64 t222, .int .i64 t229, .int .i64 0, .int .i64 0]) ?_ 3 _ rfl; refine blk_put (cs := #[.int .i64 t220, .int .i64 t222, .int .i64 0, .int .i64 0, .int .i64 0]) ?_ 2 _ rfl; refine blk_put (cs := #[.int .i64 t220, .int .i64 0, .int .i64 0, .int .i64 0, .int .i64 0]) ?_ 1 _ rfl; refine blk_put (cs := #[.int .i64 0, .int .i64 0, .int .i64 0, .int .i64 0, .int .i64 0]) ?_ 0 _ rfl; (with_reducible repeat (first | refine blk_drewN ?_ _ | refine blk_drew ?_ | refine blk_alloc ?_ _)); exact BK238.out) hg (Kd.R_away HO_218001.out (fun _ hk => hk))); have n6_ := ak (below_weaken (by repeat (first | (with_reducible first | exact HB.out | apply below_alloc | apply pw_below_drewN | apply below_drew1 | refine below_set ?_ (IsS89.ge HI0.out) | refine below_set ?_ GE214.out | refine below_set ?_ GE217.out | refine below_set ?_ GE238.out) | exact HB.out)) HL.out hb); have n7_ := ak (KeepBut.trans (by repeat (first | (with_reducible first | exact HK.out | apply KeepBut.set_ | apply keep_drewN | apply keep_drew | apply keep_alloc | refine keep_far ?_ GW214.out _ | refine keep_far ?_ GW217.out _ | refine keep_far ?_ GW238.out _) | exact HK.out)) (KeepBut.of_grown hg g) (Kd.R_base2 HO_218001.out)); have n8_ := ak (ho); clear BK214; clear BK217; clear HI0; clear BK238; clear HB; clear HK; clear HO_218001; have BK214 := n0_; have BK217 := n1_; have HI0 := n2_; have BK238 := n5_; have HB := n6_; have HK := n7_; have HO244 := n8_; clear n0_ n1_ n2_ n5_ n6_ n7_ n8_; clear ho hb hg hat; obtain ⟨Ao80, co80, eo80⟩ := Kd.R_slice HO244.out; subst eo80; have hcz81_0 := bc w79 BK217 0 (.int .i64 (wrap64 (2 + t215))) rfl; have hcz81_1 := bc w79 BK217 1 (u218001) rfl; have hfz81_0 := fz BK217 0; have hfz81_1 := fz BK217 1))
   go_roundg k1
   case measure => have := HK1.out; omega
   case rel => exact ⟨(wrap64 (x4_1 - 1)), (t237), (y242), (.slice Ao80 y242.length co80), (by first | rfl | (simp; done) | (simp [*]; done)), H', ⟨by have := HK1.out; omega⟩, ⟨by (with_reducible repeat (first | apply Kd.R_alloc | apply Kd.R_drewN | apply Kd.R_drew)); exact Kd.R_mono (Kd.R_far (p := ⟨gb217, 1, none⟩) (Kd.R_types HO244.out BK217.out (by decide)) (fun _ hk => hk.2) (.slice Ao80 y242.length co80)) (fun _ hk => trivial)⟩, ⟨by (with_reducible repeat (first | refine blk_drewN ?_ _ | refine blk_drew ?_ | refine blk_alloc ?_ _)); refine blk_far ?_ NB214_217.out _; (with_reducible repeat (first | refine blk_drewN ?_ _ | refine blk_drew ?_ | refine blk_alloc ?_ _)); exact BK214.out⟩, ⟨by (with_reducible repeat (first | refine blk_drewN ?_ _ | refine blk_drew ?_ | refine blk_alloc ?_ _)); refine blk_put (cs := #[.int .i64 (wrap64 (2 + t215)), u218001]) ?_ 1 _ rfl; (with_reducible repeat (first | refine blk_drewN ?_ _ | refine blk_drew ?_ | refine blk_alloc ?_ _)); exact BK217.out⟩, ⟨by repeat (first | (with_reducible first | exact HI0.out | apply IsS89.alloc | apply IsS89.drewN | apply IsS89.drew | apply IsS89.set_1 | refine IsS89.far ?_ NB0_214.out _ | refine IsS89.far ?_ NB0_217.out _ | refine IsS89.far ?_ NB0_238.out _) | exact HI0.out)⟩, ⟨by repeat (first | (with_reducible first | exact HK.out | apply KeepBut.set_ | apply keep_drewN | apply keep_drew | apply keep_alloc | refine keep_far ?_ GW214.out _ | refine keep_far ?_ GW217.out _ | refine keep_far ?_ GW238.out _) | exact HK.out)⟩, ⟨by repeat (first | (with_reducible first | exact HB.out | apply below_alloc | apply pw_below_drewN | apply below_drew1 | refine below_set ?_ (IsS89.ge HI0.out) | refine below_set ?_ GE214.out | refine below_set ?_ GE217.out | refine below_set ?_ GE238.out) | exact HB.out)⟩⟩
  rw [if_pos c18] at H
  have c18b0 : (t220 == t222) = true := beq_iff_eq.mpr c18
  have c18b1 : (t220 != t222) = false := bne_eq_false_iff_eq.mpr c18
  clear c18
  by_cases c19 : (wrap64 (2 + t215)) = 0
  ·rw [if_pos c19] at H
   exact absurd H (by simp)
  rw [if_neg c19] at H
  have c19b0 : ((wrap64 (2 + t215)) == 0) = false := beq_eq_false_iff_ne.mpr c19
  have c19b1 : ((wrap64 (2 + t215)) != 0) = true := bne_iff_ne.mpr c19
  by_cases c20 : x218001_1.length < 3518437208883
  rotate_left
  ·rw [if_neg c20] at H
   exact absurd H (by simp)
  rw [if_pos c20] at H
  have LMc20 := ak c20
  clear c20
  obtain ⟨y239, hy239⟩ : ∃ y_ : List (S33), y_ = (x218001_1 ++ [(⟨t220, Int.tmod (wrap64 (t222 + 1)) (wrap64 (2 + t215)), t229, t234, t236⟩ : S33)]) := ⟨_, rfl⟩
  replace H : (spec_l30Net.l0 k1 (wrap64 (x4_1 - 1)) s0_0 t237 (wrap64 (2 + t215)) y239) = some (r1, r2, r3) := by first | (rw [hy239]; with_reducible exact H) | (have H2_ := (Option.bind_some _ _).symm.trans H; rw [hy239]; with_reducible exact H2_) | (have H2_ := (Option.bind_some _ _).symm.trans H; with_reducible exact H2_) | with_reducible exact H | (rw [hy239]; exact H) | exact H
  have Ny239 := ak hy239
  clear hy239
  have H' := ak H
  clear H
  try go_wp2
  replace HO_218001 := ak (Kd.R_drew HO_218001.out)
  replace BK214 := ak (blk_drew BK214.out)
  replace BK217 := ak (blk_drew BK217.out)
  replace HI0 := ak (IsS89.drew HI0.out)
  replace HK := ak (keep_drew HK.out)
  replace HB := ak (below_drew1 HB.out)
  refine start_ (n := 21) (S := fun w' => w'.cell? ⟨gb217, 0, none⟩ = some (.int .i64 (wrap64 (2 + t215))) ∧ w'.cell? ⟨gb217, 1, none⟩ = some (u218001)) (ds := []) (ms 21 0) (by kernel_rfl) rfl (by kernel_rfl) ⟨(blk_cell BK217.out 0).trans rfl, (blk_cell BK217.out 1).trans rfl⟩ (fun hHeld => ?_); refine with_tabW spec_l30Net.tab5 spec_l30Net.bits5 (fun HT_ HW_ => ?_)
  generalize wr.drew = w21 at HO_218001 BK214 BK217 HI0 HK HB hHeld ⊢
  refine pu 0 16 ?_ (ms 21 1) rfl rfl HT_ (by kernel_rfl) (fun _ _ _ h => h) (by rfl) ?_ ?_ ?_ ?_
  rotate_left
  ·intro w'
   go_simp
   with_reducible rfl
  rotate_left
  ·simp only [SX]
   rfl
  refine pu 1 17 ?_ (ms 21 3) rfl rfl HT_ (by kernel_rfl) (fun _ _ _ h => h) (by rfl) ?_ ?_ ?_ ?_
  rotate_left
  ·intro w'
   go_simp
   with_reducible rfl
  rotate_left
  ·simp only [SX]
   rfl
  refine pu 4 20 ?_ (ms 21 19) rfl rfl HT_ (by kernel_rfl) (fun _ _ _ h => h) (by rfl) ?_ ?_ ?_ ?_
  rotate_left
  ·intro w'
   go_simp
   with_reducible rfl
  rotate_left
  ·simp only [SX]
   rfl
  refine pu 5 21 ?_ (ms 21 51) rfl rfl HT_ (by kernel_rfl) (fun _ _ _ h => h) (by rfl) ?_ ?_ ?_ ?_
  rotate_left
  ·intro w'
   go_simp
   with_reducible rfl
  rotate_left
  ·simp only [SX]
   rfl
  refine pu 8 24 ?_ (ms 21 307) rfl rfl HT_ (by kernel_rfl) (fun _ _ _ h => h) (by rfl) ?_ ?_ ?_ ?_
  rotate_left
  ·intro w'
   go_simp
   with_reducible rfl
  rotate_left
  ·simp only [SX]
   rfl
  refine pu 9 25 ?_ (ms 21 819) rfl rfl HT_ (by kernel_rfl) (fun _ _ _ h => h) (by rfl) ?_ ?_ ?_ ?_
  rotate_left
  ·intro w'
   go_simp
   with_reducible rfl
  rotate_left
  ·simp only [SX]
   rfl
  refine pu 13 29 ?_ (ms 21 9011) rfl rfl HT_ (by kernel_rfl) (fun _ _ _ h => h) (by rfl) ?_ ?_ ?_ ?_
  rotate_left
  ·intro w'
   go_simp
   with_reducible rfl
  rotate_left
  ·simp only [SX]
   rfl
  refine pu 16 32 ?_ (ms 21 74547) rfl rfl HT_ (by kernel_rfl) (fun _ _ _ h => h) (by rfl) ?_ ?_ ?_ ?_
  rotate_left
  ·intro w'
   go_simp
   with_reducible rfl
  rotate_left
  ·simp only [SX]
   rfl
  refine tk 2 18 ?_ (ms 21 74551) rfl rfl HT_ HW_ (by kernel_rfl) (fun _ _ _ h => h) (by rfl) ?_ hHeld ?_ ?_ ?_
  rotate_left
  ·rintro w' ⟨s0, s1⟩
   go_simp
   with_reducible rfl
  rotate_left
  ·simp only [SX]
   rfl
  refine tk 6 22 ?_ (ms 21 74615) rfl rfl HT_ HW_ (by kernel_rfl) (fun _ _ _ h => h) (by rfl) ?_ hHeld ?_ ?_ ?_
  rotate_left
  ·rintro w' ⟨s0, s1⟩
   go_simp
   with_reducible rfl
  rotate_left
  ·simp only [SX]
   rfl
  refine join_ (σ := Value × Value × Nat) 1 (ms 21 1048575) (fun s_ => [(19, .int .i64 t220), (23, .int .i64 t222), (26, .int .i64 t224), (27, s_.1), (28, .int .i64 t229), (31, .int .i64 t234), (33, .int .i64 t236), (34, .agg #[.int .i64 t220, .int .i64 t222, .int .i64 t229, .int .i64 t234, .int .i64 t236]), (30, s_.2.1), (5, .pointer (some ⟨s_.2.2, 0, none⟩))]) (fun s_ w' => (w'.cell? ⟨gb217, 0, none⟩ = some (.int .i64 (wrap64 (2 + t215))) ∧ w'.cell? ⟨gb217, 1, none⟩ = some (u218001)) ∧ (Kd.R k33 33 w' w.heap.size (fun k_ => k_ ≠ s_.2.2) u218001 x218001_1) ∧ (w'.heap[gb214]? = some (.cells #[.int .i64 0, .slice none 0 0] 25 (0, 0))) ∧ (w'.heap[gb217]? = some (.cells #[.int .i64 (wrap64 (2 + t215)), u218001] 25 (0, 0))) ∧ (w'.heap[s_.2.2]? = some (.cells #[.int .i64 0, .int .i64 0, .int .i64 0, .int .i64 0, .int .i64 0] 33 (0, 0))) ∧ (w.heap.size ≤ s_.2.2) ∧ (w0.heap.size ≤ s_.2.2) ∧ (g ≠ s_.2.2) ∧ (s_.2.2 ≠ g) ∧ (gb214 ≠ s_.2.2) ∧ (s_.2.2 ≠ gb214) ∧ (gb217 ≠ s_.2.2) ∧ (s_.2.2 ≠ gb217) ∧ (IsS89 w0 w' g s0_0 t237) ∧ (KeepBut w w' g none) ∧ (Below w0.heap.size w0 w')) ?_ ?_
  rotate_left
  ·intro hJ
   have a15 := A15.out
   have a16 := A16.out
   rw [Ny226.out] at a15
   rw [Ny231.out] at a16
   refine spec_l30Net.reg5 (FS := (fun o w' => (w'.cell? ⟨gb217, 0, none⟩ = some (.int .i64 (wrap64 (2 + t215))) ∧ w'.cell? ⟨gb217, 1, none⟩ = some (u218001)) ∧ (Kd.R k33 33 w' w.heap.size (fun k_ => some k_ ≠ o) u218001 x218001_1) ∧ (w'.heap[gb214]? = some (.cells #[.int .i64 0, .slice none 0 0] 25 (0, 0))) ∧ (w'.heap[gb217]? = some (.cells #[.int .i64 (wrap64 (2 + t215)), u218001] 25 (0, 0))) ∧ (some gb214 ≠ o ∧ some gb217 ≠ o))) _ _ rfl rfl rfl rfl rfl rfl rfl rfl rfl (fun o w' h => h.1) ?_ ?_ HI0.out HK.out HB.out ⟨hHeld, Kd.R_mono HO_218001.out (fun _ _ => by simp), BK214.out, BK217.out, by simp⟩ A12.out A13.out A14.out a15 a16 A17.out ?_
   ·rintro o wa wb p hi hk ⟨_, h1, h2, h3, h4⟩
    have b2 := KeepBut.blk hk h2 NB214_0.out (by simp)
    have b3 := KeepBut.blk hk h3 NB217_0.out (by simp)
    exact ⟨⟨(blk_cell b3 0).trans rfl, (blk_cell b3 1).trans rfl⟩, Kd.R_mono (Kd.R_keep (IsS89.apart hi h1 (by decide)) hk (fun _ h => h.2)) (fun _ h => h.1), b2, b3, h4⟩
   ·rintro wa ⟨h0, h1, h2, h3, _⟩
    exact ⟨h0, Kd.R_mono (Kd.R_elderB h1 wa.heap.size (Nat.le_refl _)) (fun k hk => by have := hk.2; simpa using this), h2, h3, by simpa using Nat.ne_of_lt (blk_lt h2), by simpa using Nat.ne_of_lt (blk_lt h3)⟩
   rintro v27 v30 gb w' ⟨h0, h1, h2, h3, h4, h5⟩ hbox hgw hgg hi hk hb
   have e4 : gb214 ≠ gb := by simpa using h4
   have e5 : gb217 ≠ gb := by simpa using h5
   exact hJ (v27, v30, gb) w' ⟨h0, Kd.R_mono h1 (fun k hk => by simpa using hk), h2, h3, hbox, hgw, Nat.le_trans HW0.out hgw, hgg.symm, hgg, e4, e4.symm, e5, e5.symm, hi, hk, hb⟩
  rintro ⟨v227, v232, gb238⟩ w35 ⟨hS_, h2_, h3_, h4_, h5_, h6_, h7_, h8_, h9_, h10_, h11_, h12_, h13_, h14_, h15_, h16_⟩
  replace HO_218001 : Aside0 (Kd.R k33 33 w35 w.heap.size (fun k_ => k_ ≠ gb238) u218001 x218001_1) := ⟨h2_⟩
  replace BK214 : Aside0 (w35.heap[gb214]? = some (.cells #[.int .i64 0, .slice none 0 0] 25 (0, 0))) := ⟨h3_⟩
  replace BK217 : Aside0 (w35.heap[gb217]? = some (.cells #[.int .i64 (wrap64 (2 + t215)), u218001] 25 (0, 0))) := ⟨h4_⟩
  have BK238 : Aside0 (w35.heap[gb238]? = some (.cells #[.int .i64 0, .int .i64 0, .int .i64 0, .int .i64 0, .int .i64 0] 33 (0, 0))) := ⟨h5_⟩
  have GW238 : Aside0 (w.heap.size ≤ gb238) := ⟨h6_⟩
  have GE238 : Aside0 (w0.heap.size ≤ gb238) := ⟨h7_⟩
  have NB0_238 : Aside0 (g ≠ gb238) := ⟨h8_⟩
  have NB238_0 : Aside0 (gb238 ≠ g) := ⟨h9_⟩
  have NB214_238 : Aside0 (gb214 ≠ gb238) := ⟨h10_⟩
  have NB238_214 : Aside0 (gb238 ≠ gb214) := ⟨h11_⟩
  have NB217_238 : Aside0 (gb217 ≠ gb238) := ⟨h12_⟩
  have NB238_217 : Aside0 (gb238 ≠ gb217) := ⟨h13_⟩
  replace HI0 : Aside0 (IsS89 w0 w35 g s0_0 t237) := ⟨h14_⟩
  replace HK : Aside0 (KeepBut w w35 g none) := ⟨h15_⟩
  replace HB : Aside0 (Below w0.heap.size w0 w35) := ⟨h16_⟩
  clear h2_ h3_ h4_ h5_ h6_ h7_ h8_ h9_ h10_ h11_ h12_ h13_ h14_ h15_ h16_
  have hHeld : w35.cell? ⟨gb217, 0, none⟩ = some (.int .i64 (wrap64 (2 + t215))) ∧ w35.cell? ⟨gb217, 1, none⟩ = some (u218001) := hS_
  refine norm_ (a' := ?_) ?_ ?_
  rotate_left
  ·simp only [putAll, Act.put, List.setIfInBounds_toArray, List.set_cons_zero, List.set_cons_succ]
   rfl
  refine one_ (i := 20) (N := none) (ms 21 2097151) rfl rfl (one_of HT_.out (by kernel_rfl)) (by decide) (fun K hK => ?_)
  have hs36 : w35.cell? ⟨gb238, 0, none⟩ = some (.int .i64 0) := (blk_cell BK238.out 0).trans rfl
  have hfs36 := blk_frozen BK238.out 0
  have hns36_0 := NB214_238.out
  have hns36_1 := NB217_238.out
  have hms36_0 := NB238_214.out
  have hms36_1 := NB238_217.out
  have hs37 : w35.cell? ⟨gb238, 1, none⟩ = some (.int .i64 0) := (blk_cell BK238.out 1).trans rfl
  have hfs37 := blk_frozen BK238.out 1
  have hns37_0 := NB214_238.out
  have hns37_1 := NB217_238.out
  have hms37_0 := NB238_214.out
  have hms37_1 := NB238_217.out
  have hs38 : w35.cell? ⟨gb238, 2, none⟩ = some (.int .i64 0) := (blk_cell BK238.out 2).trans rfl
  have hfs38 := blk_frozen BK238.out 2
  have hns38_0 := NB214_238.out
  have hns38_1 := NB217_238.out
  have hms38_0 := NB238_214.out
  have hms38_1 := NB238_217.out
  have hs39 : w35.cell? ⟨gb238, 3, none⟩ = some (.int .i64 0) := (blk_cell BK238.out 3).trans rfl
  have hfs39 := blk_frozen BK238.out 3
  have hns39_0 := NB214_238.out
  have hns39_1 := NB217_238.out
  have hms39_0 := NB238_214.out
  have hms39_1 := NB238_217.out
  have hs40 : w35.cell? ⟨gb238, 4, none⟩ = some (.int .i64 0) := (blk_cell BK238.out 4).trans rfl
  have hfs40 := blk_frozen BK238.out 4
  have hns40_0 := NB214_238.out
  have hns40_1 := NB217_238.out
  have hms40_0 := NB238_214.out
  have hms40_1 := NB238_217.out
  refine skip_ (w1 := ?_) (by rfl) rfl ?_ ?_
  rotate_left
  ·go_simp
   rfl
  refine hK.out _ _ ⟨((cell_far (p := ⟨gb238, _, none⟩) NB217_238.out _).trans (((cell_far (p := ⟨gb238, _, none⟩) NB217_238.out _).trans (((cell_far (p := ⟨gb238, _, none⟩) NB217_238.out _).trans (((cell_far (p := ⟨gb238, _, none⟩) NB217_238.out _).trans (((cell_far (p := ⟨gb238, _, none⟩) NB217_238.out _).trans (hHeld.1)))))))))), ((cell_far (p := ⟨gb238, _, none⟩) NB217_238.out _).trans (((cell_far (p := ⟨gb238, _, none⟩) NB217_238.out _).trans (((cell_far (p := ⟨gb238, _, none⟩) NB217_238.out _).trans (((cell_far (p := ⟨gb238, _, none⟩) NB217_238.out _).trans (((cell_far (p := ⟨gb238, _, none⟩) NB217_238.out _).trans (hHeld.2))))))))))⟩ (fun hHeld => ?_)
  clear hK K
  refine done_ (done_of HT_.out (by kernel_rfl)) ?_
  have hnb41 := NB238_214.out
  have hnc41 := NB214_238.out
  have hnb42 := NB238_217.out
  have hnc42 := NB217_238.out
  have hnb43 := NB238_0.out
  have hnc43 := NB0_238.out
  have hcz44_0 := bc w35 BK238 0 (.int .i64 0) rfl
  have hcz44_1 := bc w35 BK238 1 (.int .i64 0) rfl
  have hcz44_2 := bc w35 BK238 2 (.int .i64 0) rfl
  have hcz44_3 := bc w35 BK238 3 (.int .i64 0) rfl
  have hcz44_4 := bc w35 BK238 4 (.int .i64 0) rfl
  have hfz44_0 := fz BK238 0
  have hfz44_1 := fz BK238 1
  have hfz44_2 := fz BK238 2
  have hfz44_3 := fz BK238 3
  have hfz44_4 := fz BK238 4
  have hnb45 := NB217_214.out
  have hnc45 := NB214_217.out
  have hnb46 := NB217_0.out
  have hnc46 := NB0_217.out
  have hcz47_0 := bc w35 BK217 0 (.int .i64 (wrap64 (2 + t215))) rfl
  have hcz47_1 := bc w35 BK217 1 (u218001) rfl
  have hfz47_0 := fz BK217 0
  have hfz47_1 := fz BK217 1
  try go_wp2_with (first | ((with_reducible refine gate_dst (N := 49) rfl ?_); (fail_if_success clear hW_); refine spec_l30Net.fix_world (g := gb238) (o := .cells #[.int .i64 t220, .int .i64 (Int.tmod (wrap64 (t222 + 1)) (wrap64 (2 + t215))), .int .i64 t229, .int .i64 t234, .int .i64 t236] 33 (0, 0)) (by (with_reducible repeat (first | refine blk_drewN ?_ _ | refine blk_drew ?_ | refine blk_alloc ?_ _)); refine blk_put (cs := #[.int .i64 t220, .int .i64 t222, .int .i64 t229, .int .i64 t234, .int .i64 t236]) ?_ 1 _ rfl; refine blk_put (cs := #[.int .i64 t220, .int .i64 t222, .int .i64 t229, .int .i64 t234, .int .i64 0]) ?_ 4 _ rfl; refine blk_put (cs := #[.int .i64 t220, .int .i64 t222, .int .i64 t229, .int .i64 0, .int .i64 0]) ?_ 3 _ rfl; refine blk_put (cs := #[.int .i64 t220, .int .i64 t222, .int .i64 0, .int .i64 0, .int .i64 0]) ?_ 2 _ rfl; refine blk_put (cs := #[.int .i64 t220, .int .i64 0, .int .i64 0, .int .i64 0, .int .i64 0]) ?_ 1 _ rfl; refine blk_put (cs := #[.int .i64 0, .int .i64 0, .int .i64 0, .int .i64 0, .int .i64 0]) ?_ 0 _ rfl; (with_reducible repeat (first | refine blk_drewN ?_ _ | refine blk_drew ?_ | refine blk_alloc ?_ _)); exact BK238.out) ?_; intro W_ hW_ hBW_; have hcw_0 : W_.cell? ⟨gb238, 0, none⟩ = some (.int .i64 t220) := (blk_cell hBW_ 0).trans rfl; have hcw_1 : W_.cell? ⟨gb238, 1, none⟩ = some (.int .i64 (Int.tmod (wrap64 (t222 + 1)) (wrap64 (2 + t215)))) := (blk_cell hBW_ 1).trans rfl; have hcw_2 : W_.cell? ⟨gb238, 2, none⟩ = some (.int .i64 t229) := (blk_cell hBW_ 2).trans rfl; have hcw_3 : W_.cell? ⟨gb238, 3, none⟩ = some (.int .i64 t234) := (blk_cell hBW_ 3).trans rfl; have hcw_4 : W_.cell? ⟨gb238, 4, none⟩ = some (.int .i64 t236) := (blk_cell hBW_ 4).trans rfl) | ((with_reducible refine gate_dst (N := 50) rfl ?_); clear hBW_ hcw_0 hcw_1 hcw_2 hcw_3 hcw_4; subst hW_) | ((with_reducible refine gate_builtin (b := .append) (xs := #[.tmp 48, .tmp 50]) rfl ?_); at_builtin; refine Kd.R_append k33 w.heap.size rfl (.tmp 48) (.tmp 50) 23 33 (.agg #[(.int .i64 0), (.int .i64 0), (.int .i64 0), (.int .i64 0), (.int .i64 0)]) 40 rfl Try.underlying23 info33 rfl (by decide) (by omega) u218001 x218001_1 (⟨t220, Int.tmod (wrap64 (t222 + 1)) (wrap64 (2 + t215)), t229, t234, t236⟩ : S33) [.int .i64 t220, .int .i64 (Int.tmod (wrap64 (t222 + 1)) (wrap64 (2 + t215))), .int .i64 t229, .int .i64 t234, .int .i64 t236] (fun k_ => k_ ≠ gb238) (fun _ => False) rfl (by first | (go_simp; done) | (go_simp; rfl)) ?aP (fun _ hk => hk.elim) ?aF ?aO (Below.refl _ _) ?aS ?aL ?_; (case aP => exact k33_mkM _ _ _ (⟨t220, Int.tmod (wrap64 (t222 + 1)) (wrap64 (2 + t215)), t229, t234, t236⟩ : S33)); (case aF => exact (fun k_ hk => Kd.freshB (g := gb238) (o := .cells #[.int .i64 t220, .int .i64 (Int.tmod (wrap64 (t222 + 1)) (wrap64 (2 + t215))), .int .i64 t229, .int .i64 t234, .int .i64 t236] 33 (0, 0)) (by (with_reducible repeat (first | refine blk_drewN ?_ _ | refine blk_drew ?_ | refine blk_alloc ?_ _)); refine blk_put (cs := #[.int .i64 t220, .int .i64 t222, .int .i64 t229, .int .i64 t234, .int .i64 t236]) ?_ 1 _ rfl; refine blk_put (cs := #[.int .i64 t220, .int .i64 t222, .int .i64 t229, .int .i64 t234, .int .i64 0]) ?_ 4 _ rfl; refine blk_put (cs := #[.int .i64 t220, .int .i64 t222, .int .i64 t229, .int .i64 0, .int .i64 0]) ?_ 3 _ rfl; refine blk_put (cs := #[.int .i64 t220, .int .i64 t222, .int .i64 0, .int .i64 0, .int .i64 0]) ?_ 2 _ rfl; refine blk_put (cs := #[.int .i64 t220, .int .i64 0, .int .i64 0, .int .i64 0, .int .i64 0]) ?_ 1 _ rfl; refine blk_put (cs := #[.int .i64 0, .int .i64 0, .int .i64 0, .int .i64 0, .int .i64 0]) ?_ 0 _ rfl; (with_reducible repeat (first | refine blk_drewN ?_ _ | refine blk_drew ?_ | refine blk_alloc ?_ _)); exact BK238.out) k_ hk)); (case aO => exact (by (with_reducible repeat (first | apply Kd.R_alloc | apply Kd.R_drewN | apply Kd.R_drew)); exact Kd.R_mono (Kd.R_far (p := ⟨gb238, 1, none⟩) (Kd.R_far (p := ⟨gb238, 4, none⟩) (Kd.R_far (p := ⟨gb238, 3, none⟩) (Kd.R_far (p := ⟨gb238, 2, none⟩) (Kd.R_far (p := ⟨gb238, 1, none⟩) (Kd.R_far (p := ⟨gb238, 0, none⟩) (Kd.R_mono HO_218001.out (fun k_ hk => (⟨hk, hk⟩ : _ ∧ k_ ≠ gb238))) (fun _ hk => hk.2) (.int .i64 t220)) (fun _ hk => hk.2) (.int .i64 t222)) (fun _ hk => hk.2) (.int .i64 t229)) (fun _ hk => hk.2) (.int .i64 t234)) (fun _ hk => hk.2) (.int .i64 t236)) (fun _ hk => hk.2) (.int .i64 (Int.tmod (wrap64 (t222 + 1)) (wrap64 (2 + t215))))) (fun _ hk => hk.1))); (case aS => exact (keep_size (w := w) (g := g) (row := none) (by repeat (first | (with_reducible first | exact HK.out | apply KeepBut.set_ | apply keep_drewN | apply keep_drew | apply keep_alloc | refine keep_far ?_ GW214.out _ | refine keep_far ?_ GW217.out _ | refine keep_far ?_ GW238.out _) | exact HK.out)))); (case aL => have := LMc20.out; omega); intro v240 w48 ho hb hg hat; rw [← Ny239.out] at ho; have n0_ := ak (blk_grown (g := gb214) (o := .cells #[.int .i64 0, .slice none 0 0] 25 (0, 0)) (by (with_reducible repeat (first | refine blk_drewN ?_ _ | refine blk_drew ?_ | refine blk_alloc ?_ _)); refine blk_far ?_ NB214_238.out _; refine blk_far ?_ NB214_238.out _; refine blk_far ?_ NB214_238.out _; refine blk_far ?_ NB214_238.out _; refine blk_far ?_ NB214_238.out _; refine blk_far ?_ NB214_238.out _; (with_reducible repeat (first | refine blk_drewN ?_ _ | refine blk_drew ?_ | refine blk_alloc ?_ _)); exact BK214.out) hg (Kd.R_ne HO_218001.out BK214.out (by decide))); have n1_ := ak (blk_grown (g := gb217) (o := .cells #[.int .i64 (wrap64 (2 + t215)), u218001] 25 (0, 0)) (by (with_reducible repeat (first | refine blk_drewN ?_ _ | refine blk_drew ?_ | refine blk_alloc ?_ _)); refine blk_far ?_ NB217_238.out _; refine blk_far ?_ NB217_238.out _; refine blk_far ?_ NB217_238.out _; refine blk_far ?_ NB217_238.out _; refine blk_far ?_ NB217_238.out _; refine blk_far ?_ NB217_238.out _; (with_reducible repeat (first | refine blk_drewN ?_ _ | refine blk_drew ?_ | refine blk_alloc ?_ _)); exact BK217.out) hg (Kd.R_ne HO_218001.out BK217.out (by decide))); have n2_ := ak (IsS89.grown (w0 := w0) (f0 := s0_0) (f1 := t237) (by repeat (first | (with_reducible first | exact HI0.out | apply IsS89.alloc | apply IsS89.drewN | apply IsS89.drew | apply IsS89.set_1 | refine IsS89.far ?_ NB0_214.out _ | refine IsS89.far ?_ NB0_217.out _ | refine IsS89.far ?_ NB0_238.out _) | exact HI0.out)) hg (IsS89.own_ne HI0.out HO_218001.out (by decide))); have n5_ := ak (blk_grown (g := gb238) (o := .cells #[.int .i64 t220, .int .i64 (Int.tmod (wrap64 (t222 + 1)) (wrap64 (2 + t215))), .int .i64 t229, .int .i64 t234, .int .i64 t236] 33 (0, 0)) (by (with_reducible repeat (first | refine blk_drewN ?_ _ | refine blk_drew ?_ | refine blk_alloc ?_ _)); refine blk_put (cs := #[.int .i64 t220, .int .i64 t222, .int .i64 t229, .int .i64 t234, .int .i64 t236]) ?_ 1 _ rfl; refine blk_put (cs := #[.int .i64 t220, .int .i64 t222, .int .i64 t229, .int .i64 t234, .int .i64 0]) ?_ 4 _ rfl; refine blk_put (cs := #[.int .i64 t220, .int .i64 t222, .int .i64 t229, .int .i64 0, .int .i64 0]) ?_ 3 _ rfl; refine blk_put (cs := #[.int .i64 t220, .int .i64 t222, .int .i64 0, .int .i64 0, .int .i64 0]) ?_ 2 _ rfl; refine blk_put (cs := #[.int .i64 t220, .int .i64 0, .int .i64 0, .int .i64 0, .int .i64 0]) ?_ 1 _ rfl; refine blk_put (cs := #[.int .i64 0, .int .i64 0, .int .i64 0, .int .i64 0, .int .i64 0]) ?_ 0 _ rfl; (with_reducible repeat (first | refine blk_drewN ?_ _ | refine blk_drew ?_ | refine blk_alloc ?_ _)); exact BK238.out) hg (Kd.R_away HO_218001.out (fun _ hk => hk))); have n6_ := ak (below_weaken (by repeat (first | (with_reducible first | exact HB.out | apply below_alloc | apply pw_below_drewN | apply below_drew1 | refine below_set ?_ (IsS89.ge HI0.out) | refine below_set ?_ GE214.out | refine below_set ?_ GE217.out | refine below_set ?_ GE238.out) | exact HB.out)) HL.out hb); have n7_ := ak (KeepBut.trans (by repeat (first | (with_reducible first | exact HK.out | apply KeepBut.set_ | apply keep_drewN | apply keep_drew | apply keep_alloc | refine keep_far ?_ GW214.out _ | refine keep_far ?_ GW217.out _ | refine keep_far ?_ GW238.out _) | exact HK.out)) (KeepBut.of_grown hg g) (Kd.R_base2 HO_218001.out)); have n8_ := ak (ho); clear BK214; clear BK217; clear HI0; clear BK238; clear HB; clear HK; clear HO_218001; have BK214 := n0_; have BK217 := n1_; have HI0 := n2_; have BK238 := n5_; have HB := n6_; have HK := n7_; have HO241 := n8_; clear n0_ n1_ n2_ n5_ n6_ n7_ n8_; clear ho hb hg hat; obtain ⟨Ao49, co49, eo49⟩ := Kd.R_slice HO241.out; subst eo49; have hcz50_0 := bc w48 BK217 0 (.int .i64 (wrap64 (2 + t215))) rfl; have hcz50_1 := bc w48 BK217 1 (u218001) rfl; have hfz50_0 := fz BK217 0; have hfz50_1 := fz BK217 1))
  go_roundg k1
  case measure => have := HK1.out; omega
  case rel => exact ⟨(wrap64 (x4_1 - 1)), (t237), (y239), (.slice Ao49 y239.length co49), (by first | rfl | (simp; done) | (simp [*]; done)), H', ⟨by have := HK1.out; omega⟩, ⟨by (with_reducible repeat (first | apply Kd.R_alloc | apply Kd.R_drewN | apply Kd.R_drew)); exact Kd.R_mono (Kd.R_far (p := ⟨gb217, 1, none⟩) (Kd.R_types HO241.out BK217.out (by decide)) (fun _ hk => hk.2) (.slice Ao49 y239.length co49)) (fun _ hk => trivial)⟩, ⟨by (with_reducible repeat (first | refine blk_drewN ?_ _ | refine blk_drew ?_ | refine blk_alloc ?_ _)); refine blk_far ?_ NB214_217.out _; (with_reducible repeat (first | refine blk_drewN ?_ _ | refine blk_drew ?_ | refine blk_alloc ?_ _)); exact BK214.out⟩, ⟨by (with_reducible repeat (first | refine blk_drewN ?_ _ | refine blk_drew ?_ | refine blk_alloc ?_ _)); refine blk_put (cs := #[.int .i64 (wrap64 (2 + t215)), u218001]) ?_ 1 _ rfl; (with_reducible repeat (first | refine blk_drewN ?_ _ | refine blk_drew ?_ | refine blk_alloc ?_ _)); exact BK217.out⟩, ⟨by repeat (first | (with_reducible first | exact HI0.out | apply IsS89.alloc | apply IsS89.drewN | apply IsS89.drew | apply IsS89.set_1 | refine IsS89.far ?_ NB0_214.out _ | refine IsS89.far ?_ NB0_217.out _ | refine IsS89.far ?_ NB0_238.out _) | exact HI0.out)⟩, ⟨by repeat (first | (with_reducible first | exact HK.out | apply KeepBut.set_ | apply keep_drewN | apply keep_drew | apply keep_alloc | refine keep_far ?_ GW214.out _ | refine keep_far ?_ GW217.out _ | refine keep_far ?_ GW238.out _) | exact HK.out)⟩, ⟨by repeat (first | (with_reducible first | exact HB.out | apply below_alloc | apply pw_below_drewN | apply below_drew1 | refine below_set ?_ (IsS89.ge HI0.out) | refine below_set ?_ GE214.out | refine below_set ?_ GE217.out | refine below_set ?_ GE238.out) | exact HB.out)⟩⟩

end Go.Proofs.Ytddkaiegnohkcaa.F
