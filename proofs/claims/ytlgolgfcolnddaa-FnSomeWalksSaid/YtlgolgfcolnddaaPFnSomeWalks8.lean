-- Printed by this claim's repository's tools (px.py, pgo.py, pack.py), one text behind the other. Lean checks it.
import Derived.Test.YtlgolgfcolnddaaPFnSomeWalks7
import Derived.Test.YtlgolgfcolnddaaFKindsPFnSomeWalks
import Derived.Test.YtlgolgfcolnddaaPFnSomeWalks0
import Derived.Test.YtlgolgfcolnddaaPFnSomeWalks1
import Derived.Test.YtlgolgfcolnddaaPFnSomeWalks2
import Derived.Test.YtlgolgfcolnddaaPFnSomeWalks4
import Derived.Test.YtlgolgfcolnddaaPFnSomeWalks5
import Derived.Test.YtlgolgfcolnddaaPFnSomeWalks6
namespace Go.Proofs.Ytlgolgfcolnddaa.F
open Go.RowKit Go.Proofs.YtlgolgfcolnddaaW.PrintWords Go.Proofs.YtlgolgfcolnddaaW.PrintLast Go.Proofs.YtlgolgfcolnddaaW.PrintMore
attribute [local go_sem] qQb qQc qQk qQj qZn qZo qQd qQe
set_option linter.unusedVariables false
set_option linter.unusedSimpArgs false
/-! ### laws_FnSomeWalks: the walk -/
def laws_FnSomeWalks.T10 : Bool × List (List Nat × List Nat) := (true, [([], []), ([], []), ([], []), ([1, 2], [1, 2]), ([3], [3]), ([], []), ([], []), ([0, 4, 5, 6], [0, 4, 5, 6]), ([7], [7]), ([8, 7], [8]), ([9], [9]), ([9], [9]), ([9], [9]), ([11, 12, 9], [9, 11, 12]), ([13, 9], [9, 13]), ([10, 14, 9, 9], [9, 10, 14]), ([9], [9]), ([9], [9]), ([16, 17, 9], [9, 16, 17]), ([18, 9], [9, 18]), ([15, 19, 15, 9], [9, 15, 19]), ([20, 9], [9, 20]), ([9, 21], [9, 21]), ([22, 20], [22]), ([23], [23]), ([24, 23], [23, 24]), ([25, 23, 23], [23, 25]), ([26], [26]), ([26], [26]), ([26], [26]), ([29, 26], [26, 29]), ([28, 30, 26], [26, 28, 30]), ([31, 26], [26, 31]), ([26], [26]), ([26], [26]), ([33, 34, 26], [26, 33, 34]), ([35, 26], [26, 35]), ([27, 32, 36, 26, 26], [26, 27, 32, 36]), ([37, 26], [26, 37]), ([26, 38, 23], [23, 26, 38]), ([23, 39], [23, 39])])
def laws_FnSomeWalks.B10 : List Nat := [0, 0, 0, 6, 14, 0, 0, 127, 255, 511, 1023, 1023, 1023, 7167, 15359, 32767, 1023, 1023, 197631, 459775, 1048575, 2097151, 4194303, 8388607, 16777215, 33554431, 67108863, 134217727, 134217727, 134217727, 671088639, 2013265919, 4160749567, 134217727, 134217727, 25904021503, 60263759871, 137438953471, 274877906943, 549755813887, 1099511627775]
theorem laws_FnSomeWalks.tab10 : rtab .any (qWg Try.f5 10) = laws_FnSomeWalks.T10 := by kernel_rfl
theorem laws_FnSomeWalks.bits10 : qJn laws_FnSomeWalks.T10.2 laws_FnSomeWalks.B10 = true := by kernel_rfl
set_option maxHeartbeats 8000000 in
set_option maxRecDepth 100000 in
theorem laws_FnSomeWalks.calls (k : Nat) (A0 : Option Addr) (c0 : Nat) (l0 : List Int) (r : Bool) (w : World) (hr0 : Kd.C (Kd.int .u8) w A0 l0.length l0) (hc0 : l0.length ≤ c0) (h : laws_FnSomeWalks.f k l0 = some r) (hr_ : r = true) :
  Calls Try.prog 5 #[.slice A0 l0.length c0] w fun e w' => e = .returned (.bool r) ∧ Below w.heap.size w w' := by
 have eE := Try.underlying25
 have HR0 := ak hr0
 have HC0 := ak hc0
 clear hr0 hc0
 have HB := ak (Below.refl w.heap.size w)
 have H : (if (l0.length : Int) > 1048576 then (some true) else ((spec_DrawSomeWalks.f k l0).bind fun af => ((impl_SomeWalks.f af.1 af.2.1 af.2.2.1 af.2.2.2.1 af.2.2.2.2).bind fun ae => ((spec_SomeWalks.f k af.1 af.2.1 af.2.2.1 af.2.2.2.1 af.2.2.2.2).bind fun bh => ((laws_wkGrid.f k ae bh).bind fun cb => (if cb = true then (laws_FnSomeWalks.j0 k af.2.2.1 af.2.2.2.1 af.2.2.2.2 ae ((ae.length : Int) == 0) af.1 af.2.1) else (laws_FnSomeWalks.j0 k af.2.2.1 af.2.2.2.1 af.2.2.2.2 ae true af.1 af.2.1))))))) = some r := h
 clear h
 by_cases c2 : (l0.length : Int) > 1048576
 ·rw [if_pos c2] at H
  have c2b0 : decide (1048576 < (l0.length : Int)) = true := decide_eq_true c2
  have c2b1 : decide (1048576 < l0.length) = true := decide_eq_true (by omega)
  clear c2
  obtain rfl := Option.some.inj H
  go_enter Try.func5, Try.ntmps5
  go_wp2
  go_ret
  exact ⟨by first | rfl | (simp [qXp, qVb] <;> rfl) | (simp [*, qXp, qVb] <;> rfl), bl HB⟩
 rw [if_neg c2] at H
 have c2b0 : decide (1048576 < (l0.length : Int)) = false := decide_eq_false c2
 have c2b1 : decide (1048576 < l0.length) = false := decide_eq_false (by omega)
 clear c2
 replace H := Option.bind_eq_some_iff.mp H
 obtain ⟨⟨ai, ah, aL, aN, aX⟩, A30, H⟩ := H
 have A3 := ak A30
 clear A30
 replace H := Option.bind_eq_some_iff.mp H
 obtain ⟨ae, A40, H⟩ := H
 have A4 := ak A40
 clear A40
 have HC5 := ak H
 clear H
 go_enter Try.func5, Try.ntmps5
 go_upto_region 5 with (first | ((with_reducible refine gate_callee (f := 26) rfl ?_); refine qQi (some 16) rfl rfl Try.func26 (by kernel_rfl) rfl #[.slice A0 l0.length c0] rfl (by (try simp only [List.map_toArray, List.map_cons, List.map_nil]); first | done | rfl | (simp only [List.length_drop, List.length_take]; rfl)) ?_; (with_reducible refine (spec_DrawSomeWalks.calls k _ _ l0 ai ah aL aN aX _ ?side1 ?side2 A3.out).mono ?_); (case side1 => repeat (first | exact HR0.out | (with_reducible refine Kd.C_alloc ?_ _) | (with_reducible refine Kd.C_drewN ?_ _) | (with_reducible refine Kd.C_drew ?_))); (case side2 => exact HC0.out); rintro e w6 ⟨eF, rfl, ho0, hb⟩; refine ⟨_, rfl, ?_⟩; have au := ak (Kd.R_lower ho0 (qZc (bl HB))); replace HB := ak (qZd (bl HB) hb); (try clear hb); (try clear hb2); (try clear hk); (try clear hi); (try clear ho0)) | ((with_reducible refine gate_dst (N := 3) rfl ?_); refine qZh ?hg (N := 3) ?hd (cs := #[.int .i64 0, .slice none 0 0]) (t := 25) ?hr ?_; (case hd => rfl); (case hg => rfl); (case hr => first | (go_simp; done) | (go_simp; rfl)); intro an hg w7 hbox hb; replace au := ak (Kd.R_below (rk au) hb); have ab := ak (hbox); have ey := ak ((by rw [hg]; exact (qZc (bl HB)) : w.heap.size ≤ an)); have aj := ak ((by rw [hg]; exact (qZc (bl HB)) : w.heap.size ≤ an)); replace HB := ak (qZd (bl HB) hb); clear hb hbox hg; have cc := bc w7 ab 0 (.int .i64 0) rfl; have cd := bc w7 ab 1 (.slice none 0 0) rfl; have ce := fz ab 0; have cf := fz ab 1; obtain ⟨Ao9, co9, eo9⟩ := Kd.R_slice au.out; subst eo9) | ((with_reducible refine gate_callee (f := 15) rfl ?_); refine qQi (some 25) rfl rfl Try.func15 (by kernel_rfl) rfl #[.agg #[.int .i64 ai, .slice Ao9 ah.length co9], .int .i64 aL, .int .i64 aN, .int .i64 aX] rfl (by (try simp only [List.map_toArray, List.map_cons, List.map_nil]); first | done | rfl | (simp only [List.length_drop, List.length_take]; rfl)) ?_; (with_reducible refine (impl_SomeWalks.calls ai _ _ ah aL aN aX ae _ ?side1 ?side2 A4.out).mono ?_); (case side1 => refine (Kd.R_reads' (e := 58) (base := w.heap.size) (ok := fun k_ => True) (n := ah.length) (c := co9) ?_).2.2; exact (by (with_reducible repeat (first | apply Kd.R_alloc | apply Kd.R_drewN | apply Kd.R_drew)); exact (Kd.R_mono (Kd.R_far (p := ⟨an, 1, none⟩) (Kd.R_far (p := ⟨an, 0, none⟩) (Kd.R_types au.out ab.out (by decide)) (fun _ hk => hk.2) (.int .i64 ai)) (fun _ hk => hk.2) (.slice Ao9 ah.length co9)) (fun _ h_ => h_.1)))); (case side2 => exact (Kd.R_reads' au.out).2.1); rintro e w10 ⟨cg, rfl, ho0, hb⟩; refine ⟨_, rfl, ?_⟩; have aD := ak (Kd.N_lower (Kd.N_mono (ok' := fun k_ => some k_ ≠ (.slice Ao9 ah.length co9 : Value).ownBlock ∧ k_ ≠ an) (Kd.S_N (Kd.S_bound ho0)) (fun k_ hk_ => ⟨(Kd.fresh' (Kd.R_lt (by (with_reducible repeat (first | apply Kd.R_alloc | apply Kd.R_drewN | apply Kd.R_drew)); exact (Kd.R_mono (Kd.R_far (p := ⟨an, 1, none⟩) (Kd.R_far (p := ⟨an, 0, none⟩) (Kd.R_types au.out ab.out (by decide)) (fun _ hk => hk.2) (.int .i64 ai)) (fun _ hk => hk.2) (.slice Ao9 ah.length co9)) (fun _ h_ => h_.1)))) k_ hk_.2.1), (Kd.freshB (g := an) (o := .cells #[.int .i64 ai, .slice Ao9 ah.length co9] 25 (0, 0)) (by (with_reducible repeat (first | refine qVh ?_ _ | refine qZp ?_ | refine qQl ?_ _)); refine qZg (cs := #[.int .i64 ai, .slice none 0 0]) ?_ 1 _ rfl; refine qZg (cs := #[.int .i64 0, .slice none 0 0]) ?_ 0 _ rfl; (with_reducible repeat (first | refine qVh ?_ _ | refine qZp ?_ | refine qQl ?_ _)); exact ab.out) k_ hk_.2.1)⟩)) (qZc (bl1 HB aj))); replace au := ak (Kd.R_below (by (with_reducible repeat (first | apply Kd.R_alloc | apply Kd.R_drewN | apply Kd.R_drew)); exact (Kd.R_mono (Kd.R_far (p := ⟨an, 1, none⟩) (Kd.R_far (p := ⟨an, 0, none⟩) (Kd.R_types au.out ab.out (by decide)) (fun _ hk => hk.2) (.int .i64 ai)) (fun _ hk => hk.2) (.slice Ao9 ah.length co9)) (fun _ h_ => h_.1))) hb); replace ab := ak (qZe (g := an) (o := .cells #[.int .i64 ai, .slice Ao9 ah.length co9] 25 (0, 0)) (by (with_reducible repeat (first | refine qVh ?_ _ | refine qZp ?_ | refine qQl ?_ _)); refine qZg (cs := #[.int .i64 ai, .slice none 0 0]) ?_ 1 _ rfl; refine qZg (cs := #[.int .i64 0, .slice none 0 0]) ?_ 0 _ rfl; (with_reducible repeat (first | refine qVh ?_ _ | refine qZp ?_ | refine qQl ?_ _)); exact ab.out) hb); replace HB := ak (qZd (bl1 HB aj) hb); (try clear hb); (try clear hb2); (try clear hk); (try clear hi); (try clear ho0)))
 (try simp only [Act.put, List.setIfInBounds_toArray, List.set_cons_zero, List.set_cons_succ])
 go_cut [38] (fun v38 wc => ∃ (kq : Nat) (bJ : Bool), v38 = .bool bJ ∧ Aside0 (laws_FnSomeWalks.j0 kq aL aN aX ae bJ ai ah = some r) ∧ Aside0 (kq ≤ k) ∧ Aside0 (Kd.N (Kd.slice 3 (Kd.int .i64)) 33 wc w.heap.size (fun k_ => some k_ ≠ ((.slice Ao9 ah.length co9) : Value).ownBlock ∧ k_ ≠ an) cg ae) ∧ Aside0 (Kd.R k58 58 wc w.heap.size (fun _ => True) (.slice Ao9 ah.length co9) ah) ∧ Aside0 (wc.heap[an]? = some (.cells #[.int .i64 ai, (.slice Ao9 ah.length co9)] 25 (0, 0))) ∧ Aside0 (Below w.heap.size w wc))
 case first =>
  have H := HC5.out
  clear HC5
  replace H := Option.bind_eq_some_iff.mp H
  obtain ⟨bh, di, H⟩ := H
  have A11 := ak di
  clear di
  replace H := Option.bind_eq_some_iff.mp H
  obtain ⟨cb, dj, H⟩ := H
  have A12 := ak dj
  clear dj
  by_cases c13 : cb = true
  ·subst c13
   rw [if_pos rfl] at H
   have H' := ak H
   clear H
   have bK := bc w10 ab 0 (.int .i64 ai) rfl
   have bL := bc w10 ab 1 (.slice Ao9 ah.length co9) rfl
   have bM := fz ab 0
   have bN := fz ab 1
   go_wp2_with (first | ((with_reducible refine gate_callee (f := 27) rfl ?_); refine qQi (some 31) rfl rfl Try.func27 (by kernel_rfl) rfl #[.agg #[.int .i64 ai, .slice Ao9 ah.length co9], .int .i64 aL, .int .i64 aN, .int .i64 aX] rfl (by (try simp only [List.map_toArray, List.map_cons, List.map_nil]); first | done | rfl | (simp only [List.length_drop, List.length_take]; rfl)) ?_; (with_reducible refine (spec_SomeWalks.calls k ai _ _ ah aL aN aX bh _ ?side1 ?side2 A11.out).mono ?_); (case side1 => repeat (first | exact (Kd.R_reads' au.out).2.2 | (with_reducible refine Kd.C_alloc ?_ _) | (with_reducible refine Kd.C_drewN ?_ _) | (with_reducible refine Kd.C_drew ?_))); (case side2 => exact (Kd.R_reads' au.out).2.1); rintro e w15 ⟨dO, rfl, ho0, hb⟩; refine ⟨_, rfl, ?_⟩; have bb := ak (Kd.N_lower (Kd.N_mono (ok' := fun k_ => some k_ ≠ (.slice Ao9 ah.length co9 : Value).ownBlock ∧ some k_ ≠ (cg : Value).ownBlock ∧ k_ ≠ an) ho0 (fun k_ hk_ => ⟨(Kd.fresh' (Kd.R_lt (rk au)) k_ hk_), (Kd.fresh' (Kd.N_lt (by (with_reducible repeat (first | apply Kd.N_alloc | apply Kd.N_drewN | apply Kd.N_drew)); exact aD.out)) k_ hk_), (Kd.freshB (bk ab) k_ hk_)⟩)) (qZc (bl1 HB aj))); replace au := ak (Kd.R_below (rk au) hb); replace aD := ak (Kd.N_elder' (by (with_reducible repeat (first | apply Kd.N_alloc | apply Kd.N_drewN | apply Kd.N_drew)); exact aD.out) (Kd.N_base ho0) hb); replace ab := ak (qZe (bk ab) hb); replace HB := ak (qZd (bl1 HB aj) hb); (try clear hb); (try clear hb2); (try clear hk); (try clear hi); (try clear ho0); obtain ⟨dP, dQ, dR⟩ := Kd.N_slice aD.out; subst dR; obtain ⟨dS, dT, dU⟩ := Kd.N_slice bb.out; subst dU) | ((with_reducible refine gate_callee (f := 13) rfl ?_); refine qQi (some 32) rfl rfl Try.func13 (by kernel_rfl) rfl #[.slice dP ae.length dQ, .slice dS bh.length dT] rfl (by (try simp only [List.map_toArray, List.map_cons, List.map_nil]); first | done | rfl | (simp only [List.length_drop, List.length_take]; rfl)) ?_; (with_reducible refine (laws_wkGrid.calls k _ _ ae _ _ bh true _ ?side1 ?side2 ?side3 ?side4 A12.out).mono ?_); (case side1 => repeat (first | exact (Kd.N_reads' aD.out).2.2 | (with_reducible refine Kd.C_alloc ?_ _) | (with_reducible refine Kd.C_drewN ?_ _) | (with_reducible refine Kd.C_drew ?_))); (case side2 => exact (Kd.N_reads' aD.out).2.1); (case side3 => repeat (first | exact (Kd.N_reads' bb.out).2.2 | (with_reducible refine Kd.C_alloc ?_ _) | (with_reducible refine Kd.C_drewN ?_ _) | (with_reducible refine Kd.C_drew ?_))); (case side4 => exact (Kd.N_reads' bb.out).2.1); rintro e w' ⟨rfl, ⟨nd, rfl⟩⟩; refine ⟨_, rfl, ?_⟩))
   go_meet
   case rel => exact ⟨_, (((ae.length : Int) == 0)), (by first | rfl | (simp; done) | (simp [*]; done)), H', ⟨by first | omega | exact Nat.le_refl _⟩, ⟨by (with_reducible repeat (first | apply Kd.N_alloc | apply Kd.N_drewN | apply Kd.N_drew)); exact Kd.N_mono aD.out (fun _ hk => ⟨hk.1.1, hk.1.2⟩)⟩, ⟨rk au⟩, ⟨bk ab⟩, ⟨bl1 HB aj⟩⟩
  replace c13 := Bool.eq_false_iff.mpr c13
  subst c13
  rw [if_neg (show ¬ (false = true) by decide)] at H
  have H' := ak H
  clear H
  have bO := bc w10 ab 0 (.int .i64 ai) rfl
  have bP := bc w10 ab 1 (.slice Ao9 ah.length co9) rfl
  have bQ := fz ab 0
  have bR := fz ab 1
  go_wp2_with (first | ((with_reducible refine gate_callee (f := 27) rfl ?_); refine qQi (some 31) rfl rfl Try.func27 (by kernel_rfl) rfl #[.agg #[.int .i64 ai, .slice Ao9 ah.length co9], .int .i64 aL, .int .i64 aN, .int .i64 aX] rfl (by (try simp only [List.map_toArray, List.map_cons, List.map_nil]); first | done | rfl | (simp only [List.length_drop, List.length_take]; rfl)) ?_; (with_reducible refine (spec_SomeWalks.calls k ai _ _ ah aL aN aX bh _ ?side1 ?side2 A11.out).mono ?_); (case side1 => repeat (first | exact (Kd.R_reads' au.out).2.2 | (with_reducible refine Kd.C_alloc ?_ _) | (with_reducible refine Kd.C_drewN ?_ _) | (with_reducible refine Kd.C_drew ?_))); (case side2 => exact (Kd.R_reads' au.out).2.1); rintro e w19 ⟨dO, rfl, ho0, hb⟩; refine ⟨_, rfl, ?_⟩; have bb := ak (Kd.N_lower (Kd.N_mono (ok' := fun k_ => some k_ ≠ (.slice Ao9 ah.length co9 : Value).ownBlock ∧ some k_ ≠ (cg : Value).ownBlock ∧ k_ ≠ an) ho0 (fun k_ hk_ => ⟨(Kd.fresh' (Kd.R_lt (rk au)) k_ hk_), (Kd.fresh' (Kd.N_lt (by (with_reducible repeat (first | apply Kd.N_alloc | apply Kd.N_drewN | apply Kd.N_drew)); exact aD.out)) k_ hk_), (Kd.freshB (bk ab) k_ hk_)⟩)) (qZc (bl1 HB aj))); replace au := ak (Kd.R_below (rk au) hb); replace aD := ak (Kd.N_elder' (by (with_reducible repeat (first | apply Kd.N_alloc | apply Kd.N_drewN | apply Kd.N_drew)); exact aD.out) (Kd.N_base ho0) hb); replace ab := ak (qZe (bk ab) hb); replace HB := ak (qZd (bl1 HB aj) hb); (try clear hb); (try clear hb2); (try clear hk); (try clear hi); (try clear ho0); obtain ⟨dV, dW, dX⟩ := Kd.N_slice aD.out; subst dX; obtain ⟨dY, dZ, ea⟩ := Kd.N_slice bb.out; subst ea) | ((with_reducible refine gate_callee (f := 13) rfl ?_); refine qQi (some 32) rfl rfl Try.func13 (by kernel_rfl) rfl #[.slice dV ae.length dW, .slice dY bh.length dZ] rfl (by (try simp only [List.map_toArray, List.map_cons, List.map_nil]); first | done | rfl | (simp only [List.length_drop, List.length_take]; rfl)) ?_; (with_reducible refine (laws_wkGrid.calls k _ _ ae _ _ bh false _ ?side1 ?side2 ?side3 ?side4 A12.out).mono ?_); (case side1 => repeat (first | exact (Kd.N_reads' aD.out).2.2 | (with_reducible refine Kd.C_alloc ?_ _) | (with_reducible refine Kd.C_drewN ?_ _) | (with_reducible refine Kd.C_drew ?_))); (case side2 => exact (Kd.N_reads' aD.out).2.1); (case side3 => repeat (first | exact (Kd.N_reads' bb.out).2.2 | (with_reducible refine Kd.C_alloc ?_ _) | (with_reducible refine Kd.C_drewN ?_ _) | (with_reducible refine Kd.C_drew ?_))); (case side4 => exact (Kd.N_reads' bb.out).2.1); rintro e w' ⟨rfl, ⟨nd, rfl⟩⟩; refine ⟨_, rfl, ?_⟩))
  go_meet
  case rel => exact ⟨_, (true), (by first | rfl | (simp; done) | (simp [*]; done)), H', ⟨by first | omega | exact Nat.le_refl _⟩, ⟨by (with_reducible repeat (first | apply Kd.N_alloc | apply Kd.N_drewN | apply Kd.N_drew)); exact Kd.N_mono aD.out (fun _ hk => ⟨hk.1.1, hk.1.2⟩)⟩, ⟨rk au⟩, ⟨bk ab⟩, ⟨bl1 HB aj⟩⟩
 clear HC5
 try clear c1
 try clear c2
 try clear c2b0
 try clear c2b1
 try clear p2
 try clear c5
 try clear c13
 try clear c15
 try clear bK
 try clear bL
 try clear bO
 try clear bP
 try clear cc
 try clear cd
 try clear bM
 try clear bN
 try clear bQ
 try clear bR
 try clear ce
 try clear cf
 obtain ⟨kq, bJ, rfl, HA, HJ4, ag, aa, ab, HB⟩ := hcut
 cases kq with
 | zero => exact absurd HA.out (by simp [laws_FnSomeWalks.j0])
 | succ kj4 =>
  have H := HA.out
  clear HA
  simp only [laws_FnSomeWalks.j0] at H
  by_cases c22 : bJ = true
  ·subst c22
   rw [if_pos rfl] at H
   replace H := Option.bind_eq_some_iff.mp H
   obtain ⟨bZ, dk, H⟩ := H
   have A23 := ak dk
   clear dk
   replace H := Option.bind_eq_some_iff.mp H
   obtain ⟨cR, dl, H⟩ := H
   have A24 := ak dl
   clear dl
   obtain rfl := Option.some.inj H
   have cu := bc wc ab 0 (.int .i64 ai) rfl
   have cv := bc wc ab 1 (.slice Ao9 ah.length co9) rfl
   have cw := fz ab 0
   have cx := fz ab 1
   go_wp2_with (first | ((with_reducible refine gate_callee (f := 27) rfl ?_); refine qQi (some 44) rfl rfl Try.func27 (by kernel_rfl) rfl #[.agg #[.int .i64 ai, .slice Ao9 ah.length co9], .int .i64 aL, .int .i64 aN, .int .i64 aX] rfl (by (try simp only [List.map_toArray, List.map_cons, List.map_nil]); first | done | rfl | (simp only [List.length_drop, List.length_take]; rfl)) ?_; (with_reducible refine (spec_SomeWalks.calls kj4 ai _ _ ah aL aN aX bZ _ ?side1 ?side2 A23.out).mono ?_); (case side1 => repeat (first | exact (Kd.R_reads' aa.out).2.2 | (with_reducible refine Kd.C_alloc ?_ _) | (with_reducible refine Kd.C_drewN ?_ _) | (with_reducible refine Kd.C_drew ?_))); (case side2 => exact (Kd.R_reads' aa.out).2.1); rintro e w26 ⟨eG, rfl, ho0, hb⟩; refine ⟨_, rfl, ?_⟩; have ch := ak (Kd.N_lower (Kd.N_mono (ok' := fun k_ => some k_ ≠ (cg : Value).ownBlock ∧ some k_ ≠ (.slice Ao9 ah.length co9 : Value).ownBlock ∧ k_ ≠ an) ho0 (fun k_ hk_ => ⟨(Kd.fresh' (Kd.N_lt (by (with_reducible repeat (first | apply Kd.N_alloc | apply Kd.N_drewN | apply Kd.N_drew)); exact ag.out)) k_ hk_), (Kd.fresh' (Kd.R_lt (rk aa)) k_ hk_), (Kd.freshB (bk ab) k_ hk_)⟩)) (qZc (bl1 HB aj))); replace ag := ak (Kd.N_elder' (by (with_reducible repeat (first | apply Kd.N_alloc | apply Kd.N_drewN | apply Kd.N_drew)); exact ag.out) (Kd.N_base ho0) hb); replace aa := ak (Kd.R_below (rk aa) hb); replace ab := ak (qZe (bk ab) hb); replace HB := ak (qZd (bl1 HB aj) hb); (try clear hb); (try clear hb2); (try clear hk); (try clear hi); (try clear ho0); obtain ⟨eb, ec, ed⟩ := Kd.N_slice ag.out; subst ed; obtain ⟨ee, ef, eg⟩ := Kd.N_slice ch.out; subst eg) | ((with_reducible refine gate_callee (f := 13) rfl ?_); refine qQi (some 45) rfl rfl Try.func13 (by kernel_rfl) rfl #[.slice eb ae.length ec, .slice ee bZ.length ef] rfl (by (try simp only [List.map_toArray, List.map_cons, List.map_nil]); first | done | rfl | (simp only [List.length_drop, List.length_take]; rfl)) ?_; (with_reducible refine (laws_wkGrid.calls kj4 _ _ ae _ _ bZ cR _ ?side1 ?side2 ?side3 ?side4 A24.out).mono ?_); (case side1 => repeat (first | exact (Kd.N_reads' ag.out).2.2 | (with_reducible refine Kd.C_alloc ?_ _) | (with_reducible refine Kd.C_drewN ?_ _) | (with_reducible refine Kd.C_drew ?_))); (case side2 => exact (Kd.N_reads' ag.out).2.1); (case side3 => repeat (first | exact (Kd.N_reads' ch.out).2.2 | (with_reducible refine Kd.C_alloc ?_ _) | (with_reducible refine Kd.C_drewN ?_ _) | (with_reducible refine Kd.C_drew ?_))); (case side4 => exact (Kd.N_reads' ch.out).2.1); rintro e w' ⟨rfl, ⟨nd, rfl⟩⟩; refine ⟨_, rfl, ?_⟩))
   go_ret
   exact ⟨by first | rfl | (simp [qXp, qVb] <;> rfl) | (simp [*, qXp, qVb] <;> rfl), bl1 HB aj⟩
  replace c22 := Bool.eq_false_iff.mpr c22
  subst c22
  rw [if_neg (show ¬ (false = true) by decide)] at H
  have H' := ak H
  clear H
  go_wp2
  go_loopg [8] kj4 (fun kq v8 w' => ∃ (ad : Int), v8 = .int .i64 ad ∧ Aside0 (laws_FnSomeWalks.l0 kq aL aN aX ae ad ai ah = some r) ∧ Aside0 (kq ≤ kj4) ∧ Aside0 (Kd.N (Kd.slice 3 (Kd.int .i64)) 33 w' w.heap.size (fun k_ => some k_ ≠ ((.slice Ao9 ah.length co9) : Value).ownBlock ∧ k_ ≠ an) cg ae) ∧ Aside0 (Kd.R k58 58 w' w.heap.size (fun _ => True) (.slice Ao9 ah.length co9) ah) ∧ Aside0 (w'.heap[an]? = some (.cells #[.int .i64 ai, (.slice Ao9 ah.length co9)] 25 (0, 0))) ∧ Aside0 (Below w.heap.size w w'))
  case atStart => exact ⟨(0), (by first | rfl | (simp; done) | (simp [*]; done)), H', ⟨Nat.le_refl _⟩, ⟨by (with_reducible repeat (first | apply Kd.N_alloc | apply Kd.N_drewN | apply Kd.N_drew)); exact ag.out⟩, ⟨rk aa⟩, ⟨bk ab⟩, ⟨bl1 HB aj⟩⟩
  clear H'
  try clear c1
  try clear c2
  try clear c2b0
  try clear c2b1
  try clear p2
  try clear c5
  try clear c13
  try clear c15
  try clear c22
  try clear c26
  try clear c27
  try clear bK
  try clear bL
  try clear bO
  try clear bP
  try clear cu
  try clear cv
  try clear cc
  try clear cd
  try clear bM
  try clear bN
  try clear bQ
  try clear bR
  try clear cw
  try clear cx
  try clear ce
  try clear cf
  try clear p2
  obtain ⟨ad, rfl, HA, HK2, ag, aa, ab, HB⟩ := hrel
  cases gk with
  | zero => exact absurd HA.out (by simp [laws_FnSomeWalks.l0])
  | succ k2 =>
   have H := HA.out
   clear HA
   simp only [laws_FnSomeWalks.l0] at H
   by_cases c29 : ad < (ae.length : Int)
   rotate_left
   ·rw [if_neg c29] at H
    have c29b0 : decide (ad < (ae.length : Int)) = false := decide_eq_false c29
    clear c29
    replace H := Option.bind_eq_some_iff.mp H
    obtain ⟨⟨dm, eh⟩, dn, H⟩ := H
    have A53 := ak dn
    clear dn
    by_cases c54 : eh = true
    rotate_left
    ·replace c54 := Bool.eq_false_iff.mpr c54
     subst c54
     rw [if_neg (show ¬ (false = true) by decide)] at H
     exact absurd ((Option.some.inj H).trans hr_) Bool.false_ne_true
    subst c54
    rw [if_pos rfl] at H
    by_cases c55 : 0 < (ae.length : Int)
    rotate_left
    ·rw [if_neg c55] at H
     exact absurd H (by simp)
    rw [if_pos c55] at H
    have c55b0 : decide (0 < (ae.length : Int)) = true := decide_eq_true c55
    have c55b1 : decide (0 < ae.length) = true := decide_eq_true (by omega)
    clear c55
    replace H := Option.bind_eq_some_iff.mp H
    obtain ⟨cU, dp, H⟩ := H
    have A56 := ak dp
    clear dp
    by_cases c57 : cU = true
    rotate_left
    ·replace c57 := Bool.eq_false_iff.mpr c57
     subst c57
     rw [if_neg (show ¬ (false = true) by decide)] at H
     exact absurd ((Option.some.inj H).trans hr_) Bool.false_ne_true
    subst c57
    rw [if_pos rfl] at H
    obtain rfl := Option.some.inj H
    obtain ⟨eH, eI, ei⟩ := Kd.N_slice ag.out
    subst ei
    have dC := bc wr ab 0 (.int .i64 ai) rfl
    have dD := bc wr ab 1 (.slice Ao9 ah.length co9) rfl
    have dE := fz ab 0
    have dF := fz ab 1
    go_wp2_with (first | ((with_reducible refine gate_callee (f := 31) rfl ?_); refine qQi (some 97) rfl rfl Try.func31 (by kernel_rfl) rfl #[.agg #[.int .i64 ai, .slice Ao9 ah.length co9], .int .i64 aL, .int .i64 aN] rfl (by (try simp only [List.map_toArray, List.map_cons, List.map_nil]); first | done | rfl | (simp only [List.length_drop, List.length_take]; rfl)) ?_; (with_reducible refine (impl_NearWalk.calls k2 ai _ _ ah aL aN dm true _ ?side1 ?side2 A53.out).mono ?_); (case side1 => repeat (first | exact (Kd.R_reads' aa.out).2.2 | (with_reducible refine Kd.C_alloc ?_ _) | (with_reducible refine Kd.C_drewN ?_ _) | (with_reducible refine Kd.C_drew ?_))); (case side2 => exact (Kd.R_reads' aa.out).2.1); rintro e w60 ⟨eJ, rfl, ho0, hb⟩; refine ⟨_, rfl, ?_⟩; replace ag := ak (Kd.N_elder' (by (with_reducible repeat (first | apply Kd.N_alloc | apply Kd.N_drewN | apply Kd.N_drew)); exact ag.out) (Kd.R_base ho0) hb); replace aa := ak (Kd.R_below (rk aa) hb); have ci := ak (Kd.R_lower ho0 (qZc (bl1 HB aj))); replace ab := ak (qZe (bk ab) hb); replace HB := ak (qZd (bl1 HB aj) hb); (try clear hb); (try clear hb2); (try clear hk); (try clear hi); (try clear ho0); have cy : 0 ≤ (0 : Int) := (by omega); have cz : 0 < (ae.length : Int) := oT (by first | (with_reducible assumption) | assumption); obtain ⟨ez, ej, ek, el, bi, bS, bT⟩ := qWo (Kd.N_reads' ag.out).2.2 0 cy cz; cases el; obtain ⟨eA, cV, cW, cj⟩ := Kd.N_get ag.out [] 0 cy (by first | exact cz | exact oT (by first | (with_reducible assumption) | assumption) | (have e_ := (Kd.N_reads' ag.out).1; omega)); obtain ⟨dG, dH, rfl, bj, bm⟩ := Kd.FK_slice_open cW; have aY := cj 0 _ rfl; rw [Nat.add_zero, show ((Kd.slice 3 (Kd.int .i64))).sz = 1 from rfl, Nat.mul_one] at aY; replace aY := Option.some.inj (aY.symm.trans bi); injection aY with hva_ hvn_ hvc_; rw [hva_] at bm; rw [hvc_] at bj; have dI := ak (show Kd.V (Kd.int .i64) 3 _ w.heap.size _ _ (qJc ae 0) from Kd.V_mk bj bm); clear hva_ hvn_ hvc_ bm bj; clear cj cV; have eB : (0 < ae.length) = True := eq_true (by omega); (try rw [show ((0 : Int)).toNat = 0 from rfl] at bi); (try rw [Addr.add_zero'] at bi); have bU := ak bT; have cA := ak bS; clear bT bS; replace cy := eq_true cy; replace cz := eq_true cz; obtain ⟨eK, eL, em⟩ := Kd.R_slice ci.out; subst em) | (go_at_call 18; (with_reducible refine (laws_wkInts.calls k2 _ _ (qJc ae 0) _ _ dm true _ ?side1 ?side2 ?side3 ?side4 A56.out).mono ?_); (case side1 => repeat (first | exact (by repeat (first | (with_reducible exact bU.out) | (with_reducible refine Kd.C_alloc ?_ _) | (with_reducible refine Kd.C_drewN ?_ _) | (with_reducible refine Kd.C_drew ?_) | exact bU.out)) | (with_reducible refine Kd.C_alloc ?_ _) | (with_reducible refine Kd.C_drewN ?_ _) | (with_reducible refine Kd.C_drew ?_))); (case side2 => exact cA.out); (case side3 => repeat (first | exact (Kd.R_reads' ci.out).2.2 | (with_reducible refine Kd.C_alloc ?_ _) | (with_reducible refine Kd.C_drewN ?_ _) | (with_reducible refine Kd.C_drew ?_))); (case side4 => exact (Kd.R_reads' ci.out).2.1); rintro e w' ⟨rfl, ⟨nd, rfl⟩⟩))
    go_ret
    exact ⟨by first | rfl | (simp [qXp, qVb] <;> rfl) | (simp [*, qXp, qVb] <;> rfl), bl1 HB aj⟩
   rw [if_pos c29] at H
   have c29b0 : decide (ad < (ae.length : Int)) = true := decide_eq_true c29
   clear c29
   by_cases c30 : 0 ≤ ad
   rotate_left
   ·rw [if_neg c30] at H
    exact absurd H (by simp)
   rw [if_pos c30] at H
   have c30b0 : decide (0 ≤ ad) = true := decide_eq_true c30
   clear c30
   replace H := Option.bind_eq_some_iff.mp H
   obtain ⟨cS, dq, H⟩ := H
   have A31 := ak dq
   clear dq
   by_cases c32 : cS = true
   rotate_left
   ·replace c32 := Bool.eq_false_iff.mpr c32
    subst c32
    rw [if_neg (show ¬ (false = true) by decide)] at H
    exact absurd ((Option.some.inj H).trans hr_) Bool.false_ne_true
   subst c32
   rw [if_pos rfl] at H
   replace H := Option.bind_eq_some_iff.mp H
   obtain ⟨bC, dr, H⟩ := H
   have A33 := ak dr
   clear dr
   replace H := Option.bind_eq_some_iff.mp H
   obtain ⟨cT, dt, H⟩ := H
   have A34 := ak dt
   clear dt
   by_cases c35 : cT = true
   rotate_left
   ·replace c35 := Bool.eq_false_iff.mpr c35
    subst c35
    rw [if_neg (show ¬ (false = true) by decide)] at H
    exact absurd ((Option.some.inj H).trans hr_) Bool.false_ne_true
   subst c35
   rw [if_pos rfl] at H
   by_cases c36 : ad > 0
   rotate_left
   ·rw [if_neg c36] at H
    have c36b0 : decide (0 < ad) = false := decide_eq_false c36
    clear c36
    have H' := ak H
    clear H
    obtain ⟨eM, eN, en⟩ := Kd.N_slice ag.out
    subst en
    try go_wp2
    replace ag := ak (Kd.N_drew ag.out)
    replace aa := ak (Kd.R_drew aa.out)
    replace ab := ak (qZp ab.out)
    replace HB := ak (qQg HB.out)
    have bn : 0 ≤ (ad : Int) := oT (by first | (with_reducible assumption) | assumption)
    have bo : ad < (ae.length : Int) := oT (by first | (with_reducible assumption) | assumption)
    obtain ⟨aC, aq, ar, cX, ao, aP, aQ⟩ := qWo (Kd.N_reads' ag.out).2.2 ad bn bo
    cases cX
    obtain ⟨du, bD, bE, bd⟩ := Kd.N_get ag.out [] ad bn (by first | exact bo | exact oT (by first | (with_reducible assumption) | assumption) | (have e_ := (Kd.N_reads' ag.out).1; omega))
    obtain ⟨cB, cC, rfl, aE, aF⟩ := Kd.FK_slice_open bE
    have ay := bd 0 _ rfl
    rw [Nat.add_zero, show ((Kd.slice 3 (Kd.int .i64))).sz = 1 from rfl, Nat.mul_one] at ay
    replace ay := Option.some.inj (ay.symm.trans ao)
    injection ay with hva_ hvn_ hvc_
    rw [hva_] at aF
    rw [hvc_] at aE
    have al := ak (show Kd.V (Kd.int .i64) 3 _ w.heap.size _ _ (qJc ae ad) from Kd.V_mk aE aF)
    clear hva_ hvn_ hvc_ aF aE
    clear bd bD
    have ac := ak aQ
    have am := ak aP
    clear aQ aP
    replace bn := eq_true bn
    replace bo := eq_true bo
    have bp : 0 ≤ (ad : Int) := oT (by first | (with_reducible assumption) | assumption)
    have bq : ad < (ae.length : Int) := oT (by first | (with_reducible assumption) | assumption)
    obtain ⟨ck, cY, cZ, da, az, aR, aS⟩ := qWo (Kd.N_reads' ag.out).2.2 ad bp bq
    obtain rfl : aC = ck := (by injection da)
    obtain ⟨dv, bF, bG, be⟩ := Kd.N_get ag.out [] ad bp (by first | exact bq | exact oT (by first | (with_reducible assumption) | assumption) | (have e_ := (Kd.N_reads' ag.out).1; omega))
    obtain ⟨cD, cE, rfl, aG, aH⟩ := Kd.FK_slice_open bG
    have aA := be 0 _ rfl
    rw [Nat.add_zero, show ((Kd.slice 3 (Kd.int .i64))).sz = 1 from rfl, Nat.mul_one] at aA
    replace aA := Option.some.inj (aA.symm.trans az)
    injection aA with hva_ hvn_ hvc_
    rw [hva_] at aH
    rw [hvc_] at aG
    have cF := ak (show Kd.V (Kd.int .i64) 3 _ w.heap.size _ _ (qJc ae ad) from Kd.V_mk aG aH)
    clear hva_ hvn_ hvc_ aH aG
    clear be bF
    have ev_ := Option.some.inj (ao.symm.trans az)
    injection ev_ with ea_ el_ ec_
    clear el_
    subst ea_
    subst ec_
    have ac := ak aS
    have am := ak aR
    clear aS aR
    replace bp := eq_true bp
    replace bq := eq_true bq
    have br : 0 ≤ (ad : Int) := oT (by first | (with_reducible assumption) | assumption)
    have bs : ad < (ae.length : Int) := oT (by first | (with_reducible assumption) | assumption)
    obtain ⟨cl, db, dc, dd, av, aT, aU⟩ := qWo (Kd.N_reads' ag.out).2.2 ad br bs
    obtain rfl : aC = cl := (by injection dd)
    obtain ⟨dw, bH, bI, bf⟩ := Kd.N_get ag.out [] ad br (by first | exact bs | exact oT (by first | (with_reducible assumption) | assumption) | (have e_ := (Kd.N_reads' ag.out).1; omega))
    obtain ⟨cG, cH, rfl, aI, aJ⟩ := Kd.FK_slice_open bI
    have aB := bf 0 _ rfl
    rw [Nat.add_zero, show ((Kd.slice 3 (Kd.int .i64))).sz = 1 from rfl, Nat.mul_one] at aB
    replace aB := Option.some.inj (aB.symm.trans av)
    injection aB with hva_ hvn_ hvc_
    rw [hva_] at aJ
    rw [hvc_] at aI
    have cI := ak (show Kd.V (Kd.int .i64) 3 _ w.heap.size _ _ (qJc ae ad) from Kd.V_mk aI aJ)
    clear hva_ hvn_ hvc_ aJ aI
    clear bf bH
    have ev_ := Option.some.inj (ao.symm.trans av)
    injection ev_ with ea_ el_ ec_
    clear el_
    subst ea_
    subst ec_
    have ac := ak aU
    have am := ak aT
    clear aU aT
    replace br := eq_true br
    replace bs := eq_true bs
    refine qJj (n := 41) (S := fun w' => w'.cell? ⟨an, 0, none⟩ = some (.int .i64 ai) ∧ w'.cell? ⟨an, 1, none⟩ = some (.slice Ao9 ah.length co9) ∧ w'.cell? (aC.add (ad).toNat) = some (.slice aq (qJc ae ad).length ar) ∧ w'.cell? (aC.add (ad).toNat) = some (.slice aq (qJc ae ad).length ar) ∧ w'.cell? (aC.add (ad).toNat) = some (.slice aq (qJc ae ad).length ar)) (ds := []) (ms 41 0) (by kernel_rfl) rfl (by kernel_rfl) ⟨(qZb ab.out 0).trans rfl, (qZb ab.out 1).trans rfl, ao, az, av⟩ (fun hHeld => ?_); refine qQo laws_FnSomeWalks.tab10 laws_FnSomeWalks.bits10 (fun HT_ HW_ => ?_)
    generalize wr.drew = w49 at ag aa ab HB al ac ao az av hHeld ⊢
    refine pu 1 53 ?_ (ms 41 2) rfl rfl HT_ (by kernel_rfl) (fun _ _ _ h => h) (by rfl) ?_ ?_ ?_ ?_
    rotate_left
    ·intro w'
     go_simp
     with_reducible rfl
    rotate_left
    ·simp only [SX]
     rfl
    refine pu 2 54 ?_ (ms 41 6) rfl rfl HT_ (by kernel_rfl) (fun _ _ _ h => h) (by rfl) ?_ ?_ ?_ ?_
    rotate_left
    ·intro w'
     go_simp
     with_reducible rfl
    rotate_left
    ·simp only [SX]
     rfl
    refine pu 3 55 ?_ (ms 41 14) rfl rfl HT_ (by kernel_rfl) (fun _ _ _ h => h) (by rfl) ?_ ?_ ?_ ?_
    rotate_left
    ·intro w'
     go_simp
     with_reducible rfl
    rotate_left
    ·simp only [SX]
     rfl
    refine pu 5 57 ?_ (ms 41 46) rfl rfl HT_ (by kernel_rfl) (fun _ _ _ h => h) (by rfl) ?_ ?_ ?_ ?_
    rotate_left
    ·intro w'
     go_simp
     with_reducible rfl
    rotate_left
    ·simp only [SX]
     rfl
    refine pu 6 58 ?_ (ms 41 110) rfl rfl HT_ (by kernel_rfl) (fun _ _ _ h => h) (by rfl) ?_ ?_ ?_ ?_
    rotate_left
    ·intro w'
     go_simp
     with_reducible rfl
    rotate_left
    ·simp only [SX]
     rfl
    refine tk 0 52 ?_ (ms 41 111) rfl rfl HT_ HW_ (by kernel_rfl) (fun _ _ _ h => h) (by rfl) ?_ hHeld ?_ ?_ ?_
    rotate_left
    ·rintro w' ⟨s0, s1, s2, s3, s4⟩
     go_simp
     with_reducible rfl
    rotate_left
    ·simp only [SX]
     rfl
    refine tk 4 56 ?_ (ms 41 127) rfl rfl HT_ HW_ (by kernel_rfl) (fun _ _ _ h => h) (by rfl) ?_ hHeld ?_ ?_ ?_
    rotate_left
    ·rintro w' ⟨s0, s1, s2, s3, s4⟩
     go_simp
     with_reducible rfl
    rotate_left
    ·simp only [SX]
     rfl
    refine one_ (i := 7) (N := some 59) (ms 41 255) rfl rfl (qJa HT_.out (by kernel_rfl)) (by decide) (fun K hK => ?_)
    refine qXc Try.func28 (by kernel_rfl) rfl #[.agg #[.int .i64 ai, .slice Ao9 ah.length co9], .slice aq (qJc ae ad).length ar, .int .i64 aL, .int .i64 aN] (by rfl) rfl rfl (by (try simp only [List.map_toArray, List.map_cons, List.map_nil]); first | done | rfl | (simp only [List.length_drop, List.length_take]; rfl)) ?_
    with_reducible refine (laws_wkEnds.calls k2 ai _ _ ah _ _ (qJc ae ad) aL aN true _ ?side1 ?side2 ?side3 ?side4 A31.out).mono ?_
    (case side1 => repeat (first | exact (Kd.R_reads' aa.out).2.2 | (with_reducible refine Kd.C_alloc ?_ _) | (with_reducible refine Kd.C_drewN ?_ _) | (with_reducible refine Kd.C_drew ?_)))
    (case side2 => exact (Kd.R_reads' aa.out).2.1)
    (case side3 => repeat (first | exact (by repeat (first | (with_reducible exact ac.out) | (with_reducible refine Kd.C_alloc ?_ _) | (with_reducible refine Kd.C_drewN ?_ _) | (with_reducible refine Kd.C_drew ?_) | exact ac.out)) | (with_reducible refine Kd.C_alloc ?_ _) | (with_reducible refine Kd.C_drewN ?_ _) | (with_reducible refine Kd.C_drew ?_)))
    (case side4 => exact am.out)
    rintro e w50 ⟨rfl, hb⟩
    have bt := (hb.cell (World.block_lt_of_cell? _ _ (hHeld.2.2.1))).trans (hHeld.2.2.1)
    have bu := (hb.cell (World.block_lt_of_cell? _ _ (hHeld.2.2.2.1))).trans (hHeld.2.2.2.1)
    have bv := (hb.cell (World.block_lt_of_cell? _ _ (hHeld.2.2.2.2))).trans (hHeld.2.2.2.2)
    refine ⟨_, rfl, ?_⟩
    replace ag := ak (Kd.N_below (by (with_reducible repeat (first | apply Kd.N_alloc | apply Kd.N_drewN | apply Kd.N_drew)); exact ag.out) hb)
    replace aa := ak (Kd.R_below (rk aa) hb)
    replace al := ak (Kd.V_below (by (with_reducible repeat (first | apply Kd.V_alloc | apply Kd.V_drewN | apply Kd.V_drew)); exact al.out) hb)
    replace ab := ak (qZe (bk ab) hb)
    replace ac := ak (Kd.C_below (by repeat (first | (with_reducible exact ac.out) | (with_reducible refine Kd.C_alloc ?_ _) | (with_reducible refine Kd.C_drewN ?_ _) | (with_reducible refine Kd.C_drew ?_) | exact ac.out)) hb)
    replace HB := ak (qZd (bl1 HB aj) hb)
    (try clear hb)
    (try clear hb2)
    (try clear hk)
    (try clear hi)
    refine hK.out _ _ ⟨(qZb ab.out 0).trans rfl, (qZb ab.out 1).trans rfl, bt, bu, bv⟩ (fun hHeld => ?_)
    clear hK K
    refine qJd (a' := ?_) ?_ ?_
    rotate_left
    ·show Act.put _ (some 59) _ = _
     simp only [SX]
     rfl
    refine pu 8 60 ?_ (ms 41 511) rfl rfl HT_ (by kernel_rfl) (fun _ _ _ h => h) (by rfl) ?_ ?_ ?_ ?_
    rotate_left
    ·intro w'
     go_simp
     with_reducible rfl
    rotate_left
    ·simp only [SX]
     rfl
    refine pu 9 61 ?_ (ms 41 1023) rfl rfl HT_ (by kernel_rfl) (fun _ _ _ h => h) (by rfl) ?_ ?_ ?_ ?_
    rotate_left
    ·intro w'
     go_simp
     with_reducible rfl
    rotate_left
    ·simp only [SX]
     rfl
    refine pu 11 63 ?_ (ms 41 3071) rfl rfl HT_ (by kernel_rfl) (fun _ _ _ h => h) (by rfl) ?_ ?_ ?_ ?_
    rotate_left
    ·intro w'
     go_simp
     with_reducible rfl
    rotate_left
    ·simp only [SX]
     rfl
    refine pu 12 64 ?_ (ms 41 7167) rfl rfl HT_ (by kernel_rfl) (fun _ _ _ h => h) (by rfl) ?_ ?_ ?_ ?_
    rotate_left
    ·intro w'
     go_simp
     with_reducible rfl
    rotate_left
    ·simp only [SX]
     rfl
    refine pu 13 65 ?_ (ms 41 15359) rfl rfl HT_ (by kernel_rfl) (fun _ _ _ h => h) (by rfl) ?_ ?_ ?_ ?_
    rotate_left
    ·intro w'
     go_simp
     with_reducible rfl
    rotate_left
    ·simp only [SX]
     rfl
    refine pu 16 68 ?_ (ms 41 80895) rfl rfl HT_ (by kernel_rfl) (fun _ _ _ h => h) (by rfl) ?_ ?_ ?_ ?_
    rotate_left
    ·intro w'
     go_simp
     with_reducible rfl
    rotate_left
    ·simp only [SX]
     rfl
    refine pu 17 69 ?_ (ms 41 211967) rfl rfl HT_ (by kernel_rfl) (fun _ _ _ h => h) (by rfl) ?_ ?_ ?_ ?_
    rotate_left
    ·intro w'
     go_simp
     with_reducible rfl
    rotate_left
    ·simp only [SX]
     rfl
    refine pu 18 70 ?_ (ms 41 474111) rfl rfl HT_ (by kernel_rfl) (fun _ _ _ h => h) (by rfl) ?_ ?_ ?_ ?_
    rotate_left
    ·intro w'
     go_simp
     with_reducible rfl
    rotate_left
    ·simp only [SX]
     rfl
    refine tk 10 62 ?_ (ms 41 475135) rfl rfl HT_ HW_ (by kernel_rfl) (fun _ _ _ h => h) (by rfl) ?_ hHeld ?_ ?_ ?_
    rotate_left
    ·rintro w' ⟨s0, s1, s2, s3, s4⟩
     go_simp
     with_reducible rfl
    rotate_left
    ·simp only [SX]
     rfl
    refine tk 14 66 ?_ (ms 41 491519) rfl rfl HT_ HW_ (by kernel_rfl) (fun _ _ _ h => h) (by rfl) ?_ hHeld ?_ ?_ ?_
    rotate_left
    ·rintro w' ⟨s0, s1, s2, s3, s4⟩
     go_simp
     with_reducible rfl
    rotate_left
    ·simp only [SX]
     rfl
    refine tk 19 71 ?_ (ms 41 1015807) rfl rfl HT_ HW_ (by kernel_rfl) (fun _ _ _ h => h) (by rfl) ?_ hHeld ?_ ?_ ?_
    rotate_left
    ·rintro w' ⟨s0, s1, s2, s3, s4⟩
     go_simp
     with_reducible rfl
    rotate_left
    ·simp only [SX]
     rfl
    refine one_ (i := 15) (N := some 67) (ms 41 1048575) rfl rfl (qJa HT_.out (by kernel_rfl)) (by decide) (fun K hK => ?_)
    refine qXc Try.func29 (by kernel_rfl) rfl #[.agg #[.int .i64 ai, .slice Ao9 ah.length co9], .slice aq (qJc ae ad).length ar] (by rfl) rfl rfl (by (try simp only [List.map_toArray, List.map_cons, List.map_nil]); first | done | rfl | (simp only [List.length_drop, List.length_take]; rfl)) ?_
    with_reducible refine (impl_WalkPlain.calls k2 ai _ _ ah _ _ (qJc ae ad) bC _ ?side1 ?side2 ?side3 ?side4 A33.out).mono ?_
    (case side1 => repeat (first | exact (Kd.R_reads' aa.out).2.2 | (with_reducible refine Kd.C_alloc ?_ _) | (with_reducible refine Kd.C_drewN ?_ _) | (with_reducible refine Kd.C_drew ?_)))
    (case side2 => exact (Kd.R_reads' aa.out).2.1)
    (case side3 => repeat (first | exact (by repeat (first | (with_reducible exact ac.out) | (with_reducible refine Kd.C_alloc ?_ _) | (with_reducible refine Kd.C_drewN ?_ _) | (with_reducible refine Kd.C_drew ?_) | exact ac.out)) | (with_reducible refine Kd.C_alloc ?_ _) | (with_reducible refine Kd.C_drewN ?_ _) | (with_reducible refine Kd.C_drew ?_)))
    (case side4 => exact am.out)
    rintro e w51 ⟨eo, rfl, ho0, hb⟩
    have bt := (hb.cell (World.block_lt_of_cell? _ _ (hHeld.2.2.1))).trans (hHeld.2.2.1)
    have bu := (hb.cell (World.block_lt_of_cell? _ _ (hHeld.2.2.2.1))).trans (hHeld.2.2.2.1)
    have bv := (hb.cell (World.block_lt_of_cell? _ _ (hHeld.2.2.2.2))).trans (hHeld.2.2.2.2)
    refine ⟨_, rfl, ?_⟩
    replace ag := ak (Kd.N_elder' (by (with_reducible repeat (first | apply Kd.N_alloc | apply Kd.N_drewN | apply Kd.N_drew)); exact ag.out) (Kd.R_base ho0) hb)
    replace aa := ak (Kd.R_below (rk aa) hb)
    replace al := ak (Kd.V_elder' (by (with_reducible repeat (first | apply Kd.V_alloc | apply Kd.V_drewN | apply Kd.V_drew)); exact al.out) (Kd.R_base ho0) hb)
    have aV := ak (Kd.R_lower ho0 (qZc (bl1 HB aj)))
    replace ab := ak (qZe (bk ab) hb)
    replace ac := ak (Kd.C_below (by repeat (first | (with_reducible exact ac.out) | (with_reducible refine Kd.C_alloc ?_ _) | (with_reducible refine Kd.C_drewN ?_ _) | (with_reducible refine Kd.C_drew ?_) | exact ac.out)) hb)
    replace HB := ak (qZd (bl1 HB aj) hb)
    (try clear hb)
    (try clear hb2)
    (try clear hk)
    (try clear hi)
    (try clear ho0)
    obtain ⟨ep, eq, dx⟩ := Kd.R_slice aV.out
    (first | subst dx | (injection dx with f1_ f2_ f3_; have f4_ := f1_.symm; have f5_ := f3_.symm; clear f1_ f2_ f3_; subst f4_; subst f5_))
    refine hK.out _ _ ⟨(qZb ab.out 0).trans rfl, (qZb ab.out 1).trans rfl, bt, bu, bv⟩ (fun hHeld => ?_)
    clear hK K
    refine qJd (a' := ?_) ?_ ?_
    rotate_left
    ·show Act.put _ (some 67) _ = _
     simp only [SX]
     rfl
    refine one_ (i := 20) (N := some 72) (ms 41 2097151) rfl rfl (qJa HT_.out (by kernel_rfl)) (by decide) (fun K hK => ?_)
    refine qXc Try.func18 (by kernel_rfl) rfl #[.slice ep bC.length eq, .slice aq (qJc ae ad).length ar] (by rfl) rfl rfl (by (try simp only [List.map_toArray, List.map_cons, List.map_nil]); first | done | rfl | (simp only [List.length_drop, List.length_take]; rfl)) ?_
    with_reducible refine (laws_wkInts.calls k2 _ _ bC _ _ (qJc ae ad) true _ ?side1 ?side2 ?side3 ?side4 A34.out).mono ?_
    (case side1 => repeat (first | exact (Kd.R_reads' aV.out).2.2 | (with_reducible refine Kd.C_alloc ?_ _) | (with_reducible refine Kd.C_drewN ?_ _) | (with_reducible refine Kd.C_drew ?_)))
    (case side2 => exact (Kd.R_reads' aV.out).2.1)
    (case side3 => repeat (first | exact (by repeat (first | (with_reducible exact ac.out) | (with_reducible refine Kd.C_alloc ?_ _) | (with_reducible refine Kd.C_drewN ?_ _) | (with_reducible refine Kd.C_drew ?_) | exact ac.out)) | (with_reducible refine Kd.C_alloc ?_ _) | (with_reducible refine Kd.C_drewN ?_ _) | (with_reducible refine Kd.C_drew ?_)))
    (case side4 => exact am.out)
    rintro e w' ⟨rfl, ⟨nd, rfl⟩⟩
    refine ⟨_, rfl, ?_⟩
    refine hK.out _ _ ⟨(qZb ab.out 0).trans rfl, (qZb ab.out 1).trans rfl, hHeld.2.2.1, hHeld.2.2.2.1, hHeld.2.2.2.2⟩ (fun hHeld => ?_)
    clear hK K
    refine qJd (a' := ?_) ?_ ?_
    rotate_left
    ·show Act.put _ (some 72) _ = _
     simp only [SX]
     rfl
    refine pu 21 73 ?_ (ms 41 4194303) rfl rfl HT_ (by kernel_rfl) (fun _ _ _ h => h) (by rfl) ?_ ?_ ?_ ?_
    rotate_left
    ·intro w'
     go_simp
     with_reducible rfl
    rotate_left
    ·simp only [SX]
     rfl
    refine pu 22 74 ?_ (ms 41 8388607) rfl rfl HT_ (by kernel_rfl) (fun _ _ _ h => h) (by rfl) ?_ ?_ ?_ ?_
    rotate_left
    ·intro w'
     go_simp
     with_reducible rfl
    rotate_left
    ·simp only [SX]
     rfl
    refine pu 23 75 ?_ (ms 41 16777215) rfl rfl HT_ (by kernel_rfl) (fun _ _ _ h => h) (by rfl) ?_ ?_ ?_ ?_
    rotate_left
    ·intro w'
     go_simp
     with_reducible rfl
    rotate_left
    ·simp only [SX]
     rfl
    refine pu 24 76 ?_ (ms 41 33554431) rfl rfl HT_ (by kernel_rfl) (fun _ _ _ h => h) (by rfl) ?_ ?_ ?_ ?_
    rotate_left
    ·intro w'
     go_simp
     with_reducible rfl
    rotate_left
    ·simp only [SX]
     rfl
    refine pu 25 77 ?_ (ms 41 67108863) rfl rfl HT_ (by kernel_rfl) (fun _ _ _ h => h) (by rfl) ?_ ?_ ?_ ?_
    rotate_left
    ·intro w'
     go_simp
     with_reducible rfl
    rotate_left
    ·simp only [SX]
     rfl
    refine pu 26 78 ?_ (ms 41 134217727) rfl rfl HT_ (by kernel_rfl) (fun _ _ _ h => h) (by rfl) ?_ ?_ ?_ ?_
    rotate_left
    ·intro w'
     go_simp
     with_reducible rfl
    rotate_left
    ·simp only [SX]
     rfl
    refine qZm (i := 27) (N := some 79) (v := undef) (a' := ?_) (ms 41 268435455) rfl rfl (qZi HT_.out (by kernel_rfl)) (fun _ _ _ h => h) (Or.inr ⟨by rfl, rfl⟩) ?_ ?_
    rotate_left
    ·simp only [SX]
     rfl
    refine qZm (i := 28) (N := some 80) (v := undef) (a' := ?_) (ms 41 536870911) rfl rfl (qZi HT_.out (by kernel_rfl)) (fun _ _ _ h => h) (Or.inr ⟨by rfl, rfl⟩) ?_ ?_
    rotate_left
    ·simp only [SX]
     rfl
    refine qZm (i := 29) (N := some 81) (v := undef) (a' := ?_) (ms 41 1073741823) rfl rfl (qZi HT_.out (by kernel_rfl)) (fun _ _ _ h => h) (Or.inr ⟨by rfl, rfl⟩) ?_ ?_
    rotate_left
    ·simp only [SX]
     rfl
    refine qZm (i := 30) (N := some 82) (v := undef) (a' := ?_) (ms 41 2147483647) rfl rfl (qZi HT_.out (by kernel_rfl)) (fun _ _ _ h => h) (Or.inr ⟨by rfl, rfl⟩) ?_ ?_
    rotate_left
    ·simp only [SX]
     rfl
    refine qZm (i := 31) (N := some 83) (v := undef) (a' := ?_) (ms 41 4294967295) rfl rfl (qZi HT_.out (by kernel_rfl)) (fun _ _ _ h => h) (Or.inr ⟨by rfl, rfl⟩) ?_ ?_
    rotate_left
    ·simp only [SX]
     rfl
    refine qZm (i := 32) (N := some 84) (v := undef) (a' := ?_) (ms 41 8589934591) rfl rfl (qZi HT_.out (by kernel_rfl)) (fun _ _ _ h => h) (Or.inr ⟨by rfl, rfl⟩) ?_ ?_
    rotate_left
    ·simp only [SX]
     rfl
    refine qZm (i := 33) (N := some 85) (v := undef) (a' := ?_) (ms 41 17179869183) rfl rfl (qZi HT_.out (by kernel_rfl)) (fun _ _ _ h => h) (Or.inr ⟨by rfl, rfl⟩) ?_ ?_
    rotate_left
    ·simp only [SX]
     rfl
    refine qZm (i := 34) (N := some 86) (v := undef) (a' := ?_) (ms 41 34359738367) rfl rfl (qZi HT_.out (by kernel_rfl)) (fun _ _ _ h => h) (Or.inr ⟨by rfl, rfl⟩) ?_ ?_
    rotate_left
    ·simp only [SX]
     rfl
    refine qZm (i := 35) (N := some 87) (v := undef) (a' := ?_) (ms 41 68719476735) rfl rfl (qZi HT_.out (by kernel_rfl)) (fun _ _ _ h => h) (Or.inr ⟨by rfl, rfl⟩) ?_ ?_
    rotate_left
    ·simp only [SX]
     rfl
    refine qZm (i := 36) (N := some 88) (v := undef) (a' := ?_) (ms 41 137438953471) rfl rfl (qZi HT_.out (by kernel_rfl)) (fun _ _ _ h => h) (Or.inr ⟨by rfl, rfl⟩) ?_ ?_
    rotate_left
    ·simp only [SX]
     rfl
    refine qZm (i := 37) (N := some 89) (v := undef) (a' := ?_) (ms 41 274877906943) rfl rfl (qZi HT_.out (by kernel_rfl)) (fun _ _ _ h => h) (Or.inr ⟨by rfl, rfl⟩) ?_ ?_
    rotate_left
    ·simp only [SX]
     rfl
    refine qZm (i := 38) (N := some 90) (v := undef) (a' := ?_) (ms 41 549755813887) rfl rfl (qZi HT_.out (by kernel_rfl)) (fun _ _ _ h => h) (Or.inr ⟨by rfl, rfl⟩) ?_ ?_
    rotate_left
    ·simp only [SX]
     rfl
    refine pu 39 91 ?_ (ms 41 1099511627775) rfl rfl HT_ (by kernel_rfl) (fun _ _ _ h => h) (by rfl) ?_ ?_ ?_ ?_
    rotate_left
    ·intro w'
     go_simp
     with_reducible rfl
    rotate_left
    ·simp only [SX]
     rfl
    refine pu 40 92 ?_ (ms 41 2199023255551) rfl rfl HT_ (by kernel_rfl) (fun _ _ _ h => h) (by rfl) ?_ ?_ ?_ ?_
    rotate_left
    ·intro w'
     go_simp
     with_reducible rfl
    rotate_left
    ·simp only [SX]
     rfl
    refine qXe (qJg HT_.out (by kernel_rfl)) ?_
    try go_wp2
    go_roundg k2
    case measure => have := HJ4.out; have := HK2.out; omega
    case rel => exact ⟨(wrap64 (ad + 1)), (by first | rfl | (simp; done) | (simp [*]; done)), H', ⟨by have := HJ4.out; have := HK2.out; omega⟩, ⟨by (with_reducible repeat (first | apply Kd.N_alloc | apply Kd.N_drewN | apply Kd.N_drew)); exact Kd.N_mono ag.out (fun _ hk => ⟨hk.1.1, hk.1.2⟩)⟩, ⟨rk aa⟩, ⟨bk ab⟩, ⟨bl1 HB aj⟩⟩
   rw [if_pos c36] at H
   have c36b0 : decide (0 < ad) = true := decide_eq_true c36
   clear c36
   obtain ⟨aO, bg⟩ : ∃ j_ : Int, (wrap64 (ad - 1)) = j_ := ⟨_, rfl⟩
   replace H : (if 0 ≤ (aO) then (if (aO) < (ae.length : Int) then ((laws_wkAhead.f k2 ai ah (qJc ae (aO)) (qJc ae ad)).bind fun ca => (if ca = true then (laws_FnSomeWalks.l0 k2 aL aN aX ae (wrap64 (ad + 1)) ai ah) else (some false))) else (none)) else (none)) = some r := by first | (rw [bg] at H; exact H) | (simp only [bg] at H ⊢; exact H)
   (try rw [bg] at A31)
   (try rw [bg] at A33)
   (try rw [bg] at A34)
   have hji37w : (IntKind.i64.wrap (ad - 1)) = aO := (i64_w _).trans bg
   by_cases c38 : 0 ≤ (aO)
   rotate_left
   ·rw [if_neg c38] at H
    exact absurd H (by simp)
   rw [if_pos c38] at H
   have c38b0 : decide (0 ≤ (aO)) = true := decide_eq_true c38
   clear c38
   by_cases c39 : (aO) < (ae.length : Int)
   rotate_left
   ·rw [if_neg c39] at H
    exact absurd H (by simp)
   rw [if_pos c39] at H
   have c39b0 : decide ((aO) < (ae.length : Int)) = true := decide_eq_true c39
   clear c39
   replace H := Option.bind_eq_some_iff.mp H
   obtain ⟨ca, dy, H⟩ := H
   have A40 := ak dy
   clear dy
   by_cases c41 : ca = true
   rotate_left
   ·replace c41 := Bool.eq_false_iff.mpr c41
    subst c41
    rw [if_neg (show ¬ (false = true) by decide)] at H
    exact absurd ((Option.some.inj H).trans hr_) Bool.false_ne_true
   subst c41
   rw [if_pos rfl] at H
   have H' := ak H
   clear H
   obtain ⟨eO, eP, er⟩ := Kd.N_slice ag.out
   subst er
   try go_wp2
   replace ag := ak (Kd.N_drew ag.out)
   replace aa := ak (Kd.R_drew aa.out)
   replace ab := ak (qZp ab.out)
   replace HB := ak (qQg HB.out)
   have bn : 0 ≤ (ad : Int) := oT (by first | (with_reducible assumption) | assumption)
   have bo : ad < (ae.length : Int) := oT (by first | (with_reducible assumption) | assumption)
   obtain ⟨aC, aq, ar, cX, ao, aP, aQ⟩ := qWo (Kd.N_reads' ag.out).2.2 ad bn bo
   cases cX
   obtain ⟨du, bD, bE, bd⟩ := Kd.N_get ag.out [] ad bn (by first | exact bo | exact oT (by first | (with_reducible assumption) | assumption) | (have e_ := (Kd.N_reads' ag.out).1; omega))
   obtain ⟨cB, cC, rfl, aE, aF⟩ := Kd.FK_slice_open bE
   have ay := bd 0 _ rfl
   rw [Nat.add_zero, show ((Kd.slice 3 (Kd.int .i64))).sz = 1 from rfl, Nat.mul_one] at ay
   replace ay := Option.some.inj (ay.symm.trans ao)
   injection ay with hva_ hvn_ hvc_
   rw [hva_] at aF
   rw [hvc_] at aE
   have al := ak (show Kd.V (Kd.int .i64) 3 _ w.heap.size _ _ (qJc ae ad) from Kd.V_mk aE aF)
   clear hva_ hvn_ hvc_ aF aE
   clear bd bD
   have ac := ak aQ
   have am := ak aP
   clear aQ aP
   replace bn := eq_true bn
   replace bo := eq_true bo
   have bp : 0 ≤ (ad : Int) := oT (by first | (with_reducible assumption) | assumption)
   have bq : ad < (ae.length : Int) := oT (by first | (with_reducible assumption) | assumption)
   obtain ⟨ck, cY, cZ, da, az, aR, aS⟩ := qWo (Kd.N_reads' ag.out).2.2 ad bp bq
   obtain rfl : aC = ck := (by injection da)
   obtain ⟨dv, bF, bG, be⟩ := Kd.N_get ag.out [] ad bp (by first | exact bq | exact oT (by first | (with_reducible assumption) | assumption) | (have e_ := (Kd.N_reads' ag.out).1; omega))
   obtain ⟨cD, cE, rfl, aG, aH⟩ := Kd.FK_slice_open bG
   have aA := be 0 _ rfl
   rw [Nat.add_zero, show ((Kd.slice 3 (Kd.int .i64))).sz = 1 from rfl, Nat.mul_one] at aA
   replace aA := Option.some.inj (aA.symm.trans az)
   injection aA with hva_ hvn_ hvc_
   rw [hva_] at aH
   rw [hvc_] at aG
   have cF := ak (show Kd.V (Kd.int .i64) 3 _ w.heap.size _ _ (qJc ae ad) from Kd.V_mk aG aH)
   clear hva_ hvn_ hvc_ aH aG
   clear be bF
   have ev_ := Option.some.inj (ao.symm.trans az)
   injection ev_ with ea_ el_ ec_
   clear el_
   subst ea_
   subst ec_
   have ac := ak aS
   have am := ak aR
   clear aS aR
   replace bp := eq_true bp
   replace bq := eq_true bq
   have br : 0 ≤ (ad : Int) := oT (by first | (with_reducible assumption) | assumption)
   have bs : ad < (ae.length : Int) := oT (by first | (with_reducible assumption) | assumption)
   obtain ⟨cl, db, dc, dd, av, aT, aU⟩ := qWo (Kd.N_reads' ag.out).2.2 ad br bs
   obtain rfl : aC = cl := (by injection dd)
   obtain ⟨dw, bH, bI, bf⟩ := Kd.N_get ag.out [] ad br (by first | exact bs | exact oT (by first | (with_reducible assumption) | assumption) | (have e_ := (Kd.N_reads' ag.out).1; omega))
   obtain ⟨cG, cH, rfl, aI, aJ⟩ := Kd.FK_slice_open bI
   have aB := bf 0 _ rfl
   rw [Nat.add_zero, show ((Kd.slice 3 (Kd.int .i64))).sz = 1 from rfl, Nat.mul_one] at aB
   replace aB := Option.some.inj (aB.symm.trans av)
   injection aB with hva_ hvn_ hvc_
   rw [hva_] at aJ
   rw [hvc_] at aI
   have cI := ak (show Kd.V (Kd.int .i64) 3 _ w.heap.size _ _ (qJc ae ad) from Kd.V_mk aI aJ)
   clear hva_ hvn_ hvc_ aJ aI
   clear bf bH
   have ev_ := Option.some.inj (ao.symm.trans av)
   injection ev_ with ea_ el_ ec_
   clear el_
   subst ea_
   subst ec_
   have ac := ak aU
   have am := ak aT
   clear aU aT
   replace br := eq_true br
   replace bs := eq_true bs
   have cJ : 0 ≤ ((aO) : Int) := oT (by first | (with_reducible assumption) | assumption)
   have cK : (aO) < (ae.length : Int) := oT (by first | (with_reducible assumption) | assumption)
   obtain ⟨dz, cm, cn, es, bw, bV, bW⟩ := qWo (Kd.N_reads' ag.out).2.2 (aO) cJ cK
   obtain rfl : aC = dz := (by injection es)
   obtain ⟨eC, de, df, co⟩ := Kd.N_get ag.out [] (aO) cJ (by first | exact cK | exact oT (by first | (with_reducible assumption) | assumption) | (have e_ := (Kd.N_reads' ag.out).1; omega))
   obtain ⟨dJ, dK, rfl, bx, bz⟩ := Kd.FK_slice_open df
   have aZ := co 0 _ rfl
   rw [Nat.add_zero, show ((Kd.slice 3 (Kd.int .i64))).sz = 1 from rfl, Nat.mul_one] at aZ
   replace aZ := Option.some.inj (aZ.symm.trans bw)
   injection aZ with hva_ hvn_ hvc_
   rw [hva_] at bz
   rw [hvc_] at bx
   have aK := ak (show Kd.V (Kd.int .i64) 3 _ w.heap.size _ _ (qJc ae (aO)) from Kd.V_mk bx bz)
   clear hva_ hvn_ hvc_ bz bx
   clear co de
   have ap := ak bW
   have cL := ak bV
   clear bW bV
   replace cJ := eq_true cJ
   replace cK := eq_true cK
   have cN : 0 ≤ (ad : Int) := oT (by first | (with_reducible assumption) | assumption)
   have cO : ad < (ae.length : Int) := oT (by first | (with_reducible assumption) | assumption)
   obtain ⟨dA, et, eu, ev, aW, bX, bY⟩ := qWo (Kd.N_reads' ag.out).2.2 ad cN cO
   obtain rfl : aC = dA := (by injection ev)
   obtain ⟨eD, dg, dh, cp⟩ := Kd.N_get ag.out [] ad cN (by first | exact cO | exact oT (by first | (with_reducible assumption) | assumption) | (have e_ := (Kd.N_reads' ag.out).1; omega))
   obtain ⟨dL, dM, rfl, bA, bB⟩ := Kd.FK_slice_open dh
   have ba := cp 0 _ rfl
   rw [Nat.add_zero, show ((Kd.slice 3 (Kd.int .i64))).sz = 1 from rfl, Nat.mul_one] at ba
   replace ba := Option.some.inj (ba.symm.trans aW)
   injection ba with hva_ hvn_ hvc_
   rw [hva_] at bB
   rw [hvc_] at bA
   have dN := ak (show Kd.V (Kd.int .i64) 3 _ w.heap.size _ _ (qJc ae ad) from Kd.V_mk bA bB)
   clear hva_ hvn_ hvc_ bB bA
   clear cp dg
   have ev_ := Option.some.inj (ao.symm.trans aW)
   injection ev_ with ea_ el_ ec_
   clear el_
   subst ea_
   subst ec_
   have ac := ak bY
   have am := ak bX
   clear bY bX
   replace cN := eq_true cN
   replace cO := eq_true cO
   have ea_ := Option.some.inj (av.symm.trans aW)
   injection ea_ with ea_ en_ ec_
   (try subst ea_)
   (try subst ec_)
   clear en_
   refine qJj (n := 41) (S := fun w' => w'.cell? ⟨an, 0, none⟩ = some (.int .i64 ai) ∧ w'.cell? ⟨an, 1, none⟩ = some (.slice Ao9 ah.length co9) ∧ w'.cell? (aC.add (ad).toNat) = some (.slice aq (qJc ae ad).length ar) ∧ w'.cell? (aC.add (ad).toNat) = some (.slice aq (qJc ae ad).length ar) ∧ w'.cell? (aC.add (ad).toNat) = some (.slice aq (qJc ae ad).length ar) ∧ w'.cell? (aC.add ((aO)).toNat) = some (.slice cm (qJc ae (aO)).length cn) ∧ w'.cell? (aC.add (ad).toNat) = some (.slice aq (qJc ae ad).length ar)) (ds := []) (ms 41 0) (by kernel_rfl) rfl (by kernel_rfl) ⟨(qZb ab.out 0).trans rfl, (qZb ab.out 1).trans rfl, ao, az, av, bw, aW⟩ (fun hHeld => ?_); refine qQo laws_FnSomeWalks.tab10 laws_FnSomeWalks.bits10 (fun HT_ HW_ => ?_)
   generalize wr.drew = w43 at ag aa ab HB al aK ac ap ao az av bw aW hHeld ⊢
   refine pu 1 53 ?_ (ms 41 2) rfl rfl HT_ (by kernel_rfl) (fun _ _ _ h => h) (by rfl) ?_ ?_ ?_ ?_
   rotate_left
   ·intro w'
    go_simp
    with_reducible rfl
   rotate_left
   ·simp only [SX]
    rfl
   refine pu 2 54 ?_ (ms 41 6) rfl rfl HT_ (by kernel_rfl) (fun _ _ _ h => h) (by rfl) ?_ ?_ ?_ ?_
   rotate_left
   ·intro w'
    go_simp
    with_reducible rfl
   rotate_left
   ·simp only [SX]
    rfl
   refine pu 3 55 ?_ (ms 41 14) rfl rfl HT_ (by kernel_rfl) (fun _ _ _ h => h) (by rfl) ?_ ?_ ?_ ?_
   rotate_left
   ·intro w'
    go_simp
    with_reducible rfl
   rotate_left
   ·simp only [SX]
    rfl
   refine pu 5 57 ?_ (ms 41 46) rfl rfl HT_ (by kernel_rfl) (fun _ _ _ h => h) (by rfl) ?_ ?_ ?_ ?_
   rotate_left
   ·intro w'
    go_simp
    with_reducible rfl
   rotate_left
   ·simp only [SX]
    rfl
   refine pu 6 58 ?_ (ms 41 110) rfl rfl HT_ (by kernel_rfl) (fun _ _ _ h => h) (by rfl) ?_ ?_ ?_ ?_
   rotate_left
   ·intro w'
    go_simp
    with_reducible rfl
   rotate_left
   ·simp only [SX]
    rfl
   refine tk 0 52 ?_ (ms 41 111) rfl rfl HT_ HW_ (by kernel_rfl) (fun _ _ _ h => h) (by rfl) ?_ hHeld ?_ ?_ ?_
   rotate_left
   ·rintro w' ⟨s0, s1, s2, s3, s4, s5, s6⟩
    go_simp
    with_reducible rfl
   rotate_left
   ·simp only [SX]
    rfl
   refine tk 4 56 ?_ (ms 41 127) rfl rfl HT_ HW_ (by kernel_rfl) (fun _ _ _ h => h) (by rfl) ?_ hHeld ?_ ?_ ?_
   rotate_left
   ·rintro w' ⟨s0, s1, s2, s3, s4, s5, s6⟩
    go_simp
    with_reducible rfl
   rotate_left
   ·simp only [SX]
    rfl
   refine one_ (i := 7) (N := some 59) (ms 41 255) rfl rfl (qJa HT_.out (by kernel_rfl)) (by decide) (fun K hK => ?_)
   refine qXc Try.func28 (by kernel_rfl) rfl #[.agg #[.int .i64 ai, .slice Ao9 ah.length co9], .slice aq (qJc ae ad).length ar, .int .i64 aL, .int .i64 aN] (by rfl) rfl rfl (by (try simp only [List.map_toArray, List.map_cons, List.map_nil]); first | done | rfl | (simp only [List.length_drop, List.length_take]; rfl)) ?_
   with_reducible refine (laws_wkEnds.calls k2 ai _ _ ah _ _ (qJc ae ad) aL aN true _ ?side1 ?side2 ?side3 ?side4 A31.out).mono ?_
   (case side1 => repeat (first | exact (Kd.R_reads' aa.out).2.2 | (with_reducible refine Kd.C_alloc ?_ _) | (with_reducible refine Kd.C_drewN ?_ _) | (with_reducible refine Kd.C_drew ?_)))
   (case side2 => exact (Kd.R_reads' aa.out).2.1)
   (case side3 => repeat (first | exact (by repeat (first | (with_reducible exact ac.out) | (with_reducible refine Kd.C_alloc ?_ _) | (with_reducible refine Kd.C_drewN ?_ _) | (with_reducible refine Kd.C_drew ?_) | exact ac.out)) | (with_reducible refine Kd.C_alloc ?_ _) | (with_reducible refine Kd.C_drewN ?_ _) | (with_reducible refine Kd.C_drew ?_)))
   (case side4 => exact am.out)
   rintro e w44 ⟨rfl, hb⟩
   have bt := (hb.cell (World.block_lt_of_cell? _ _ (hHeld.2.2.1))).trans (hHeld.2.2.1)
   have bu := (hb.cell (World.block_lt_of_cell? _ _ (hHeld.2.2.2.1))).trans (hHeld.2.2.2.1)
   have bv := (hb.cell (World.block_lt_of_cell? _ _ (hHeld.2.2.2.2.1))).trans (hHeld.2.2.2.2.1)
   have cq := (hb.cell (World.block_lt_of_cell? _ _ (hHeld.2.2.2.2.2.1))).trans (hHeld.2.2.2.2.2.1)
   have cr := (hb.cell (World.block_lt_of_cell? _ _ (hHeld.2.2.2.2.2.2))).trans (hHeld.2.2.2.2.2.2)
   refine ⟨_, rfl, ?_⟩
   replace ag := ak (Kd.N_below (by (with_reducible repeat (first | apply Kd.N_alloc | apply Kd.N_drewN | apply Kd.N_drew)); exact ag.out) hb)
   replace aa := ak (Kd.R_below (rk aa) hb)
   replace al := ak (Kd.V_below (by (with_reducible repeat (first | apply Kd.V_alloc | apply Kd.V_drewN | apply Kd.V_drew)); exact al.out) hb)
   replace ab := ak (qZe (bk ab) hb)
   replace ac := ak (Kd.C_below (by repeat (first | (with_reducible exact ac.out) | (with_reducible refine Kd.C_alloc ?_ _) | (with_reducible refine Kd.C_drewN ?_ _) | (with_reducible refine Kd.C_drew ?_) | exact ac.out)) hb)
   replace aK := ak (Kd.V_below (by (with_reducible repeat (first | apply Kd.V_alloc | apply Kd.V_drewN | apply Kd.V_drew)); exact aK.out) hb)
   replace ap := ak (Kd.C_below (by repeat (first | (with_reducible exact ap.out) | (with_reducible refine Kd.C_alloc ?_ _) | (with_reducible refine Kd.C_drewN ?_ _) | (with_reducible refine Kd.C_drew ?_) | exact ap.out)) hb)
   replace HB := ak (qZd (bl1 HB aj) hb)
   (try clear hb)
   (try clear hb2)
   (try clear hk)
   (try clear hi)
   refine hK.out _ _ ⟨(qZb ab.out 0).trans rfl, (qZb ab.out 1).trans rfl, bt, bu, bv, cq, cr⟩ (fun hHeld => ?_)
   clear hK K
   refine qJd (a' := ?_) ?_ ?_
   rotate_left
   ·show Act.put _ (some 59) _ = _
    simp only [SX]
    rfl
   refine pu 8 60 ?_ (ms 41 511) rfl rfl HT_ (by kernel_rfl) (fun _ _ _ h => h) (by rfl) ?_ ?_ ?_ ?_
   rotate_left
   ·intro w'
    go_simp
    with_reducible rfl
   rotate_left
   ·simp only [SX]
    rfl
   refine pu 9 61 ?_ (ms 41 1023) rfl rfl HT_ (by kernel_rfl) (fun _ _ _ h => h) (by rfl) ?_ ?_ ?_ ?_
   rotate_left
   ·intro w'
    go_simp
    with_reducible rfl
   rotate_left
   ·simp only [SX]
    rfl
   refine pu 11 63 ?_ (ms 41 3071) rfl rfl HT_ (by kernel_rfl) (fun _ _ _ h => h) (by rfl) ?_ ?_ ?_ ?_
   rotate_left
   ·intro w'
    go_simp
    with_reducible rfl
   rotate_left
   ·simp only [SX]
    rfl
   refine pu 12 64 ?_ (ms 41 7167) rfl rfl HT_ (by kernel_rfl) (fun _ _ _ h => h) (by rfl) ?_ ?_ ?_ ?_
   rotate_left
   ·intro w'
    go_simp
    with_reducible rfl
   rotate_left
   ·simp only [SX]
    rfl
   refine pu 13 65 ?_ (ms 41 15359) rfl rfl HT_ (by kernel_rfl) (fun _ _ _ h => h) (by rfl) ?_ ?_ ?_ ?_
   rotate_left
   ·intro w'
    go_simp
    with_reducible rfl
   rotate_left
   ·simp only [SX]
    rfl
   refine pu 16 68 ?_ (ms 41 80895) rfl rfl HT_ (by kernel_rfl) (fun _ _ _ h => h) (by rfl) ?_ ?_ ?_ ?_
   rotate_left
   ·intro w'
    go_simp
    with_reducible rfl
   rotate_left
   ·simp only [SX]
    rfl
   refine pu 17 69 ?_ (ms 41 211967) rfl rfl HT_ (by kernel_rfl) (fun _ _ _ h => h) (by rfl) ?_ ?_ ?_ ?_
   rotate_left
   ·intro w'
    go_simp
    with_reducible rfl
   rotate_left
   ·simp only [SX]
    rfl
   refine pu 18 70 ?_ (ms 41 474111) rfl rfl HT_ (by kernel_rfl) (fun _ _ _ h => h) (by rfl) ?_ ?_ ?_ ?_
   rotate_left
   ·intro w'
    go_simp
    with_reducible rfl
   rotate_left
   ·simp only [SX]
    rfl
   refine tk 10 62 ?_ (ms 41 475135) rfl rfl HT_ HW_ (by kernel_rfl) (fun _ _ _ h => h) (by rfl) ?_ hHeld ?_ ?_ ?_
   rotate_left
   ·rintro w' ⟨s0, s1, s2, s3, s4, s5, s6⟩
    go_simp
    with_reducible rfl
   rotate_left
   ·simp only [SX]
    rfl
   refine tk 14 66 ?_ (ms 41 491519) rfl rfl HT_ HW_ (by kernel_rfl) (fun _ _ _ h => h) (by rfl) ?_ hHeld ?_ ?_ ?_
   rotate_left
   ·rintro w' ⟨s0, s1, s2, s3, s4, s5, s6⟩
    go_simp
    with_reducible rfl
   rotate_left
   ·simp only [SX]
    rfl
   refine tk 19 71 ?_ (ms 41 1015807) rfl rfl HT_ HW_ (by kernel_rfl) (fun _ _ _ h => h) (by rfl) ?_ hHeld ?_ ?_ ?_
   rotate_left
   ·rintro w' ⟨s0, s1, s2, s3, s4, s5, s6⟩
    go_simp
    with_reducible rfl
   rotate_left
   ·simp only [SX]
    rfl
   refine one_ (i := 15) (N := some 67) (ms 41 1048575) rfl rfl (qJa HT_.out (by kernel_rfl)) (by decide) (fun K hK => ?_)
   refine qXc Try.func29 (by kernel_rfl) rfl #[.agg #[.int .i64 ai, .slice Ao9 ah.length co9], .slice aq (qJc ae ad).length ar] (by rfl) rfl rfl (by (try simp only [List.map_toArray, List.map_cons, List.map_nil]); first | done | rfl | (simp only [List.length_drop, List.length_take]; rfl)) ?_
   with_reducible refine (impl_WalkPlain.calls k2 ai _ _ ah _ _ (qJc ae ad) bC _ ?side1 ?side2 ?side3 ?side4 A33.out).mono ?_
   (case side1 => repeat (first | exact (Kd.R_reads' aa.out).2.2 | (with_reducible refine Kd.C_alloc ?_ _) | (with_reducible refine Kd.C_drewN ?_ _) | (with_reducible refine Kd.C_drew ?_)))
   (case side2 => exact (Kd.R_reads' aa.out).2.1)
   (case side3 => repeat (first | exact (by repeat (first | (with_reducible exact ac.out) | (with_reducible refine Kd.C_alloc ?_ _) | (with_reducible refine Kd.C_drewN ?_ _) | (with_reducible refine Kd.C_drew ?_) | exact ac.out)) | (with_reducible refine Kd.C_alloc ?_ _) | (with_reducible refine Kd.C_drewN ?_ _) | (with_reducible refine Kd.C_drew ?_)))
   (case side4 => exact am.out)
   rintro e w45 ⟨eo, rfl, ho0, hb⟩
   have bt := (hb.cell (World.block_lt_of_cell? _ _ (hHeld.2.2.1))).trans (hHeld.2.2.1)
   have bu := (hb.cell (World.block_lt_of_cell? _ _ (hHeld.2.2.2.1))).trans (hHeld.2.2.2.1)
   have bv := (hb.cell (World.block_lt_of_cell? _ _ (hHeld.2.2.2.2.1))).trans (hHeld.2.2.2.2.1)
   have cq := (hb.cell (World.block_lt_of_cell? _ _ (hHeld.2.2.2.2.2.1))).trans (hHeld.2.2.2.2.2.1)
   have cr := (hb.cell (World.block_lt_of_cell? _ _ (hHeld.2.2.2.2.2.2))).trans (hHeld.2.2.2.2.2.2)
   refine ⟨_, rfl, ?_⟩
   replace ag := ak (Kd.N_elder' (by (with_reducible repeat (first | apply Kd.N_alloc | apply Kd.N_drewN | apply Kd.N_drew)); exact ag.out) (Kd.R_base ho0) hb)
   replace aa := ak (Kd.R_below (rk aa) hb)
   replace al := ak (Kd.V_elder' (by (with_reducible repeat (first | apply Kd.V_alloc | apply Kd.V_drewN | apply Kd.V_drew)); exact al.out) (Kd.R_base ho0) hb)
   have aV := ak (Kd.R_lower ho0 (qZc (bl1 HB aj)))
   replace ab := ak (qZe (bk ab) hb)
   replace ac := ak (Kd.C_below (by repeat (first | (with_reducible exact ac.out) | (with_reducible refine Kd.C_alloc ?_ _) | (with_reducible refine Kd.C_drewN ?_ _) | (with_reducible refine Kd.C_drew ?_) | exact ac.out)) hb)
   replace aK := ak (Kd.V_elder' (by (with_reducible repeat (first | apply Kd.V_alloc | apply Kd.V_drewN | apply Kd.V_drew)); exact aK.out) (Kd.R_base ho0) hb)
   replace ap := ak (Kd.C_below (by repeat (first | (with_reducible exact ap.out) | (with_reducible refine Kd.C_alloc ?_ _) | (with_reducible refine Kd.C_drewN ?_ _) | (with_reducible refine Kd.C_drew ?_) | exact ap.out)) hb)
   replace HB := ak (qZd (bl1 HB aj) hb)
   (try clear hb)
   (try clear hb2)
   (try clear hk)
   (try clear hi)
   (try clear ho0)
   obtain ⟨ew, ex, dB⟩ := Kd.R_slice aV.out
   (first | subst dB | (injection dB with f1_ f2_ f3_; have f4_ := f1_.symm; have f5_ := f3_.symm; clear f1_ f2_ f3_; subst f4_; subst f5_))
   refine hK.out _ _ ⟨(qZb ab.out 0).trans rfl, (qZb ab.out 1).trans rfl, bt, bu, bv, cq, cr⟩ (fun hHeld => ?_)
   clear hK K
   refine qJd (a' := ?_) ?_ ?_
   rotate_left
   ·show Act.put _ (some 67) _ = _
    simp only [SX]
    rfl
   refine one_ (i := 20) (N := some 72) (ms 41 2097151) rfl rfl (qJa HT_.out (by kernel_rfl)) (by decide) (fun K hK => ?_)
   refine qXc Try.func18 (by kernel_rfl) rfl #[.slice ew bC.length ex, .slice aq (qJc ae ad).length ar] (by rfl) rfl rfl (by (try simp only [List.map_toArray, List.map_cons, List.map_nil]); first | done | rfl | (simp only [List.length_drop, List.length_take]; rfl)) ?_
   with_reducible refine (laws_wkInts.calls k2 _ _ bC _ _ (qJc ae ad) true _ ?side1 ?side2 ?side3 ?side4 A34.out).mono ?_
   (case side1 => repeat (first | exact (Kd.R_reads' aV.out).2.2 | (with_reducible refine Kd.C_alloc ?_ _) | (with_reducible refine Kd.C_drewN ?_ _) | (with_reducible refine Kd.C_drew ?_)))
   (case side2 => exact (Kd.R_reads' aV.out).2.1)
   (case side3 => repeat (first | exact (by repeat (first | (with_reducible exact ac.out) | (with_reducible refine Kd.C_alloc ?_ _) | (with_reducible refine Kd.C_drewN ?_ _) | (with_reducible refine Kd.C_drew ?_) | exact ac.out)) | (with_reducible refine Kd.C_alloc ?_ _) | (with_reducible refine Kd.C_drewN ?_ _) | (with_reducible refine Kd.C_drew ?_)))
   (case side4 => exact am.out)
   rintro e w' ⟨rfl, ⟨nd, rfl⟩⟩
   refine ⟨_, rfl, ?_⟩
   refine hK.out _ _ ⟨(qZb ab.out 0).trans rfl, (qZb ab.out 1).trans rfl, hHeld.2.2.1, hHeld.2.2.2.1, hHeld.2.2.2.2.1, hHeld.2.2.2.2.2.1, hHeld.2.2.2.2.2.2⟩ (fun hHeld => ?_)
   clear hK K
   refine qJd (a' := ?_) ?_ ?_
   rotate_left
   ·show Act.put _ (some 72) _ = _
    simp only [SX]
    rfl
   refine pu 21 73 ?_ (ms 41 4194303) rfl rfl HT_ (by kernel_rfl) (fun _ _ _ h => h) (by rfl) ?_ ?_ ?_ ?_
   rotate_left
   ·intro w'
    go_simp
    with_reducible rfl
   rotate_left
   ·simp only [SX]
    rfl
   refine pu 22 74 ?_ (ms 41 8388607) rfl rfl HT_ (by kernel_rfl) (fun _ _ _ h => h) (by rfl) ?_ ?_ ?_ ?_
   rotate_left
   ·intro w'
    go_simp
    with_reducible rfl
   rotate_left
   ·simp only [SX]
    rfl
   refine pu 23 75 ?_ (ms 41 16777215) rfl rfl HT_ (by kernel_rfl) (fun _ _ _ h => h) (by rfl) ?_ ?_ ?_ ?_
   rotate_left
   ·intro w'
    go_simp
    with_reducible rfl
   rotate_left
   ·simp only [SX]
    rfl
   refine pu 24 76 ?_ (ms 41 33554431) rfl rfl HT_ (by kernel_rfl) (fun _ _ _ h => h) (by rfl) ?_ ?_ ?_ ?_
   rotate_left
   ·intro w'
    go_simp
    with_reducible rfl
   rotate_left
   ·simp only [SX]
    rfl
   refine pu 25 77 ?_ (ms 41 67108863) rfl rfl HT_ (by kernel_rfl) (fun _ _ _ h => h) (by rfl) ?_ ?_ ?_ ?_
   rotate_left
   ·intro w'
    go_simp
    with_reducible rfl
   rotate_left
   ·simp only [SX]
    rfl
   refine pu 26 78 ?_ (ms 41 134217727) rfl rfl HT_ (by kernel_rfl) (fun _ _ _ h => h) (by rfl) ?_ ?_ ?_ ?_
   rotate_left
   ·intro w'
    go_simp
    with_reducible rfl
   rotate_left
   ·simp only [SX]
    rfl
   refine pu 28 80 ?_ (ms 41 402653183) rfl rfl HT_ (by kernel_rfl) (fun _ _ _ h => h) (by rfl) ?_ ?_ ?_ ?_
   rotate_left
   ·intro w'
    go_simp
    with_reducible rfl
   rotate_left
   ·simp only [SX]
    rfl
   refine pu 29 81 ?_ (ms 41 939524095) rfl rfl HT_ (by kernel_rfl) (fun _ _ _ h => h) (by rfl) ?_ ?_ ?_ ?_
   rotate_left
   ·intro w'
    go_simp
    with_reducible rfl
   rotate_left
   ·simp only [SX]
    rfl
   refine pu 30 82 ?_ (ms 41 2013265919) rfl rfl HT_ (by kernel_rfl) (fun _ _ _ h => h) (by rfl) ?_ ?_ ?_ ?_
   rotate_left
   ·intro w'
    go_simp
    with_reducible rfl
   rotate_left
   ·simp only [SX]
    rfl
   refine pu 31 83 ?_ (ms 41 4160749567) rfl rfl HT_ (by kernel_rfl) (fun _ _ _ h => h) (by rfl) ?_ ?_ ?_ ?_
   rotate_left
   ·intro w'
    go_simp
    with_reducible rfl
   rotate_left
   ·simp only [SX]
    rfl
   refine pu 33 85 ?_ (ms 41 12750684159) rfl rfl HT_ (by kernel_rfl) (fun _ _ _ h => h) (by rfl) ?_ ?_ ?_ ?_
   rotate_left
   ·intro w'
    go_simp
    with_reducible rfl
   rotate_left
   ·simp only [SX]
    rfl
   refine pu 34 86 ?_ (ms 41 29930553343) rfl rfl HT_ (by kernel_rfl) (fun _ _ _ h => h) (by rfl) ?_ ?_ ?_ ?_
   rotate_left
   ·intro w'
    go_simp
    with_reducible rfl
   rotate_left
   ·simp only [SX]
    rfl
   refine pu 35 87 ?_ (ms 41 64290291711) rfl rfl HT_ (by kernel_rfl) (fun _ _ _ h => h) (by rfl) ?_ ?_ ?_ ?_
   rotate_left
   ·intro w'
    go_simp
    with_reducible rfl
   rotate_left
   ·simp only [SX]
    rfl
   refine tk 27 79 ?_ (ms 41 64424509439) rfl rfl HT_ HW_ (by kernel_rfl) (fun _ _ _ h => h) (by rfl) ?_ hHeld ?_ ?_ ?_
   rotate_left
   ·rintro w' ⟨s0, s1, s2, s3, s4, s5, s6⟩
    go_simp
    with_reducible rfl
   rotate_left
   ·simp only [SX]
    rfl
   refine tk 32 84 ?_ (ms 41 68719476735) rfl rfl HT_ HW_ (by kernel_rfl) (fun _ _ _ h => h) (by rfl) ?_ hHeld ?_ ?_ ?_
   rotate_left
   ·rintro w' ⟨s0, s1, s2, s3, s4, s5, s6⟩
    go_simp
    with_reducible rfl
   rotate_left
   ·simp only [SX]
    rfl
   refine tk 36 88 ?_ (ms 41 137438953471) rfl rfl HT_ HW_ (by kernel_rfl) (fun _ _ _ h => h) (by rfl) ?_ hHeld ?_ ?_ ?_
   rotate_left
   ·rintro w' ⟨s0, s1, s2, s3, s4, s5, s6⟩
    go_simp
    with_reducible rfl
   rotate_left
   ·simp only [SX]
    rfl
   refine one_ (i := 37) (N := some 89) (ms 41 274877906943) rfl rfl (qJa HT_.out (by kernel_rfl)) (by decide) (fun K hK => ?_)
   refine qXc Try.func30 (by kernel_rfl) rfl #[.agg #[.int .i64 ai, .slice Ao9 ah.length co9], .slice cm (qJc ae (aO)).length cn, .slice aq (qJc ae ad).length ar] (by rfl) rfl rfl (by (try simp only [List.map_toArray, List.map_cons, List.map_nil]); first | done | (simp only [bg]; rfl) | rfl | (simp only [List.length_drop, List.length_take]; rfl)) ?_
   with_reducible refine (laws_wkAhead.calls k2 ai _ _ ah _ _ (qJc ae (aO)) _ _ (qJc ae ad) true _ ?side1 ?side2 ?side3 ?side4 ?side5 ?side6 A40.out).mono ?_
   (case side1 => repeat (first | exact (Kd.R_reads' aa.out).2.2 | (with_reducible refine Kd.C_alloc ?_ _) | (with_reducible refine Kd.C_drewN ?_ _) | (with_reducible refine Kd.C_drew ?_)))
   (case side2 => exact (Kd.R_reads' aa.out).2.1)
   (case side3 => repeat (first | exact (by repeat (first | (with_reducible exact ap.out) | (with_reducible refine Kd.C_alloc ?_ _) | (with_reducible refine Kd.C_drewN ?_ _) | (with_reducible refine Kd.C_drew ?_) | exact ap.out)) | (with_reducible refine Kd.C_alloc ?_ _) | (with_reducible refine Kd.C_drewN ?_ _) | (with_reducible refine Kd.C_drew ?_)))
   (case side4 => exact cL.out)
   (case side5 => repeat (first | exact (by repeat (first | (with_reducible exact ac.out) | (with_reducible refine Kd.C_alloc ?_ _) | (with_reducible refine Kd.C_drewN ?_ _) | (with_reducible refine Kd.C_drew ?_) | exact ac.out)) | (with_reducible refine Kd.C_alloc ?_ _) | (with_reducible refine Kd.C_drewN ?_ _) | (with_reducible refine Kd.C_drew ?_)))
   (case side6 => exact am.out)
   rintro e w47 ⟨rfl, hb⟩
   have bt := (hb.cell (World.block_lt_of_cell? _ _ (hHeld.2.2.1))).trans (hHeld.2.2.1)
   have bu := (hb.cell (World.block_lt_of_cell? _ _ (hHeld.2.2.2.1))).trans (hHeld.2.2.2.1)
   have bv := (hb.cell (World.block_lt_of_cell? _ _ (hHeld.2.2.2.2.1))).trans (hHeld.2.2.2.2.1)
   have cq := (hb.cell (World.block_lt_of_cell? _ _ (hHeld.2.2.2.2.2.1))).trans (hHeld.2.2.2.2.2.1)
   have cr := (hb.cell (World.block_lt_of_cell? _ _ (hHeld.2.2.2.2.2.2))).trans (hHeld.2.2.2.2.2.2)
   refine ⟨_, rfl, ?_⟩
   replace ag := ak (Kd.N_below (by (with_reducible repeat (first | apply Kd.N_alloc | apply Kd.N_drewN | apply Kd.N_drew)); exact ag.out) hb)
   replace aa := ak (Kd.R_below (rk aa) hb)
   replace al := ak (Kd.V_below (by (with_reducible repeat (first | apply Kd.V_alloc | apply Kd.V_drewN | apply Kd.V_drew)); exact al.out) hb)
   replace aV := ak (Kd.R_below (rk aV) hb)
   replace aK := ak (Kd.V_below (by (with_reducible repeat (first | apply Kd.V_alloc | apply Kd.V_drewN | apply Kd.V_drew)); exact aK.out) hb)
   replace ab := ak (qZe (bk ab) hb)
   replace ac := ak (Kd.C_below (by repeat (first | (with_reducible exact ac.out) | (with_reducible refine Kd.C_alloc ?_ _) | (with_reducible refine Kd.C_drewN ?_ _) | (with_reducible refine Kd.C_drew ?_) | exact ac.out)) hb)
   replace ap := ak (Kd.C_below (by repeat (first | (with_reducible exact ap.out) | (with_reducible refine Kd.C_alloc ?_ _) | (with_reducible refine Kd.C_drewN ?_ _) | (with_reducible refine Kd.C_drew ?_) | exact ap.out)) hb)
   replace HB := ak (qZd (bl1 HB aj) hb)
   (try clear hb)
   (try clear hb2)
   (try clear hk)
   (try clear hi)
   refine hK.out _ _ ⟨(qZb ab.out 0).trans rfl, (qZb ab.out 1).trans rfl, bt, bu, bv, cq, cr⟩ (fun hHeld => ?_)
   clear hK K
   refine qJd (a' := ?_) ?_ ?_
   rotate_left
   ·show Act.put _ (some 89) _ = _
    simp only [SX]
    rfl
   refine pu 38 90 ?_ (ms 41 549755813887) rfl rfl HT_ (by kernel_rfl) (fun _ _ _ h => h) (by rfl) ?_ ?_ ?_ ?_
   rotate_left
   ·intro w'
    go_simp
    with_reducible rfl
   rotate_left
   ·simp only [SX]
    rfl
   refine pu 39 91 ?_ (ms 41 1099511627775) rfl rfl HT_ (by kernel_rfl) (fun _ _ _ h => h) (by rfl) ?_ ?_ ?_ ?_
   rotate_left
   ·intro w'
    go_simp
    with_reducible rfl
   rotate_left
   ·simp only [SX]
    rfl
   refine pu 40 92 ?_ (ms 41 2199023255551) rfl rfl HT_ (by kernel_rfl) (fun _ _ _ h => h) (by rfl) ?_ ?_ ?_ ?_
   rotate_left
   ·intro w'
    go_simp
    with_reducible rfl
   rotate_left
   ·simp only [SX]
    rfl
   refine qXe (qJg HT_.out (by kernel_rfl)) ?_
   try go_wp2
   go_roundg k2
   case measure => have := HJ4.out; have := HK2.out; omega
   case rel => exact ⟨(wrap64 (ad + 1)), (by first | rfl | (simp; done) | (simp [*]; done)), H', ⟨by have := HJ4.out; have := HK2.out; omega⟩, ⟨by (with_reducible repeat (first | apply Kd.N_alloc | apply Kd.N_drewN | apply Kd.N_drew)); exact Kd.N_mono ag.out (fun _ hk => ⟨hk.1.1, hk.1.2⟩)⟩, ⟨rk aa⟩, ⟨bk ab⟩, ⟨bl1 HB aj⟩⟩
theorem laws_FnSomeWalks.walk (P : laws_FnSomeWalks.Pure) (a0 : Option Addr) (cP ct : Nat) (z0 : List Int) (w : World) (w0 : (a0 = none ∧ cP = 0 ∧ ct = 0 ∧ z0 = []) ∨ ∃ x, a0 = some x ∧ cP ≤ ct ∧ ct ≤ maxLen ∧ z0.length = ct ∧ (∀ i, i < z0.length → w.cell? (x.add i) = some (.int .u8 (z0.getD i 0))) ∧ ∀ n ∈ z0, (Lit.int .u8 n).wf = true) (y0 : cP * 1 ≤ 140737488351232) :
  Calls Try.prog 5 #[.slice a0 cP ct] w fun e w' => e = .returned (.bool true) ∧ Below w.heap.size w w' := by
 obtain ⟨l0, rfl, hr0, hm0, hw0, hc0⟩ := ReadsInt.ofRowC w0
 obtain ⟨k, h⟩ := P l0 hm0 y0 hw0
 refine (laws_FnSomeWalks.calls k _ _ l0 true w (Kd.C_of_reads (d := (0 : Int)) (h1 := fun _ => rfl) hr0) hc0 h rfl).mono ?_
 rintro e w' ⟨rfl, hd⟩
 exact ⟨rfl, hd⟩
end Go.Proofs.Ytlgolgfcolnddaa.F
