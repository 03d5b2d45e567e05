-- Printed by this claim's repository's tools (px.py, pgo.py, pack.py), one text behind the other. Lean checks it.
import Derived.Test.YtlgolgfcolnddaaPFnSomeOthers8
import Derived.Test.YtlgolgfcolnddaaFKindsPFnSomeOthers
import Derived.Test.YtlgolgfcolnddaaPFnSomeOthers3
import Derived.Test.YtlgolgfcolnddaaPFnSomeOthers1
import Derived.Test.YtlgolgfcolnddaaPFnSomeOthers2
import Derived.Test.YtlgolgfcolnddaaPFnSomeOthers0
import Derived.Test.YtlgolgfcolnddaaPFnSomeOthers6
import Derived.Test.YtlgolgfcolnddaaPFnSomeOthers7
namespace Go.Proofs.Ytlgolgfcolnddaa.F
open Go.RowKit Go.Proofs.YtlgolgfcolnddaaW.PrintWords Go.Proofs.YtlgolgfcolnddaaW.PrintLast Go.Proofs.YtlgolgfcolnddaaW.PrintMore
attribute [local go_sem] qQe qQd qQi qQh qZk qZl qQc qQb
set_option linter.unusedVariables false
set_option linter.unusedSimpArgs false
/-! ### laws_FnSomeOthers: the walk -/
def laws_FnSomeOthers.T13 : Bool × List (List Nat × List Nat) := (true, [([], []), ([], []), ([], []), ([1, 2], [1, 2]), ([3], [3]), ([0, 4], [0, 4]), ([5], [5]), ([], []), ([], []), ([8], [8]), ([7, 9], [7, 9]), ([6, 10], [6, 10]), ([11, 5, 0, 1, 2, 3, 4, 5, 6, 7, 8, 9, 10, 11], [11])])
def laws_FnSomeOthers.B13 : List Nat := [0, 0, 0, 6, 14, 31, 63, 0, 0, 256, 896, 2047, 4095]
theorem laws_FnSomeOthers.tab13 : rtab .any (qKd Try.f3 13) = laws_FnSomeOthers.T13 := by kernel_rfl
theorem laws_FnSomeOthers.bits13 : qJf laws_FnSomeOthers.T13.2 laws_FnSomeOthers.B13 = true := by kernel_rfl
def laws_FnSomeOthers.T17 : Bool × List (List Nat × List Nat) := (true, [([], []), ([0], [0]), ([1], [1]), ([1], [1]), ([1], [1]), ([3, 4, 1], [1, 3, 4]), ([5, 1], [1, 5]), ([1], [1]), ([1], [1]), ([7, 8, 1], [1, 7, 8]), ([9, 1], [1, 9]), ([2, 6, 10, 1, 1], [1, 2, 6, 10]), ([11, 1], [1, 11]), ([1], [1]), ([1], [1]), ([13, 14, 1], [1, 13, 14]), ([12, 15, 1], [1, 12, 15]), ([1, 16], [1, 16]), ([17, 11, 0, 1, 2, 3, 4, 5, 6, 7, 8, 9, 10, 11, 12, 13, 14, 15, 16, 17], [0, 17])])
def laws_FnSomeOthers.B17 : List Nat := [0, 1, 3, 3, 3, 27, 59, 3, 3, 387, 899, 2047, 4095, 3, 3, 24579, 65535, 131071, 262143]
theorem laws_FnSomeOthers.tab17 : rtab .any (qKd Try.f3 17) = laws_FnSomeOthers.T17 := by kernel_rfl
theorem laws_FnSomeOthers.bits17 : qJf laws_FnSomeOthers.T17.2 laws_FnSomeOthers.B17 = true := by kernel_rfl
def laws_FnSomeOthers.T18 : Bool × List (List Nat × List Nat) := (true, [([], []), ([], []), ([1], [1]), ([0, 2], [0, 2]), ([3], [3]), ([4], [4]), ([4], [4]), ([5, 6, 4], [4, 5, 6]), ([7, 4], [4, 7]), ([4], [4]), ([4], [4]), ([9, 10, 4], [4, 9, 10]), ([11, 4], [4, 11]), ([8, 12, 4, 4], [4, 8, 12]), ([4, 13], [4, 13]), ([14, 13, 0, 1, 2, 3, 4, 5, 6, 7, 8, 9, 10, 11, 12, 13, 14], [14])])
def laws_FnSomeOthers.B18 : List Nat := [0, 0, 2, 7, 15, 31, 31, 127, 255, 31, 31, 1567, 3615, 8191, 16383, 32767]
theorem laws_FnSomeOthers.tab18 : rtab .any (qKd Try.f3 18) = laws_FnSomeOthers.T18 := by kernel_rfl
theorem laws_FnSomeOthers.bits18 : qJf laws_FnSomeOthers.T18.2 laws_FnSomeOthers.B18 = true := by kernel_rfl
def laws_FnSomeOthers.T23 : Bool × List (List Nat × List Nat) := (true, [([], []), ([], []), ([1], [1]), ([0, 2], [0, 2]), ([3], [3]), ([4], [4]), ([5, 4], [4, 5]), ([6, 4], [4, 6]), ([4], [4]), ([8, 4], [4, 8]), ([9, 4], [4, 9]), ([7, 10, 4, 4], [4, 7, 10]), ([4, 11], [4, 11]), ([12, 11, 0, 1, 2, 3, 4, 5, 6, 7, 8, 9, 10, 11, 12], [12])])
def laws_FnSomeOthers.B23 : List Nat := [0, 0, 2, 7, 15, 31, 63, 127, 31, 287, 799, 2047, 4095, 8191]
theorem laws_FnSomeOthers.tab23 : rtab .any (qKd Try.f3 23) = laws_FnSomeOthers.T23 := by kernel_rfl
theorem laws_FnSomeOthers.bits23 : qJf laws_FnSomeOthers.T23.2 laws_FnSomeOthers.B23 = true := by kernel_rfl
set_option maxHeartbeats 8000000 in
set_option maxRecDepth 100000 in
theorem laws_FnSomeOthers.calls (k : Nat) (A0 : Option Addr) (c0 : Nat) (l0 : List Int) (r : Bool) (w : World) (hr0 : Kd.C (Kd.int .u8) w A0 l0.length l0) (hc0 : l0.length ≤ c0) (h : laws_FnSomeOthers.f k l0 = some r) (hr_ : r = true) :
  Calls Try.prog 3 #[.slice A0 l0.length c0] w fun e w' => e = .returned (.bool r) ∧ Below w.heap.size w w' := by
 have fA := Try.underlying25
 have HR0 := ak hr0
 have HC0 := ak hc0
 clear hr0 hc0
 have HB := ak (Below.refl w.heap.size w)
 have H : (if (l0.length : Int) > 1048576 then (some true) else ((spec_DrawSomeOthers.f k l0).bind fun ae => ((impl_SomeOthers.f ae.1 ae.2.1 ae.2.2.1 ae.2.2.2.1 ae.2.2.2.2.1 ae.2.2.2.2.2).bind fun aj => ((spec_SomeOthers.f k ae.1 ae.2.1 ae.2.2.1 ae.2.2.2.1 ae.2.2.2.2.1 ae.2.2.2.2.2).bind fun aY => ((laws_wkGrid.f k aj aY).bind fun cy => (if cy = true then (laws_FnSomeOthers.j0 k ae.2.2.1 ae.2.2.2.1 ae.2.2.2.2.1 ae.2.2.2.2.2 aj ((aj.length : Int) == 0) ae.1 ae.2.1) else (laws_FnSomeOthers.j0 k ae.2.2.1 ae.2.2.2.1 ae.2.2.2.2.1 ae.2.2.2.2.2 aj true ae.1 ae.2.1))))))) = some r := h
 clear h
 by_cases c2 : (l0.length : Int) > 1048576
 ·rw [if_pos c2] at H
  have c2b0 : decide (1048576 < (l0.length : Int)) = true := decide_eq_true c2
  have c2b1 : decide (1048576 < l0.length) = true := decide_eq_true (by omega)
  clear c2
  obtain rfl := Option.some.inj H
  go_enter Try.func3, Try.ntmps3
  go_wp2
  go_ret
  exact ⟨by rfl, bl HB⟩
 rw [if_neg c2] at H
 have c2b0 : decide (1048576 < (l0.length : Int)) = false := decide_eq_false c2
 have c2b1 : decide (1048576 < l0.length) = false := decide_eq_false (by omega)
 clear c2
 replace H := Option.bind_eq_some_iff.mp H
 obtain ⟨⟨ap, ah, aG, aH, aB, aC⟩, A30, H⟩ := H
 have A3 := ak A30
 clear A30
 replace H := Option.bind_eq_some_iff.mp H
 obtain ⟨aj, A40, H⟩ := H
 have A4 := ak A40
 clear A40
 have HC5 := ak H
 clear H
 go_enter Try.func3, Try.ntmps3
 go_upto_region 5 with (first | ((with_reducible refine gate_callee (f := 11) rfl ?_); refine qQj (some 21) rfl rfl Try.func11 (by kernel_rfl) rfl #[.slice A0 l0.length c0] rfl (by (try simp only [List.map_toArray, List.map_cons, List.map_nil]); rfl) ?_; (with_reducible refine (spec_DrawSomeOthers.calls k _ _ l0 ap ah aG aH aB aC _ ?side1 ?side2 A3.out).mono ?_); (case side1 => repeat (exact HR0.out)); (case side2 => exact HC0.out); rintro e w6 ⟨fB, rfl, ho0, hb⟩; refine ⟨_, rfl, ?_⟩; have av := ak (Kd.R_lower ho0 (qZc (bl HB))); replace HB := ak (qZd (bl HB) hb); (try clear hb); (try clear hb2); (try clear hk); (try clear hi); (try clear ho0)) | ((with_reducible refine gate_dst (N := 3) rfl ?_); refine qZj ?hg (N := 3) ?hd (cs := #[.int .i64 0, .slice none 0 0]) (t := 25) ?hr ?_; (case hd => rfl); (case hg => rfl); (case hr => (go_simp; done)); intro al hg w7 hbox hb; replace av := ak (Kd.R_below (rk av) hb); have ab := ak (hbox); have fn := ak ((by rw [hg]; exact (qZc (bl HB)) : w.heap.size ≤ al)); have ar := ak ((by rw [hg]; exact (qZc (bl HB)) : w.heap.size ≤ al)); replace HB := ak (qZd (bl HB) hb); clear hb hbox hg; have bL := bc w7 ab 0 (.int .i64 0) rfl; have bM := bc w7 ab 1 (.slice none 0 0) rfl; have bN := fz ab 0; have bO := fz ab 1; obtain ⟨Ao9, co9, eo9⟩ := Kd.R_slice av.out; subst eo9) | ((with_reducible refine gate_callee (f := 12) rfl ?_); refine qQj (some 32) rfl rfl Try.func12 (by kernel_rfl) rfl #[.agg #[.int .i64 ap, .slice Ao9 ah.length co9], .int .i64 aG, .int .i64 aH, .int .i64 aB, .int .i64 aC] rfl (by (try simp only [List.map_toArray, List.map_cons, List.map_nil]); rfl) ?_; (with_reducible refine (impl_SomeOthers.calls ap _ _ ah aG aH aB aC aj _ ?side1 ?side2 A4.out).mono ?_); (case side1 => refine (Kd.R_reads' (e := 58) (base := w.heap.size) (ok := fun k_ => True) (n := ah.length) (c := co9) ?_).2.2; exact (by exact (Kd.R_mono (Kd.R_far (p := ⟨al, 1, none⟩) (Kd.R_far (p := ⟨al, 0, none⟩) (Kd.R_types av.out ab.out (by decide)) (fun _ hk => hk.2) (.int .i64 ap)) (fun _ hk => hk.2) (.slice Ao9 ah.length co9)) (fun _ h_ => h_.1)))); (case side2 => exact (Kd.R_reads' av.out).2.1); rintro e w10 ⟨aV, rfl, ho0, hb⟩; refine ⟨_, rfl, ?_⟩; have ay := ak (Kd.N_lower (Kd.N_mono (ok' := fun k_ => some k_ ≠ (.slice Ao9 ah.length co9 : Value).ownBlock ∧ k_ ≠ al) (Kd.S_N (Kd.S_bound ho0)) (fun k_ hk_ => ⟨(Kd.fresh' (Kd.R_lt (by exact (Kd.R_mono (Kd.R_far (p := ⟨al, 1, none⟩) (Kd.R_far (p := ⟨al, 0, none⟩) (Kd.R_types av.out ab.out (by decide)) (fun _ hk => hk.2) (.int .i64 ap)) (fun _ hk => hk.2) (.slice Ao9 ah.length co9)) (fun _ h_ => h_.1)))) k_ hk_.2.1), (Kd.freshB (g := al) (o := .cells #[.int .i64 ap, .slice Ao9 ah.length co9] 25 (0, 0)) (by refine qZi (cs := #[.int .i64 ap, .slice none 0 0]) ?_ 1 _ rfl; refine qZi (cs := #[.int .i64 0, .slice none 0 0]) ?_ 0 _ rfl; exact ab.out) k_ hk_.2.1)⟩)) (qZc (bl1 HB ar))); replace av := ak (Kd.R_below (by exact (Kd.R_mono (Kd.R_far (p := ⟨al, 1, none⟩) (Kd.R_far (p := ⟨al, 0, none⟩) (Kd.R_types av.out ab.out (by decide)) (fun _ hk => hk.2) (.int .i64 ap)) (fun _ hk => hk.2) (.slice Ao9 ah.length co9)) (fun _ h_ => h_.1))) hb); replace ab := ak (qZe (g := al) (o := .cells #[.int .i64 ap, .slice Ao9 ah.length co9] 25 (0, 0)) (by refine qZi (cs := #[.int .i64 ap, .slice none 0 0]) ?_ 1 _ rfl; refine qZi (cs := #[.int .i64 0, .slice none 0 0]) ?_ 0 _ rfl; exact ab.out) hb); replace HB := ak (qZd (bl1 HB ar) hb); (try clear hb); (try clear hb2); (try clear hk); (try clear hi); (try clear ho0)))
 (try simp only [Act.put, List.setIfInBounds_toArray, List.set_cons_zero, List.set_cons_succ])
 go_cut [46] (fun v46 wc => ∃ (kq : Nat) (bP : Bool), v46 = .bool bP ∧ Aside0 (laws_FnSomeOthers.j0 kq aG aH aB aC aj bP ap ah = some r) ∧ Aside0 (kq ≤ k) ∧ Aside0 (Kd.N (Kd.slice 3 (Kd.int .i64)) 33 wc w.heap.size (fun k_ => some k_ ≠ ((.slice Ao9 ah.length co9) : Value).ownBlock ∧ k_ ≠ al) aV aj) ∧ Aside0 (Kd.R k58 58 wc w.heap.size (fun _ => True) (.slice Ao9 ah.length co9) ah) ∧ Aside0 (wc.heap[al]? = some (.cells #[.int .i64 ap, (.slice Ao9 ah.length co9)] 25 (0, 0))) ∧ Aside0 (Below w.heap.size w wc))
 case first =>
  have H := HC5.out
  clear HC5
  replace H := Option.bind_eq_some_iff.mp H
  obtain ⟨aY, dY, H⟩ := H
  have A11 := ak dY
  clear dY
  replace H := Option.bind_eq_some_iff.mp H
  obtain ⟨cy, dZ, H⟩ := H
  have A12 := ak dZ
  clear dZ
  by_cases c13 : cy = true
  ·subst c13
   rw [if_pos rfl] at H
   have H' := ak H
   clear H
   have aZ := bc w10 ab 0 (.int .i64 ap) rfl
   have ba := bc w10 ab 1 (.slice Ao9 ah.length co9) rfl
   have bb := fz ab 0
   have bd := fz ab 1
   go_wp2_with (first | ((with_reducible refine gate_callee (f := 14) rfl ?_); refine qQj (some 39) rfl rfl Try.func14 (by kernel_rfl) rfl #[.agg #[.int .i64 ap, .slice Ao9 ah.length co9], .int .i64 aG, .int .i64 aH, .int .i64 aB, .int .i64 aC] rfl (by (try simp only [List.map_toArray, List.map_cons, List.map_nil]); rfl) ?_; (with_reducible refine (spec_SomeOthers.calls k ap _ _ ah aG aH aB aC aY _ ?side1 ?side2 A11.out).mono ?_); (case side1 => repeat (exact (Kd.R_reads' av.out).2.2)); (case side2 => exact (Kd.R_reads' av.out).2.1); rintro e w15 ⟨eG, rfl, ho0, hb⟩; refine ⟨_, rfl, ?_⟩; have aW := ak (Kd.N_lower (Kd.N_mono (ok' := fun k_ => some k_ ≠ (.slice Ao9 ah.length co9 : Value).ownBlock ∧ some k_ ≠ (aV : Value).ownBlock ∧ k_ ≠ al) ho0 (fun k_ hk_ => ⟨(Kd.fresh' (Kd.R_lt (rk av)) k_ hk_), (Kd.fresh' (Kd.N_lt (by exact ay.out)) k_ hk_), (Kd.freshB (bk ab) k_ hk_)⟩)) (qZc (bl1 HB ar))); replace av := ak (Kd.R_below (rk av) hb); replace ay := ak (Kd.N_elder' (by exact ay.out) (Kd.N_base ho0) hb); replace ab := ak (qZe (bk ab) hb); replace HB := ak (qZd (bl1 HB ar) hb); (try clear hb); (try clear hb2); (try clear hk); (try clear hi); (try clear ho0); obtain ⟨eH, eI, eJ⟩ := Kd.N_slice ay.out; subst eJ; obtain ⟨eK, eL, eM⟩ := Kd.N_slice aW.out; subst eM) | ((with_reducible refine gate_callee (f := 13) rfl ?_); refine qQj (some 40) rfl rfl Try.func13 (by kernel_rfl) rfl #[.slice eH aj.length eI, .slice eK aY.length eL] rfl (by (try simp only [List.map_toArray, List.map_cons, List.map_nil]); rfl) ?_; (with_reducible refine (laws_wkGrid.calls k _ _ aj _ _ aY true _ ?side1 ?side2 ?side3 ?side4 A12.out).mono ?_); (case side1 => repeat (exact (Kd.N_reads' ay.out).2.2)); (case side2 => exact (Kd.N_reads' ay.out).2.1); (case side3 => repeat (exact (Kd.N_reads' aW.out).2.2)); (case side4 => exact (Kd.N_reads' aW.out).2.1); rintro e w' ⟨rfl, ⟨nd, rfl⟩⟩; refine ⟨_, rfl, ?_⟩))
   go_meet
   case rel => exact ⟨_, (((aj.length : Int) == 0)), (by rfl), H', ⟨by omega⟩, ⟨by (with_reducible repeat (apply Kd.N_drewN)); exact Kd.N_mono ay.out (fun _ hk => ⟨hk.1.1, hk.1.2⟩)⟩, ⟨rk av⟩, ⟨bk ab⟩, ⟨bl1 HB ar⟩⟩
  replace c13 := Bool.eq_false_iff.mpr c13
  subst c13
  rw [if_neg (show ¬ (false = true) by decide)] at H
  have H' := ak H
  clear H
  have be := bc w10 ab 0 (.int .i64 ap) rfl
  have bf := bc w10 ab 1 (.slice Ao9 ah.length co9) rfl
  have bg := fz ab 0
  have bh := fz ab 1
  go_wp2_with (first | ((with_reducible refine gate_callee (f := 14) rfl ?_); refine qQj (some 39) rfl rfl Try.func14 (by kernel_rfl) rfl #[.agg #[.int .i64 ap, .slice Ao9 ah.length co9], .int .i64 aG, .int .i64 aH, .int .i64 aB, .int .i64 aC] rfl (by (try simp only [List.map_toArray, List.map_cons, List.map_nil]); rfl) ?_; (with_reducible refine (spec_SomeOthers.calls k ap _ _ ah aG aH aB aC aY _ ?side1 ?side2 A11.out).mono ?_); (case side1 => repeat (exact (Kd.R_reads' av.out).2.2)); (case side2 => exact (Kd.R_reads' av.out).2.1); rintro e w19 ⟨eG, rfl, ho0, hb⟩; refine ⟨_, rfl, ?_⟩; have aW := ak (Kd.N_lower (Kd.N_mono (ok' := fun k_ => some k_ ≠ (.slice Ao9 ah.length co9 : Value).ownBlock ∧ some k_ ≠ (aV : Value).ownBlock ∧ k_ ≠ al) ho0 (fun k_ hk_ => ⟨(Kd.fresh' (Kd.R_lt (rk av)) k_ hk_), (Kd.fresh' (Kd.N_lt (by exact ay.out)) k_ hk_), (Kd.freshB (bk ab) k_ hk_)⟩)) (qZc (bl1 HB ar))); replace av := ak (Kd.R_below (rk av) hb); replace ay := ak (Kd.N_elder' (by exact ay.out) (Kd.N_base ho0) hb); replace ab := ak (qZe (bk ab) hb); replace HB := ak (qZd (bl1 HB ar) hb); (try clear hb); (try clear hb2); (try clear hk); (try clear hi); (try clear ho0); obtain ⟨eN, eO, eP⟩ := Kd.N_slice ay.out; subst eP; obtain ⟨eQ, eR, eS⟩ := Kd.N_slice aW.out; subst eS) | ((with_reducible refine gate_callee (f := 13) rfl ?_); refine qQj (some 40) rfl rfl Try.func13 (by kernel_rfl) rfl #[.slice eN aj.length eO, .slice eQ aY.length eR] rfl (by (try simp only [List.map_toArray, List.map_cons, List.map_nil]); rfl) ?_; (with_reducible refine (laws_wkGrid.calls k _ _ aj _ _ aY false _ ?side1 ?side2 ?side3 ?side4 A12.out).mono ?_); (case side1 => repeat (exact (Kd.N_reads' ay.out).2.2)); (case side2 => exact (Kd.N_reads' ay.out).2.1); (case side3 => repeat (exact (Kd.N_reads' aW.out).2.2)); (case side4 => exact (Kd.N_reads' aW.out).2.1); rintro e w' ⟨rfl, ⟨nd, rfl⟩⟩; refine ⟨_, rfl, ?_⟩))
  go_meet
  case rel => exact ⟨_, (true), (by rfl), H', ⟨by omega⟩, ⟨by (with_reducible repeat (apply Kd.N_drewN)); exact Kd.N_mono ay.out (fun _ hk => ⟨hk.1.1, hk.1.2⟩)⟩, ⟨rk av⟩, ⟨bk ab⟩, ⟨bl1 HB ar⟩⟩
 clear HC5
 try clear c1
 try clear c2
 try clear c2b0
 try clear c2b1
 try clear p2
 try clear c3
 try clear c11
 try clear c12
 try clear c13
 try clear c14
 try clear aZ
 try clear ba
 try clear be
 try clear bf
 try clear bL
 try clear bM
 try clear bb
 try clear bd
 try clear bg
 try clear bh
 try clear bN
 try clear bO
 obtain ⟨kq, bP, rfl, HA, HJ4, ai, aa, ab, HB⟩ := hcut
 cases kq with
 | zero => exact absurd HA.out (by simp [laws_FnSomeOthers.j0])
 | succ kj4 =>
  have H := HA.out
  clear HA
  simp only [laws_FnSomeOthers.j0] at H
  by_cases c22 : bP = true
  ·subst c22
   rw [if_pos rfl] at H
   replace H := Option.bind_eq_some_iff.mp H
   obtain ⟨cx, ea, H⟩ := H
   have A23 := ak ea
   clear ea
   replace H := Option.bind_eq_some_iff.mp H
   obtain ⟨dF, eb, H⟩ := H
   have A24 := ak eb
   clear eb
   obtain rfl := Option.some.inj H
   have bQ := bc wc ab 0 (.int .i64 ap) rfl
   have bR := bc wc ab 1 (.slice Ao9 ah.length co9) rfl
   have bS := fz ab 0
   have bU := fz ab 1
   go_wp2_with (first | ((with_reducible refine gate_callee (f := 14) rfl ?_); refine qQj (some 53) rfl rfl Try.func14 (by kernel_rfl) rfl #[.agg #[.int .i64 ap, .slice Ao9 ah.length co9], .int .i64 aG, .int .i64 aH, .int .i64 aB, .int .i64 aC] rfl (by (try simp only [List.map_toArray, List.map_cons, List.map_nil]); rfl) ?_; (with_reducible refine (spec_SomeOthers.calls kj4 ap _ _ ah aG aH aB aC cx _ ?side1 ?side2 A23.out).mono ?_); (case side1 => repeat (exact (Kd.R_reads' aa.out).2.2)); (case side2 => exact (Kd.R_reads' aa.out).2.1); rintro e w26 ⟨fC, rfl, ho0, hb⟩; refine ⟨_, rfl, ?_⟩; have cz := ak (Kd.N_lower (Kd.N_mono (ok' := fun k_ => some k_ ≠ (aV : Value).ownBlock ∧ some k_ ≠ (.slice Ao9 ah.length co9 : Value).ownBlock ∧ k_ ≠ al) ho0 (fun k_ hk_ => ⟨(Kd.fresh' (Kd.N_lt (by exact ai.out)) k_ hk_), (Kd.fresh' (Kd.R_lt (rk aa)) k_ hk_), (Kd.freshB (bk ab) k_ hk_)⟩)) (qZc (bl1 HB ar))); replace ai := ak (Kd.N_elder' (by exact ai.out) (Kd.N_base ho0) hb); replace aa := ak (Kd.R_below (rk aa) hb); replace ab := ak (qZe (bk ab) hb); replace HB := ak (qZd (bl1 HB ar) hb); (try clear hb); (try clear hb2); (try clear hk); (try clear hi); (try clear ho0); obtain ⟨eT, eU, eV⟩ := Kd.N_slice ai.out; subst eV; obtain ⟨eW, eX, eY⟩ := Kd.N_slice cz.out; subst eY) | ((with_reducible refine gate_callee (f := 13) rfl ?_); refine qQj (some 54) rfl rfl Try.func13 (by kernel_rfl) rfl #[.slice eT aj.length eU, .slice eW cx.length eX] rfl (by (try simp only [List.map_toArray, List.map_cons, List.map_nil]); rfl) ?_; (with_reducible refine (laws_wkGrid.calls kj4 _ _ aj _ _ cx dF _ ?side1 ?side2 ?side3 ?side4 A24.out).mono ?_); (case side1 => repeat (exact (Kd.N_reads' ai.out).2.2)); (case side2 => exact (Kd.N_reads' ai.out).2.1); (case side3 => repeat (exact (Kd.N_reads' cz.out).2.2)); (case side4 => exact (Kd.N_reads' cz.out).2.1); rintro e w' ⟨rfl, ⟨nd, rfl⟩⟩; refine ⟨_, rfl, ?_⟩))
   go_ret
   exact ⟨by rfl, bl1 HB ar⟩
  replace c22 := Bool.eq_false_iff.mpr c22
  subst c22
  rw [if_neg (show ¬ (false = true) by decide)] at H
  replace H := Option.bind_eq_some_iff.mp H
  obtain ⟨af, ec, H⟩ := H
  have A29 := ak ec
  clear ec
  by_cases c30 : 0 < (af.length : Int)
  rotate_left
  ·rw [if_neg c30] at H
   exact absurd H (by simp)
  rw [if_pos c30] at H
  have c30b0 : decide (0 < (af.length : Int)) = true := decide_eq_true c30
  have c30b1 : decide (0 < af.length) = true := decide_eq_true (by omega)
  clear c30
  replace H := Option.bind_eq_some_iff.mp H
  obtain ⟨bK, ed, H⟩ := H
  have A31 := ak ed
  clear ed
  have H' := ak H
  clear H
  have bV := bc wc ab 0 (.int .i64 ap) rfl
  have bW := bc wc ab 1 (.slice Ao9 ah.length co9) rfl
  have bX := fz ab 0
  have bY := fz ab 1
  try go_wp2_with (((with_reducible refine gate_callee (f := 15) rfl ?_); refine qQj (some 58) rfl rfl Try.func15 (by kernel_rfl) rfl #[.agg #[.int .i64 ap, .slice Ao9 ah.length co9], .int .i64 aG, .int .i64 aH, .int .i64 6] rfl (by (try simp only [List.map_toArray, List.map_cons, List.map_nil]); rfl) ?_; (with_reducible refine (impl_SomeWalks.calls ap _ _ ah aG aH 6 af _ ?side1 ?side2 A29.out).mono ?_); (case side1 => repeat (exact (Kd.R_reads' aa.out).2.2)); (case side2 => exact (Kd.R_reads' aa.out).2.1); rintro e w33 ⟨fD, rfl, ho0, hb⟩; refine ⟨_, rfl, ?_⟩; have aD := ak (Kd.N_lower (Kd.N_mono (ok' := fun k_ => some k_ ≠ (aV : Value).ownBlock ∧ some k_ ≠ (.slice Ao9 ah.length co9 : Value).ownBlock ∧ k_ ≠ al) (Kd.S_N (Kd.S_bound ho0)) (fun k_ hk_ => ⟨(Kd.fresh' (Kd.N_lt (by exact ai.out)) k_ hk_.2.1), (Kd.fresh' (Kd.R_lt (rk aa)) k_ hk_.2.1), (Kd.freshB (bk ab) k_ hk_.2.1)⟩)) (qZc (bl1 HB ar))); replace ai := ak (Kd.N_elder' (by exact ai.out) (Kd.R_base (Kd.S_R ho0)) hb); replace aa := ak (Kd.R_below (rk aa) hb); replace ab := ak (qZe (bk ab) hb); replace HB := ak (qZd (bl1 HB ar) hb); (try clear hb); (try clear hb2); (try clear hk); (try clear hi); (try clear ho0)))
  replace ai := ak (Kd.N_drew ai.out)
  replace aa := ak (Kd.R_drew aa.out)
  replace aD := ak (Kd.N_drew aD.out)
  replace ab := ak (qZp ab.out)
  replace HB := ak (qZo HB.out)
  obtain ⟨fE, cu, eZ⟩ := Kd.N_slice aD.out
  (subst eZ)
  have cv : 0 ≤ (0 : Int) := (by omega)
  have cw : 0 < (af.length : Int) := oT (by (with_reducible assumption))
  obtain ⟨ax, aX, cA, fa, aA, bZ, ca⟩ := qKb (Kd.N_reads' aD.out).2.2 0 cv cw
  cases fa
  obtain ⟨fo, dH, dI, cB⟩ := Kd.N_get aD.out [] 0 cv (by exact cw)
  obtain ⟨eq, er, rfl, bi, bj⟩ := Kd.FK_slice_open dI
  have aI := cB 0 _ rfl
  rw [Nat.add_zero, show ((Kd.slice 3 (Kd.int .i64))).sz = 1 from rfl, Nat.mul_one] at aI
  replace aI := Option.some.inj (aI.symm.trans aA)
  injection aI with hva_ hvn_ hvc_
  rw [hva_] at bj
  rw [hvc_] at bi
  have bm := ak (show Kd.V (Kd.int .i64) 3 _ w.heap.size _ _ (qQf af 0) from Kd.V_mk bi bj)
  clear hva_ hvn_ hvc_ bj bi
  clear cB dH
  have fp : (0 < af.length) = True := eq_true (by omega)
  (try rw [show ((0 : Int)).toNat = 0 from rfl] at aA)
  (try rw [Addr.add_zero'] at aA)
  have ac := ak ca
  have dh := ak bZ
  clear ca bZ
  replace cv := eq_true cv
  replace cw := eq_true cw
  refine qJd (n := 6) (S := fun w' => w'.cell? ⟨al, 0, none⟩ = some (.int .i64 ap) ∧ w'.cell? ⟨al, 1, none⟩ = some (.slice Ao9 ah.length co9) ∧ w'.cell? ax = some (.slice aX (qQf af 0).length cA)) (ds := []) (ms 6 0) (by kernel_rfl) rfl (by kernel_rfl) ⟨(qZb ab.out 0).trans rfl, (qZb ab.out 1).trans rfl, aA⟩ (fun hHeld => ?_)
  generalize w33.drew = w34 at ai aa aD ab HB bm ac aA hHeld ⊢
  refine qZm (i := 1) (N := some 60) (v := ?_) (a' := ?_) (ms 6 2) rfl rfl (by kernel_rfl) (fun _ _ _ h => h) (Or.inl ⟨by rfl, ?_⟩) ?_ ?_
  rotate_left
  ·intro w'
   go_simp
   with_reducible rfl
  rotate_left
  ·simp only [SX]
   rfl
  refine qZm (i := 2) (N := some 61) (v := ?_) (a' := ?_) (ms 6 6) rfl rfl (by kernel_rfl) (fun _ _ _ h => h) (Or.inl ⟨by rfl, ?_⟩) ?_ ?_
  rotate_left
  ·intro w'
   go_simp
   with_reducible rfl
  rotate_left
  ·simp only [SX]
   rfl
  refine take_ (i := 0) (N := some 59) (v := ?_) (a' := ?_) (ms 6 7) rfl rfl (by kernel_rfl) (fun _ _ _ h => h) (Or.inl ⟨by rfl, ?_⟩) hHeld ?_ ?_
  rotate_left
  ·rintro w' ⟨s0, s1, s2⟩
   go_simp
   with_reducible rfl
  rotate_left
  ·simp only [SX]
   rfl
  refine take_ (i := 3) (N := some 62) (v := ?_) (a' := ?_) (ms 6 15) rfl rfl (by kernel_rfl) (fun _ _ _ h => h) (Or.inl ⟨by rfl, ?_⟩) hHeld ?_ ?_
  rotate_left
  ·rintro w' ⟨s0, s1, s2⟩
   go_simp
   with_reducible rfl
  rotate_left
  ·simp only [SX]
   rfl
  refine one_ (i := 4) (N := some 63) (ms 6 31) rfl rfl (by kernel_rfl) (by decide) (fun K hK => ?_)
  refine qXg Try.func16 (by kernel_rfl) rfl #[.agg #[.int .i64 ap, .slice Ao9 ah.length co9], .slice aX (qQf af 0).length cA] (by rfl) rfl rfl (by (try simp only [List.map_toArray, List.map_cons, List.map_nil]); rfl) ?_
  with_reducible refine (impl_WalkCost.calls kj4 ap _ _ ah _ _ (qQf af 0) bK _ ?side1 ?side2 ?side3 ?side4 A31.out).mono ?_
  (case side1 => repeat (exact (Kd.R_reads' aa.out).2.2))
  (case side2 => exact (Kd.R_reads' aa.out).2.1)
  (case side3 => repeat (exact (by repeat ((with_reducible exact ac.out)))))
  (case side4 => exact dh.out)
  rintro e w36 ⟨rfl, hb⟩
  have cC := (hb.cell (World.block_lt_of_cell? _ _ (hHeld.2.2))).trans (hHeld.2.2)
  refine ⟨_, rfl, ?_⟩
  replace ai := ak (Kd.N_below (by exact ai.out) hb)
  replace aa := ak (Kd.R_below (rk aa) hb)
  replace aD := ak (Kd.N_below (by exact aD.out) hb)
  replace bm := ak (Kd.V_below (by exact bm.out) hb)
  replace ab := ak (qZe (bk ab) hb)
  replace ac := ak (Kd.C_below (by repeat ((with_reducible exact ac.out))) hb)
  replace HB := ak (qZd (bl1 HB ar) hb)
  (try clear hb)
  (try clear hb2)
  (try clear hk)
  (try clear hi)
  refine hK.out _ _ ⟨(qZb ab.out 0).trans rfl, (qZb ab.out 1).trans rfl, cC⟩ (fun hHeld => ?_)
  clear hK K
  refine qJc (a' := ?_) ?_ ?_
  rotate_left
  ·show Act.put _ (some 63) _ = _
   simp only [SX]
   rfl
  refine qZm (i := 5) (N := some 10) (v := ?_) (a' := ?_) (ms 6 63) rfl rfl (by kernel_rfl) (fun _ _ _ h => h) (Or.inl ⟨by rfl, ?_⟩) ?_ ?_
  rotate_left
  ·intro w'
   go_simp
   with_reducible rfl
  rotate_left
  ·simp only [SX]
   rfl
  refine qXc (by kernel_rfl) ?_
  try go_wp2
  go_loopg [11, 12] kj4 (fun kq v11 v12 w' => ∃ (am : Int) (ad : Int), v11 = .int .i64 am ∧ v12 = .int .i64 ad ∧ Aside0 (laws_FnSomeOthers.l0 kq aB aC aj af bK am ad ap ah = some r) ∧ Aside0 (kq ≤ kj4) ∧ Aside0 (Kd.N (Kd.slice 3 (Kd.int .i64)) 33 w' w.heap.size (fun k_ => some k_ ≠ ((.slice (some ax) af.length cu) : Value).ownBlock ∧ some k_ ≠ ((.slice Ao9 ah.length co9) : Value).ownBlock ∧ k_ ≠ al) aV aj) ∧ Aside0 (Kd.N (Kd.slice 3 (Kd.int .i64)) 33 w' w.heap.size (fun k_ => some k_ ≠ (aV : Value).ownBlock ∧ some k_ ≠ ((.slice Ao9 ah.length co9) : Value).ownBlock ∧ k_ ≠ al) (.slice (some ax) af.length cu) af) ∧ Aside0 (Kd.R k58 58 w' w.heap.size (fun _ => True) (.slice Ao9 ah.length co9) ah) ∧ Aside0 (w'.heap[al]? = some (.cells #[.int .i64 ap, (.slice Ao9 ah.length co9)] 25 (0, 0))) ∧ Aside0 (Kd.C (Kd.int .i64) w' aX (qQf af 0).length (qQf af 0)) ∧ Aside0 (Below w.heap.size w w'))
  case atStart => exact ⟨(0), (0), (by rfl), (by rfl), H', ⟨Nat.le_refl _⟩, ⟨by exact Kd.N_mono ai.out (fun _ hk => ⟨hk.2, ⟨hk.1.1, hk.1.2⟩⟩)⟩, ⟨by exact aD.out⟩, ⟨rk aa⟩, ⟨bk ab⟩, ⟨by repeat ((with_reducible exact ac.out))⟩, ⟨bl1 HB ar⟩⟩
  clear H'
  try clear c1
  try clear c2
  try clear c2b0
  try clear c2b1
  try clear p2
  try clear c3
  try clear c4
  try clear p4
  try clear q4
  try clear hx4
  try clear qi4
  try clear c11
  try clear c12
  try clear c13
  try clear c14
  try clear c15
  try clear c16
  try clear c22
  try clear c30
  try clear c30b0
  try clear c30b1
  try clear aZ
  try clear ba
  try clear be
  try clear bf
  try clear bQ
  try clear bR
  try clear bV
  try clear bW
  try clear bL
  try clear bM
  try clear bb
  try clear bd
  try clear bg
  try clear bh
  try clear bS
  try clear bU
  try clear bX
  try clear bY
  try clear bN
  try clear bO
  try clear aA
  try clear p2
  try clear cv
  try clear cw
  obtain ⟨am, ad, rfl, rfl, HA, HK2, ai, aq, aa, ab, ac, HB⟩ := hrel
  cases gk with
  | zero => exact absurd HA.out (by simp [laws_FnSomeOthers.l0])
  | succ k2 =>
   have H := HA.out
   clear HA
   simp only [laws_FnSomeOthers.l0] at H
   by_cases c37 : ad < (af.length : Int)
   rotate_left
   ·rw [if_neg c37] at H
    have c37b0 : decide (ad < (af.length : Int)) = false := decide_eq_false c37
    clear c37
    by_cases c65 : am = (aj.length : Int)
    rotate_left
    ·rw [if_neg c65] at H
     have c65b0 : (am == (aj.length : Int)) = false := beq_eq_false_iff_ne.mpr c65
     have c65b1 : (am != (aj.length : Int)) = true := bne_iff_ne.mpr c65
     exact absurd ((Option.some.inj H).trans hr_) Bool.false_ne_true
    rw [if_pos c65] at H
    have c65b0 : (am == (aj.length : Int)) = true := beq_iff_eq.mpr c65
    have c65b1 : (am != (aj.length : Int)) = false := bne_eq_false_iff_eq.mpr c65
    clear c65
    by_cases c66 : 0 < (aj.length : Int)
    rotate_left
    ·rw [if_neg c66] at H
     exact absurd H (by simp)
    rw [if_pos c66] at H
    have c66b0 : decide (0 < (aj.length : Int)) = true := decide_eq_true c66
    have c66b1 : decide (0 < aj.length) = true := decide_eq_true (by omega)
    clear c66
    by_cases c67 : 0 < (af.length : Int)
    rotate_left
    ·rw [if_neg c67] at H
     exact absurd H (by simp)
    rw [if_pos c67] at H
    have c67b0 : decide (0 < (af.length : Int)) = true := decide_eq_true c67
    have c67b1 : decide (0 < af.length) = true := decide_eq_true (by omega)
    clear c67
    replace H := Option.bind_eq_some_iff.mp H
    obtain ⟨dG, ee, H⟩ := H
    have A68 := ak ee
    clear ee
    obtain rfl := Option.some.inj H
    try go_wp2
    replace ai := ak (Kd.N_drew ai.out)
    replace aq := ak (Kd.N_drew aq.out)
    replace aa := ak (Kd.R_drew aa.out)
    replace ab := ak (qZp ab.out)
    replace ac := ak (Kd.C_drew ac.out)
    replace HB := ak (qZo HB.out)
    obtain ⟨fF, fG, fb⟩ := Kd.N_slice ai.out
    (subst fb)
    have di : 0 ≤ (0 : Int) := (by omega)
    have dj : 0 < (aj.length : Int) := oT (by (with_reducible assumption))
    obtain ⟨ef, cD, cE, fc, aE, cb, cc⟩ := qKb (Kd.N_reads' ai.out).2.2 0 di dj
    cases fc
    obtain ⟨fq, dJ, dK, cF⟩ := Kd.N_get ai.out [] 0 di (by exact dj)
    obtain ⟨es, et, rfl, bn, bo⟩ := Kd.FK_slice_open dK
    have aJ := cF 0 _ rfl
    rw [Nat.add_zero, show ((Kd.slice 3 (Kd.int .i64))).sz = 1 from rfl, Nat.mul_one] at aJ
    replace aJ := Option.some.inj (aJ.symm.trans aE)
    injection aJ with hva_ hvn_ hvc_
    rw [hva_] at bo
    rw [hvc_] at bn
    have dk := ak (show Kd.V (Kd.int .i64) 3 _ w.heap.size _ _ (qQf aj 0) from Kd.V_mk bn bo)
    clear hva_ hvn_ hvc_ bo bn
    clear cF dJ
    have fr : (0 < aj.length) = True := eq_true (by omega)
    (try rw [show ((0 : Int)).toNat = 0 from rfl] at aE)
    (try rw [Addr.add_zero'] at aE)
    have cd := ak cc
    have dl := ak cb
    clear cc cb
    replace di := eq_true di
    replace dj := eq_true dj
    have dm : 0 ≤ (0 : Int) := (by omega)
    have dn : 0 < (af.length : Int) := oT (by (with_reducible assumption))
    obtain ⟨eg, cG, cH, fd, aF, ce, cf⟩ := qKb (Kd.N_reads' aq.out).2.2 0 dm dn
    obtain rfl : ax = eg := (by injection fd)
    obtain ⟨fs, dL, dM, cI⟩ := Kd.N_get aq.out [] 0 dm (by exact dn)
    obtain ⟨eu, ev, rfl, bp, bq⟩ := Kd.FK_slice_open dM
    have aK := cI 0 _ rfl
    rw [Nat.add_zero, show ((Kd.slice 3 (Kd.int .i64))).sz = 1 from rfl, Nat.mul_one] at aK
    replace aK := Option.some.inj (aK.symm.trans aF)
    injection aK with hva_ hvn_ hvc_
    rw [hva_] at bq
    rw [hvc_] at bp
    have dp := ak (show Kd.V (Kd.int .i64) 3 _ w.heap.size _ _ (qQf af 0) from Kd.V_mk bp bq)
    clear hva_ hvn_ hvc_ bq bp
    clear cI dL
    have ft : (0 < af.length) = True := eq_true (by omega)
    (try rw [show ((0 : Int)).toNat = 0 from rfl] at aF)
    (try rw [Addr.add_zero'] at aF)
    have cg := ak cf
    have dq := ak ce
    clear cf ce
    replace dm := eq_true dm
    replace dn := eq_true dn
    refine qJd (n := 14) (S := fun w' => w'.cell? ef = some (.slice cD (qQf aj 0).length cE) ∧ w'.cell? ax = some (.slice cG (qQf af 0).length cH)) (ds := []) (ms 14 0) (by kernel_rfl) rfl (by kernel_rfl) ⟨aE, aF⟩ (fun hHeld => ?_); refine qQk laws_FnSomeOthers.tab23 laws_FnSomeOthers.bits23 (fun HT_ HW_ => ?_)
    generalize wr.drew = w69 at ai aq aa ab ac HB dk dp cd cg aE aF hHeld ⊢
    refine pu 0 126 ?_ (ms 14 1) rfl rfl HT_ (by kernel_rfl) (fun _ _ _ h => h) (by rfl) ?_ ?_ ?_ ?_
    rotate_left
    ·intro w'
     go_simp
     with_reducible rfl
    rotate_left
    ·simp only [SX]
     rfl
    refine pu 1 127 ?_ (ms 14 3) rfl rfl HT_ (by kernel_rfl) (fun _ _ _ h => h) (by rfl) ?_ ?_ ?_ ?_
    rotate_left
    ·intro w'
     go_simp
     with_reducible rfl
    rotate_left
    ·simp only [SX]
     rfl
    refine pu 2 128 ?_ (ms 14 7) rfl rfl HT_ (by kernel_rfl) (fun _ _ _ h => h) (by rfl) ?_ ?_ ?_ ?_
    rotate_left
    ·intro w'
     go_simp
     with_reducible rfl
    rotate_left
    ·simp only [SX]
     rfl
    refine pu 3 129 ?_ (ms 14 15) rfl rfl HT_ (by kernel_rfl) (fun _ _ _ h => h) (by rfl) ?_ ?_ ?_ ?_
    rotate_left
    ·intro w'
     go_simp
     with_reducible rfl
    rotate_left
    ·simp only [SX]
     rfl
    refine pu 4 130 ?_ (ms 14 31) rfl rfl HT_ (by kernel_rfl) (fun _ _ _ h => h) (by rfl) ?_ ?_ ?_ ?_
    rotate_left
    ·intro w'
     go_simp
     with_reducible rfl
    rotate_left
    ·simp only [SX]
     rfl
    refine pu 5 131 ?_ (ms 14 63) rfl rfl HT_ (by kernel_rfl) (fun _ _ _ h => h) (by rfl) ?_ ?_ ?_ ?_
    rotate_left
    ·intro w'
     go_simp
     with_reducible rfl
    rotate_left
    ·simp only [SX]
     rfl
    refine pu 6 132 ?_ (ms 14 127) rfl rfl HT_ (by kernel_rfl) (fun _ _ _ h => h) (by rfl) ?_ ?_ ?_ ?_
    rotate_left
    ·intro w'
     go_simp
     with_reducible rfl
    rotate_left
    ·simp only [SX]
     rfl
    refine pu 8 134 ?_ (ms 14 383) rfl rfl HT_ (by kernel_rfl) (fun _ _ _ h => h) (by rfl) ?_ ?_ ?_ ?_
    rotate_left
    ·intro w'
     go_simp
     with_reducible rfl
    rotate_left
    ·simp only [SX]
     rfl
    refine pu 9 135 ?_ (ms 14 895) rfl rfl HT_ (by kernel_rfl) (fun _ _ _ h => h) (by rfl) ?_ ?_ ?_ ?_
    rotate_left
    ·intro w'
     go_simp
     with_reducible rfl
    rotate_left
    ·simp only [SX]
     rfl
    refine tk 7 133 ?_ (ms 14 1023) rfl rfl HT_ HW_ (by kernel_rfl) (fun _ _ _ h => h) (by rfl) ?_ hHeld ?_ ?_ ?_
    rotate_left
    ·rintro w' ⟨s0, s1⟩
     go_simp
     with_reducible rfl
    rotate_left
    ·simp only [SX]
     rfl
    refine tk 10 136 ?_ (ms 14 2047) rfl rfl HT_ HW_ (by kernel_rfl) (fun _ _ _ h => h) (by rfl) ?_ hHeld ?_ ?_ ?_
    rotate_left
    ·rintro w' ⟨s0, s1⟩
     go_simp
     with_reducible rfl
    rotate_left
    ·simp only [SX]
     rfl
    refine one_ (i := 11) (N := some 137) (ms 14 4095) rfl rfl (qJb HT_.out (by kernel_rfl)) (by decide) (fun K hK => ?_)
    refine qXg Try.func18 (by kernel_rfl) rfl #[.slice cD (qQf aj 0).length cE, .slice cG (qQf af 0).length cH] (by rfl) rfl rfl (by (try simp only [List.map_toArray, List.map_cons, List.map_nil]); rfl) ?_
    with_reducible refine (laws_wkInts.calls k2 _ _ (qQf aj 0) _ _ (qQf af 0) dG _ ?side1 ?side2 ?side3 ?side4 A68.out).mono ?_
    (case side1 => repeat (exact (by repeat ((with_reducible exact cd.out)))))
    (case side2 => exact dl.out)
    (case side3 => repeat (exact (by repeat ((with_reducible exact cg.out)))))
    (case side4 => exact dq.out)
    rintro e w' ⟨rfl, ⟨nd, rfl⟩⟩
    refine ⟨_, rfl, ?_⟩
    refine hK.out _ _ ⟨hHeld.1, hHeld.2⟩ (fun hHeld => ?_)
    clear hK K
    refine qJc (a' := ?_) ?_ ?_
    rotate_left
    ·show Act.put _ (some 137) _ = _
     simp only [SX]
     rfl
    refine pu 12 138 ?_ (ms 14 8191) rfl rfl HT_ (by kernel_rfl) (fun _ _ _ h => h) (by rfl) ?_ ?_ ?_ ?_
    rotate_left
    ·intro w'
     go_simp
     with_reducible rfl
    rotate_left
    ·simp only [SX]
     rfl
    refine pu 13 2 ?_ (ms 14 16383) rfl rfl HT_ (by kernel_rfl) (fun _ _ _ h => h) (by rfl) ?_ ?_ ?_ ?_
    rotate_left
    ·intro w'
     go_simp
     with_reducible rfl
    rotate_left
    ·simp only [SX]
     rfl
    refine qXc (qQp HT_.out (by kernel_rfl)) ?_
    try go_wp2
    go_ret
    exact ⟨by rfl, bl1 HB ar⟩
   rw [if_pos c37] at H
   have c37b0 : decide (ad < (af.length : Int)) = true := decide_eq_true c37
   clear c37
   by_cases c38 : 0 ≤ ad
   rotate_left
   ·rw [if_neg c38] at H
    exact absurd H (by simp)
   rw [if_pos c38] at H
   have c38b0 : decide (0 ≤ ad) = true := decide_eq_true c38
   clear c38
   replace H := Option.bind_eq_some_iff.mp H
   obtain ⟨de, eh, H⟩ := H
   have A39 := ak eh
   clear eh
   have H' := ak H
   clear H
   try go_wp2
   replace ai := ak (Kd.N_drew ai.out)
   replace aq := ak (Kd.N_drew aq.out)
   replace aa := ak (Kd.R_drew aa.out)
   replace ab := ak (qZp ab.out)
   replace ac := ak (Kd.C_drew ac.out)
   replace HB := ak (qZo HB.out)
   have cJ : 0 ≤ (ad : Int) := oT (by (with_reducible assumption))
   have cK : ad < (af.length : Int) := oT (by (with_reducible assumption))
   obtain ⟨ei, br, cL, fe, aL, ch, ci⟩ := qKb (Kd.N_reads' aq.out).2.2 ad cJ cK
   obtain rfl : ax = ei := (by injection fe)
   obtain ⟨fu, dN, dO, cM⟩ := Kd.N_get aq.out [] ad cJ (by exact cK)
   obtain ⟨ew, ex, rfl, bs, bu⟩ := Kd.FK_slice_open dO
   have aM := cM 0 _ rfl
   rw [Nat.add_zero, show ((Kd.slice 3 (Kd.int .i64))).sz = 1 from rfl, Nat.mul_one] at aM
   replace aM := Option.some.inj (aM.symm.trans aL)
   injection aM with hva_ hvn_ hvc_
   rw [hva_] at bu
   rw [hvc_] at bs
   have bv := ak (show Kd.V (Kd.int .i64) 3 _ w.heap.size _ _ (qQf af ad) from Kd.V_mk bs bu)
   clear hva_ hvn_ hvc_ bu bs
   clear cM dN
   have ag := ak ci
   have dr := ak ch
   clear ci ch
   replace cJ := eq_true cJ
   replace cK := eq_true cK
   refine qJd (n := 13) (S := fun w' => w'.cell? ⟨al, 0, none⟩ = some (.int .i64 ap) ∧ w'.cell? ⟨al, 1, none⟩ = some (.slice Ao9 ah.length co9) ∧ w'.cell? (ax.add (ad).toNat) = some (.slice br (qQf af ad).length cL)) (ds := []) (ms 13 0) (by kernel_rfl) rfl (by kernel_rfl) ⟨(qZb ab.out 0).trans rfl, (qZb ab.out 1).trans rfl, aL⟩ (fun hHeld => ?_); refine qQk laws_FnSomeOthers.tab13 laws_FnSomeOthers.bits13 (fun HT_ HW_ => ?_)
   generalize wr.drew = w40 at ai aq aa ab ac HB bv ag aL hHeld ⊢
   refine pu 1 71 ?_ (ms 13 2) rfl rfl HT_ (by kernel_rfl) (fun _ _ _ h => h) (by rfl) ?_ ?_ ?_ ?_
   rotate_left
   ·intro w'
    go_simp
    with_reducible rfl
   rotate_left
   ·simp only [SX]
    rfl
   refine pu 2 72 ?_ (ms 13 6) rfl rfl HT_ (by kernel_rfl) (fun _ _ _ h => h) (by rfl) ?_ ?_ ?_ ?_
   rotate_left
   ·intro w'
    go_simp
    with_reducible rfl
   rotate_left
   ·simp only [SX]
    rfl
   refine pu 3 73 ?_ (ms 13 14) rfl rfl HT_ (by kernel_rfl) (fun _ _ _ h => h) (by rfl) ?_ ?_ ?_ ?_
   rotate_left
   ·intro w'
    go_simp
    with_reducible rfl
   rotate_left
   ·simp only [SX]
    rfl
   refine pu 7 77 ?_ (ms 13 142) rfl rfl HT_ (by kernel_rfl) (fun _ _ _ h => h) (by rfl) ?_ ?_ ?_ ?_
   rotate_left
   ·intro w'
    go_simp
    with_reducible rfl
   rotate_left
   ·simp only [SX]
    rfl
   refine pu 8 78 ?_ (ms 13 398) rfl rfl HT_ (by kernel_rfl) (fun _ _ _ h => h) (by rfl) ?_ ?_ ?_ ?_
   rotate_left
   ·intro w'
    go_simp
    with_reducible rfl
   rotate_left
   ·simp only [SX]
    rfl
   refine pu 9 79 ?_ (ms 13 910) rfl rfl HT_ (by kernel_rfl) (fun _ _ _ h => h) (by rfl) ?_ ?_ ?_ ?_
   rotate_left
   ·intro w'
    go_simp
    with_reducible rfl
   rotate_left
   ·simp only [SX]
    rfl
   refine pu 10 80 ?_ (ms 13 1934) rfl rfl HT_ (by kernel_rfl) (fun _ _ _ h => h) (by rfl) ?_ ?_ ?_ ?_
   rotate_left
   ·intro w'
    go_simp
    with_reducible rfl
   rotate_left
   ·simp only [SX]
    rfl
   refine tk 0 70 ?_ (ms 13 1935) rfl rfl HT_ HW_ (by kernel_rfl) (fun _ _ _ h => h) (by rfl) ?_ hHeld ?_ ?_ ?_
   rotate_left
   ·rintro w' ⟨s0, s1, s2⟩
    go_simp
    with_reducible rfl
   rotate_left
   ·simp only [SX]
    rfl
   refine tk 4 74 ?_ (ms 13 1951) rfl rfl HT_ HW_ (by kernel_rfl) (fun _ _ _ h => h) (by rfl) ?_ hHeld ?_ ?_ ?_
   rotate_left
   ·rintro w' ⟨s0, s1, s2⟩
    go_simp
    with_reducible rfl
   rotate_left
   ·simp only [SX]
    rfl
   refine one_ (i := 5) (N := some 75) (ms 13 1983) rfl rfl (qJb HT_.out (by kernel_rfl)) (by decide) (fun K hK => ?_)
   refine qXg Try.func16 (by kernel_rfl) rfl #[.agg #[.int .i64 ap, .slice Ao9 ah.length co9], .slice br (qQf af ad).length cL] (by rfl) rfl rfl (by (try simp only [List.map_toArray, List.map_cons, List.map_nil]); rfl) ?_
   with_reducible refine (impl_WalkCost.calls k2 ap _ _ ah _ _ (qQf af ad) de _ ?side1 ?side2 ?side3 ?side4 A39.out).mono ?_
   (case side1 => repeat (exact (Kd.R_reads' aa.out).2.2))
   (case side2 => exact (Kd.R_reads' aa.out).2.1)
   (case side3 => repeat (exact (by repeat ((with_reducible exact ag.out)))))
   (case side4 => exact dr.out)
   rintro e w41 ⟨rfl, hb⟩
   have cC := (hb.cell (World.block_lt_of_cell? _ _ (hHeld.2.2))).trans (hHeld.2.2)
   refine ⟨_, rfl, ?_⟩
   replace ai := ak (Kd.N_below (by exact ai.out) hb)
   replace aq := ak (Kd.N_below (by exact aq.out) hb)
   replace aa := ak (Kd.R_below (rk aa) hb)
   replace bv := ak (Kd.V_below (by exact bv.out) hb)
   replace ab := ak (qZe (bk ab) hb)
   replace ac := ak (Kd.C_below (by repeat ((with_reducible exact ac.out))) hb)
   replace ag := ak (Kd.C_below (by repeat ((with_reducible exact ag.out))) hb)
   replace HB := ak (qZd (bl1 HB ar) hb)
   (try clear hb)
   (try clear hb2)
   (try clear hk)
   (try clear hi)
   refine hK.out _ _ ⟨(qZb ab.out 0).trans rfl, (qZb ab.out 1).trans rfl, cC⟩ (fun hHeld => ?_)
   clear hK K
   refine qJc (a' := ?_) ?_ ?_
   rotate_left
   ·show Act.put _ (some 75) _ = _
    simp only [SX]
    rfl
   refine pu 6 76 ?_ (ms 13 2047) rfl rfl HT_ (by kernel_rfl) (fun _ _ _ h => h) (by rfl) ?_ ?_ ?_ ?_
   rotate_left
   ·intro w'
    go_simp
    with_reducible rfl
   rotate_left
   ·simp only [SX]
    rfl
   refine pu 11 81 ?_ (ms 13 4095) rfl rfl HT_ (by kernel_rfl) (fun _ _ _ h => h) (by rfl) ?_ ?_ ?_ ?_
   rotate_left
   ·intro w'
    go_simp
    with_reducible rfl
   rotate_left
   ·simp only [SX]
    rfl
   refine pu 12 13 ?_ (ms 13 8191) rfl rfl HT_ (by kernel_rfl) (fun _ _ _ h => h) (by rfl) ?_ ?_ ?_ ?_
   rotate_left
   ·intro w'
    go_simp
    with_reducible rfl
   rotate_left
   ·simp only [SX]
    rfl
   refine qXc (qQp HT_.out (by kernel_rfl)) ?_
   try go_wp2
   go_loopg [13, 14] k2 (fun kq v13 v14 w' => ∃ (az : Bool) (au : Int), v13 = .bool az ∧ v14 = .int .i64 au ∧ Aside0 (laws_FnSomeOthers.l1 kq aB aC aj af bK am ad az au ap ah = some r) ∧ Aside0 (kq ≤ k2) ∧ Aside0 (Kd.N (Kd.slice 3 (Kd.int .i64)) 33 w' w.heap.size (fun k_ => some k_ ≠ ((.slice (some ax) af.length cu) : Value).ownBlock ∧ some k_ ≠ ((.slice Ao9 ah.length co9) : Value).ownBlock ∧ k_ ≠ al) aV aj) ∧ Aside0 (Kd.N (Kd.slice 3 (Kd.int .i64)) 33 w' w.heap.size (fun k_ => some k_ ≠ (aV : Value).ownBlock ∧ some k_ ≠ ((.slice Ao9 ah.length co9) : Value).ownBlock ∧ k_ ≠ al) (.slice (some ax) af.length cu) af) ∧ Aside0 (Kd.R k58 58 w' w.heap.size (fun _ => True) (.slice Ao9 ah.length co9) ah) ∧ Aside0 (w'.heap[al]? = some (.cells #[.int .i64 ap, (.slice Ao9 ah.length co9)] 25 (0, 0))) ∧ Aside0 (Kd.C (Kd.int .i64) w' aX (qQf af 0).length (qQf af 0)) ∧ Aside0 (Kd.C (Kd.int .i64) w' br (qQf af ad).length (qQf af ad)) ∧ Aside0 (Below w.heap.size w w'))
   case atStart => exact ⟨(decide ((wrap64 (de * 100)) ≤ (wrap64 (bK * (wrap64 (100 + aB)))))), (0), (by rfl), (by rfl), H', ⟨Nat.le_refl _⟩, ⟨by exact ai.out⟩, ⟨by exact aq.out⟩, ⟨rk aa⟩, ⟨bk ab⟩, ⟨by repeat ((with_reducible exact ac.out))⟩, ⟨by repeat ((with_reducible exact ag.out))⟩, ⟨bl1 HB ar⟩⟩
   clear H'
   try clear c1
   try clear c2
   try clear c2b0
   try clear c2b1
   try clear p2
   try clear c3
   try clear c4
   try clear p4
   try clear q4
   try clear hx4
   try clear qi4
   try clear p6
   try clear c11
   try clear c12
   try clear c13
   try clear c14
   try clear c15
   try clear c16
   try clear c22
   try clear c30
   try clear c30b0
   try clear c30b1
   try clear c37
   try clear c37b0
   try clear c38
   try clear c38b0
   try clear aZ
   try clear ba
   try clear be
   try clear bf
   try clear bQ
   try clear bR
   try clear bV
   try clear bW
   try clear bL
   try clear bM
   try clear bb
   try clear bd
   try clear bg
   try clear bh
   try clear bS
   try clear bU
   try clear bX
   try clear bY
   try clear bN
   try clear bO
   try clear aA
   try clear aL
   try clear p2
   try clear p4
   try clear cv
   try clear cJ
   try clear q4
   try clear cw
   try clear cK
   obtain ⟨az, au, rfl, rfl, HA, HK3, ai, aq, aa, ab, ac, ag, HB⟩ := hrel
   cases gk with
   | zero => exact absurd HA.out (by simp [laws_FnSomeOthers.l1])
   | succ k3 =>
    have H := HA.out
    clear HA
    simp only [laws_FnSomeOthers.l1] at H
    by_cases c42 : au < am
    ·rw [if_pos c42] at H
     have c42b0 : decide (au < am) = true := decide_eq_true c42
     clear c42
     by_cases c43 : az = true
     rotate_left
     ·replace c43 := Bool.eq_false_iff.mpr c43
      subst c43
      rw [if_neg (show ¬ (false = true) by decide)] at H
      have H' := ak H
      clear H
      try go_wp2
      replace ai := ak (Kd.N_drew ai.out)
      replace aq := ak (Kd.N_drew aq.out)
      replace aa := ak (Kd.R_drew aa.out)
      replace ab := ak (qZp ab.out)
      replace ac := ak (Kd.C_drew ac.out)
      replace ag := ak (Kd.C_drew ag.out)
      replace HB := ak (qZo HB.out)
      refine qJd (n := 19) (S := fun w' => True) (ds := []) (ms 19 0) (by kernel_rfl) rfl (by kernel_rfl) trivial (fun hHeld => ?_); refine qQk laws_FnSomeOthers.tab17 laws_FnSomeOthers.bits17 (fun HT_ HW_ => ?_)
      generalize wr.drew = w52 at ai aq aa ab ac ag HB hHeld ⊢
      refine pu 0 87 ?_ (ms 19 1) rfl rfl HT_ (by kernel_rfl) (fun _ _ _ h => h) (by rfl) ?_ ?_ ?_ ?_
      rotate_left
      ·intro w'
       go_simp
       with_reducible rfl
      rotate_left
      ·simp only [SX]
       rfl
      refine pu 1 88 ?_ (ms 19 3) rfl rfl HT_ (by kernel_rfl) (fun _ _ _ h => h) (by rfl) ?_ ?_ ?_ ?_
      rotate_left
      ·intro w'
       go_simp
       with_reducible rfl
      rotate_left
      ·simp only [SX]
       rfl
      refine qZm (i := 2) (N := some 89) (v := undef) (a' := ?_) (ms 19 7) rfl rfl (qZf HT_.out (by kernel_rfl)) (fun _ _ _ h => h) (Or.inr ⟨by rfl, rfl⟩) ?_ ?_
      rotate_left
      ·simp only [SX]
       rfl
      refine qZm (i := 3) (N := some 90) (v := undef) (a' := ?_) (ms 19 15) rfl rfl (qZf HT_.out (by kernel_rfl)) (fun _ _ _ h => h) (Or.inr ⟨by rfl, rfl⟩) ?_ ?_
      rotate_left
      ·simp only [SX]
       rfl
      refine qZm (i := 4) (N := some 91) (v := undef) (a' := ?_) (ms 19 31) rfl rfl (qZf HT_.out (by kernel_rfl)) (fun _ _ _ h => h) (Or.inr ⟨by rfl, rfl⟩) ?_ ?_
      rotate_left
      ·simp only [SX]
       rfl
      refine qZm (i := 5) (N := some 92) (v := undef) (a' := ?_) (ms 19 63) rfl rfl (qZf HT_.out (by kernel_rfl)) (fun _ _ _ h => h) (Or.inr ⟨by rfl, rfl⟩) ?_ ?_
      rotate_left
      ·simp only [SX]
       rfl
      refine qZm (i := 6) (N := some 93) (v := undef) (a' := ?_) (ms 19 127) rfl rfl (qZf HT_.out (by kernel_rfl)) (fun _ _ _ h => h) (Or.inr ⟨by rfl, rfl⟩) ?_ ?_
      rotate_left
      ·simp only [SX]
       rfl
      refine qZm (i := 7) (N := some 94) (v := undef) (a' := ?_) (ms 19 255) rfl rfl (qZf HT_.out (by kernel_rfl)) (fun _ _ _ h => h) (Or.inr ⟨by rfl, rfl⟩) ?_ ?_
      rotate_left
      ·simp only [SX]
       rfl
      refine qZm (i := 8) (N := some 95) (v := undef) (a' := ?_) (ms 19 511) rfl rfl (qZf HT_.out (by kernel_rfl)) (fun _ _ _ h => h) (Or.inr ⟨by rfl, rfl⟩) ?_ ?_
      rotate_left
      ·simp only [SX]
       rfl
      refine qZm (i := 9) (N := some 96) (v := undef) (a' := ?_) (ms 19 1023) rfl rfl (qZf HT_.out (by kernel_rfl)) (fun _ _ _ h => h) (Or.inr ⟨by rfl, rfl⟩) ?_ ?_
      rotate_left
      ·simp only [SX]
       rfl
      refine qZm (i := 10) (N := some 97) (v := undef) (a' := ?_) (ms 19 2047) rfl rfl (qZf HT_.out (by kernel_rfl)) (fun _ _ _ h => h) (Or.inr ⟨by rfl, rfl⟩) ?_ ?_
      rotate_left
      ·simp only [SX]
       rfl
      refine qZm (i := 11) (N := some 98) (v := undef) (a' := ?_) (ms 19 4095) rfl rfl (qZf HT_.out (by kernel_rfl)) (fun _ _ _ h => h) (Or.inr ⟨by rfl, rfl⟩) ?_ ?_
      rotate_left
      ·simp only [SX]
       rfl
      refine qZm (i := 12) (N := some 99) (v := undef) (a' := ?_) (ms 19 8191) rfl rfl (qZf HT_.out (by kernel_rfl)) (fun _ _ _ h => h) (Or.inr ⟨by rfl, rfl⟩) ?_ ?_
      rotate_left
      ·simp only [SX]
       rfl
      refine qZm (i := 13) (N := some 100) (v := undef) (a' := ?_) (ms 19 16383) rfl rfl (qZf HT_.out (by kernel_rfl)) (fun _ _ _ h => h) (Or.inr ⟨by rfl, rfl⟩) ?_ ?_
      rotate_left
      ·simp only [SX]
       rfl
      refine qZm (i := 14) (N := some 101) (v := undef) (a' := ?_) (ms 19 32767) rfl rfl (qZf HT_.out (by kernel_rfl)) (fun _ _ _ h => h) (Or.inr ⟨by rfl, rfl⟩) ?_ ?_
      rotate_left
      ·simp only [SX]
       rfl
      refine qZm (i := 15) (N := some 102) (v := undef) (a' := ?_) (ms 19 65535) rfl rfl (qZf HT_.out (by kernel_rfl)) (fun _ _ _ h => h) (Or.inr ⟨by rfl, rfl⟩) ?_ ?_
      rotate_left
      ·simp only [SX]
       rfl
      refine qZm (i := 16) (N := some 103) (v := undef) (a' := ?_) (ms 19 131071) rfl rfl (qZf HT_.out (by kernel_rfl)) (fun _ _ _ h => h) (Or.inr ⟨by rfl, rfl⟩) ?_ ?_
      rotate_left
      ·simp only [SX]
       rfl
      refine pu 17 104 ?_ (ms 19 262143) rfl rfl HT_ (by kernel_rfl) (fun _ _ _ h => h) (by rfl) ?_ ?_ ?_ ?_
      rotate_left
      ·intro w'
       go_simp
       with_reducible rfl
      rotate_left
      ·simp only [SX]
       rfl
      refine pu 18 13 ?_ (ms 19 524287) rfl rfl HT_ (by kernel_rfl) (fun _ _ _ h => h) (by rfl) ?_ ?_ ?_ ?_
      rotate_left
      ·intro w'
       go_simp
       with_reducible rfl
      rotate_left
      ·simp only [SX]
       rfl
      refine qXc (qQp HT_.out (by kernel_rfl)) ?_
      try go_wp2
      go_roundg k3
      case measure => have := HJ4.out; have := HK2.out; have := HK3.out; omega
      case rel => exact ⟨(false), (wrap64 (au + 1)), (by rfl), (by rfl), H', ⟨by have := HJ4.out; have := HK2.out; have := HK3.out; omega⟩, ⟨by exact ai.out⟩, ⟨by exact aq.out⟩, ⟨rk aa⟩, ⟨bk ab⟩, ⟨by repeat ((with_reducible exact ac.out))⟩, ⟨by repeat ((with_reducible exact ag.out))⟩, ⟨bl1 HB ar⟩⟩
     subst c43
     rw [if_pos rfl] at H
     by_cases c44 : 0 ≤ ad
     rotate_left
     ·rw [if_neg c44] at H
      exact absurd H (by simp)
     rw [if_pos c44] at H
     have c44b0 : decide (0 ≤ ad) = true := decide_eq_true c44
     clear c44
     by_cases c45 : ad < (af.length : Int)
     rotate_left
     ·rw [if_neg c45] at H
      exact absurd H (by simp)
     rw [if_pos c45] at H
     have c45b0 : decide (ad < (af.length : Int)) = true := decide_eq_true c45
     clear c45
     by_cases c46 : 0 ≤ au
     rotate_left
     ·rw [if_neg c46] at H
      exact absurd H (by simp)
     rw [if_pos c46] at H
     have c46b0 : decide (0 ≤ au) = true := decide_eq_true c46
     clear c46
     by_cases c47 : au < (aj.length : Int)
     rotate_left
     ·rw [if_neg c47] at H
      exact absurd H (by simp)
     rw [if_pos c47] at H
     have c47b0 : decide (au < (aj.length : Int)) = true := decide_eq_true c47
     clear c47
     replace H := Option.bind_eq_some_iff.mp H
     obtain ⟨df, ej, H⟩ := H
     have A48 := ak ej
     clear ej
     have H' := ak H
     clear H
     try go_wp2
     replace ai := ak (Kd.N_drew ai.out)
     replace aq := ak (Kd.N_drew aq.out)
     replace aa := ak (Kd.R_drew aa.out)
     replace ab := ak (qZp ab.out)
     replace ac := ak (Kd.C_drew ac.out)
     replace ag := ak (Kd.C_drew ag.out)
     replace HB := ak (qZo HB.out)
     have dt : 0 ≤ (ad : Int) := oT (by (with_reducible assumption))
     have du : ad < (af.length : Int) := oT (by (with_reducible assumption))
     obtain ⟨ek, cN, cO, ff, bw, cj, ck⟩ := qKb (Kd.N_reads' aq.out).2.2 ad dt du
     obtain rfl : ax = ek := (by injection ff)
     obtain ⟨fv, dP, dQ, cP⟩ := Kd.N_get aq.out [] ad dt (by exact du)
     obtain ⟨ey, ez, rfl, bx, bz⟩ := Kd.FK_slice_open dQ
     have aN := cP 0 _ rfl
     rw [Nat.add_zero, show ((Kd.slice 3 (Kd.int .i64))).sz = 1 from rfl, Nat.mul_one] at aN
     replace aN := Option.some.inj (aN.symm.trans bw)
     injection aN with hva_ hvn_ hvc_
     rw [hva_] at bz
     rw [hvc_] at bx
     have bA := ak (show Kd.V (Kd.int .i64) 3 _ w.heap.size _ _ (qQf af ad) from Kd.V_mk bx bz)
     clear hva_ hvn_ hvc_ bz bx
     clear cP dP
     have aO := ak ck
     have dv := ak cj
     clear ck cj
     replace dt := eq_true dt
     replace du := eq_true du
     obtain ⟨fH, fI, fg⟩ := Kd.N_slice ai.out
     (subst fg)
     have dw : 0 ≤ (au : Int) := oT (by (with_reducible assumption))
     have dx : au < (aj.length : Int) := oT (by (with_reducible assumption))
     obtain ⟨el, cQ, cR, fh, bB, cl, cm⟩ := qKb (Kd.N_reads' ai.out).2.2 au dw dx
     cases fh
     obtain ⟨fw, dR, dS, cS⟩ := Kd.N_get ai.out [] au dw (by exact dx)
     obtain ⟨eA, eB, rfl, bC, bD⟩ := Kd.FK_slice_open dS
     have aP := cS 0 _ rfl
     rw [Nat.add_zero, show ((Kd.slice 3 (Kd.int .i64))).sz = 1 from rfl, Nat.mul_one] at aP
     replace aP := Option.some.inj (aP.symm.trans bB)
     injection aP with hva_ hvn_ hvc_
     rw [hva_] at bD
     rw [hvc_] at bC
     have bE := ak (show Kd.V (Kd.int .i64) 3 _ w.heap.size _ _ (qQf aj au) from Kd.V_mk bC bD)
     clear hva_ hvn_ hvc_ bD bC
     clear cS dR
     have aQ := ak cm
     have dy := ak cl
     clear cm cl
     replace dw := eq_true dw
     replace dx := eq_true dx
     refine qJd (n := 19) (S := fun w' => w'.cell? ⟨al, 0, none⟩ = some (.int .i64 ap) ∧ w'.cell? ⟨al, 1, none⟩ = some (.slice Ao9 ah.length co9) ∧ w'.cell? (ax.add (ad).toNat) = some (.slice cN (qQf af ad).length cO) ∧ w'.cell? (el.add (au).toNat) = some (.slice cQ (qQf aj au).length cR)) (ds := []) (ms 19 0) (by kernel_rfl) rfl (by kernel_rfl) ⟨(qZb ab.out 0).trans rfl, (qZb ab.out 1).trans rfl, bw, bB⟩ (fun hHeld => ?_); refine qQk laws_FnSomeOthers.tab17 laws_FnSomeOthers.bits17 (fun HT_ HW_ => ?_)
     generalize wr.drew = w49 at ai aq aa ab ac ag HB bA bE aO aQ bw bB hHeld ⊢
     refine pu 0 87 ?_ (ms 19 1) rfl rfl HT_ (by kernel_rfl) (fun _ _ _ h => h) (by rfl) ?_ ?_ ?_ ?_
     rotate_left
     ·intro w'
      go_simp
      with_reducible rfl
     rotate_left
     ·simp only [SX]
      rfl
     refine pu 1 88 ?_ (ms 19 3) rfl rfl HT_ (by kernel_rfl) (fun _ _ _ h => h) (by rfl) ?_ ?_ ?_ ?_
     rotate_left
     ·intro w'
      go_simp
      with_reducible rfl
     rotate_left
     ·simp only [SX]
      rfl
     refine pu 3 90 ?_ (ms 19 11) rfl rfl HT_ (by kernel_rfl) (fun _ _ _ h => h) (by rfl) ?_ ?_ ?_ ?_
     rotate_left
     ·intro w'
      go_simp
      with_reducible rfl
     rotate_left
     ·simp only [SX]
      rfl
     refine pu 4 91 ?_ (ms 19 27) rfl rfl HT_ (by kernel_rfl) (fun _ _ _ h => h) (by rfl) ?_ ?_ ?_ ?_
     rotate_left
     ·intro w'
      go_simp
      with_reducible rfl
     rotate_left
     ·simp only [SX]
      rfl
     refine pu 5 92 ?_ (ms 19 59) rfl rfl HT_ (by kernel_rfl) (fun _ _ _ h => h) (by rfl) ?_ ?_ ?_ ?_
     rotate_left
     ·intro w'
      go_simp
      with_reducible rfl
     rotate_left
     ·simp only [SX]
      rfl
     refine pu 7 94 ?_ (ms 19 187) rfl rfl HT_ (by kernel_rfl) (fun _ _ _ h => h) (by rfl) ?_ ?_ ?_ ?_
     rotate_left
     ·intro w'
      go_simp
      with_reducible rfl
     rotate_left
     ·simp only [SX]
      rfl
     refine pu 8 95 ?_ (ms 19 443) rfl rfl HT_ (by kernel_rfl) (fun _ _ _ h => h) (by rfl) ?_ ?_ ?_ ?_
     rotate_left
     ·intro w'
      go_simp
      with_reducible rfl
     rotate_left
     ·simp only [SX]
      rfl
     refine pu 9 96 ?_ (ms 19 955) rfl rfl HT_ (by kernel_rfl) (fun _ _ _ h => h) (by rfl) ?_ ?_ ?_ ?_
     rotate_left
     ·intro w'
      go_simp
      with_reducible rfl
     rotate_left
     ·simp only [SX]
      rfl
     refine pu 13 100 ?_ (ms 19 9147) rfl rfl HT_ (by kernel_rfl) (fun _ _ _ h => h) (by rfl) ?_ ?_ ?_ ?_
     rotate_left
     ·intro w'
      go_simp
      with_reducible rfl
     rotate_left
     ·simp only [SX]
      rfl
     refine pu 14 101 ?_ (ms 19 25531) rfl rfl HT_ (by kernel_rfl) (fun _ _ _ h => h) (by rfl) ?_ ?_ ?_ ?_
     rotate_left
     ·intro w'
      go_simp
      with_reducible rfl
     rotate_left
     ·simp only [SX]
      rfl
     refine pu 15 102 ?_ (ms 19 58299) rfl rfl HT_ (by kernel_rfl) (fun _ _ _ h => h) (by rfl) ?_ ?_ ?_ ?_
     rotate_left
     ·intro w'
      go_simp
      with_reducible rfl
     rotate_left
     ·simp only [SX]
      rfl
     refine tk 2 89 ?_ (ms 19 58303) rfl rfl HT_ HW_ (by kernel_rfl) (fun _ _ _ h => h) (by rfl) ?_ hHeld ?_ ?_ ?_
     rotate_left
     ·rintro w' ⟨s0, s1, s2, s3⟩
      go_simp
      with_reducible rfl
     rotate_left
     ·simp only [SX]
      rfl
     refine tk 6 93 ?_ (ms 19 58367) rfl rfl HT_ HW_ (by kernel_rfl) (fun _ _ _ h => h) (by rfl) ?_ hHeld ?_ ?_ ?_
     rotate_left
     ·rintro w' ⟨s0, s1, s2, s3⟩
      go_simp
      with_reducible rfl
     rotate_left
     ·simp only [SX]
      rfl
     refine tk 10 97 ?_ (ms 19 59391) rfl rfl HT_ HW_ (by kernel_rfl) (fun _ _ _ h => h) (by rfl) ?_ hHeld ?_ ?_ ?_
     rotate_left
     ·rintro w' ⟨s0, s1, s2, s3⟩
      go_simp
      with_reducible rfl
     rotate_left
     ·simp only [SX]
      rfl
     refine one_ (i := 11) (N := some 98) (ms 19 61439) rfl rfl (qJb HT_.out (by kernel_rfl)) (by decide) (fun K hK => ?_)
     refine qXg Try.func17 (by kernel_rfl) rfl #[.agg #[.int .i64 ap, .slice Ao9 ah.length co9], .slice cN (qQf af ad).length cO, .slice cQ (qQf aj au).length cR] (by rfl) rfl rfl (by (try simp only [List.map_toArray, List.map_cons, List.map_nil]); rfl) ?_
     with_reducible refine (impl_SomeShare.calls k3 ap _ _ ah _ _ (qQf af ad) _ _ (qQf aj au) df _ ?side1 ?side2 ?side3 ?side4 ?side5 ?side6 A48.out).mono ?_
     (case side1 => repeat (exact (Kd.R_reads' aa.out).2.2))
     (case side2 => exact (Kd.R_reads' aa.out).2.1)
     (case side3 => repeat (exact (by repeat ((with_reducible exact aO.out)))))
     (case side4 => exact dv.out)
     (case side5 => repeat (exact (by repeat ((with_reducible exact aQ.out)))))
     (case side6 => exact dy.out)
     rintro e w51 ⟨rfl, hb⟩
     have cC := (hb.cell (World.block_lt_of_cell? _ _ (hHeld.2.2.1))).trans (hHeld.2.2.1)
     have fi := (hb.cell (World.block_lt_of_cell? _ _ (hHeld.2.2.2))).trans (hHeld.2.2.2)
     refine ⟨_, rfl, ?_⟩
     replace ai := ak (Kd.N_below (by exact ai.out) hb)
     replace aq := ak (Kd.N_below (by exact aq.out) hb)
     replace aa := ak (Kd.R_below (rk aa) hb)
     replace bA := ak (Kd.V_below (by exact bA.out) hb)
     replace bE := ak (Kd.V_below (by exact bE.out) hb)
     replace ab := ak (qZe (bk ab) hb)
     replace ac := ak (Kd.C_below (by repeat ((with_reducible exact ac.out))) hb)
     replace ag := ak (Kd.C_below (by repeat ((with_reducible exact ag.out))) hb)
     replace aO := ak (Kd.C_below (by repeat ((with_reducible exact aO.out))) hb)
     replace aQ := ak (Kd.C_below (by repeat ((with_reducible exact aQ.out))) hb)
     replace HB := ak (qZd (bl1 HB ar) hb)
     (try clear hb)
     (try clear hb2)
     (try clear hk)
     (try clear hi)
     refine hK.out _ _ ⟨(qZb ab.out 0).trans rfl, (qZb ab.out 1).trans rfl, cC, fi⟩ (fun hHeld => ?_)
     clear hK K
     refine qJc (a' := ?_) ?_ ?_
     rotate_left
     ·show Act.put _ (some 98) _ = _
      simp only [SX]
      rfl
     refine pu 12 99 ?_ (ms 19 65535) rfl rfl HT_ (by kernel_rfl) (fun _ _ _ h => h) (by rfl) ?_ ?_ ?_ ?_
     rotate_left
     ·intro w'
      go_simp
      with_reducible rfl
     rotate_left
     ·simp only [SX]
      rfl
     refine pu 16 103 ?_ (ms 19 131071) rfl rfl HT_ (by kernel_rfl) (fun _ _ _ h => h) (by rfl) ?_ ?_ ?_ ?_
     rotate_left
     ·intro w'
      go_simp
      with_reducible rfl
     rotate_left
     ·simp only [SX]
      rfl
     refine pu 17 104 ?_ (ms 19 262143) rfl rfl HT_ (by kernel_rfl) (fun _ _ _ h => h) (by rfl) ?_ ?_ ?_ ?_
     rotate_left
     ·intro w'
      go_simp
      with_reducible rfl
     rotate_left
     ·simp only [SX]
      rfl
     refine pu 18 13 ?_ (ms 19 524287) rfl rfl HT_ (by kernel_rfl) (fun _ _ _ h => h) (by rfl) ?_ ?_ ?_ ?_
     rotate_left
     ·intro w'
      go_simp
      with_reducible rfl
     rotate_left
     ·simp only [SX]
      rfl
     refine qXc (qQp HT_.out (by kernel_rfl)) ?_
     try go_wp2
     go_roundg k3
     case measure => have := HJ4.out; have := HK2.out; have := HK3.out; omega
     case rel => exact ⟨(decide ((wrap64 (df * 100)) ≤ (wrap64 (bK * aC)))), (wrap64 (au + 1)), (by rfl), (by rfl), H', ⟨by have := HJ4.out; have := HK2.out; have := HK3.out; omega⟩, ⟨by exact ai.out⟩, ⟨by exact aq.out⟩, ⟨rk aa⟩, ⟨bk ab⟩, ⟨by repeat ((with_reducible exact ac.out))⟩, ⟨by repeat ((with_reducible exact ag.out))⟩, ⟨bl1 HB ar⟩⟩
    rw [if_neg c42] at H
    have c42b0 : decide (au < am) = false := decide_eq_false c42
    clear c42
    have dT := ak H
    clear H
    go_upto_region 18 with (fail)
    go_cut [15] (fun v15 wc => ∃ (kq : Nat) (aw : Bool), v15 = .bool aw ∧ Aside0 (laws_FnSomeOthers.j3 kq aB aC aj af bK am ad az aw ap ah = some r) ∧ Aside0 (kq ≤ k3) ∧ Aside0 (Kd.N (Kd.slice 3 (Kd.int .i64)) 33 wc w.heap.size (fun k_ => some k_ ≠ ((.slice (some ax) af.length cu) : Value).ownBlock ∧ some k_ ≠ ((.slice Ao9 ah.length co9) : Value).ownBlock ∧ k_ ≠ al) aV aj) ∧ Aside0 (Kd.N (Kd.slice 3 (Kd.int .i64)) 33 wc w.heap.size (fun k_ => some k_ ≠ (aV : Value).ownBlock ∧ some k_ ≠ ((.slice Ao9 ah.length co9) : Value).ownBlock ∧ k_ ≠ al) (.slice (some ax) af.length cu) af) ∧ Aside0 (Kd.R k58 58 wc w.heap.size (fun _ => True) (.slice Ao9 ah.length co9) ah) ∧ Aside0 (wc.heap[al]? = some (.cells #[.int .i64 ap, (.slice Ao9 ah.length co9)] 25 (0, 0))) ∧ Aside0 (Kd.C (Kd.int .i64) wc aX (qQf af 0).length (qQf af 0)) ∧ Aside0 (Kd.C (Kd.int .i64) wc br (qQf af ad).length (qQf af ad)) ∧ Aside0 (Below w.heap.size w wc))
    case first =>
     have H := dT.out
     clear dT
     by_cases c54 : am < (aj.length : Int)
     rotate_left
     ·rw [if_neg c54] at H
      have c54b0 : decide (am < (aj.length : Int)) = false := decide_eq_false c54
      clear c54
      (skip)
      have H' := ak H
      clear H
      try go_wp2
      replace ai := ak (Kd.N_drew ai.out)
      replace aq := ak (Kd.N_drew aq.out)
      replace aa := ak (Kd.R_drew aa.out)
      replace ab := ak (qZp ab.out)
      replace ac := ak (Kd.C_drew ac.out)
      replace ag := ak (Kd.C_drew ag.out)
      replace HB := ak (qZo HB.out)
      obtain ⟨fJ, fK, fj⟩ := Kd.N_slice ai.out
      (subst fj)
      refine qJd (n := 16) (S := fun w' => True) (ds := []) (ms 16 0) (by kernel_rfl) rfl (by kernel_rfl) trivial (fun hHeld => ?_); refine qQk laws_FnSomeOthers.tab18 laws_FnSomeOthers.bits18 (fun HT_ HW_ => ?_)
      generalize wr.drew = w61 at ai aq aa ab ac ag HB hHeld ⊢
      refine pu 0 105 ?_ (ms 16 1) rfl rfl HT_ (by kernel_rfl) (fun _ _ _ h => h) (by rfl) ?_ ?_ ?_ ?_
      rotate_left
      ·intro w'
       go_simp
       with_reducible rfl
      rotate_left
      ·simp only [SX]
       rfl
      refine pu 1 106 ?_ (ms 16 3) rfl rfl HT_ (by kernel_rfl) (fun _ _ _ h => h) (by rfl) ?_ ?_ ?_ ?_
      rotate_left
      ·intro w'
       go_simp
       with_reducible rfl
      rotate_left
      ·simp only [SX]
       rfl
      refine pu 2 107 ?_ (ms 16 7) rfl rfl HT_ (by kernel_rfl) (fun _ _ _ h => h) (by rfl) ?_ ?_ ?_ ?_
      rotate_left
      ·intro w'
       go_simp
       with_reducible rfl
      rotate_left
      ·simp only [SX]
       rfl
      refine pu 3 108 ?_ (ms 16 15) rfl rfl HT_ (by kernel_rfl) (fun _ _ _ h => h) (by rfl) ?_ ?_ ?_ ?_
      rotate_left
      ·intro w'
       go_simp
       with_reducible rfl
      rotate_left
      ·simp only [SX]
       rfl
      refine pu 4 109 ?_ (ms 16 31) rfl rfl HT_ (by kernel_rfl) (fun _ _ _ h => h) (by rfl) ?_ ?_ ?_ ?_
      rotate_left
      ·intro w'
       go_simp
       with_reducible rfl
      rotate_left
      ·simp only [SX]
       rfl
      refine qZm (i := 5) (N := some 110) (v := undef) (a' := ?_) (ms 16 63) rfl rfl (qZf HT_.out (by kernel_rfl)) (fun _ _ _ h => h) (Or.inr ⟨by rfl, rfl⟩) ?_ ?_
      rotate_left
      ·simp only [SX]
       rfl
      refine qZm (i := 6) (N := some 111) (v := undef) (a' := ?_) (ms 16 127) rfl rfl (qZf HT_.out (by kernel_rfl)) (fun _ _ _ h => h) (Or.inr ⟨by rfl, rfl⟩) ?_ ?_
      rotate_left
      ·simp only [SX]
       rfl
      refine qZm (i := 7) (N := some 112) (v := undef) (a' := ?_) (ms 16 255) rfl rfl (qZf HT_.out (by kernel_rfl)) (fun _ _ _ h => h) (Or.inr ⟨by rfl, rfl⟩) ?_ ?_
      rotate_left
      ·simp only [SX]
       rfl
      refine qZm (i := 8) (N := some 113) (v := undef) (a' := ?_) (ms 16 511) rfl rfl (qZf HT_.out (by kernel_rfl)) (fun _ _ _ h => h) (Or.inr ⟨by rfl, rfl⟩) ?_ ?_
      rotate_left
      ·simp only [SX]
       rfl
      refine qZm (i := 9) (N := some 114) (v := undef) (a' := ?_) (ms 16 1023) rfl rfl (qZf HT_.out (by kernel_rfl)) (fun _ _ _ h => h) (Or.inr ⟨by rfl, rfl⟩) ?_ ?_
      rotate_left
      ·simp only [SX]
       rfl
      refine qZm (i := 10) (N := some 115) (v := undef) (a' := ?_) (ms 16 2047) rfl rfl (qZf HT_.out (by kernel_rfl)) (fun _ _ _ h => h) (Or.inr ⟨by rfl, rfl⟩) ?_ ?_
      rotate_left
      ·simp only [SX]
       rfl
      refine qZm (i := 11) (N := some 116) (v := undef) (a' := ?_) (ms 16 4095) rfl rfl (qZf HT_.out (by kernel_rfl)) (fun _ _ _ h => h) (Or.inr ⟨by rfl, rfl⟩) ?_ ?_
      rotate_left
      ·simp only [SX]
       rfl
      refine qZm (i := 12) (N := some 117) (v := undef) (a' := ?_) (ms 16 8191) rfl rfl (qZf HT_.out (by kernel_rfl)) (fun _ _ _ h => h) (Or.inr ⟨by rfl, rfl⟩) ?_ ?_
      rotate_left
      ·simp only [SX]
       rfl
      refine qZm (i := 13) (N := some 118) (v := undef) (a' := ?_) (ms 16 16383) rfl rfl (qZf HT_.out (by kernel_rfl)) (fun _ _ _ h => h) (Or.inr ⟨by rfl, rfl⟩) ?_ ?_
      rotate_left
      ·simp only [SX]
       rfl
      refine pu 14 119 ?_ (ms 16 32767) rfl rfl HT_ (by kernel_rfl) (fun _ _ _ h => h) (by rfl) ?_ ?_ ?_ ?_
      rotate_left
      ·intro w'
       go_simp
       with_reducible rfl
      rotate_left
      ·simp only [SX]
       rfl
      refine pu 15 15 ?_ (ms 16 65535) rfl rfl HT_ (by kernel_rfl) (fun _ _ _ h => h) (by rfl) ?_ ?_ ?_ ?_
      rotate_left
      ·intro w'
       go_simp
       with_reducible rfl
      rotate_left
      ·simp only [SX]
       rfl
      refine qXc (qQp HT_.out (by kernel_rfl)) ?_
      try go_wp2
      go_meet
      case rel => exact ⟨_, (false), (by rfl), H', ⟨by have := HJ4.out; have := HK2.out; have := HK3.out; omega⟩, ⟨by exact ai.out⟩, ⟨by exact aq.out⟩, ⟨rk aa⟩, ⟨bk ab⟩, ⟨by repeat ((with_reducible exact ac.out))⟩, ⟨by repeat ((with_reducible exact ag.out))⟩, ⟨bl1 HB ar⟩⟩
     rw [if_pos c54] at H
     have c54b0 : decide (am < (aj.length : Int)) = true := decide_eq_true c54
     clear c54
     (skip)
     by_cases c55 : 0 ≤ am
     rotate_left
     ·rw [if_neg c55] at H
      exact absurd H (by simp)
     rw [if_pos c55] at H
     have c55b0 : decide (0 ≤ am) = true := decide_eq_true c55
     clear c55
     by_cases c56 : 0 ≤ ad
     rotate_left
     ·rw [if_neg c56] at H
      exact absurd H (by simp)
     rw [if_pos c56] at H
     have c56b0 : decide (0 ≤ ad) = true := decide_eq_true c56
     clear c56
     by_cases c57 : ad < (af.length : Int)
     rotate_left
     ·rw [if_neg c57] at H
      exact absurd H (by simp)
     rw [if_pos c57] at H
     have c57b0 : decide (ad < (af.length : Int)) = true := decide_eq_true c57
     clear c57
     replace H := Option.bind_eq_some_iff.mp H
     obtain ⟨dg, em, H⟩ := H
     have A58 := ak em
     clear em
     have H' := ak H
     clear H
     try go_wp2
     replace ai := ak (Kd.N_drew ai.out)
     replace aq := ak (Kd.N_drew aq.out)
     replace aa := ak (Kd.R_drew aa.out)
     replace ab := ak (qZp ab.out)
     replace ac := ak (Kd.C_drew ac.out)
     replace ag := ak (Kd.C_drew ag.out)
     replace HB := ak (qZo HB.out)
     obtain ⟨fL, fM, fk⟩ := Kd.N_slice ai.out
     (subst fk)
     have cT : 0 ≤ (am : Int) := oT (by (with_reducible assumption))
     have cU : am < (aj.length : Int) := oT (by (with_reducible assumption))
     obtain ⟨en, cV, cW, fl, aR, cn, co⟩ := qKb (Kd.N_reads' ai.out).2.2 am cT cU
     cases fl
     obtain ⟨fx, dU, dV, cX⟩ := Kd.N_get ai.out [] am cT (by exact cU)
     obtain ⟨eC, eD, rfl, bG, bH⟩ := Kd.FK_slice_open dV
     have aS := cX 0 _ rfl
     rw [Nat.add_zero, show ((Kd.slice 3 (Kd.int .i64))).sz = 1 from rfl, Nat.mul_one] at aS
     replace aS := Option.some.inj (aS.symm.trans aR)
     injection aS with hva_ hvn_ hvc_
     rw [hva_] at bH
     rw [hvc_] at bG
     have dz := ak (show Kd.V (Kd.int .i64) 3 _ w.heap.size _ _ (qQf aj am) from Kd.V_mk bG bH)
     clear hva_ hvn_ hvc_ bH bG
     clear cX dU
     have cp := ak co
     have dA := ak cn
     clear co cn
     replace cT := eq_true cT
     replace cU := eq_true cU
     have cY : 0 ≤ (ad : Int) := oT (by (with_reducible assumption))
     have cZ : ad < (af.length : Int) := oT (by (with_reducible assumption))
     obtain ⟨eo, da, db, fm, aT, cq, cr⟩ := qKb (Kd.N_reads' aq.out).2.2 ad cY cZ
     obtain rfl : ax = eo := (by injection fm)
     obtain ⟨fy, dW, dX, dc⟩ := Kd.N_get aq.out [] ad cY (by exact cZ)
     obtain ⟨eE, eF, rfl, bI, bJ⟩ := Kd.FK_slice_open dX
     have aU := dc 0 _ rfl
     rw [Nat.add_zero, show ((Kd.slice 3 (Kd.int .i64))).sz = 1 from rfl, Nat.mul_one] at aU
     replace aU := Option.some.inj (aU.symm.trans aT)
     injection aU with hva_ hvn_ hvc_
     rw [hva_] at bJ
     rw [hvc_] at bI
     have dB := ak (show Kd.V (Kd.int .i64) 3 _ w.heap.size _ _ (qQf af ad) from Kd.V_mk bI bJ)
     clear hva_ hvn_ hvc_ bJ bI
     clear dc dW
     have ct := ak cr
     have dC := ak cq
     clear cr cq
     replace cY := eq_true cY
     replace cZ := eq_true cZ
     refine qJd (n := 16) (S := fun w' => w'.cell? (en.add (am).toNat) = some (.slice cV (qQf aj am).length cW) ∧ w'.cell? (ax.add (ad).toNat) = some (.slice da (qQf af ad).length db)) (ds := []) (ms 16 0) (by kernel_rfl) rfl (by kernel_rfl) ⟨aR, aT⟩ (fun hHeld => ?_); refine qQk laws_FnSomeOthers.tab18 laws_FnSomeOthers.bits18 (fun HT_ HW_ => ?_)
     generalize wr.drew = w59 at ai aq aa ab ac ag HB dz dB cp ct aR aT hHeld ⊢
     refine pu 0 105 ?_ (ms 16 1) rfl rfl HT_ (by kernel_rfl) (fun _ _ _ h => h) (by rfl) ?_ ?_ ?_ ?_
     rotate_left
     ·intro w'
      go_simp
      with_reducible rfl
     rotate_left
     ·simp only [SX]
      rfl
     refine pu 1 106 ?_ (ms 16 3) rfl rfl HT_ (by kernel_rfl) (fun _ _ _ h => h) (by rfl) ?_ ?_ ?_ ?_
     rotate_left
     ·intro w'
      go_simp
      with_reducible rfl
     rotate_left
     ·simp only [SX]
      rfl
     refine pu 2 107 ?_ (ms 16 7) rfl rfl HT_ (by kernel_rfl) (fun _ _ _ h => h) (by rfl) ?_ ?_ ?_ ?_
     rotate_left
     ·intro w'
      go_simp
      with_reducible rfl
     rotate_left
     ·simp only [SX]
      rfl
     refine pu 3 108 ?_ (ms 16 15) rfl rfl HT_ (by kernel_rfl) (fun _ _ _ h => h) (by rfl) ?_ ?_ ?_ ?_
     rotate_left
     ·intro w'
      go_simp
      with_reducible rfl
     rotate_left
     ·simp only [SX]
      rfl
     refine pu 4 109 ?_ (ms 16 31) rfl rfl HT_ (by kernel_rfl) (fun _ _ _ h => h) (by rfl) ?_ ?_ ?_ ?_
     rotate_left
     ·intro w'
      go_simp
      with_reducible rfl
     rotate_left
     ·simp only [SX]
      rfl
     refine pu 5 110 ?_ (ms 16 63) rfl rfl HT_ (by kernel_rfl) (fun _ _ _ h => h) (by rfl) ?_ ?_ ?_ ?_
     rotate_left
     ·intro w'
      go_simp
      with_reducible rfl
     rotate_left
     ·simp only [SX]
      rfl
     refine pu 6 111 ?_ (ms 16 127) rfl rfl HT_ (by kernel_rfl) (fun _ _ _ h => h) (by rfl) ?_ ?_ ?_ ?_
     rotate_left
     ·intro w'
      go_simp
      with_reducible rfl
     rotate_left
     ·simp only [SX]
      rfl
     refine pu 7 112 ?_ (ms 16 255) rfl rfl HT_ (by kernel_rfl) (fun _ _ _ h => h) (by rfl) ?_ ?_ ?_ ?_
     rotate_left
     ·intro w'
      go_simp
      with_reducible rfl
     rotate_left
     ·simp only [SX]
      rfl
     refine pu 9 114 ?_ (ms 16 767) rfl rfl HT_ (by kernel_rfl) (fun _ _ _ h => h) (by rfl) ?_ ?_ ?_ ?_
     rotate_left
     ·intro w'
      go_simp
      with_reducible rfl
     rotate_left
     ·simp only [SX]
      rfl
     refine pu 10 115 ?_ (ms 16 1791) rfl rfl HT_ (by kernel_rfl) (fun _ _ _ h => h) (by rfl) ?_ ?_ ?_ ?_
     rotate_left
     ·intro w'
      go_simp
      with_reducible rfl
     rotate_left
     ·simp only [SX]
      rfl
     refine pu 11 116 ?_ (ms 16 3839) rfl rfl HT_ (by kernel_rfl) (fun _ _ _ h => h) (by rfl) ?_ ?_ ?_ ?_
     rotate_left
     ·intro w'
      go_simp
      with_reducible rfl
     rotate_left
     ·simp only [SX]
      rfl
     refine tk 8 113 ?_ (ms 16 4095) rfl rfl HT_ HW_ (by kernel_rfl) (fun _ _ _ h => h) (by rfl) ?_ hHeld ?_ ?_ ?_
     rotate_left
     ·rintro w' ⟨s0, s1⟩
      go_simp
      with_reducible rfl
     rotate_left
     ·simp only [SX]
      rfl
     refine tk 12 117 ?_ (ms 16 8191) rfl rfl HT_ HW_ (by kernel_rfl) (fun _ _ _ h => h) (by rfl) ?_ hHeld ?_ ?_ ?_
     rotate_left
     ·rintro w' ⟨s0, s1⟩
      go_simp
      with_reducible rfl
     rotate_left
     ·simp only [SX]
      rfl
     refine one_ (i := 13) (N := some 118) (ms 16 16383) rfl rfl (qJb HT_.out (by kernel_rfl)) (by decide) (fun K hK => ?_)
     refine qXg Try.func18 (by kernel_rfl) rfl #[.slice cV (qQf aj am).length cW, .slice da (qQf af ad).length db] (by rfl) rfl rfl (by (try simp only [List.map_toArray, List.map_cons, List.map_nil]); rfl) ?_
     with_reducible refine (laws_wkInts.calls k3 _ _ (qQf aj am) _ _ (qQf af ad) dg _ ?side1 ?side2 ?side3 ?side4 A58.out).mono ?_
     (case side1 => repeat (exact (by repeat ((with_reducible exact cp.out)))))
     (case side2 => exact dA.out)
     (case side3 => repeat (exact (by repeat ((with_reducible exact ct.out)))))
     (case side4 => exact dC.out)
     rintro e w' ⟨rfl, ⟨nd, rfl⟩⟩
     refine ⟨_, rfl, ?_⟩
     refine hK.out _ _ ⟨hHeld.1, hHeld.2⟩ (fun hHeld => ?_)
     clear hK K
     refine qJc (a' := ?_) ?_ ?_
     rotate_left
     ·show Act.put _ (some 118) _ = _
      simp only [SX]
      rfl
     refine pu 14 119 ?_ (ms 16 32767) rfl rfl HT_ (by kernel_rfl) (fun _ _ _ h => h) (by rfl) ?_ ?_ ?_ ?_
     rotate_left
     ·intro w'
      go_simp
      with_reducible rfl
     rotate_left
     ·simp only [SX]
      rfl
     refine pu 15 15 ?_ (ms 16 65535) rfl rfl HT_ (by kernel_rfl) (fun _ _ _ h => h) (by rfl) ?_ ?_ ?_ ?_
     rotate_left
     ·intro w'
      go_simp
      with_reducible rfl
     rotate_left
     ·simp only [SX]
      rfl
     refine qXc (qQp HT_.out (by kernel_rfl)) ?_
     try go_wp2
     go_meet
     case rel => exact ⟨_, (dg), (by rfl), H', ⟨by have := HJ4.out; have := HK2.out; have := HK3.out; omega⟩, ⟨by (with_reducible repeat (apply Kd.N_drewN)); exact ai.out⟩, ⟨by (with_reducible repeat (apply Kd.N_drewN)); exact aq.out⟩, ⟨rk aa⟩, ⟨bk ab⟩, ⟨by repeat (first | (with_reducible exact ac.out) | (with_reducible refine Kd.C_drewN ?_ _))⟩, ⟨by repeat (first | (with_reducible exact ag.out) | (with_reducible refine Kd.C_drewN ?_ _))⟩, ⟨bl1 HB ar⟩⟩
    clear dT
    try clear c1
    try clear p2
    try clear c4
    try clear p4
    try clear q4
    try clear hx4
    try clear c5
    try clear p6
    try clear c18
    try clear c42
    try clear c42b0
    try clear c43
    try clear p43
    try clear q43
    try clear hx43
    try clear c44
    try clear c45
    try clear c46
    try clear c47
    try clear c54
    try clear c54b0
    try clear c55
    try clear c55b0
    try clear c56
    try clear c56b0
    try clear c57
    try clear c57b0
    try clear aR
    try clear aT
    try clear cT
    try clear cY
    try clear cU
    try clear cZ
    obtain ⟨kq, aw, rfl, HA, dD, ai, aq, aa, ab, ac, ag, HB⟩ := hcut
    cases kq with
    | zero => exact absurd HA.out (by simp [laws_FnSomeOthers.j3])
    | succ ep =>
     have H := HA.out
     clear HA
     simp only [laws_FnSomeOthers.j3] at H
     by_cases c63 : (az != aw) = true
     ·rw [if_pos c63] at H
      have c63b0 : (az != aw) = true := c63
      (try (have c63b1 : decide (az = aw) = false := by simpa using c63))
      (try (have c63b2 : (az == aw) = false := by simpa using c63))
      (try (have c63b3 : ¬ (az = aw) := by simpa using c63))
      clear c63
      exact absurd ((Option.some.inj H).trans hr_) Bool.false_ne_true
     rw [if_neg c63] at H
     have c63b0 : (az != aw) = false := by simpa using c63
     (try (have c63b1 : decide (az = aw) = true := by simpa using c63))
     (try (have c63b2 : (az == aw) = true := by simpa using c63))
     clear c63
     by_cases c64 : aw = true
     ·subst c64
      rw [if_pos rfl] at H
      have H' := ak H
      clear H
      go_wp2
      go_roundg ep
      case measure => have := HJ4.out; have := HK2.out; have := HK3.out; have := dD.out; omega
      case rel => exact ⟨(wrap64 (am + 1)), (wrap64 (ad + 1)), (by rfl), (by rfl), H', ⟨by have := HJ4.out; have := HK2.out; have := HK3.out; have := dD.out; omega⟩, ⟨by exact ai.out⟩, ⟨by exact aq.out⟩, ⟨rk aa⟩, ⟨bk ab⟩, ⟨by repeat ((with_reducible exact ac.out))⟩, ⟨bl1 HB ar⟩⟩
     replace c64 := Bool.eq_false_iff.mpr c64
     subst c64
     rw [if_neg (show ¬ (false = true) by decide)] at H
     have H' := ak H
     clear H
     go_wp2
     go_roundg ep
     case measure => have := HJ4.out; have := HK2.out; have := HK3.out; have := dD.out; omega
     case rel => exact ⟨(am), (wrap64 (ad + 1)), (by rfl), (by rfl), H', ⟨by have := HJ4.out; have := HK2.out; have := HK3.out; have := dD.out; omega⟩, ⟨by exact ai.out⟩, ⟨by exact aq.out⟩, ⟨rk aa⟩, ⟨bk ab⟩, ⟨by repeat ((with_reducible exact ac.out))⟩, ⟨bl1 HB ar⟩⟩

theorem laws_FnSomeOthers.walk (P : laws_FnSomeOthers.Pure) (a0 : Option Addr) (dE dd : Nat) (z0 : List Int) (w : World) (w0 : (a0 = none ∧ dE = 0 ∧ dd = 0 ∧ z0 = []) ∨ ∃ x, a0 = some x ∧ dE ≤ dd ∧ dd ≤ maxLen ∧ z0.length = dd ∧ (∀ i, i < z0.length → w.cell? (x.add i) = some (.int .u8 (z0.getD i 0))) ∧ ∀ n ∈ z0, (Lit.int .u8 n).wf = true) (y0 : dE * 1 ≤ 140737488351232) :
  Calls Try.prog 3 #[.slice a0 dE dd] w fun e w' => e = .returned (.bool true) ∧ Below w.heap.size w w' := by
 obtain ⟨l0, rfl, hr0, hm0, hw0, hc0⟩ := ReadsInt.ofRowC w0
 obtain ⟨k, h⟩ := P l0 hm0 y0 hw0
 refine (laws_FnSomeOthers.calls k _ _ l0 true w (Kd.C_of_reads (d := (0 : Int)) (h1 := fun _ => rfl) hr0) hc0 h rfl).mono ?_
 rintro e w' ⟨rfl, hd⟩
 exact ⟨rfl, hd⟩
end Go.Proofs.Ytlgolgfcolnddaa.F
