-- Printed by this claim's repository's tools (px.py, pgo.py, pack.py), one text behind the other. Lean checks it.
import Derived.Test.YtlgolgfcolnddaaFKindsPFnSomeWalks
namespace Go.Proofs.Ytlgolgfcolnddaa.F
open Go.RowKit Go.Proofs.YtlgolgfcolnddaaW.PrintWords Go.Proofs.YtlgolgfcolnddaaW.PrintLast Go.Proofs.YtlgolgfcolnddaaW.PrintMore
attribute [local go_sem] qQb qQc qQk qQj qZn qZo qQd qQe
set_option linter.unusedVariables false
set_option linter.unusedSimpArgs false
/-! ### spec_l1In: function 54 -/
def spec_l1In.f (a0 : Int) (a1 : Int) (a2 : Int) : Option (Bool) := if a0 ≥ a1 then (some (decide (a0 ≤ a2))) else (some false)
set_option maxHeartbeats 8000000 in
set_option maxRecDepth 100000 in
theorem spec_l1In.calls (a0 : Int) (a1 : Int) (a2 : Int) (r : Bool) (w : World) (h : spec_l1In.f a0 a1 a2 = some r) :
  Calls Try.prog 54 #[.int .i64 a0, .int .i64 a1, .int .i64 a2] w fun e w' => e = .returned (.bool r) ∧ Drawn0 w w' := by
 have H : (if a0 ≥ a1 then (some (decide (a0 ≤ a2))) else (some false)) = some r := h
 clear h
 by_cases c4 : a0 ≥ a1
 ·rw [if_pos c4] at H
  have c4b0 : decide (a1 ≤ a0) = true := decide_eq_true c4
  clear c4
  obtain rfl := Option.some.inj H
  go_enter Try.func54, Try.ntmps54
  go_wp2
  go_ret
  exact ⟨by rfl, by repeat (exact Drawn0.refl _)⟩
 rw [if_neg c4] at H
 have c4b0 : decide (a1 ≤ a0) = false := decide_eq_false c4
 clear c4
 obtain rfl := Option.some.inj H
 go_enter Try.func54, Try.ntmps54
 go_wp2
 go_ret
 exact ⟨by rfl, by repeat (exact Drawn0.refl _)⟩
/-! ### spec_l1Ok: function 53 -/
def spec_l1Ok.l0 : Nat → Int → Int → List (S58) → Option (Bool)
 | 0, _, _, _ => none
 | k + 1, x3, aA, ar => if x3 < (ar.length : Int) then (if 0 ≤ x3 then ((spec_l1In.f ((qZa ar x3).f0) 0 (wrap64 (aA - 1))).bind fun aF => (if aF = true then ((spec_l1In.f ((qZa ar x3).f1) 0 (wrap64 (aA - 1))).bind fun aG => (if aG = true then (if ((qZa ar x3).f0) = ((qZa ar x3).f1) then (some false) else ((spec_l1In.f ((qZa ar x3).f2) 0 99).bind fun aH => (if aH = true then ((spec_l1In.f ((qZa ar x3).f3) 0 99).bind fun aI => (if aI = true then ((spec_l1In.f ((qZa ar x3).f4) 0 9).bind fun aJ => (if aJ = true then (spec_l1Ok.l0 k (wrap64 (x3 + 1)) aA ar) else (some false))) else (some false))) else (some false)))) else (some false))) else (some false))) else (none)) else ((spec_l1In.f aA 1 8).bind fun aK => (if aK = true then (some (decide ((ar.length : Int) ≤ 16))) else (some false)))
def spec_l1Ok.f (k : Nat) (am : Int) (ac : List (S58)) : Option (Bool) := spec_l1Ok.l0 k 0 am ac
theorem spec_l1Ok.mono_l : ∀ k, (∀ y0 y1 y2, LeO (spec_l1Ok.l0 k y0 y1 y2) (spec_l1Ok.l0 (k + 1) y0 y1 y2))
 | 0 => fun _ _ _ r h => by simp [spec_l1Ok.l0] at h
 | k + 1 => by
  have ih0 := spec_l1Ok.mono_l k
  ·intro y0 y1 y2
   unfold spec_l1Ok.l0
   repeat' first | (with_reducible exact ih0 _ _ _) | (with_reducible exact LeO.refl _) | (with_reducible refine LeO.ite ?_ ?_) | (with_reducible refine LeO.bind ?_ (fun _ => ?_))
theorem spec_l1Ok.mono : ∀ a0 a1 k, LeO (spec_l1Ok.f k a0 a1) (spec_l1Ok.f (k + 1) a0 a1) := by
 intro a0 a1 k
 have ih0 := spec_l1Ok.mono_l k
 unfold spec_l1Ok.f
 repeat' (with_reducible exact ih0 _ _ _)
set_option maxHeartbeats 8000000 in
set_option maxRecDepth 100000 in
theorem spec_l1Ok.calls (k : Nat) (am : Int) (ay : Option Addr) (av : Nat) (ac : List (S58)) (r : Bool) (w : World) (aD : Kd.C k58 w ay ac.length ac) (aE : ac.length ≤ av) (h : spec_l1Ok.f k am ac = some r) :
  Calls Try.prog 53 #[.agg #[.int .i64 am, .slice ay ac.length av]] w fun e w' => e = .returned (.bool r) ∧ Below w.heap.size w w' := by
 have dR := Try.underlying25
 have dS := Try.underlying58
 have aB := ak aD
 have dB := ak aE
 clear aD aE
 have HB := ak (Below.refl w.heap.size w)
 have H : (spec_l1Ok.l0 k 0 am ac) = some r := h
 clear h
 have H' := ak H
 clear H
 go_enter Try.func53, Try.ntmps53
 go_wp2_with (((with_reducible refine gate_dst (N := 1) rfl ?_); refine qZh ?hg (N := 1) ?hd (cs := #[.int .i64 am, .slice ay ac.length av]) (t := 25) ?hr ?_; (case hd => rfl); (case hg => rfl); (case hr => (go_simp; done)); intro au hg w2 hbox hb; have aa := ak (hbox); have dC := ak ((by rw [hg]; exact (qZc (bl HB)) : w.heap.size ≤ au)); have ao := ak ((by rw [hg]; exact (qZc (bl HB)) : w.heap.size ≤ au)); replace HB := ak (qZd (bl HB) hb); clear hb hbox hg))
 go_loopg [3] k (fun kq v3 w' => ∃ (ad : Int), v3 = .int .i64 ad ∧ Aside0 (spec_l1Ok.l0 kq ad am ac = some r) ∧ Aside0 (kq ≤ k) ∧ Aside0 (w'.heap[au]? = some (.cells #[.int .i64 am, (.slice ay ac.length av)] 25 (0, 0))) ∧ Aside0 (Below w.heap.size w w'))
 case atStart => exact ⟨(0), (by rfl), H', ⟨Nat.le_refl _⟩, ⟨bk aa⟩, ⟨bl1 HB ao⟩⟩
 clear H'
 try clear p2
 obtain ⟨ad, rfl, HA, HK1, aa, HB⟩ := hrel
 cases gk with
 | zero => exact absurd HA.out (by simp [spec_l1Ok.l0])
 | succ k1 =>
  have H := HA.out
  clear HA
  simp only [spec_l1Ok.l0] at H
  by_cases c3 : ad < (ac.length : Int)
  rotate_left
  ·rw [if_neg c3] at H
   have c3b0 : decide (ad < (ac.length : Int)) = false := decide_eq_false c3
   clear c3
   replace H := Option.bind_eq_some_iff.mp H
   obtain ⟨aK, aL, H⟩ := H
   have A51 := ak aL
   clear aL
   by_cases c52 : aK = true
   ·subst c52
    rw [if_pos rfl] at H
    obtain rfl := Option.some.inj H
    have aQ := bc wr aa 0 (.int .i64 am) rfl
    have aR := bc wr aa 1 (.slice ay ac.length av) rfl
    have aS := fz aa 0
    have aT := fz aa 1
    go_wp2_with (((with_reducible refine gate_callee (f := 54) rfl ?_); refine qQi (some 60) rfl rfl Try.func54 (by kernel_rfl) rfl #[.int .i64 am, .int .i64 1, .int .i64 8] rfl (by (try simp only [List.map_toArray, List.map_cons, List.map_nil]); rfl) ?_; (with_reducible refine (spec_l1In.calls am 1 8 true _ A51.out).mono ?_); rintro e w' ⟨rfl, ⟨nd, rfl⟩⟩; refine ⟨_, rfl, ?_⟩))
    go_ret
    exact ⟨by rfl, bl1 HB ao⟩
   replace c52 := Bool.eq_false_iff.mpr c52
   subst c52
   rw [if_neg (show ¬ (false = true) by decide)] at H
   obtain rfl := Option.some.inj H
   have aU := bc wr aa 0 (.int .i64 am) rfl
   have aV := bc wr aa 1 (.slice ay ac.length av) rfl
   have aW := fz aa 0
   have aX := fz aa 1
   go_wp2_with (((with_reducible refine gate_callee (f := 54) rfl ?_); refine qQi (some 60) rfl rfl Try.func54 (by kernel_rfl) rfl #[.int .i64 am, .int .i64 1, .int .i64 8] rfl (by (try simp only [List.map_toArray, List.map_cons, List.map_nil]); rfl) ?_; (with_reducible refine (spec_l1In.calls am 1 8 false _ A51.out).mono ?_); rintro e w' ⟨rfl, ⟨nd, rfl⟩⟩; refine ⟨_, rfl, ?_⟩))
   go_ret
   exact ⟨by rfl, bl1 HB ao⟩
  rw [if_pos c3] at H
  have c3b0 : decide (ad < (ac.length : Int)) = true := decide_eq_true c3
  clear c3
  by_cases c4 : 0 ≤ ad
  rotate_left
  ·rw [if_neg c4] at H
   exact absurd H (by simp)
  rw [if_pos c4] at H
  have c4b0 : decide (0 ≤ ad) = true := decide_eq_true c4
  clear c4
  replace H := Option.bind_eq_some_iff.mp H
  obtain ⟨aF, A50, H⟩ := H
  have A5 := ak A50
  clear A50
  by_cases c6 : aF = true
  rotate_left
  ·replace c6 := Bool.eq_false_iff.mpr c6
   subst c6
   rw [if_neg (show ¬ (false = true) by decide)] at H
   obtain rfl := Option.some.inj H
   have aY := bc wr aa 0 (.int .i64 am) rfl
   have aZ := bc wr aa 1 (.slice ay ac.length av) rfl
   have ba := fz aa 0
   have bb := fz aa 1
   have ap : 0 ≤ (ad : Int) := oT (by (with_reducible assumption))
   have aq : ad < (ac.length : Int) := oT (by (with_reducible assumption))
   obtain ⟨aw, az, af, ag, ah, ai, aj⟩ := qJi aB.out ad ap aq
   cases az
   replace af := hcb HB.out af
   replace ag := hcb HB.out ag
   replace ah := hcb HB.out ah
   replace ai := hcb HB.out ai
   replace aj := hcb HB.out aj
   replace ap := eq_true ap
   replace aq := eq_true aq
   go_wp2_with (first | ((with_reducible refine gate_dst (N := 4) rfl ?_); refine qZh ?hg (N := 4) ?hd (cs := #[.int .i64 0, .int .i64 0, .int .i64 0, .int .i64 0, .int .i64 0]) (t := 58) ?hr ?_; (case hd => rfl); (case hg => rfl); (case hr => (go_simp; done)); intro al hg w47 hbox hb; have ab := ak (hbox); have aC := ak ((by rw [hg]; exact (qZc (bl1 HB ao)) : w.heap.size ≤ al)); have ax := ak ((by rw [hg]; exact (qZc (bl1 HB ao)) : w.heap.size ≤ al)); replace HB := ak (qZd (bl1 HB ao) hb); have ae := ak ((by rw [hg]; exact Nat.ne_of_lt (qZk (bk aa)) : au ≠ al)); have an := ak ((by rw [hg]; exact Nat.ne_of_gt (qZk (bk aa)) : al ≠ au)); replace aa := ak (qZe (bk aa) hb); clear hb hbox hg; have dD := an.out; have dE := ae.out; have bd := bc w47 ab 0 (.int .i64 0) rfl; have be := bc w47 ab 1 (.int .i64 0) rfl; have bf := bc w47 ab 2 (.int .i64 0) rfl; have bg := bc w47 ab 3 (.int .i64 0) rfl; have bh := bc w47 ab 4 (.int .i64 0) rfl; have bi := fz ab 0; have bj := fz ab 1; have bm := fz ab 2; have bn := fz ab 3; have bo := fz ab 4; have bp := bc w47 aa 0 (.int .i64 am) rfl; have bq := bc w47 aa 1 (.slice (some aw) ac.length av) rfl; have br := fz aa 0; have bs := fz aa 1) | ((with_reducible refine gate_callee (f := 54) rfl ?_); refine qQi (some 22) rfl rfl Try.func54 (by kernel_rfl) rfl #[.int .i64 ((qZa ac ad).f0), .int .i64 0, .int .i64 (wrap64 (am - 1))] rfl (by (try simp only [List.map_toArray, List.map_cons, List.map_nil]); rfl) ?_; (with_reducible refine (spec_l1In.calls ((qZa ac ad).f0) 0 (wrap64 (am - 1)) false _ A5.out).mono ?_); rintro e w' ⟨rfl, ⟨nd, rfl⟩⟩; refine ⟨_, rfl, ?_⟩))
   go_ret
   exact ⟨by rfl, bl2 HB ao ax⟩
  subst c6
  rw [if_pos rfl] at H
  replace H := Option.bind_eq_some_iff.mp H
  obtain ⟨aG, A70, H⟩ := H
  have A7 := ak A70
  clear A70
  by_cases c8 : aG = true
  rotate_left
  ·replace c8 := Bool.eq_false_iff.mpr c8
   subst c8
   rw [if_neg (show ¬ (false = true) by decide)] at H
   obtain rfl := Option.some.inj H
   have bt := bc wr aa 0 (.int .i64 am) rfl
   have bu := bc wr aa 1 (.slice ay ac.length av) rfl
   have bv := fz aa 0
   have bw := fz aa 1
   have ap : 0 ≤ (ad : Int) := oT (by (with_reducible assumption))
   have aq : ad < (ac.length : Int) := oT (by (with_reducible assumption))
   obtain ⟨aw, az, af, ag, ah, ai, aj⟩ := qJi aB.out ad ap aq
   cases az
   replace af := hcb HB.out af
   replace ag := hcb HB.out ag
   replace ah := hcb HB.out ah
   replace ai := hcb HB.out ai
   replace aj := hcb HB.out aj
   replace ap := eq_true ap
   replace aq := eq_true aq
   go_wp2_with (first | ((with_reducible refine gate_dst (N := 4) rfl ?_); refine qZh ?hg (N := 4) ?hd (cs := #[.int .i64 0, .int .i64 0, .int .i64 0, .int .i64 0, .int .i64 0]) (t := 58) ?hr ?_; (case hd => rfl); (case hg => rfl); (case hr => (go_simp; done)); intro al hg w42 hbox hb; have ab := ak (hbox); have aC := ak ((by rw [hg]; exact (qZc (bl1 HB ao)) : w.heap.size ≤ al)); have ax := ak ((by rw [hg]; exact (qZc (bl1 HB ao)) : w.heap.size ≤ al)); replace HB := ak (qZd (bl1 HB ao) hb); have ae := ak ((by rw [hg]; exact Nat.ne_of_lt (qZk (bk aa)) : au ≠ al)); have an := ak ((by rw [hg]; exact Nat.ne_of_gt (qZk (bk aa)) : al ≠ au)); replace aa := ak (qZe (bk aa) hb); clear hb hbox hg; have dF := an.out; have dG := ae.out; have bx := bc w42 ab 0 (.int .i64 0) rfl; have bz := bc w42 ab 1 (.int .i64 0) rfl; have bA := bc w42 ab 2 (.int .i64 0) rfl; have bB := bc w42 ab 3 (.int .i64 0) rfl; have bC := bc w42 ab 4 (.int .i64 0) rfl; have bD := fz ab 0; have bE := fz ab 1; have bF := fz ab 2; have bG := fz ab 3; have bH := fz ab 4; have bI := bc w42 aa 0 (.int .i64 am) rfl; have bJ := bc w42 aa 1 (.slice (some aw) ac.length av) rfl; have bK := fz aa 0; have bL := fz aa 1) | ((with_reducible refine gate_callee (f := 54) rfl ?_); refine qQi (some 22) rfl rfl Try.func54 (by kernel_rfl) rfl #[.int .i64 ((qZa ac ad).f0), .int .i64 0, .int .i64 (wrap64 (am - 1))] rfl (by (try simp only [List.map_toArray, List.map_cons, List.map_nil]); rfl) ?_; (with_reducible refine (spec_l1In.calls ((qZa ac ad).f0) 0 (wrap64 (am - 1)) true _ A5.out).mono ?_); rintro e w' ⟨rfl, ⟨nd, rfl⟩⟩; refine ⟨_, rfl, ?_⟩) | (go_at_call 54; (with_reducible refine (spec_l1In.calls ((qZa ac ad).f1) 0 (wrap64 (am - 1)) false _ A7.out).mono ?_); rintro e w' ⟨rfl, ⟨nd, rfl⟩⟩))
   go_ret
   exact ⟨by rfl, bl2 HB ao ax⟩
  subst c8
  rw [if_pos rfl] at H
  by_cases c9 : ((qZa ac ad).f0) = ((qZa ac ad).f1)
  ·rw [if_pos c9] at H
   have c9b0 : (((qZa ac ad).f0) == ((qZa ac ad).f1)) = true := beq_iff_eq.mpr c9
   have c9b1 : (((qZa ac ad).f0) != ((qZa ac ad).f1)) = false := bne_eq_false_iff_eq.mpr c9
   clear c9
   obtain rfl := Option.some.inj H
   have bM := bc wr aa 0 (.int .i64 am) rfl
   have bN := bc wr aa 1 (.slice ay ac.length av) rfl
   have bO := fz aa 0
   have bP := fz aa 1
   have ap : 0 ≤ (ad : Int) := oT (by (with_reducible assumption))
   have aq : ad < (ac.length : Int) := oT (by (with_reducible assumption))
   obtain ⟨aw, az, af, ag, ah, ai, aj⟩ := qJi aB.out ad ap aq
   cases az
   replace af := hcb HB.out af
   replace ag := hcb HB.out ag
   replace ah := hcb HB.out ah
   replace ai := hcb HB.out ai
   replace aj := hcb HB.out aj
   replace ap := eq_true ap
   replace aq := eq_true aq
   go_wp2_with (first | ((with_reducible refine gate_dst (N := 4) rfl ?_); refine qZh ?hg (N := 4) ?hd (cs := #[.int .i64 0, .int .i64 0, .int .i64 0, .int .i64 0, .int .i64 0]) (t := 58) ?hr ?_; (case hd => rfl); (case hg => rfl); (case hr => (go_simp; done)); intro al hg w11 hbox hb; have ab := ak (hbox); have aC := ak ((by rw [hg]; exact (qZc (bl1 HB ao)) : w.heap.size ≤ al)); have ax := ak ((by rw [hg]; exact (qZc (bl1 HB ao)) : w.heap.size ≤ al)); replace HB := ak (qZd (bl1 HB ao) hb); have ae := ak ((by rw [hg]; exact Nat.ne_of_lt (qZk (bk aa)) : au ≠ al)); have an := ak ((by rw [hg]; exact Nat.ne_of_gt (qZk (bk aa)) : al ≠ au)); replace aa := ak (qZe (bk aa) hb); clear hb hbox hg; have dH := an.out; have dI := ae.out; have bQ := bc w11 ab 0 (.int .i64 0) rfl; have bR := bc w11 ab 1 (.int .i64 0) rfl; have bS := bc w11 ab 2 (.int .i64 0) rfl; have bT := bc w11 ab 3 (.int .i64 0) rfl; have bU := bc w11 ab 4 (.int .i64 0) rfl; have bV := fz ab 0; have bW := fz ab 1; have bX := fz ab 2; have bY := fz ab 3; have bZ := fz ab 4; have ca := bc w11 aa 0 (.int .i64 am) rfl; have cb := bc w11 aa 1 (.slice (some aw) ac.length av) rfl; have cc := fz aa 0; have cd := fz aa 1) | ((with_reducible refine gate_callee (f := 54) rfl ?_); refine qQi (some 22) rfl rfl Try.func54 (by kernel_rfl) rfl #[.int .i64 ((qZa ac ad).f0), .int .i64 0, .int .i64 (wrap64 (am - 1))] rfl (by (try simp only [List.map_toArray, List.map_cons, List.map_nil]); rfl) ?_; (with_reducible refine (spec_l1In.calls ((qZa ac ad).f0) 0 (wrap64 (am - 1)) true _ A5.out).mono ?_); rintro e w' ⟨rfl, ⟨nd, rfl⟩⟩; refine ⟨_, rfl, ?_⟩) | (go_at_call 54; (with_reducible refine (spec_l1In.calls ((qZa ac ad).f1) 0 (wrap64 (am - 1)) true _ A7.out).mono ?_); rintro e w' ⟨rfl, ⟨nd, rfl⟩⟩))
   go_ret
   exact ⟨by rfl, bl2 HB ao ax⟩
  rw [if_neg c9] at H
  have c9b0 : (((qZa ac ad).f0) == ((qZa ac ad).f1)) = false := beq_eq_false_iff_ne.mpr c9
  have c9b1 : (((qZa ac ad).f0) != ((qZa ac ad).f1)) = true := bne_iff_ne.mpr c9
  replace H := Option.bind_eq_some_iff.mp H
  obtain ⟨aH, aN, H⟩ := H
  have A15 := ak aN
  clear aN
  by_cases c16 : aH = true
  rotate_left
  ·replace c16 := Bool.eq_false_iff.mpr c16
   subst c16
   rw [if_neg (show ¬ (false = true) by decide)] at H
   obtain rfl := Option.some.inj H
   have ce := bc wr aa 0 (.int .i64 am) rfl
   have cf := bc wr aa 1 (.slice ay ac.length av) rfl
   have cg := fz aa 0
   have ch := fz aa 1
   have ap : 0 ≤ (ad : Int) := oT (by (with_reducible assumption))
   have aq : ad < (ac.length : Int) := oT (by (with_reducible assumption))
   obtain ⟨aw, az, af, ag, ah, ai, aj⟩ := qJi aB.out ad ap aq
   cases az
   replace af := hcb HB.out af
   replace ag := hcb HB.out ag
   replace ah := hcb HB.out ah
   replace ai := hcb HB.out ai
   replace aj := hcb HB.out aj
   replace ap := eq_true ap
   replace aq := eq_true aq
   go_wp2_with (first | ((with_reducible refine gate_dst (N := 4) rfl ?_); refine qZh ?hg (N := 4) ?hd (cs := #[.int .i64 0, .int .i64 0, .int .i64 0, .int .i64 0, .int .i64 0]) (t := 58) ?hr ?_; (case hd => rfl); (case hg => rfl); (case hr => (go_simp; done)); intro al hg w37 hbox hb; have ab := ak (hbox); have aC := ak ((by rw [hg]; exact (qZc (bl1 HB ao)) : w.heap.size ≤ al)); have ax := ak ((by rw [hg]; exact (qZc (bl1 HB ao)) : w.heap.size ≤ al)); replace HB := ak (qZd (bl1 HB ao) hb); have ae := ak ((by rw [hg]; exact Nat.ne_of_lt (qZk (bk aa)) : au ≠ al)); have an := ak ((by rw [hg]; exact Nat.ne_of_gt (qZk (bk aa)) : al ≠ au)); replace aa := ak (qZe (bk aa) hb); clear hb hbox hg; have dJ := an.out; have dK := ae.out; have ci := bc w37 ab 0 (.int .i64 0) rfl; have cj := bc w37 ab 1 (.int .i64 0) rfl; have ck := bc w37 ab 2 (.int .i64 0) rfl; have cl := bc w37 ab 3 (.int .i64 0) rfl; have cm := bc w37 ab 4 (.int .i64 0) rfl; have cn := fz ab 0; have co := fz ab 1; have cp := fz ab 2; have cq := fz ab 3; have cr := fz ab 4; have ct := bc w37 aa 0 (.int .i64 am) rfl; have cu := bc w37 aa 1 (.slice (some aw) ac.length av) rfl; have cv := fz aa 0; have cw := fz aa 1) | ((with_reducible refine gate_callee (f := 54) rfl ?_); refine qQi (some 22) rfl rfl Try.func54 (by kernel_rfl) rfl #[.int .i64 ((qZa ac ad).f0), .int .i64 0, .int .i64 (wrap64 (am - 1))] rfl (by (try simp only [List.map_toArray, List.map_cons, List.map_nil]); rfl) ?_; (with_reducible refine (spec_l1In.calls ((qZa ac ad).f0) 0 (wrap64 (am - 1)) true _ A5.out).mono ?_); rintro e w' ⟨rfl, ⟨nd, rfl⟩⟩; refine ⟨_, rfl, ?_⟩) | (go_at_call 54; (with_reducible refine (spec_l1In.calls ((qZa ac ad).f1) 0 (wrap64 (am - 1)) true _ A7.out).mono ?_); rintro e w' ⟨rfl, ⟨nd, rfl⟩⟩) | (go_at_call 54; (with_reducible refine (spec_l1In.calls ((qZa ac ad).f2) 0 99 false _ A15.out).mono ?_); rintro e w' ⟨rfl, ⟨nd, rfl⟩⟩))
   go_ret
   exact ⟨by rfl, bl2 HB ao ax⟩
  subst c16
  rw [if_pos rfl] at H
  replace H := Option.bind_eq_some_iff.mp H
  obtain ⟨aI, aO, H⟩ := H
  have A17 := ak aO
  clear aO
  by_cases c18 : aI = true
  rotate_left
  ·replace c18 := Bool.eq_false_iff.mpr c18
   subst c18
   rw [if_neg (show ¬ (false = true) by decide)] at H
   obtain rfl := Option.some.inj H
   have cx := bc wr aa 0 (.int .i64 am) rfl
   have cy := bc wr aa 1 (.slice ay ac.length av) rfl
   have cz := fz aa 0
   have cA := fz aa 1
   have ap : 0 ≤ (ad : Int) := oT (by (with_reducible assumption))
   have aq : ad < (ac.length : Int) := oT (by (with_reducible assumption))
   obtain ⟨aw, az, af, ag, ah, ai, aj⟩ := qJi aB.out ad ap aq
   cases az
   replace af := hcb HB.out af
   replace ag := hcb HB.out ag
   replace ah := hcb HB.out ah
   replace ai := hcb HB.out ai
   replace aj := hcb HB.out aj
   replace ap := eq_true ap
   replace aq := eq_true aq
   go_wp2_with (first | ((with_reducible refine gate_dst (N := 4) rfl ?_); refine qZh ?hg (N := 4) ?hd (cs := #[.int .i64 0, .int .i64 0, .int .i64 0, .int .i64 0, .int .i64 0]) (t := 58) ?hr ?_; (case hd => rfl); (case hg => rfl); (case hr => (go_simp; done)); intro al hg w32 hbox hb; have ab := ak (hbox); have aC := ak ((by rw [hg]; exact (qZc (bl1 HB ao)) : w.heap.size ≤ al)); have ax := ak ((by rw [hg]; exact (qZc (bl1 HB ao)) : w.heap.size ≤ al)); replace HB := ak (qZd (bl1 HB ao) hb); have ae := ak ((by rw [hg]; exact Nat.ne_of_lt (qZk (bk aa)) : au ≠ al)); have an := ak ((by rw [hg]; exact Nat.ne_of_gt (qZk (bk aa)) : al ≠ au)); replace aa := ak (qZe (bk aa) hb); clear hb hbox hg; have dL := an.out; have dM := ae.out; have cB := bc w32 ab 0 (.int .i64 0) rfl; have cC := bc w32 ab 1 (.int .i64 0) rfl; have cD := bc w32 ab 2 (.int .i64 0) rfl; have cE := bc w32 ab 3 (.int .i64 0) rfl; have cF := bc w32 ab 4 (.int .i64 0) rfl; have cG := fz ab 0; have cH := fz ab 1; have cI := fz ab 2; have cJ := fz ab 3; have cK := fz ab 4; have cL := bc w32 aa 0 (.int .i64 am) rfl; have cN := bc w32 aa 1 (.slice (some aw) ac.length av) rfl; have cO := fz aa 0; have cP := fz aa 1) | ((with_reducible refine gate_callee (f := 54) rfl ?_); refine qQi (some 22) rfl rfl Try.func54 (by kernel_rfl) rfl #[.int .i64 ((qZa ac ad).f0), .int .i64 0, .int .i64 (wrap64 (am - 1))] rfl (by (try simp only [List.map_toArray, List.map_cons, List.map_nil]); rfl) ?_; (with_reducible refine (spec_l1In.calls ((qZa ac ad).f0) 0 (wrap64 (am - 1)) true _ A5.out).mono ?_); rintro e w' ⟨rfl, ⟨nd, rfl⟩⟩; refine ⟨_, rfl, ?_⟩) | (go_at_call 54; (with_reducible refine (spec_l1In.calls ((qZa ac ad).f1) 0 (wrap64 (am - 1)) true _ A7.out).mono ?_); rintro e w' ⟨rfl, ⟨nd, rfl⟩⟩) | (go_at_call 54; (with_reducible refine (spec_l1In.calls ((qZa ac ad).f2) 0 99 true _ A15.out).mono ?_); rintro e w' ⟨rfl, ⟨nd, rfl⟩⟩) | (go_at_call 54; (with_reducible refine (spec_l1In.calls ((qZa ac ad).f3) 0 99 false _ A17.out).mono ?_); rintro e w' ⟨rfl, ⟨nd, rfl⟩⟩))
   go_ret
   exact ⟨by rfl, bl2 HB ao ax⟩
  subst c18
  rw [if_pos rfl] at H
  replace H := Option.bind_eq_some_iff.mp H
  obtain ⟨aJ, aP, H⟩ := H
  have A19 := ak aP
  clear aP
  by_cases c20 : aJ = true
  rotate_left
  ·replace c20 := Bool.eq_false_iff.mpr c20
   subst c20
   rw [if_neg (show ¬ (false = true) by decide)] at H
   obtain rfl := Option.some.inj H
   have cQ := bc wr aa 0 (.int .i64 am) rfl
   have cR := bc wr aa 1 (.slice ay ac.length av) rfl
   have cS := fz aa 0
   have cT := fz aa 1
   have ap : 0 ≤ (ad : Int) := oT (by (with_reducible assumption))
   have aq : ad < (ac.length : Int) := oT (by (with_reducible assumption))
   obtain ⟨aw, az, af, ag, ah, ai, aj⟩ := qJi aB.out ad ap aq
   cases az
   replace af := hcb HB.out af
   replace ag := hcb HB.out ag
   replace ah := hcb HB.out ah
   replace ai := hcb HB.out ai
   replace aj := hcb HB.out aj
   replace ap := eq_true ap
   replace aq := eq_true aq
   go_wp2_with (first | ((with_reducible refine gate_dst (N := 4) rfl ?_); refine qZh ?hg (N := 4) ?hd (cs := #[.int .i64 0, .int .i64 0, .int .i64 0, .int .i64 0, .int .i64 0]) (t := 58) ?hr ?_; (case hd => rfl); (case hg => rfl); (case hr => (go_simp; done)); intro al hg w27 hbox hb; have ab := ak (hbox); have aC := ak ((by rw [hg]; exact (qZc (bl1 HB ao)) : w.heap.size ≤ al)); have ax := ak ((by rw [hg]; exact (qZc (bl1 HB ao)) : w.heap.size ≤ al)); replace HB := ak (qZd (bl1 HB ao) hb); have ae := ak ((by rw [hg]; exact Nat.ne_of_lt (qZk (bk aa)) : au ≠ al)); have an := ak ((by rw [hg]; exact Nat.ne_of_gt (qZk (bk aa)) : al ≠ au)); replace aa := ak (qZe (bk aa) hb); clear hb hbox hg; have dN := an.out; have dO := ae.out; have cU := bc w27 ab 0 (.int .i64 0) rfl; have cV := bc w27 ab 1 (.int .i64 0) rfl; have cW := bc w27 ab 2 (.int .i64 0) rfl; have cX := bc w27 ab 3 (.int .i64 0) rfl; have cY := bc w27 ab 4 (.int .i64 0) rfl; have cZ := fz ab 0; have da := fz ab 1; have db := fz ab 2; have dc := fz ab 3; have dd := fz ab 4; have de := bc w27 aa 0 (.int .i64 am) rfl; have df := bc w27 aa 1 (.slice (some aw) ac.length av) rfl; have dg := fz aa 0; have dh := fz aa 1) | ((with_reducible refine gate_callee (f := 54) rfl ?_); refine qQi (some 22) rfl rfl Try.func54 (by kernel_rfl) rfl #[.int .i64 ((qZa ac ad).f0), .int .i64 0, .int .i64 (wrap64 (am - 1))] rfl (by (try simp only [List.map_toArray, List.map_cons, List.map_nil]); rfl) ?_; (with_reducible refine (spec_l1In.calls ((qZa ac ad).f0) 0 (wrap64 (am - 1)) true _ A5.out).mono ?_); rintro e w' ⟨rfl, ⟨nd, rfl⟩⟩; refine ⟨_, rfl, ?_⟩) | (go_at_call 54; (with_reducible refine (spec_l1In.calls ((qZa ac ad).f1) 0 (wrap64 (am - 1)) true _ A7.out).mono ?_); rintro e w' ⟨rfl, ⟨nd, rfl⟩⟩) | (go_at_call 54; (with_reducible refine (spec_l1In.calls ((qZa ac ad).f2) 0 99 true _ A15.out).mono ?_); rintro e w' ⟨rfl, ⟨nd, rfl⟩⟩) | (go_at_call 54; (with_reducible refine (spec_l1In.calls ((qZa ac ad).f3) 0 99 true _ A17.out).mono ?_); rintro e w' ⟨rfl, ⟨nd, rfl⟩⟩) | (go_at_call 54; (with_reducible refine (spec_l1In.calls ((qZa ac ad).f4) 0 9 false _ A19.out).mono ?_); rintro e w' ⟨rfl, ⟨nd, rfl⟩⟩))
   go_ret
   exact ⟨by rfl, bl2 HB ao ax⟩
  subst c20
  rw [if_pos rfl] at H
  have H' := ak H
  clear H
  have di := bc wr aa 0 (.int .i64 am) rfl
  have dj := bc wr aa 1 (.slice ay ac.length av) rfl
  have dk := fz aa 0
  have dl := fz aa 1
  have ap : 0 ≤ (ad : Int) := oT (by (with_reducible assumption))
  have aq : ad < (ac.length : Int) := oT (by (with_reducible assumption))
  obtain ⟨aw, az, af, ag, ah, ai, aj⟩ := qJi aB.out ad ap aq
  cases az
  replace af := hcb HB.out af
  replace ag := hcb HB.out ag
  replace ah := hcb HB.out ah
  replace ai := hcb HB.out ai
  replace aj := hcb HB.out aj
  replace ap := eq_true ap
  replace aq := eq_true aq
  go_wp2_with (first | ((with_reducible refine gate_dst (N := 4) rfl ?_); refine qZh ?hg (N := 4) ?hd (cs := #[.int .i64 0, .int .i64 0, .int .i64 0, .int .i64 0, .int .i64 0]) (t := 58) ?hr ?_; (case hd => rfl); (case hg => rfl); (case hr => (go_simp; done)); intro al hg w22 hbox hb; have ab := ak (hbox); have aC := ak ((by rw [hg]; exact (qZc (bl1 HB ao)) : w.heap.size ≤ al)); have ax := ak ((by rw [hg]; exact (qZc (bl1 HB ao)) : w.heap.size ≤ al)); replace HB := ak (qZd (bl1 HB ao) hb); have ae := ak ((by rw [hg]; exact Nat.ne_of_lt (qZk (bk aa)) : au ≠ al)); have an := ak ((by rw [hg]; exact Nat.ne_of_gt (qZk (bk aa)) : al ≠ au)); replace aa := ak (qZe (bk aa) hb); clear hb hbox hg; have dP := an.out; have dQ := ae.out; have dm := bc w22 ab 0 (.int .i64 0) rfl; have dn := bc w22 ab 1 (.int .i64 0) rfl; have dp := bc w22 ab 2 (.int .i64 0) rfl; have dq := bc w22 ab 3 (.int .i64 0) rfl; have dr := bc w22 ab 4 (.int .i64 0) rfl; have ds := fz ab 0; have dt := fz ab 1; have du := fz ab 2; have dv := fz ab 3; have dw := fz ab 4; have dx := bc w22 aa 0 (.int .i64 am) rfl; have dy := bc w22 aa 1 (.slice (some aw) ac.length av) rfl; have dz := fz aa 0; have dA := fz aa 1) | ((with_reducible refine gate_callee (f := 54) rfl ?_); refine qQi (some 22) rfl rfl Try.func54 (by kernel_rfl) rfl #[.int .i64 ((qZa ac ad).f0), .int .i64 0, .int .i64 (wrap64 (am - 1))] rfl (by (try simp only [List.map_toArray, List.map_cons, List.map_nil]); rfl) ?_; (with_reducible refine (spec_l1In.calls ((qZa ac ad).f0) 0 (wrap64 (am - 1)) true _ A5.out).mono ?_); rintro e w' ⟨rfl, ⟨nd, rfl⟩⟩; refine ⟨_, rfl, ?_⟩) | (go_at_call 54; (with_reducible refine (spec_l1In.calls ((qZa ac ad).f1) 0 (wrap64 (am - 1)) true _ A7.out).mono ?_); rintro e w' ⟨rfl, ⟨nd, rfl⟩⟩) | (go_at_call 54; (with_reducible refine (spec_l1In.calls ((qZa ac ad).f2) 0 99 true _ A15.out).mono ?_); rintro e w' ⟨rfl, ⟨nd, rfl⟩⟩) | (go_at_call 54; (with_reducible refine (spec_l1In.calls ((qZa ac ad).f3) 0 99 true _ A17.out).mono ?_); rintro e w' ⟨rfl, ⟨nd, rfl⟩⟩) | (go_at_call 54; (with_reducible refine (spec_l1In.calls ((qZa ac ad).f4) 0 9 true _ A19.out).mono ?_); rintro e w' ⟨rfl, ⟨nd, rfl⟩⟩))
  go_roundg k1
  case measure => have := HK1.out; omega
  case rel => exact ⟨(wrap64 (ad + 1)), (by rfl), H', ⟨by have := HK1.out; omega⟩, ⟨by (with_reducible repeat (refine qVh ?_ _)); refine blk_far ?_ ae.out _; refine blk_far ?_ ae.out _; refine blk_far ?_ ae.out _; refine blk_far ?_ ae.out _; refine blk_far ?_ ae.out _; exact aa.out⟩, ⟨bl2 HB ao ax⟩⟩
/-! ### spec_l14Less: function 127 -/
def spec_l14Less.l0 : Nat → Int → List Int → Int → List Int → Int → Option (Bool)
 | 0, _, _, _, _, _ => none
 | k + 1, x5, au, aG, av, aH => if x5 < (au.length : Int) then (if 0 ≤ x5 then (if x5 < (av.length : Int) then (if (rd au x5) = (rd av x5) then (spec_l14Less.l0 k (wrap64 (x5 + 1)) au aG av aH) else (some (decide ((rd au x5) < (rd av x5))))) else (none)) else (none)) else (some false)
def spec_l14Less.f (k : Nat) (ab : List Int) (ai : Int) (ac : List Int) (aj : Int) : Option (Bool) := if ai = aj then (if (ab.length : Int) = (ac.length : Int) then (spec_l14Less.l0 k 0 ab ai ac aj) else (some (decide ((ab.length : Int) < (ac.length : Int))))) else (some (decide (ai < aj)))
theorem spec_l14Less.mono_l : ∀ k, (∀ y0 y1 y2 y3 y4, LeO (spec_l14Less.l0 k y0 y1 y2 y3 y4) (spec_l14Less.l0 (k + 1) y0 y1 y2 y3 y4))
 | 0 => fun _ _ _ _ _ r h => by simp [spec_l14Less.l0] at h
 | k + 1 => by
  have ih0 := spec_l14Less.mono_l k
  ·intro y0 y1 y2 y3 y4
   unfold spec_l14Less.l0
   repeat' first | (with_reducible exact ih0 _ _ _ _ _) | (with_reducible exact LeO.refl _) | (with_reducible refine LeO.ite ?_ ?_)
theorem spec_l14Less.mono : ∀ a0 a1 a2 a3 k, LeO (spec_l14Less.f k a0 a1 a2 a3) (spec_l14Less.f (k + 1) a0 a1 a2 a3) := by
 intro a0 a1 a2 a3 k
 have ih0 := spec_l14Less.mono_l k
 unfold spec_l14Less.f
 repeat' first | (with_reducible exact ih0 _ _ _ _ _) | (with_reducible exact LeO.refl _) | (with_reducible refine LeO.ite ?_ ?_)
set_option maxHeartbeats 8000000 in
set_option maxRecDepth 100000 in
theorem spec_l14Less.calls (k : Nat) (aq : Option Addr) (ar : Nat) (ab : List Int) (ai : Int) (aw : Option Addr) (ax : Nat) (ac : List Int) (aj : Int) (r : Bool) (w : World) (aI : Kd.C (Kd.int .i64) w aq ab.length ab) (aJ : ab.length ≤ ar) (aK : Kd.C (Kd.int .i64) w aw ac.length ac) (aL : ac.length ≤ ax) (h : spec_l14Less.f k ab ai ac aj = some r) :
  Calls Try.prog 127 #[.agg #[.slice aq ab.length ar, .int .i64 ai], .agg #[.slice aw ac.length ax, .int .i64 aj]] w fun e w' => e = .returned (.bool r) ∧ Below w.heap.size w w' := by
 have bX := Try.underlying103
 have aE := ak aI
 have bY := ak aJ
 clear aI aJ
 have aF := ak aK
 have bZ := ak aL
 clear aK aL
 have HB := ak (Below.refl w.heap.size w)
 have H : (if ai = aj then (if (ab.length : Int) = (ac.length : Int) then (spec_l14Less.l0 k 0 ab ai ac aj) else (some (decide ((ab.length : Int) < (ac.length : Int))))) else (some (decide (ai < aj)))) = some r := h
 clear h
 by_cases c3 : ai = aj
 rotate_left
 ·rw [if_neg c3] at H
  have c3b0 : (ai == aj) = false := beq_eq_false_iff_ne.mpr c3
  have c3b1 : (ai != aj) = true := bne_iff_ne.mpr c3
  obtain rfl := Option.some.inj H
  go_enter Try.func127, Try.ntmps127
  go_wp2_with (first | ((with_reducible refine gate_dst (N := 2) rfl ?_); refine qZh ?hg (N := 2) ?hd (cs := #[.slice aq ab.length ar, .int .i64 ai]) (t := 103) ?hr ?_; (case hd => rfl); (case hg => rfl); (case hr => (go_simp; done)); intro al hg w27 hbox hb; have aa := ak (hbox); have aN := ak ((by rw [hg]; exact (qZc (bl HB)) : w.heap.size ≤ al)); have ah := ak ((by rw [hg]; exact (qZc (bl HB)) : w.heap.size ≤ al)); replace HB := ak (qZd (bl HB) hb); clear hb hbox hg) | ((with_reducible refine gate_dst (N := 3) rfl ?_); refine qZh ?hg (N := 3) ?hd (cs := #[.slice aw ac.length ax, .int .i64 aj]) (t := 103) ?hr ?_; (case hd => rfl); (case hg => rfl); (case hr => (go_simp; done)); intro am hg w28 hbox hb; have ae := ak (hbox); have aO := ak ((by rw [hg]; exact (qZc (bl1 HB ah)) : w.heap.size ≤ am)); have ap := ak ((by rw [hg]; exact (qZc (bl1 HB ah)) : w.heap.size ≤ am)); replace HB := ak (qZd (bl1 HB ah) hb); have af := ak ((by rw [hg]; exact Nat.ne_of_lt (qZk (bk aa)) : al ≠ am)); have ag := ak ((by rw [hg]; exact Nat.ne_of_gt (qZk (bk aa)) : am ≠ al)); replace aa := ak (qZe (bk aa) hb); clear hb hbox hg; have ca := af.out; have cb := ag.out; have bi := bc w28 aa 0 (.slice aq ab.length ar) rfl; have bj := bc w28 aa 1 (.int .i64 ai) rfl; have bm := fz aa 0; have bn := fz aa 1; have bo := bc w28 ae 0 (.slice aw ac.length ax) rfl; have bp := bc w28 ae 1 (.int .i64 aj) rfl; have bq := fz ae 0; have br := fz ae 1) | go_step)
  go_ret
  exact ⟨by rfl, bl2 HB ah ap⟩
 rw [if_pos c3] at H
 have c3b0 : (ai == aj) = true := beq_iff_eq.mpr c3
 have c3b1 : (ai != aj) = false := bne_eq_false_iff_eq.mpr c3
 clear c3
 by_cases c4 : (ab.length : Int) = (ac.length : Int)
 rotate_left
 ·rw [if_neg c4] at H
  have c4b0 : ((ab.length : Int) == (ac.length : Int)) = false := beq_eq_false_iff_ne.mpr c4
  have c4b1 : ((ab.length : Int) != (ac.length : Int)) = true := bne_iff_ne.mpr c4
  have c4b2 : (ab.length == ac.length) = false := by (simp at c4 ⊢; omega)
  obtain rfl := Option.some.inj H
  go_enter Try.func127, Try.ntmps127
  go_wp2_with (first | ((with_reducible refine gate_dst (N := 2) rfl ?_); refine qZh ?hg (N := 2) ?hd (cs := #[.slice aq ab.length ar, .int .i64 ai]) (t := 103) ?hr ?_; (case hd => rfl); (case hg => rfl); (case hr => (go_simp; done)); intro al hg w22 hbox hb; have aa := ak (hbox); have aN := ak ((by rw [hg]; exact (qZc (bl HB)) : w.heap.size ≤ al)); have ah := ak ((by rw [hg]; exact (qZc (bl HB)) : w.heap.size ≤ al)); replace HB := ak (qZd (bl HB) hb); clear hb hbox hg) | ((with_reducible refine gate_dst (N := 3) rfl ?_); refine qZh ?hg (N := 3) ?hd (cs := #[.slice aw ac.length ax, .int .i64 aj]) (t := 103) ?hr ?_; (case hd => rfl); (case hg => rfl); (case hr => (go_simp; done)); intro am hg w23 hbox hb; have ae := ak (hbox); have aO := ak ((by rw [hg]; exact (qZc (bl1 HB ah)) : w.heap.size ≤ am)); have ap := ak ((by rw [hg]; exact (qZc (bl1 HB ah)) : w.heap.size ≤ am)); replace HB := ak (qZd (bl1 HB ah) hb); have af := ak ((by rw [hg]; exact Nat.ne_of_lt (qZk (bk aa)) : al ≠ am)); have ag := ak ((by rw [hg]; exact Nat.ne_of_gt (qZk (bk aa)) : am ≠ al)); replace aa := ak (qZe (bk aa) hb); clear hb hbox hg; have cc := af.out; have cd := ag.out; have bs := bc w23 aa 0 (.slice aq ab.length ar) rfl; have bt := bc w23 aa 1 (.int .i64 ai) rfl; have bu := fz aa 0; have bv := fz aa 1; have bw := bc w23 ae 0 (.slice aw ac.length ax) rfl; have bx := bc w23 ae 1 (.int .i64 aj) rfl; have bz := fz ae 0; have bA := fz ae 1) | go_step)
  go_ret
  exact ⟨by rfl, bl2 HB ah ap⟩
 rw [if_pos c4] at H
 have c4b0 : ((ab.length : Int) == (ac.length : Int)) = true := beq_iff_eq.mpr c4
 have c4b1 : ((ab.length : Int) != (ac.length : Int)) = false := bne_eq_false_iff_eq.mpr c4
 have c4b2 : (ab.length == ac.length) = true := by (simp at c4 ⊢; omega)
 clear c4
 have H' := ak H
 clear H
 go_enter Try.func127, Try.ntmps127
 go_wp2_with (first | ((with_reducible refine gate_dst (N := 2) rfl ?_); refine qZh ?hg (N := 2) ?hd (cs := #[.slice aq ab.length ar, .int .i64 ai]) (t := 103) ?hr ?_; (case hd => rfl); (case hg => rfl); (case hr => (go_simp; done)); intro al hg w5 hbox hb; have aa := ak (hbox); have aN := ak ((by rw [hg]; exact (qZc (bl HB)) : w.heap.size ≤ al)); have ah := ak ((by rw [hg]; exact (qZc (bl HB)) : w.heap.size ≤ al)); replace HB := ak (qZd (bl HB) hb); clear hb hbox hg) | ((with_reducible refine gate_dst (N := 3) rfl ?_); refine qZh ?hg (N := 3) ?hd (cs := #[.slice aw ac.length ax, .int .i64 aj]) (t := 103) ?hr ?_; (case hd => rfl); (case hg => rfl); (case hr => (go_simp; done)); intro am hg w6 hbox hb; have ae := ak (hbox); have aO := ak ((by rw [hg]; exact (qZc (bl1 HB ah)) : w.heap.size ≤ am)); have ap := ak ((by rw [hg]; exact (qZc (bl1 HB ah)) : w.heap.size ≤ am)); replace HB := ak (qZd (bl1 HB ah) hb); have af := ak ((by rw [hg]; exact Nat.ne_of_lt (qZk (bk aa)) : al ≠ am)); have ag := ak ((by rw [hg]; exact Nat.ne_of_gt (qZk (bk aa)) : am ≠ al)); replace aa := ak (qZe (bk aa) hb); clear hb hbox hg; have ck := af.out; have cl := ag.out; have aR := bc w6 aa 0 (.slice aq ab.length ar) rfl; have aS := bc w6 aa 1 (.int .i64 ai) rfl; have aT := fz aa 0; have aU := fz aa 1; have aV := bc w6 ae 0 (.slice aw ac.length ax) rfl; have aW := bc w6 ae 1 (.int .i64 aj) rfl; have aX := fz ae 0; have aY := fz ae 1) | go_step)
 go_loopg [5] k (fun kq v5 w' => ∃ (ad : Int), v5 = .int .i64 ad ∧ Aside0 (spec_l14Less.l0 kq ad ab ai ac aj = some r) ∧ Aside0 (kq ≤ k) ∧ Aside0 (w'.heap[al]? = some (.cells #[(.slice aq ab.length ar), .int .i64 ai] 103 (0, 0))) ∧ Aside0 (w'.heap[am]? = some (.cells #[(.slice aw ac.length ax), .int .i64 aj] 103 (0, 0))) ∧ Aside0 (Below w.heap.size w w'))
 case atStart => exact ⟨(0), (by rfl), H', ⟨Nat.le_refl _⟩, ⟨bk aa⟩, ⟨bk ae⟩, ⟨bl2 HB ah ap⟩⟩
 clear H'
 try clear c1
 try clear p2
 try clear c3
 try clear c3b0
 try clear c3b1
 try clear c4
 try clear c4b0
 try clear c4b1
 try clear c4b2
 try clear c7
 try clear aR
 try clear aS
 try clear aV
 try clear aW
 try clear aT
 try clear aU
 try clear aX
 try clear aY
 obtain ⟨ad, rfl, HA, HK1, aa, ae, HB⟩ := hrel
 cases gk with
 | zero => exact absurd HA.out (by simp [spec_l14Less.l0])
 | succ k1 =>
  have H := HA.out
  clear HA
  simp only [spec_l14Less.l0] at H
  by_cases c10 : ad < (ab.length : Int)
  rotate_left
  ·rw [if_neg c10] at H
   have c10b0 : decide (ad < (ab.length : Int)) = false := decide_eq_false c10
   clear c10
   obtain rfl := Option.some.inj H
   have ce := af.out
   have cf := ag.out
   have bB := bc wr aa 0 (.slice aq ab.length ar) rfl
   have bC := bc wr aa 1 (.int .i64 ai) rfl
   have bD := fz aa 0
   have bE := fz aa 1
   go_wp2
   repeat (go_quiet (fail); try go_wp2)
   go_ret
   exact ⟨by rfl, bl2 HB ah ap⟩
  rw [if_pos c10] at H
  have c10b0 : decide (ad < (ab.length : Int)) = true := decide_eq_true c10
  clear c10
  by_cases c11 : 0 ≤ ad
  rotate_left
  ·rw [if_neg c11] at H
   exact absurd H (by simp)
  rw [if_pos c11] at H
  have c11b0 : decide (0 ≤ ad) = true := decide_eq_true c11
  clear c11
  by_cases c12 : ad < (ac.length : Int)
  rotate_left
  ·rw [if_neg c12] at H
   exact absurd H (by simp)
  rw [if_pos c12] at H
  have c12b0 : decide (ad < (ac.length : Int)) = true := decide_eq_true c12
  clear c12
  by_cases c13 : (rd ab ad) = (rd ac ad)
  ·rw [if_pos c13] at H
   have c13b0 : ((rd ab ad) == (rd ac ad)) = true := beq_iff_eq.mpr c13
   have c13b1 : ((rd ab ad) != (rd ac ad)) = false := bne_eq_false_iff_eq.mpr c13
   clear c13
   have H' := ak H
   clear H
   have cg := af.out
   have ch := ag.out
   have bF := bc wr aa 0 (.slice aq ab.length ar) rfl
   have bG := bc wr aa 1 (.int .i64 ai) rfl
   have bH := fz aa 0
   have bI := fz aa 1
   have ay : 0 ≤ (ad : Int) := oT (by (with_reducible assumption))
   have az : ad < (ab.length : Int) := oT (by (with_reducible assumption))
   obtain ⟨aP, aZ, an⟩ := Kd.at_int aE.out ad ay az
   cases aZ
   replace an := hcb HB.out an
   replace ay := eq_true ay
   replace az := eq_true az
   have bJ := bc wr ae 0 (.slice aw ac.length ax) rfl
   have bK := bc wr ae 1 (.int .i64 aj) rfl
   have bL := fz ae 0
   have bM := fz ae 1
   have aA : 0 ≤ (ad : Int) := oT (by (with_reducible assumption))
   have aB : ad < (ac.length : Int) := oT (by (with_reducible assumption))
   obtain ⟨aQ, ba, ao⟩ := Kd.at_int aF.out ad aA aB
   cases ba
   replace ao := hcb HB.out ao
   replace aA := eq_true aA
   replace aB := eq_true aB
   go_wp2
   repeat (go_quiet (fail); try go_wp2)
   go_roundg k1
   case measure => have := HK1.out; omega
   case rel => exact ⟨(wrap64 (ad + 1)), (by rfl), H', ⟨by have := HK1.out; omega⟩, ⟨bk aa⟩, ⟨bk ae⟩, ⟨bl2 HB ah ap⟩⟩
  rw [if_neg c13] at H
  have c13b0 : ((rd ab ad) == (rd ac ad)) = false := beq_eq_false_iff_ne.mpr c13
  have c13b1 : ((rd ab ad) != (rd ac ad)) = true := bne_iff_ne.mpr c13
  obtain rfl := Option.some.inj H
  have ci := af.out
  have cj := ag.out
  have bN := bc wr aa 0 (.slice aq ab.length ar) rfl
  have bO := bc wr aa 1 (.int .i64 ai) rfl
  have bP := fz aa 0
  have bQ := fz aa 1
  have ay : 0 ≤ (ad : Int) := oT (by (with_reducible assumption))
  have az : ad < (ab.length : Int) := oT (by (with_reducible assumption))
  obtain ⟨aP, aZ, an⟩ := Kd.at_int aE.out ad ay az
  cases aZ
  replace an := hcb HB.out an
  replace ay := eq_true ay
  replace az := eq_true az
  have bR := bc wr ae 0 (.slice aw ac.length ax) rfl
  have bS := bc wr ae 1 (.int .i64 aj) rfl
  have bT := fz ae 0
  have bU := fz ae 1
  have aA : 0 ≤ (ad : Int) := oT (by (with_reducible assumption))
  have aB : ad < (ac.length : Int) := oT (by (with_reducible assumption))
  obtain ⟨aQ, ba, ao⟩ := Kd.at_int aF.out ad aA aB
  cases ba
  replace ao := hcb HB.out ao
  replace aA := eq_true aA
  replace aB := eq_true aB
  have bb : 0 ≤ (ad : Int) := oT (by (with_reducible assumption))
  have bd : ad < (ab.length : Int) := oT (by (with_reducible assumption))
  obtain ⟨bg, bV, aC⟩ := Kd.at_int aE.out ad bb bd
  obtain rfl : aP = bg := (by injection bV)
  replace aC := hcb HB.out aC
  replace bb := eq_true bb
  replace bd := eq_true bd
  have be : 0 ≤ (ad : Int) := oT (by (with_reducible assumption))
  have bf : ad < (ac.length : Int) := oT (by (with_reducible assumption))
  obtain ⟨bh, bW, aD⟩ := Kd.at_int aF.out ad be bf
  obtain rfl : aQ = bh := (by injection bW)
  replace aD := hcb HB.out aD
  replace be := eq_true be
  replace bf := eq_true bf
  go_wp2
  repeat (go_quiet (fail); try go_wp2)
  go_ret
  exact ⟨by rfl, bl2 HB ah ap⟩
/-! ### spec_l14Put: function 114 -/
def spec_l14Put.l0 : Nat → List (S103) → Int → Int → List Int → Int → Option ((List (S103)))
 | 0, _, _, _, _, _ => none
 | k + 1, x0, x2, x7, aZ, ba => if x7 < (x0.length : Int) then (if 0 ≤ x7 then ((spec_l14Less.f k aZ ba ((qQh x0 x7).f0) ((qQh x0 x7).f1)).bind fun dg => (if dg = true then ((some (([] : List (S103)) : List (S103))).bind fun bg => (if x7 ≤ (x0.length : Int) then ((some (x0.take (x7 : Int).toNat : List (S103))).bind fun aC => (if bg.length + aC.length < 4398046511104 then ((some (bg ++ aC : List (S103))).bind fun aQ => (if aQ.length < 4398046511104 then ((some (aQ ++ [(⟨aZ, ba⟩ : S103)] : List (S103))).bind fun aD => ((some (x0.drop (x7 : Int).toNat : List (S103))).bind fun ap => (if aD.length + ap.length < 4398046511104 then ((some (aD ++ ap : List (S103))).bind fun aj => (if (aj.length : Int) > x2 then (if 0 ≤ x2 then (if x2 ≤ (aj.length : Int) then (some (aj.take (x2 : Int).toNat)) else (none)) else (none)) else (some aj))) else (none)))) else (none))) else (none))) else (none))) else (spec_l14Put.l0 k x0 x2 (wrap64 (x7 + 1)) aZ ba))) else (none)) else ((some (([] : List (S103)) : List (S103))).bind fun bh => (if 0 ≤ x7 then (if x7 ≤ (x0.length : Int) then ((some (x0.take (x7 : Int).toNat : List (S103))).bind fun aE => (if bh.length + aE.length < 4398046511104 then ((some (bh ++ aE : List (S103))).bind fun aT => (if aT.length < 4398046511104 then ((some (aT ++ [(⟨aZ, ba⟩ : S103)] : List (S103))).bind fun aG => ((some (x0.drop (x7 : Int).toNat : List (S103))).bind fun aq => (if aG.length + aq.length < 4398046511104 then ((some (aG ++ aq : List (S103))).bind fun al => (if (al.length : Int) > x2 then (if 0 ≤ x2 then (if x2 ≤ (al.length : Int) then (some (al.take (x2 : Int).toNat)) else (none)) else (none)) else (some al))) else (none)))) else (none))) else (none))) else (none)) else (none)))
def spec_l14Put.f (k : Nat) (l0 : List (S103)) (ah : List Int) (am : Int) (a2 : Int) : Option ((List (S103))) := spec_l14Put.l0 k l0 a2 0 ah am
theorem spec_l14Put.mono_l : ∀ k, (∀ y0 y1 y2 y3 y4, LeO (spec_l14Put.l0 k y0 y1 y2 y3 y4) (spec_l14Put.l0 (k + 1) y0 y1 y2 y3 y4))
 | 0 => fun _ _ _ _ _ r h => by simp [spec_l14Put.l0] at h
 | k + 1 => by
  have ih0 := spec_l14Put.mono_l k
  ·intro y0 y1 y2 y3 y4
   unfold spec_l14Put.l0
   repeat' first | (with_reducible exact ih0 _ _ _ _ _) | (with_reducible exact spec_l14Less.mono _ _ _ _ _) | (with_reducible exact LeO.refl _) | (with_reducible refine LeO.ite ?_ ?_) | (with_reducible refine LeO.bind ?_ (fun _ => ?_))
theorem spec_l14Put.mono : ∀ a0 a1 a2 a3 k, LeO (spec_l14Put.f k a0 a1 a2 a3) (spec_l14Put.f (k + 1) a0 a1 a2 a3) := by
 intro a0 a1 a2 a3 k
 have ih0 := spec_l14Put.mono_l k
 unfold spec_l14Put.f
 repeat' (with_reducible exact ih0 _ _ _ _ _)
def spec_l14Put.T2 : Bool × List (List Nat × List Nat) := (true, [([], []), ([], []), ([1], [1]), ([0, 2], [0, 2]), ([3], [3]), ([4], [4]), ([4], [4]), ([4], [4]), ([6, 7, 4], [4, 6, 7]), ([8, 4], [4, 8]), ([5, 9, 4, 4], [4, 5, 9]), ([10, 4], [4, 10]), ([4, 11], [4, 11])])
def spec_l14Put.B2 : List Nat := [0, 0, 2, 7, 15, 31, 31, 31, 223, 479, 1023, 2047, 4095]
theorem spec_l14Put.tab2 : rtab .any (qWg Try.f114 2) = spec_l14Put.T2 := by kernel_rfl
theorem spec_l14Put.bits2 : qJn spec_l14Put.T2.2 spec_l14Put.B2 = true := by kernel_rfl
set_option maxHeartbeats 8000000 in
set_option maxRecDepth 100000 in
theorem spec_l14Put.calls (k : Nat) (P0_ : Nat → Prop) (A0 : Option Addr) (c0 : Nat) (l0 : List (S103)) (P1_0_ : Nat → Prop) (aH : Option Addr) (aI : Nat) (ah : List Int) (am : Int) (a2 : Int) (r : List (S103)) (w : World) (hs0 : Kd.V k103 103 w w.heap.size (fun k_ => P0_ k_) (.slice A0 l0.length c0) l0) (dB : Kd.V (Kd.int .i64) 3 w w.heap.size (fun k_ => P1_0_ k_) (.slice aH ah.length aI) ah) (h : spec_l14Put.f k l0 ah am a2 = some r) :
  Calls Try.prog 114 #[.slice A0 l0.length c0, .agg #[.slice aH ah.length aI, .int .i64 am], .int .i64 a2] w fun e w' => ∃ v0_ : Value, e = .returned (v0_) ∧ Kd.N k103 103 w' w.heap.size (fun k_ => ((P0_ k_ ∨ P1_0_ k_) ∨ w.heap.size ≤ k_)) v0_ r ∧ Below w.heap.size w w' := by
 have eE := Try.underlying103
 have HO0 := ak (show Kd.V k103 103 w w.heap.size (fun k_ => ((P0_ k_ ∨ P1_0_ k_) ∨ w.heap.size ≤ k_)) (.slice A0 l0.length c0) l0 from Kd.V_mono hs0 (fun k_ hk => .inl (.inl hk)))
 have bN := ak (show Kd.V (Kd.int .i64) 3 w w.heap.size (fun k_ => ((P0_ k_ ∨ P1_0_ k_) ∨ w.heap.size ≤ k_)) (.slice aH ah.length aI) ah from Kd.V_mono dB (fun k_ hk => .inl (.inr hk)))
 have HB := ak (Below.refl w.heap.size w)
 have H : (spec_l14Put.l0 k l0 a2 0 ah am) = some r := h
 clear h
 have H' := ak H
 clear H
 go_enter Try.func114, Try.ntmps114
 go_wp2_with (((with_reducible refine gate_dst (N := 4) rfl ?_); refine qZh ?hg (N := 4) ?hd (cs := #[.slice aH ah.length aI, .int .i64 am]) (t := 103) ?hr ?_; (case hd => rfl); (case hg => rfl); (case hr => (go_simp; done)); intro ac hg w4 hbox hb; replace HO0 := ak (Kd.V_below (Kd.V_elderB (by exact HO0.out) ac (Nat.le_of_eq hg.symm)) hb); replace bN := ak (Kd.V_below (Kd.V_elderB (by exact bN.out) ac (Nat.le_of_eq hg.symm)) hb); have ab := ak (hbox); have eF := ak ((by rw [hg]; exact (qZc (bl HB)) : w.heap.size ≤ ac)); have af := ak ((by rw [hg]; exact (qZc (bl HB)) : w.heap.size ≤ ac)); replace HB := ak (qZd (bl HB) hb); clear hb hbox hg))
 go_loopg [7] k (fun kq v7 w' => ∃ (ad : Int), v7 = .int .i64 ad ∧ Aside0 (spec_l14Put.l0 kq l0 a2 ad ah am = some r) ∧ Aside0 (kq ≤ k) ∧ Aside0 (Kd.V k103 103 w' w.heap.size (fun k_ => ((P0_ k_ ∨ P1_0_ k_) ∨ w.heap.size ≤ k_) ∧ k_ ≠ ac) (.slice A0 l0.length c0) l0) ∧ Aside0 (Kd.V (Kd.int .i64) 3 w' w.heap.size (fun k_ => ((P0_ k_ ∨ P1_0_ k_) ∨ w.heap.size ≤ k_) ∧ k_ ≠ ac) (.slice aH ah.length aI) ah) ∧ Aside0 (w'.heap[ac]? = some (.cells #[(.slice aH ah.length aI), .int .i64 am] 103 (0, 0))) ∧ Aside0 (Below w.heap.size w w'))
 case atStart => exact ⟨(0), (by rfl), H', ⟨Nat.le_refl _⟩, ⟨by exact HO0.out⟩, ⟨by exact bN.out⟩, ⟨bk ab⟩, ⟨bl1 HB af⟩⟩
 clear H'
 try clear c1
 try clear p2
 obtain ⟨ad, rfl, HA, HK1, ae, aa, ab, HB⟩ := hrel
 cases gk with
 | zero => exact absurd HA.out (by simp [spec_l14Put.l0])
 | succ k1 =>
  have H := HA.out
  clear HA
  simp only [spec_l14Put.l0] at H
  by_cases c5 : ad < (l0.length : Int)
  rotate_left
  ·rw [if_neg c5] at H
   have c5b0 : decide (ad < (l0.length : Int)) = false := decide_eq_false c5
   clear c5
   obtain ⟨bh, bO⟩ : ∃ y_ : List (S103), y_ = (([] : List (S103))) := ⟨_, rfl⟩
   replace H : (if 0 ≤ ad then (if ad ≤ (l0.length : Int) then ((some (l0.take (ad : Int).toNat : List (S103))).bind fun aE => (if bh.length + aE.length < 4398046511104 then ((some (bh ++ aE : List (S103))).bind fun aT => (if aT.length < 4398046511104 then ((some (aT ++ [(⟨ah, am⟩ : S103)] : List (S103))).bind fun aG => ((some (l0.drop (ad : Int).toNat : List (S103))).bind fun aq => (if aG.length + aq.length < 4398046511104 then ((some (aG ++ aq : List (S103))).bind fun al => (if (al.length : Int) > a2 then (if 0 ≤ a2 then (if a2 ≤ (al.length : Int) then (some (al.take (a2 : Int).toNat)) else (none)) else (none)) else (some al))) else (none)))) else (none))) else (none))) else (none)) else (none)) = some r := by (have H2_ := (Option.bind_some _ _).symm.trans H; rw [bO]; with_reducible exact H2_)
   have cA := ak bO
   clear bO
   by_cases c44 : 0 ≤ ad
   rotate_left
   ·rw [if_neg c44] at H
    exact absurd H (by simp)
   rw [if_pos c44] at H
   have c44b0 := eq_true c44
   have c44b1 : decide (0 ≤ ad) = true := decide_eq_true c44
   clear c44
   by_cases c45 : ad ≤ (l0.length : Int)
   rotate_left
   ·rw [if_neg c45] at H
    exact absurd H (by simp)
   rw [if_pos c45] at H
   have c45b0 := eq_true c45
   have c45b1 : decide (ad ≤ (l0.length : Int)) = true := decide_eq_true c45
   clear c45
   obtain ⟨aE, bP⟩ : ∃ y_ : List (S103), y_ = (l0.take (ad : Int).toNat) := ⟨_, rfl⟩
   replace H : (if bh.length + aE.length < 4398046511104 then ((some (bh ++ aE : List (S103))).bind fun aT => (if aT.length < 4398046511104 then ((some (aT ++ [(⟨ah, am⟩ : S103)] : List (S103))).bind fun aG => ((some (l0.drop (ad : Int).toNat : List (S103))).bind fun aq => (if aG.length + aq.length < 4398046511104 then ((some (aG ++ aq : List (S103))).bind fun al => (if (al.length : Int) > a2 then (if 0 ≤ a2 then (if a2 ≤ (al.length : Int) then (some (al.take (a2 : Int).toNat)) else (none)) else (none)) else (some al))) else (none)))) else (none))) else (none)) = some r := by (have H2_ := (Option.bind_some _ _).symm.trans H; rw [bP]; with_reducible exact H2_)
   have bB := ak bP
   clear bP
   by_cases c46 : bh.length + aE.length < 4398046511104
   rotate_left
   ·rw [if_neg c46] at H
    exact absurd H (by simp)
   rw [if_pos c46] at H
   have cB := ak c46
   clear c46
   obtain ⟨aT, bQ⟩ : ∃ y_ : List (S103), y_ = (bh ++ aE) := ⟨_, rfl⟩
   replace H : (if aT.length < 4398046511104 then ((some (aT ++ [(⟨ah, am⟩ : S103)] : List (S103))).bind fun aG => ((some (l0.drop (ad : Int).toNat : List (S103))).bind fun aq => (if aG.length + aq.length < 4398046511104 then ((some (aG ++ aq : List (S103))).bind fun al => (if (al.length : Int) > a2 then (if 0 ≤ a2 then (if a2 ≤ (al.length : Int) then (some (al.take (a2 : Int).toNat)) else (none)) else (none)) else (some al))) else (none)))) else (none)) = some r := by (have H2_ := (Option.bind_some _ _).symm.trans H; rw [bQ]; with_reducible exact H2_)
   have cC := ak bQ
   clear bQ
   by_cases c47 : aT.length < 4398046511104
   rotate_left
   ·rw [if_neg c47] at H
    exact absurd H (by simp)
   rw [if_pos c47] at H
   have cD := ak c47
   clear c47
   obtain ⟨aG, bR⟩ : ∃ y_ : List (S103), y_ = (aT ++ [(⟨ah, am⟩ : S103)]) := ⟨_, rfl⟩
   replace H : ((some (l0.drop (ad : Int).toNat : List (S103))).bind fun aq => (if aG.length + aq.length < 4398046511104 then ((some (aG ++ aq : List (S103))).bind fun al => (if (al.length : Int) > a2 then (if 0 ≤ a2 then (if a2 ≤ (al.length : Int) then (some (al.take (a2 : Int).toNat)) else (none)) else (none)) else (some al))) else (none))) = some r := by (have H2_ := (Option.bind_some _ _).symm.trans H; rw [bR]; with_reducible exact H2_)
   have cE := ak bR
   clear bR
   have c48b0 := eq_true (oT (by (with_reducible assumption)) : 0 ≤ ad)
   have c49b0 := eq_true (oT (by (with_reducible assumption)) : ad ≤ (l0.length : Int))
   obtain ⟨aq, bS⟩ : ∃ y_ : List (S103), y_ = (l0.drop (ad : Int).toNat) := ⟨_, rfl⟩
   replace H : (if aG.length + aq.length < 4398046511104 then ((some (aG ++ aq : List (S103))).bind fun al => (if (al.length : Int) > a2 then (if 0 ≤ a2 then (if a2 ≤ (al.length : Int) then (some (al.take (a2 : Int).toNat)) else (none)) else (none)) else (some al))) else (none)) = some r := by (have H2_ := (Option.bind_some _ _).symm.trans H; rw [bS]; with_reducible exact H2_)
   have bC := ak bS
   clear bS
   by_cases c50 : aG.length + aq.length < 4398046511104
   rotate_left
   ·rw [if_neg c50] at H
    exact absurd H (by simp)
   rw [if_pos c50] at H
   have cF := ak c50
   clear c50
   obtain ⟨al, bT⟩ : ∃ y_ : List (S103), y_ = (aG ++ aq) := ⟨_, rfl⟩
   replace H : (if (al.length : Int) > a2 then (if 0 ≤ a2 then (if a2 ≤ (al.length : Int) then (some (al.take (a2 : Int).toNat)) else (none)) else (none)) else (some al)) = some r := by (have H2_ := (Option.bind_some _ _).symm.trans H; rw [bT]; with_reducible exact H2_)
   have cG := ak bT
   clear bT
   by_cases c51 : (al.length : Int) > a2
   rotate_left
   ·rw [if_neg c51] at H
    have c51b0 : decide (a2 < (al.length : Int)) = false := decide_eq_false c51
    clear c51
    obtain rfl := Option.some.inj H
    try go_wp2
    replace ae := ak (Kd.V_drew ae.out)
    replace aa := ak (Kd.V_drew aa.out)
    replace ab := ak (qZp ab.out)
    replace HB := ak (qQg HB.out)
    refine qJj (n := 13) (S := fun w' => True) (ds := []) (ms 13 0) (by kernel_rfl) rfl (by kernel_rfl) trivial (fun hHeld => ?_); refine qQo spec_l14Put.tab2 spec_l14Put.bits2 (fun HT_ HW_ => ?_)
    generalize wr.drew = w65 at ae aa ab HB hHeld ⊢
    refine pu 0 9 ?_ (ms 13 1) rfl rfl HT_ (by kernel_rfl) (fun _ _ _ h => h) (by rfl) ?_ ?_ ?_ ?_
    rotate_left
    ·intro w'
     go_simp
     with_reducible rfl
    rotate_left
    ·simp only [SX]
     rfl
    refine pu 1 10 ?_ (ms 13 3) rfl rfl HT_ (by kernel_rfl) (fun _ _ _ h => h) (by rfl) ?_ ?_ ?_ ?_
    rotate_left
    ·intro w'
     go_simp
     with_reducible rfl
    rotate_left
    ·simp only [SX]
     rfl
    refine pu 2 11 ?_ (ms 13 7) rfl rfl HT_ (by kernel_rfl) (fun _ _ _ h => h) (by rfl) ?_ ?_ ?_ ?_
    rotate_left
    ·intro w'
     go_simp
     with_reducible rfl
    rotate_left
    ·simp only [SX]
     rfl
    refine pu 3 12 ?_ (ms 13 15) rfl rfl HT_ (by kernel_rfl) (fun _ _ _ h => h) (by rfl) ?_ ?_ ?_ ?_
    rotate_left
    ·intro w'
     go_simp
     with_reducible rfl
    rotate_left
    ·simp only [SX]
     rfl
    refine pu 4 13 ?_ (ms 13 31) rfl rfl HT_ (by kernel_rfl) (fun _ _ _ h => h) (by rfl) ?_ ?_ ?_ ?_
    rotate_left
    ·intro w'
     go_simp
     with_reducible rfl
    rotate_left
    ·simp only [SX]
     rfl
    refine qZm (i := 5) (N := some 14) (v := undef) (a' := ?_) (ms 13 63) rfl rfl (qZi HT_.out (by kernel_rfl)) (fun _ _ _ h => h) (Or.inr ⟨by rfl, rfl⟩) ?_ ?_
    rotate_left
    ·simp only [SX]
     rfl
    refine qZm (i := 6) (N := some 15) (v := undef) (a' := ?_) (ms 13 127) rfl rfl (qZi HT_.out (by kernel_rfl)) (fun _ _ _ h => h) (Or.inr ⟨by rfl, rfl⟩) ?_ ?_
    rotate_left
    ·simp only [SX]
     rfl
    refine qZm (i := 7) (N := some 16) (v := undef) (a' := ?_) (ms 13 255) rfl rfl (qZi HT_.out (by kernel_rfl)) (fun _ _ _ h => h) (Or.inr ⟨by rfl, rfl⟩) ?_ ?_
    rotate_left
    ·simp only [SX]
     rfl
    refine qZm (i := 8) (N := some 17) (v := undef) (a' := ?_) (ms 13 511) rfl rfl (qZi HT_.out (by kernel_rfl)) (fun _ _ _ h => h) (Or.inr ⟨by rfl, rfl⟩) ?_ ?_
    rotate_left
    ·simp only [SX]
     rfl
    refine qZm (i := 9) (N := some 18) (v := undef) (a' := ?_) (ms 13 1023) rfl rfl (qZi HT_.out (by kernel_rfl)) (fun _ _ _ h => h) (Or.inr ⟨by rfl, rfl⟩) ?_ ?_
    rotate_left
    ·simp only [SX]
     rfl
    refine qZm (i := 10) (N := some 19) (v := undef) (a' := ?_) (ms 13 2047) rfl rfl (qZi HT_.out (by kernel_rfl)) (fun _ _ _ h => h) (Or.inr ⟨by rfl, rfl⟩) ?_ ?_
    rotate_left
    ·simp only [SX]
     rfl
    refine qZm (i := 11) (N := some 20) (v := undef) (a' := ?_) (ms 13 4095) rfl rfl (qZi HT_.out (by kernel_rfl)) (fun _ _ _ h => h) (Or.inr ⟨by rfl, rfl⟩) ?_ ?_
    rotate_left
    ·simp only [SX]
     rfl
    refine pu 12 21 ?_ (ms 13 8191) rfl rfl HT_ (by kernel_rfl) (fun _ _ _ h => h) (by rfl) ?_ ?_ ?_ ?_
    rotate_left
    ·intro w'
     go_simp
     with_reducible rfl
    rotate_left
    ·simp only [SX]
     rfl
    refine qXe (qJg HT_.out (by kernel_rfl)) ?_
    try go_wp2_with (first | ((with_reducible refine gate_dst (N := 24) rfl ?_); refine Kd.N_lit k103 _ 103 ?hg (N' := 24) ?hd (xs := ([] : List (S103))) (inner := []) (ok := (fun k_ => ((P0_ k_ ∨ P1_0_ k_) ∨ w.heap.size ≤ k_) ∧ k_ ≠ ac)) (okp := (fun k_ => ((P0_ k_ ∨ P1_0_ k_) ∨ w.heap.size ≤ k_) ∧ k_ ≠ ac)) ?hr ?hp (fun _ hk => hk) ((show ∀ k_, w65.heap.size ≤ k_ → (fun k_ => ((P0_ k_ ∨ P1_0_ k_) ∨ w.heap.size ≤ k_) ∧ k_ ≠ ac) k_ from fun k_ hk => ⟨(.inr (Nat.le_trans (qZc (bl1 HB af)) hk)), Kd.freshB (bk ab) k_ hk⟩) _ (Nat.le_refl _)) (Below.refl _ _) (Nat.le_refl _) (by simp) ?_; (case hd => rfl); (case hg => rfl); (case hr => (go_simp; done)); (case hp => exact (Reps.none _ _)); intro bw w66 bU hb hg_ hnew_; clear hg_ hnew_; (rw [← cA.out] at bU); replace ae := ak (Kd.V_elder' (by exact ae.out) (Kd.N_base bU) hb); replace aa := ak (Kd.V_elder' (by exact aa.out) (Kd.N_base bU) hb); have bi := ak (Kd.N_lower bU (qZc (bl1 HB af))); replace ab := ak (qZe (bk ab) hb); replace HB := ak (qZd (bl1 HB af) hb); clear hb bU; have q68 : (ad : Int) ≤ ((l0.length : Int) : Int) := oT (by (with_reducible assumption)); obtain ⟨i068, cH, _, dC, _⟩ := info_parts qJk; have bD : l0.length ≤ c0 := (Kd.V_reads' ae.out).2.1; have dD : Kd.F k103 _ _ A0 l0.length l0 := (Kd.V_at (base := w.heap.size) ae.out).2.2; have dh := qYd (P := Try.prog) 100 103 .i64 Try.underlying100 cH A0 l0.length c0 ad (oT (by (with_reducible assumption))) q68 bD; have di := Kd.F_take (m := (ad : Int).toNat) dD (by omega); have dj : aE.length = (ad : Int).toNat := (by rw [bB.out, List.length_take]; omega); rw [← bB.out] at di; rw [← dj] at dh; have ar := ak (show Kd.V k103 103 _ w.heap.size _ (.slice A0 aE.length c0) aE from Kd.V_mk (by omega) di); have dE := ak (show aE.length ≤ c0 from by omega); clear di dD bD cH dC; have eG := ak dj; clear dj; replace q68 := eq_true q68) | ((with_reducible refine gate_builtin (b := .append) (xs := #[.tmp 24, .tmp 27]) rfl ?_); at_builtin; refine Kd.N_append_rows k103 (w0 := w) w.heap.size rfl (.tmp 24) (.tmp 27) 100 103 (.agg #[(.slice none 0 0), (.int .i64 0)]) 32 rfl Try.underlying100 qJk rfl (by decide) (by omega) bw bh aE _ _ _ (fun k_ => ((P0_ k_ ∨ P1_0_ k_) ∨ w.heap.size ≤ k_) ∧ k_ ≠ ac) (fun k_ => ((fun k_ => ((P0_ k_ ∨ P1_0_ k_) ∨ w.heap.size ≤ k_) ∧ k_ ≠ ac)) k_ ∧ some k_ ≠ (bw : Value).ownBlock) rfl rfl ?aO ?aR (fun _ hk => hk) ?aF ?aB ?aS ?aL ?_; (case aR => exact (by skip; exact Kd.V_F (Kd.V_mono (ok' := (fun k_ => ((fun k_ => ((P0_ k_ ∨ P1_0_ k_) ∨ w.heap.size ≤ k_) ∧ k_ ≠ ac)) k_ ∧ some k_ ≠ (bw : Value).ownBlock)) (ar.out) (fun k_ hk => ⟨⟨hk.1.1, hk.1.2⟩, hk.2⟩)))); (case aB => exact (bl1 HB af)); (case aF => exact (fun k_ hk => ⟨(.inr (Nat.le_trans (qZc (bl1 HB af)) hk)), Kd.freshB (bk ab) k_ hk⟩)); (case aO => exact (by exact bi.out)); (case aS => exact (qZc (bl1 HB af))); (case aL => have := cB.out; omega); intro bu w69 ho hb hg hat; rw [← cC.out] at ho; have n0_ := ak (Kd.V_afterv (ok := (fun k_ => ((P0_ k_ ∨ P1_0_ k_) ∨ w.heap.size ≤ k_) ∧ k_ ≠ ac)) (by exact ae.out) hg hat); have n1_ := ak (Kd.V_afterv (ok := (fun k_ => ((P0_ k_ ∨ P1_0_ k_) ∨ w.heap.size ≤ k_) ∧ k_ ≠ ac)) (by exact aa.out) hg hat); have n2_ := ak (qZj (bk ab) hg (Kd.N_away bi.out (fun _ hk => hk.2))); have n3_ := ak (Kd.V_afterv (ok := (fun k_ => ((P0_ k_ ∨ P1_0_ k_) ∨ w.heap.size ≤ k_) ∧ k_ ≠ ac)) (by exact ar.out) hg hat); have n4_ := ak (hb); have n5_ := ak (ho); clear ae; clear aa; clear ab; clear ar; clear HB; clear bi; have ae := n0_; have aa := n1_; have ab := n2_; have ar := n3_; have HB := n4_; have bj := n5_; clear n0_ n1_ n2_ n3_ n4_ n5_; clear ho hb hg hat; have ea := bc w69 ab 0 (.slice aH ah.length aI) rfl; have eb := bc w69 ab 1 (.int .i64 am) rfl; have ec := fz ab 0; have ed := fz ab 1) | ((with_reducible refine gate_builtin (b := .append) (xs := #[.tmp 29, .tmp 31]) rfl ?_); at_builtin; refine Kd.N_append k103 (w0 := w) w.heap.size rfl (.tmp 29) (.tmp 31) 100 103 (.agg #[(.slice none 0 0), (.int .i64 0)]) 32 rfl Try.underlying100 qJk rfl (by decide) (by omega) bu aT (⟨ah, am⟩ : S103) [.slice aH ah.length aI, .int .i64 am] (fun k_ => ((P0_ k_ ∨ P1_0_ k_) ∨ w.heap.size ≤ k_) ∧ k_ ≠ ac) (fun k_ => ((fun k_ => ((P0_ k_ ∨ P1_0_ k_) ∨ w.heap.size ≤ k_) ∧ k_ ≠ ac)) k_ ∧ some k_ ≠ (bu : Value).ownBlock) rfl rfl ?aP (fun _ hk => hk) ?aF ?aO ?aB ?aS ?aL ?_; (case aP => exact (qYf _ _ (⟨ah, am⟩ : S103) (Kd.V_reads' (Kd.V_mono (ok' := (fun k_ => ((fun k_ => ((P0_ k_ ∨ P1_0_ k_) ∨ w.heap.size ≤ k_) ∧ k_ ≠ ac)) k_ ∧ some k_ ≠ (bu : Value).ownBlock)) (aa.out) (fun k_ hk => ⟨⟨hk.1.1, hk.1.2⟩, hk.2⟩))).2.1 (Kd.V_F (Kd.V_mono (ok' := (fun k_ => ((fun k_ => ((P0_ k_ ∨ P1_0_ k_) ∨ w.heap.size ≤ k_) ∧ k_ ≠ ac)) k_ ∧ some k_ ≠ (bu : Value).ownBlock)) (aa.out) (fun k_ hk => ⟨⟨hk.1.1, hk.1.2⟩, hk.2⟩))))); (case aB => exact (bl1 HB af)); (case aF => exact (fun k_ hk => ⟨(.inr (Nat.le_trans (qZc (bl1 HB af)) hk)), Kd.freshB (bk ab) k_ hk⟩)); (case aO => exact (by exact bj.out)); (case aS => exact (qZc (bl1 HB af))); (case aL => have := cD.out; omega); intro bx w71 ho hb hg hat; rw [← cE.out] at ho; have n0_ := ak (Kd.V_afterv (ok := (fun k_ => ((P0_ k_ ∨ P1_0_ k_) ∨ w.heap.size ≤ k_) ∧ k_ ≠ ac)) (by exact ae.out) hg hat); have n1_ := ak (Kd.V_afterv (ok := (fun k_ => ((P0_ k_ ∨ P1_0_ k_) ∨ w.heap.size ≤ k_) ∧ k_ ≠ ac)) (by exact aa.out) hg hat); have n2_ := ak (qZj (bk ab) hg (Kd.N_away bj.out (fun _ hk => hk.2))); have n3_ := ak (Kd.V_afterv (ok := (fun k_ => ((P0_ k_ ∨ P1_0_ k_) ∨ w.heap.size ≤ k_) ∧ k_ ≠ ac)) (by exact ar.out) hg hat); have n4_ := ak (hb); have n5_ := ak (ho); clear ae; clear aa; clear ab; clear ar; clear HB; clear bj; have ae := n0_; have aa := n1_; have ab := n2_; have ar := n3_; have HB := n4_; have bm := n5_; clear n0_ n1_ n2_ n3_ n4_ n5_; clear ho hb hg hat; have q72 : (ad : Int) ≤ ((l0.length : Int) : Int) := oT (by (with_reducible assumption)); obtain ⟨i072, cI, _, cJ, _⟩ := info_parts qJk; have bb : l0.length ≤ c0 := (Kd.V_reads' ae.out).2.1; have dF : Kd.F k103 _ _ A0 l0.length l0 := (Kd.V_at (base := w.heap.size) ae.out).2.2; have eq : (0 : Int) ≤ (ad : Int) := oT (by (with_reducible assumption)); have dk := qYe (P := Try.prog) 100 103 .i64 Try.underlying100 cI 2 cJ A0 l0.length c0 ad eq q72; have bV := Kd.F_cut (m := (ad : Int).toNat) (c := c0) dF (by omega) bb; obtain ⟨A72, cp⟩ : ∃ A1, A1 = (if c0 = (ad : Int).toNat then A0 else (A0 : Option Addr).map (·.add ((ad : Int).toNat * 2))) := ⟨_, rfl⟩; obtain ⟨c72, cq⟩ : ∃ c1, c1 = c0 - (ad : Int).toNat := ⟨_, rfl⟩; have bW : aq.length = l0.length - (ad : Int).toNat := (by rw [bC.out, List.length_drop] <;> omega); rw [show (l0).drop (ad : Int).toNat = aq from bC.out.symm] at bV; replace bV : Kd.F k103 _ _ A72 aq.length aq := (by rw [cp]; exact bV); rw [← bW, ← cp, ← cq] at dk; have aU := ak (show Kd.V k103 103 _ w.heap.size _ (.slice A72 aq.length c72) aq from Kd.V_mk (by rw [bW, cq]; exact Nat.sub_le_sub_right bb _) bV); have dG := ak (show aq.length ≤ c72 from by rw [bW, cq]; exact Nat.sub_le_sub_right bb _); clear bV dF bb cI cJ cq; have eH := ak bW; have eI := ak cp; clear bW cp; replace q72 := eq_true q72) | ((with_reducible refine gate_builtin (b := .append) (xs := #[.tmp 33, .tmp 36]) rfl ?_); at_builtin; refine Kd.N_append_rows k103 (w0 := w) w.heap.size rfl (.tmp 33) (.tmp 36) 100 103 (.agg #[(.slice none 0 0), (.int .i64 0)]) 32 rfl Try.underlying100 qJk rfl (by decide) (by omega) bx aG aq _ _ _ (fun k_ => ((P0_ k_ ∨ P1_0_ k_) ∨ w.heap.size ≤ k_) ∧ k_ ≠ ac) (fun k_ => ((fun k_ => ((P0_ k_ ∨ P1_0_ k_) ∨ w.heap.size ≤ k_) ∧ k_ ≠ ac)) k_ ∧ some k_ ≠ (bx : Value).ownBlock) rfl rfl ?aO ?aR (fun _ hk => hk) ?aF ?aB ?aS ?aL ?_; (case aR => exact (by skip; exact Kd.V_F (Kd.V_mono (ok' := (fun k_ => ((fun k_ => ((P0_ k_ ∨ P1_0_ k_) ∨ w.heap.size ≤ k_) ∧ k_ ≠ ac)) k_ ∧ some k_ ≠ (bx : Value).ownBlock)) (aU.out) (fun k_ hk => ⟨⟨hk.1.1, hk.1.2⟩, hk.2⟩)))); (case aB => exact (bl1 HB af)); (case aF => exact (fun k_ hk => ⟨(.inr (Nat.le_trans (qZc (bl1 HB af)) hk)), Kd.freshB (bk ab) k_ hk⟩)); (case aO => exact (by exact bm.out)); (case aS => exact (qZc (bl1 HB af))); (case aL => have := cF.out; omega); intro er w73 ho hb hg hat; rw [← cG.out] at ho; have n0_ := ak (Kd.V_afterv (ok := (fun k_ => ((P0_ k_ ∨ P1_0_ k_) ∨ w.heap.size ≤ k_) ∧ k_ ≠ ac)) (by exact ae.out) hg hat); have n1_ := ak (Kd.V_afterv (ok := (fun k_ => ((P0_ k_ ∨ P1_0_ k_) ∨ w.heap.size ≤ k_) ∧ k_ ≠ ac)) (by exact aa.out) hg hat); have n2_ := ak (qZj (bk ab) hg (Kd.N_away bm.out (fun _ hk => hk.2))); have n3_ := ak (Kd.V_afterv (ok := (fun k_ => ((P0_ k_ ∨ P1_0_ k_) ∨ w.heap.size ≤ k_) ∧ k_ ≠ ac)) (by exact ar.out) hg hat); have n4_ := ak (Kd.V_afterv (ok := (fun k_ => ((P0_ k_ ∨ P1_0_ k_) ∨ w.heap.size ≤ k_) ∧ k_ ≠ ac)) (by exact aU.out) hg hat); have n5_ := ak (hb); have n6_ := ak (ho); clear ae; clear aa; clear ab; clear ar; clear aU; clear HB; clear bm; have ae := n0_; have aa := n1_; have ab := n2_; have ar := n3_; have aU := n4_; have HB := n5_; have bn := n6_; clear n0_ n1_ n2_ n3_ n4_ n5_ n6_; clear ho hb hg hat; obtain ⟨eJ, eK, es⟩ := Kd.N_slice bn.out; subst es))
    go_ret
    exact ⟨_, by rfl, by exact Kd.N_mono bn.out (fun _ hk => hk.1), bl1 HB af⟩
   rw [if_pos c51] at H
   have c51b0 : decide (a2 < (al.length : Int)) = true := decide_eq_true c51
   clear c51
   by_cases c52 : 0 ≤ a2
   rotate_left
   ·rw [if_neg c52] at H
    exact absurd H (by simp)
   rw [if_pos c52] at H
   have c52b0 := eq_true c52
   have c52b1 : decide (0 ≤ a2) = true := decide_eq_true c52
   clear c52
   by_cases c53 : a2 ≤ (al.length : Int)
   rotate_left
   ·rw [if_neg c53] at H
    exact absurd H (by simp)
   rw [if_pos c53] at H
   have c53b0 := eq_true c53
   have c53b1 : decide (a2 ≤ (al.length : Int)) = true := decide_eq_true c53
   clear c53
   obtain ⟨dH, bX⟩ : ∃ y_ : List (S103), y_ = (al.take (a2 : Int).toNat) := ⟨_, rfl⟩
   replace H : (some dH) = some r := by (rw [bX]; with_reducible exact H)
   have cK := ak bX
   clear bX
   obtain rfl := Option.some.inj H
   try go_wp2
   replace ae := ak (Kd.V_drew ae.out)
   replace aa := ak (Kd.V_drew aa.out)
   replace ab := ak (qZp ab.out)
   replace HB := ak (qQg HB.out)
   refine qJj (n := 13) (S := fun w' => True) (ds := []) (ms 13 0) (by kernel_rfl) rfl (by kernel_rfl) trivial (fun hHeld => ?_); refine qQo spec_l14Put.tab2 spec_l14Put.bits2 (fun HT_ HW_ => ?_)
   generalize wr.drew = w54 at ae aa ab HB hHeld ⊢
   refine pu 0 9 ?_ (ms 13 1) rfl rfl HT_ (by kernel_rfl) (fun _ _ _ h => h) (by rfl) ?_ ?_ ?_ ?_
   rotate_left
   ·intro w'
    go_simp
    with_reducible rfl
   rotate_left
   ·simp only [SX]
    rfl
   refine pu 1 10 ?_ (ms 13 3) rfl rfl HT_ (by kernel_rfl) (fun _ _ _ h => h) (by rfl) ?_ ?_ ?_ ?_
   rotate_left
   ·intro w'
    go_simp
    with_reducible rfl
   rotate_left
   ·simp only [SX]
    rfl
   refine pu 2 11 ?_ (ms 13 7) rfl rfl HT_ (by kernel_rfl) (fun _ _ _ h => h) (by rfl) ?_ ?_ ?_ ?_
   rotate_left
   ·intro w'
    go_simp
    with_reducible rfl
   rotate_left
   ·simp only [SX]
    rfl
   refine pu 3 12 ?_ (ms 13 15) rfl rfl HT_ (by kernel_rfl) (fun _ _ _ h => h) (by rfl) ?_ ?_ ?_ ?_
   rotate_left
   ·intro w'
    go_simp
    with_reducible rfl
   rotate_left
   ·simp only [SX]
    rfl
   refine pu 4 13 ?_ (ms 13 31) rfl rfl HT_ (by kernel_rfl) (fun _ _ _ h => h) (by rfl) ?_ ?_ ?_ ?_
   rotate_left
   ·intro w'
    go_simp
    with_reducible rfl
   rotate_left
   ·simp only [SX]
    rfl
   refine qZm (i := 5) (N := some 14) (v := undef) (a' := ?_) (ms 13 63) rfl rfl (qZi HT_.out (by kernel_rfl)) (fun _ _ _ h => h) (Or.inr ⟨by rfl, rfl⟩) ?_ ?_
   rotate_left
   ·simp only [SX]
    rfl
   refine qZm (i := 6) (N := some 15) (v := undef) (a' := ?_) (ms 13 127) rfl rfl (qZi HT_.out (by kernel_rfl)) (fun _ _ _ h => h) (Or.inr ⟨by rfl, rfl⟩) ?_ ?_
   rotate_left
   ·simp only [SX]
    rfl
   refine qZm (i := 7) (N := some 16) (v := undef) (a' := ?_) (ms 13 255) rfl rfl (qZi HT_.out (by kernel_rfl)) (fun _ _ _ h => h) (Or.inr ⟨by rfl, rfl⟩) ?_ ?_
   rotate_left
   ·simp only [SX]
    rfl
   refine qZm (i := 8) (N := some 17) (v := undef) (a' := ?_) (ms 13 511) rfl rfl (qZi HT_.out (by kernel_rfl)) (fun _ _ _ h => h) (Or.inr ⟨by rfl, rfl⟩) ?_ ?_
   rotate_left
   ·simp only [SX]
    rfl
   refine qZm (i := 9) (N := some 18) (v := undef) (a' := ?_) (ms 13 1023) rfl rfl (qZi HT_.out (by kernel_rfl)) (fun _ _ _ h => h) (Or.inr ⟨by rfl, rfl⟩) ?_ ?_
   rotate_left
   ·simp only [SX]
    rfl
   refine qZm (i := 10) (N := some 19) (v := undef) (a' := ?_) (ms 13 2047) rfl rfl (qZi HT_.out (by kernel_rfl)) (fun _ _ _ h => h) (Or.inr ⟨by rfl, rfl⟩) ?_ ?_
   rotate_left
   ·simp only [SX]
    rfl
   refine qZm (i := 11) (N := some 20) (v := undef) (a' := ?_) (ms 13 4095) rfl rfl (qZi HT_.out (by kernel_rfl)) (fun _ _ _ h => h) (Or.inr ⟨by rfl, rfl⟩) ?_ ?_
   rotate_left
   ·simp only [SX]
    rfl
   refine pu 12 21 ?_ (ms 13 8191) rfl rfl HT_ (by kernel_rfl) (fun _ _ _ h => h) (by rfl) ?_ ?_ ?_ ?_
   rotate_left
   ·intro w'
    go_simp
    with_reducible rfl
   rotate_left
   ·simp only [SX]
    rfl
   refine qXe (qJg HT_.out (by kernel_rfl)) ?_
   try go_wp2_with (first | ((with_reducible refine gate_dst (N := 24) rfl ?_); refine Kd.N_lit k103 _ 103 ?hg (N' := 24) ?hd (xs := ([] : List (S103))) (inner := []) (ok := (fun k_ => ((P0_ k_ ∨ P1_0_ k_) ∨ w.heap.size ≤ k_) ∧ k_ ≠ ac)) (okp := (fun k_ => ((P0_ k_ ∨ P1_0_ k_) ∨ w.heap.size ≤ k_) ∧ k_ ≠ ac)) ?hr ?hp (fun _ hk => hk) ((show ∀ k_, w54.heap.size ≤ k_ → (fun k_ => ((P0_ k_ ∨ P1_0_ k_) ∨ w.heap.size ≤ k_) ∧ k_ ≠ ac) k_ from fun k_ hk => ⟨(.inr (Nat.le_trans (qZc (bl1 HB af)) hk)), Kd.freshB (bk ab) k_ hk⟩) _ (Nat.le_refl _)) (Below.refl _ _) (Nat.le_refl _) (by simp) ?_; (case hd => rfl); (case hg => rfl); (case hr => (go_simp; done)); (case hp => exact (Reps.none _ _)); intro bw w55 bY hb hg_ hnew_; clear hg_ hnew_; (rw [← cA.out] at bY); replace ae := ak (Kd.V_elder' (by exact ae.out) (Kd.N_base bY) hb); replace aa := ak (Kd.V_elder' (by exact aa.out) (Kd.N_base bY) hb); have bi := ak (Kd.N_lower bY (qZc (bl1 HB af))); replace ab := ak (qZe (bk ab) hb); replace HB := ak (qZd (bl1 HB af) hb); clear hb bY; have q57 : (ad : Int) ≤ ((l0.length : Int) : Int) := oT (by (with_reducible assumption)); obtain ⟨i057, cL, _, dI, _⟩ := info_parts qJk; have bE : l0.length ≤ c0 := (Kd.V_reads' ae.out).2.1; have dJ : Kd.F k103 _ _ A0 l0.length l0 := (Kd.V_at (base := w.heap.size) ae.out).2.2; have dl := qYd (P := Try.prog) 100 103 .i64 Try.underlying100 cL A0 l0.length c0 ad (oT (by (with_reducible assumption))) q57 bE; have dm := Kd.F_take (m := (ad : Int).toNat) dJ (by omega); have dn : aE.length = (ad : Int).toNat := (by rw [bB.out, List.length_take]; omega); rw [← bB.out] at dm; rw [← dn] at dl; have ar := ak (show Kd.V k103 103 _ w.heap.size _ (.slice A0 aE.length c0) aE from Kd.V_mk (by omega) dm); have dE := ak (show aE.length ≤ c0 from by omega); clear dm dJ bE cL dI; have eL := ak dn; clear dn; replace q57 := eq_true q57) | ((with_reducible refine gate_builtin (b := .append) (xs := #[.tmp 24, .tmp 27]) rfl ?_); at_builtin; refine Kd.N_append_rows k103 (w0 := w) w.heap.size rfl (.tmp 24) (.tmp 27) 100 103 (.agg #[(.slice none 0 0), (.int .i64 0)]) 32 rfl Try.underlying100 qJk rfl (by decide) (by omega) bw bh aE _ _ _ (fun k_ => ((P0_ k_ ∨ P1_0_ k_) ∨ w.heap.size ≤ k_) ∧ k_ ≠ ac) (fun k_ => ((fun k_ => ((P0_ k_ ∨ P1_0_ k_) ∨ w.heap.size ≤ k_) ∧ k_ ≠ ac)) k_ ∧ some k_ ≠ (bw : Value).ownBlock) rfl rfl ?aO ?aR (fun _ hk => hk) ?aF ?aB ?aS ?aL ?_; (case aR => exact (by skip; exact Kd.V_F (Kd.V_mono (ok' := (fun k_ => ((fun k_ => ((P0_ k_ ∨ P1_0_ k_) ∨ w.heap.size ≤ k_) ∧ k_ ≠ ac)) k_ ∧ some k_ ≠ (bw : Value).ownBlock)) (ar.out) (fun k_ hk => ⟨⟨hk.1.1, hk.1.2⟩, hk.2⟩)))); (case aB => exact (bl1 HB af)); (case aF => exact (fun k_ hk => ⟨(.inr (Nat.le_trans (qZc (bl1 HB af)) hk)), Kd.freshB (bk ab) k_ hk⟩)); (case aO => exact (by exact bi.out)); (case aS => exact (qZc (bl1 HB af))); (case aL => have := cB.out; omega); intro bu w58 ho hb hg hat; rw [← cC.out] at ho; have n0_ := ak (Kd.V_afterv (ok := (fun k_ => ((P0_ k_ ∨ P1_0_ k_) ∨ w.heap.size ≤ k_) ∧ k_ ≠ ac)) (by exact ae.out) hg hat); have n1_ := ak (Kd.V_afterv (ok := (fun k_ => ((P0_ k_ ∨ P1_0_ k_) ∨ w.heap.size ≤ k_) ∧ k_ ≠ ac)) (by exact aa.out) hg hat); have n2_ := ak (qZj (bk ab) hg (Kd.N_away bi.out (fun _ hk => hk.2))); have n3_ := ak (Kd.V_afterv (ok := (fun k_ => ((P0_ k_ ∨ P1_0_ k_) ∨ w.heap.size ≤ k_) ∧ k_ ≠ ac)) (by exact ar.out) hg hat); have n4_ := ak (hb); have n5_ := ak (ho); clear ae; clear aa; clear ab; clear ar; clear HB; clear bi; have ae := n0_; have aa := n1_; have ab := n2_; have ar := n3_; have HB := n4_; have bj := n5_; clear n0_ n1_ n2_ n3_ n4_ n5_; clear ho hb hg hat; have ee := bc w58 ab 0 (.slice aH ah.length aI) rfl; have ef := bc w58 ab 1 (.int .i64 am) rfl; have eg := fz ab 0; have eh := fz ab 1) | ((with_reducible refine gate_builtin (b := .append) (xs := #[.tmp 29, .tmp 31]) rfl ?_); at_builtin; refine Kd.N_append k103 (w0 := w) w.heap.size rfl (.tmp 29) (.tmp 31) 100 103 (.agg #[(.slice none 0 0), (.int .i64 0)]) 32 rfl Try.underlying100 qJk rfl (by decide) (by omega) bu aT (⟨ah, am⟩ : S103) [.slice aH ah.length aI, .int .i64 am] (fun k_ => ((P0_ k_ ∨ P1_0_ k_) ∨ w.heap.size ≤ k_) ∧ k_ ≠ ac) (fun k_ => ((fun k_ => ((P0_ k_ ∨ P1_0_ k_) ∨ w.heap.size ≤ k_) ∧ k_ ≠ ac)) k_ ∧ some k_ ≠ (bu : Value).ownBlock) rfl rfl ?aP (fun _ hk => hk) ?aF ?aO ?aB ?aS ?aL ?_; (case aP => exact (qYf _ _ (⟨ah, am⟩ : S103) (Kd.V_reads' (Kd.V_mono (ok' := (fun k_ => ((fun k_ => ((P0_ k_ ∨ P1_0_ k_) ∨ w.heap.size ≤ k_) ∧ k_ ≠ ac)) k_ ∧ some k_ ≠ (bu : Value).ownBlock)) (aa.out) (fun k_ hk => ⟨⟨hk.1.1, hk.1.2⟩, hk.2⟩))).2.1 (Kd.V_F (Kd.V_mono (ok' := (fun k_ => ((fun k_ => ((P0_ k_ ∨ P1_0_ k_) ∨ w.heap.size ≤ k_) ∧ k_ ≠ ac)) k_ ∧ some k_ ≠ (bu : Value).ownBlock)) (aa.out) (fun k_ hk => ⟨⟨hk.1.1, hk.1.2⟩, hk.2⟩))))); (case aB => exact (bl1 HB af)); (case aF => exact (fun k_ hk => ⟨(.inr (Nat.le_trans (qZc (bl1 HB af)) hk)), Kd.freshB (bk ab) k_ hk⟩)); (case aO => exact (by exact bj.out)); (case aS => exact (qZc (bl1 HB af))); (case aL => have := cD.out; omega); intro bx w60 ho hb hg hat; rw [← cE.out] at ho; have n0_ := ak (Kd.V_afterv (ok := (fun k_ => ((P0_ k_ ∨ P1_0_ k_) ∨ w.heap.size ≤ k_) ∧ k_ ≠ ac)) (by exact ae.out) hg hat); have n1_ := ak (Kd.V_afterv (ok := (fun k_ => ((P0_ k_ ∨ P1_0_ k_) ∨ w.heap.size ≤ k_) ∧ k_ ≠ ac)) (by exact aa.out) hg hat); have n2_ := ak (qZj (bk ab) hg (Kd.N_away bj.out (fun _ hk => hk.2))); have n3_ := ak (Kd.V_afterv (ok := (fun k_ => ((P0_ k_ ∨ P1_0_ k_) ∨ w.heap.size ≤ k_) ∧ k_ ≠ ac)) (by exact ar.out) hg hat); have n4_ := ak (hb); have n5_ := ak (ho); clear ae; clear aa; clear ab; clear ar; clear HB; clear bj; have ae := n0_; have aa := n1_; have ab := n2_; have ar := n3_; have HB := n4_; have bm := n5_; clear n0_ n1_ n2_ n3_ n4_ n5_; clear ho hb hg hat; have q61 : (ad : Int) ≤ ((l0.length : Int) : Int) := oT (by (with_reducible assumption)); obtain ⟨i061, cN, _, cO, _⟩ := info_parts qJk; have bd : l0.length ≤ c0 := (Kd.V_reads' ae.out).2.1; have dK : Kd.F k103 _ _ A0 l0.length l0 := (Kd.V_at (base := w.heap.size) ae.out).2.2; have et : (0 : Int) ≤ (ad : Int) := oT (by (with_reducible assumption)); have dp := qYe (P := Try.prog) 100 103 .i64 Try.underlying100 cN 2 cO A0 l0.length c0 ad et q61; have bZ := Kd.F_cut (m := (ad : Int).toNat) (c := c0) dK (by omega) bd; obtain ⟨A61, cr⟩ : ∃ A1, A1 = (if c0 = (ad : Int).toNat then A0 else (A0 : Option Addr).map (·.add ((ad : Int).toNat * 2))) := ⟨_, rfl⟩; obtain ⟨c61, ct⟩ : ∃ c1, c1 = c0 - (ad : Int).toNat := ⟨_, rfl⟩; have ca : aq.length = l0.length - (ad : Int).toNat := (by rw [bC.out, List.length_drop] <;> omega); rw [show (l0).drop (ad : Int).toNat = aq from bC.out.symm] at bZ; replace bZ : Kd.F k103 _ _ A61 aq.length aq := (by rw [cr]; exact bZ); rw [← ca, ← cr, ← ct] at dp; have aU := ak (show Kd.V k103 103 _ w.heap.size _ (.slice A61 aq.length c61) aq from Kd.V_mk (by rw [ca, ct]; exact Nat.sub_le_sub_right bd _) bZ); have dG := ak (show aq.length ≤ c61 from by rw [ca, ct]; exact Nat.sub_le_sub_right bd _); clear bZ dK bd cN cO ct; have eM := ak ca; have eN := ak cr; clear ca cr; replace q61 := eq_true q61) | ((with_reducible refine gate_builtin (b := .append) (xs := #[.tmp 33, .tmp 36]) rfl ?_); at_builtin; refine Kd.N_append_rows k103 (w0 := w) w.heap.size rfl (.tmp 33) (.tmp 36) 100 103 (.agg #[(.slice none 0 0), (.int .i64 0)]) 32 rfl Try.underlying100 qJk rfl (by decide) (by omega) bx aG aq _ _ _ (fun k_ => ((P0_ k_ ∨ P1_0_ k_) ∨ w.heap.size ≤ k_) ∧ k_ ≠ ac) (fun k_ => ((fun k_ => ((P0_ k_ ∨ P1_0_ k_) ∨ w.heap.size ≤ k_) ∧ k_ ≠ ac)) k_ ∧ some k_ ≠ (bx : Value).ownBlock) rfl rfl ?aO ?aR (fun _ hk => hk) ?aF ?aB ?aS ?aL ?_; (case aR => exact (by skip; exact Kd.V_F (Kd.V_mono (ok' := (fun k_ => ((fun k_ => ((P0_ k_ ∨ P1_0_ k_) ∨ w.heap.size ≤ k_) ∧ k_ ≠ ac)) k_ ∧ some k_ ≠ (bx : Value).ownBlock)) (aU.out) (fun k_ hk => ⟨⟨hk.1.1, hk.1.2⟩, hk.2⟩)))); (case aB => exact (bl1 HB af)); (case aF => exact (fun k_ hk => ⟨(.inr (Nat.le_trans (qZc (bl1 HB af)) hk)), Kd.freshB (bk ab) k_ hk⟩)); (case aO => exact (by exact bm.out)); (case aS => exact (qZc (bl1 HB af))); (case aL => have := cF.out; omega); intro er w62 ho hb hg hat; rw [← cG.out] at ho; have n0_ := ak (Kd.V_afterv (ok := (fun k_ => ((P0_ k_ ∨ P1_0_ k_) ∨ w.heap.size ≤ k_) ∧ k_ ≠ ac)) (by exact ae.out) hg hat); have n1_ := ak (Kd.V_afterv (ok := (fun k_ => ((P0_ k_ ∨ P1_0_ k_) ∨ w.heap.size ≤ k_) ∧ k_ ≠ ac)) (by exact aa.out) hg hat); have n2_ := ak (qZj (bk ab) hg (Kd.N_away bm.out (fun _ hk => hk.2))); have n3_ := ak (Kd.V_afterv (ok := (fun k_ => ((P0_ k_ ∨ P1_0_ k_) ∨ w.heap.size ≤ k_) ∧ k_ ≠ ac)) (by exact ar.out) hg hat); have n4_ := ak (Kd.V_afterv (ok := (fun k_ => ((P0_ k_ ∨ P1_0_ k_) ∨ w.heap.size ≤ k_) ∧ k_ ≠ ac)) (by exact aU.out) hg hat); have n5_ := ak (hb); have n6_ := ak (ho); clear ae; clear aa; clear ab; clear ar; clear aU; clear HB; clear bm; have ae := n0_; have aa := n1_; have ab := n2_; have ar := n3_; have aU := n4_; have HB := n5_; have bn := n6_; clear n0_ n1_ n2_ n3_ n4_ n5_ n6_; clear ho hb hg hat; obtain ⟨eu, ev, ew⟩ := Kd.N_slice bn.out; subst ew; have q64 : (a2 : Int) ≤ ((al.length : Int) : Int) := oT (by (with_reducible assumption)); obtain ⟨i064, cP, _, dL, _⟩ := info_parts qJk; have dq := qYd (P := Try.prog) 100 103 .i64 Try.underlying100 cP eu al.length ev a2 (oT (by (with_reducible assumption))) q64 (Kd.N_reads' bn.out).2.1; have cu := Kd.N_take (m := (a2 : Int).toNat) bn.out (by omega); have dM : dH.length = (a2 : Int).toNat := (by rw [cK.out, List.length_take]; omega); rw [← cK.out] at cu; rw [← dM] at cu dq; clear dM cP dL bn; have dN := ak cu; clear cu; replace q64 := eq_true q64))
   go_ret
   exact ⟨_, by rfl, by exact Kd.N_mono dN.out (fun _ hk => hk.1), bl1 HB af⟩
  rw [if_pos c5] at H
  have c5b0 : decide (ad < (l0.length : Int)) = true := decide_eq_true c5
  clear c5
  by_cases c6 : 0 ≤ ad
  rotate_left
  ·rw [if_neg c6] at H
   exact absurd H (by simp)
  rw [if_pos c6] at H
  have c6b0 : decide (0 ≤ ad) = true := decide_eq_true c6
  clear c6
  replace H := Option.bind_eq_some_iff.mp H
  obtain ⟨dg, A70, H⟩ := H
  have A7 := ak A70
  clear A70
  by_cases c8 : dg = true
  rotate_left
  ·replace c8 := Bool.eq_false_iff.mpr c8
   subst c8
   rw [if_neg (show ¬ (false = true) by decide)] at H
   have H' := ak H
   clear H
   try go_wp2
   replace ae := ak (Kd.V_drew ae.out)
   replace aa := ak (Kd.V_drew aa.out)
   replace ab := ak (qZp ab.out)
   replace HB := ak (qQg HB.out)
   have aV : 0 ≤ (ad : Int) := oT (by (with_reducible assumption))
   have aW : ad < (l0.length : Int) := oT (by (with_reducible assumption))
   obtain ⟨an, aJ, aK, cb, av, ay, az, aA⟩ := qWh (Kd.V_reads' ae.out).2.2 ad aV aW
   cases cb
   obtain ⟨cQ, bo, bp, aN⟩ := Kd.V_get ae.out z103 ad aV (by exact aW)
   obtain ⟨bF, bG, rfl, aw, ax⟩ := qXl bp
   have ao := aN 0 _ rfl
   rw [Nat.add_zero] at ao
   replace ao := Option.some.inj (ao.symm.trans av)
   injection ao with hva_ hvn_ hvc_
   rw [hva_] at ax
   rw [hvc_] at aw
   have ag := ak (show Kd.V (Kd.int .i64) 3 _ w.heap.size _ _ ((qQh l0 ad).f0) from Kd.V_mk aw ax)
   clear hva_ hvn_ hvc_ ax aw
   clear aN bo
   have ai := ak aA
   have aX := ak az
   clear aA az
   replace aV := eq_true aV
   replace aW := eq_true aW
   refine qJj (n := 13) (S := fun w' => w'.cell? ⟨ac, 0, none⟩ = some (.slice aH ah.length aI) ∧ w'.cell? ⟨ac, 1, none⟩ = some (.int .i64 am) ∧ w'.cell? (an.add ((ad).toNat * 2)) = some (.slice aJ ((qQh l0 ad).f0).length aK) ∧ w'.cell? ⟨(an.add ((ad).toNat * 2)).block, (an.add ((ad).toNat * 2)).off + 1, none⟩ = some (.int .i64 ((qQh l0 ad).f1))) (ds := []) (ms 13 0) (by kernel_rfl) rfl (by kernel_rfl) ⟨(qZb ab.out 0).trans rfl, (qZb ab.out 1).trans rfl, av, ay⟩ (fun hHeld => ?_); refine qQo spec_l14Put.tab2 spec_l14Put.bits2 (fun HT_ HW_ => ?_)
   generalize wr.drew = w42 at ae aa ab HB ag ai av ay hHeld ⊢
   refine pu 0 9 ?_ (ms 13 1) rfl rfl HT_ (by kernel_rfl) (fun _ _ _ h => h) (by rfl) ?_ ?_ ?_ ?_
   rotate_left
   ·intro w'
    go_simp
    with_reducible rfl
   rotate_left
   ·simp only [SX]
    rfl
   refine pu 1 10 ?_ (ms 13 3) rfl rfl HT_ (by kernel_rfl) (fun _ _ _ h => h) (by rfl) ?_ ?_ ?_ ?_
   rotate_left
   ·intro w'
    go_simp
    with_reducible rfl
   rotate_left
   ·simp only [SX]
    rfl
   refine pu 2 11 ?_ (ms 13 7) rfl rfl HT_ (by kernel_rfl) (fun _ _ _ h => h) (by rfl) ?_ ?_ ?_ ?_
   rotate_left
   ·intro w'
    go_simp
    with_reducible rfl
   rotate_left
   ·simp only [SX]
    rfl
   refine pu 3 12 ?_ (ms 13 15) rfl rfl HT_ (by kernel_rfl) (fun _ _ _ h => h) (by rfl) ?_ ?_ ?_ ?_
   rotate_left
   ·intro w'
    go_simp
    with_reducible rfl
   rotate_left
   ·simp only [SX]
    rfl
   refine pu 4 13 ?_ (ms 13 31) rfl rfl HT_ (by kernel_rfl) (fun _ _ _ h => h) (by rfl) ?_ ?_ ?_ ?_
   rotate_left
   ·intro w'
    go_simp
    with_reducible rfl
   rotate_left
   ·simp only [SX]
    rfl
   refine pu 6 15 ?_ (ms 13 95) rfl rfl HT_ (by kernel_rfl) (fun _ _ _ h => h) (by rfl) ?_ ?_ ?_ ?_
   rotate_left
   ·intro w'
    go_simp
    with_reducible rfl
   rotate_left
   ·simp only [SX]
    rfl
   refine pu 7 16 ?_ (ms 13 223) rfl rfl HT_ (by kernel_rfl) (fun _ _ _ h => h) (by rfl) ?_ ?_ ?_ ?_
   rotate_left
   ·intro w'
    go_simp
    with_reducible rfl
   rotate_left
   ·simp only [SX]
    rfl
   refine pu 8 17 ?_ (ms 13 479) rfl rfl HT_ (by kernel_rfl) (fun _ _ _ h => h) (by rfl) ?_ ?_ ?_ ?_
   rotate_left
   ·intro w'
    go_simp
    with_reducible rfl
   rotate_left
   ·simp only [SX]
    rfl
   refine tk 5 14 ?_ (ms 13 511) rfl rfl HT_ HW_ (by kernel_rfl) (fun _ _ _ h => h) (by rfl) ?_ hHeld ?_ ?_ ?_
   rotate_left
   ·rintro w' ⟨s0, s1, s2, s3⟩
    go_simp
    with_reducible rfl
   rotate_left
   ·simp only [SX]
    rfl
   refine tk 9 18 ?_ (ms 13 1023) rfl rfl HT_ HW_ (by kernel_rfl) (fun _ _ _ h => h) (by rfl) ?_ hHeld ?_ ?_ ?_
   rotate_left
   ·rintro w' ⟨s0, s1, s2, s3⟩
    go_simp
    with_reducible rfl
   rotate_left
   ·simp only [SX]
    rfl
   refine one_ (i := 10) (N := some 19) (ms 13 2047) rfl rfl (qJa HT_.out (by kernel_rfl)) (by decide) (fun K hK => ?_)
   refine qXc Try.func127 (by kernel_rfl) rfl #[.agg #[.slice aH ah.length aI, .int .i64 am], .agg #[.slice aJ ((qQh l0 ad).f0).length aK, .int .i64 ((qQh l0 ad).f1)]] (by rfl) rfl rfl (by (try simp only [List.map_toArray, List.map_cons, List.map_nil]); rfl) ?_
   with_reducible refine (spec_l14Less.calls k1 _ _ ah am _ _ ((qQh l0 ad).f0) ((qQh l0 ad).f1) false _ ?side1 ?side2 ?side3 ?side4 A7.out).mono ?_
   (case side1 => repeat (exact (Kd.V_reads' aa.out).2.2))
   (case side2 => exact (Kd.V_reads' aa.out).2.1)
   (case side3 => repeat (exact (by repeat ((with_reducible exact ai.out)))))
   (case side4 => exact aX.out)
   rintro e w43 ⟨rfl, hb⟩
   have cc := (hb.cell (World.block_lt_of_cell? _ _ (hHeld.2.2.1))).trans (hHeld.2.2.1)
   have cd := (hb.cell (World.block_lt_of_cell? _ _ (hHeld.2.2.2))).trans (hHeld.2.2.2)
   refine ⟨_, rfl, ?_⟩
   replace ae := ak (Kd.V_below (by exact ae.out) hb)
   replace aa := ak (Kd.V_below (by exact aa.out) hb)
   replace ag := ak (Kd.V_below (by exact ag.out) hb)
   replace ab := ak (qZe (bk ab) hb)
   replace ai := ak (Kd.C_below (by repeat ((with_reducible exact ai.out))) hb)
   replace HB := ak (qZd (bl1 HB af) hb)
   (try clear hb)
   (try clear hb2)
   (try clear hk)
   (try clear hi)
   refine hK.out _ _ ⟨(qZb ab.out 0).trans rfl, (qZb ab.out 1).trans rfl, cc, cd⟩ (fun hHeld => ?_)
   clear hK K
   refine qJd (a' := ?_) ?_ ?_
   rotate_left
   ·show Act.put _ (some 19) _ = _
    simp only [SX]
    rfl
   refine pu 11 20 ?_ (ms 13 4095) rfl rfl HT_ (by kernel_rfl) (fun _ _ _ h => h) (by rfl) ?_ ?_ ?_ ?_
   rotate_left
   ·intro w'
    go_simp
    with_reducible rfl
   rotate_left
   ·simp only [SX]
    rfl
   refine pu 12 21 ?_ (ms 13 8191) rfl rfl HT_ (by kernel_rfl) (fun _ _ _ h => h) (by rfl) ?_ ?_ ?_ ?_
   rotate_left
   ·intro w'
    go_simp
    with_reducible rfl
   rotate_left
   ·simp only [SX]
    rfl
   refine qXe (qJg HT_.out (by kernel_rfl)) ?_
   try go_wp2
   go_roundg k1
   case measure => have := HK1.out; omega
   case rel => exact ⟨(wrap64 (ad + 1)), (by rfl), H', ⟨by have := HK1.out; omega⟩, ⟨by exact ae.out⟩, ⟨by exact aa.out⟩, ⟨bk ab⟩, ⟨bl1 HB af⟩⟩
  subst c8
  rw [if_pos rfl] at H
  obtain ⟨bg, ce⟩ : ∃ y_ : List (S103), y_ = (([] : List (S103))) := ⟨_, rfl⟩
  replace H : (if ad ≤ (l0.length : Int) then ((some (l0.take (ad : Int).toNat : List (S103))).bind fun aC => (if bg.length + aC.length < 4398046511104 then ((some (bg ++ aC : List (S103))).bind fun aQ => (if aQ.length < 4398046511104 then ((some (aQ ++ [(⟨ah, am⟩ : S103)] : List (S103))).bind fun aD => ((some (l0.drop (ad : Int).toNat : List (S103))).bind fun ap => (if aD.length + ap.length < 4398046511104 then ((some (aD ++ ap : List (S103))).bind fun aj => (if (aj.length : Int) > a2 then (if 0 ≤ a2 then (if a2 ≤ (aj.length : Int) then (some (aj.take (a2 : Int).toNat)) else (none)) else (none)) else (some aj))) else (none)))) else (none))) else (none))) else (none)) = some r := by (have H2_ := (Option.bind_some _ _).symm.trans H; rw [ce]; with_reducible exact H2_)
  have cR := ak ce
  clear ce
  have c9b0 := eq_true (oT (by (with_reducible assumption)) : 0 ≤ ad)
  by_cases c10 : ad ≤ (l0.length : Int)
  rotate_left
  ·rw [if_neg c10] at H
   exact absurd H (by simp)
  rw [if_pos c10] at H
  have c10b0 := eq_true c10
  have c10b1 : decide (ad ≤ (l0.length : Int)) = true := decide_eq_true c10
  clear c10
  obtain ⟨aC, cf⟩ : ∃ y_ : List (S103), y_ = (l0.take (ad : Int).toNat) := ⟨_, rfl⟩
  replace H : (if bg.length + aC.length < 4398046511104 then ((some (bg ++ aC : List (S103))).bind fun aQ => (if aQ.length < 4398046511104 then ((some (aQ ++ [(⟨ah, am⟩ : S103)] : List (S103))).bind fun aD => ((some (l0.drop (ad : Int).toNat : List (S103))).bind fun ap => (if aD.length + ap.length < 4398046511104 then ((some (aD ++ ap : List (S103))).bind fun aj => (if (aj.length : Int) > a2 then (if 0 ≤ a2 then (if a2 ≤ (aj.length : Int) then (some (aj.take (a2 : Int).toNat)) else (none)) else (none)) else (some aj))) else (none)))) else (none))) else (none)) = some r := by (have H2_ := (Option.bind_some _ _).symm.trans H; rw [cf]; with_reducible exact H2_)
  have bH := ak cf
  clear cf
  by_cases c11 : bg.length + aC.length < 4398046511104
  rotate_left
  ·rw [if_neg c11] at H
   exact absurd H (by simp)
  rw [if_pos c11] at H
  have cS := ak c11
  clear c11
  obtain ⟨aQ, cg⟩ : ∃ y_ : List (S103), y_ = (bg ++ aC) := ⟨_, rfl⟩
  replace H : (if aQ.length < 4398046511104 then ((some (aQ ++ [(⟨ah, am⟩ : S103)] : List (S103))).bind fun aD => ((some (l0.drop (ad : Int).toNat : List (S103))).bind fun ap => (if aD.length + ap.length < 4398046511104 then ((some (aD ++ ap : List (S103))).bind fun aj => (if (aj.length : Int) > a2 then (if 0 ≤ a2 then (if a2 ≤ (aj.length : Int) then (some (aj.take (a2 : Int).toNat)) else (none)) else (none)) else (some aj))) else (none)))) else (none)) = some r := by (have H2_ := (Option.bind_some _ _).symm.trans H; rw [cg]; with_reducible exact H2_)
  have cT := ak cg
  clear cg
  by_cases c12 : aQ.length < 4398046511104
  rotate_left
  ·rw [if_neg c12] at H
   exact absurd H (by simp)
  rw [if_pos c12] at H
  have cU := ak c12
  clear c12
  obtain ⟨aD, ch⟩ : ∃ y_ : List (S103), y_ = (aQ ++ [(⟨ah, am⟩ : S103)]) := ⟨_, rfl⟩
  replace H : ((some (l0.drop (ad : Int).toNat : List (S103))).bind fun ap => (if aD.length + ap.length < 4398046511104 then ((some (aD ++ ap : List (S103))).bind fun aj => (if (aj.length : Int) > a2 then (if 0 ≤ a2 then (if a2 ≤ (aj.length : Int) then (some (aj.take (a2 : Int).toNat)) else (none)) else (none)) else (some aj))) else (none))) = some r := by (have H2_ := (Option.bind_some _ _).symm.trans H; rw [ch]; with_reducible exact H2_)
  have cV := ak ch
  clear ch
  have c13b0 := eq_true (oT (by (with_reducible assumption)) : 0 ≤ ad)
  have c14b0 := eq_true (oT (by (with_reducible assumption)) : ad ≤ (l0.length : Int))
  obtain ⟨ap, ci⟩ : ∃ y_ : List (S103), y_ = (l0.drop (ad : Int).toNat) := ⟨_, rfl⟩
  replace H : (if aD.length + ap.length < 4398046511104 then ((some (aD ++ ap : List (S103))).bind fun aj => (if (aj.length : Int) > a2 then (if 0 ≤ a2 then (if a2 ≤ (aj.length : Int) then (some (aj.take (a2 : Int).toNat)) else (none)) else (none)) else (some aj))) else (none)) = some r := by (have H2_ := (Option.bind_some _ _).symm.trans H; rw [ci]; with_reducible exact H2_)
  have bI := ak ci
  clear ci
  by_cases c15 : aD.length + ap.length < 4398046511104
  rotate_left
  ·rw [if_neg c15] at H
   exact absurd H (by simp)
  rw [if_pos c15] at H
  have cW := ak c15
  clear c15
  obtain ⟨aj, cj⟩ : ∃ y_ : List (S103), y_ = (aD ++ ap) := ⟨_, rfl⟩
  replace H : (if (aj.length : Int) > a2 then (if 0 ≤ a2 then (if a2 ≤ (aj.length : Int) then (some (aj.take (a2 : Int).toNat)) else (none)) else (none)) else (some aj)) = some r := by (have H2_ := (Option.bind_some _ _).symm.trans H; rw [cj]; with_reducible exact H2_)
  have cX := ak cj
  clear cj
  by_cases c16 : (aj.length : Int) > a2
  rotate_left
  ·rw [if_neg c16] at H
   have c16b0 : decide (a2 < (aj.length : Int)) = false := decide_eq_false c16
   clear c16
   obtain rfl := Option.some.inj H
   try go_wp2
   replace ae := ak (Kd.V_drew ae.out)
   replace aa := ak (Kd.V_drew aa.out)
   replace ab := ak (qZp ab.out)
   replace HB := ak (qQg HB.out)
   have aV : 0 ≤ (ad : Int) := oT (by (with_reducible assumption))
   have aW : ad < (l0.length : Int) := oT (by (with_reducible assumption))
   obtain ⟨an, aJ, aK, cb, av, ay, az, aA⟩ := qWh (Kd.V_reads' ae.out).2.2 ad aV aW
   cases cb
   obtain ⟨cQ, bo, bp, aN⟩ := Kd.V_get ae.out z103 ad aV (by exact aW)
   obtain ⟨bF, bG, rfl, aw, ax⟩ := qXl bp
   have ao := aN 0 _ rfl
   rw [Nat.add_zero] at ao
   replace ao := Option.some.inj (ao.symm.trans av)
   injection ao with hva_ hvn_ hvc_
   rw [hva_] at ax
   rw [hvc_] at aw
   have ag := ak (show Kd.V (Kd.int .i64) 3 _ w.heap.size _ _ ((qQh l0 ad).f0) from Kd.V_mk aw ax)
   clear hva_ hvn_ hvc_ ax aw
   clear aN bo
   have ai := ak aA
   have aX := ak az
   clear aA az
   replace aV := eq_true aV
   replace aW := eq_true aW
   refine qJj (n := 13) (S := fun w' => w'.cell? ⟨ac, 0, none⟩ = some (.slice aH ah.length aI) ∧ w'.cell? ⟨ac, 1, none⟩ = some (.int .i64 am) ∧ w'.cell? (an.add ((ad).toNat * 2)) = some (.slice aJ ((qQh l0 ad).f0).length aK) ∧ w'.cell? ⟨(an.add ((ad).toNat * 2)).block, (an.add ((ad).toNat * 2)).off + 1, none⟩ = some (.int .i64 ((qQh l0 ad).f1))) (ds := []) (ms 13 0) (by kernel_rfl) rfl (by kernel_rfl) ⟨(qZb ab.out 0).trans rfl, (qZb ab.out 1).trans rfl, av, ay⟩ (fun hHeld => ?_); refine qQo spec_l14Put.tab2 spec_l14Put.bits2 (fun HT_ HW_ => ?_)
   generalize wr.drew = w31 at ae aa ab HB ag ai av ay hHeld ⊢
   refine pu 0 9 ?_ (ms 13 1) rfl rfl HT_ (by kernel_rfl) (fun _ _ _ h => h) (by rfl) ?_ ?_ ?_ ?_
   rotate_left
   ·intro w'
    go_simp
    with_reducible rfl
   rotate_left
   ·simp only [SX]
    rfl
   refine pu 1 10 ?_ (ms 13 3) rfl rfl HT_ (by kernel_rfl) (fun _ _ _ h => h) (by rfl) ?_ ?_ ?_ ?_
   rotate_left
   ·intro w'
    go_simp
    with_reducible rfl
   rotate_left
   ·simp only [SX]
    rfl
   refine pu 2 11 ?_ (ms 13 7) rfl rfl HT_ (by kernel_rfl) (fun _ _ _ h => h) (by rfl) ?_ ?_ ?_ ?_
   rotate_left
   ·intro w'
    go_simp
    with_reducible rfl
   rotate_left
   ·simp only [SX]
    rfl
   refine pu 3 12 ?_ (ms 13 15) rfl rfl HT_ (by kernel_rfl) (fun _ _ _ h => h) (by rfl) ?_ ?_ ?_ ?_
   rotate_left
   ·intro w'
    go_simp
    with_reducible rfl
   rotate_left
   ·simp only [SX]
    rfl
   refine pu 4 13 ?_ (ms 13 31) rfl rfl HT_ (by kernel_rfl) (fun _ _ _ h => h) (by rfl) ?_ ?_ ?_ ?_
   rotate_left
   ·intro w'
    go_simp
    with_reducible rfl
   rotate_left
   ·simp only [SX]
    rfl
   refine pu 6 15 ?_ (ms 13 95) rfl rfl HT_ (by kernel_rfl) (fun _ _ _ h => h) (by rfl) ?_ ?_ ?_ ?_
   rotate_left
   ·intro w'
    go_simp
    with_reducible rfl
   rotate_left
   ·simp only [SX]
    rfl
   refine pu 7 16 ?_ (ms 13 223) rfl rfl HT_ (by kernel_rfl) (fun _ _ _ h => h) (by rfl) ?_ ?_ ?_ ?_
   rotate_left
   ·intro w'
    go_simp
    with_reducible rfl
   rotate_left
   ·simp only [SX]
    rfl
   refine pu 8 17 ?_ (ms 13 479) rfl rfl HT_ (by kernel_rfl) (fun _ _ _ h => h) (by rfl) ?_ ?_ ?_ ?_
   rotate_left
   ·intro w'
    go_simp
    with_reducible rfl
   rotate_left
   ·simp only [SX]
    rfl
   refine tk 5 14 ?_ (ms 13 511) rfl rfl HT_ HW_ (by kernel_rfl) (fun _ _ _ h => h) (by rfl) ?_ hHeld ?_ ?_ ?_
   rotate_left
   ·rintro w' ⟨s0, s1, s2, s3⟩
    go_simp
    with_reducible rfl
   rotate_left
   ·simp only [SX]
    rfl
   refine tk 9 18 ?_ (ms 13 1023) rfl rfl HT_ HW_ (by kernel_rfl) (fun _ _ _ h => h) (by rfl) ?_ hHeld ?_ ?_ ?_
   rotate_left
   ·rintro w' ⟨s0, s1, s2, s3⟩
    go_simp
    with_reducible rfl
   rotate_left
   ·simp only [SX]
    rfl
   refine one_ (i := 10) (N := some 19) (ms 13 2047) rfl rfl (qJa HT_.out (by kernel_rfl)) (by decide) (fun K hK => ?_)
   refine qXc Try.func127 (by kernel_rfl) rfl #[.agg #[.slice aH ah.length aI, .int .i64 am], .agg #[.slice aJ ((qQh l0 ad).f0).length aK, .int .i64 ((qQh l0 ad).f1)]] (by rfl) rfl rfl (by (try simp only [List.map_toArray, List.map_cons, List.map_nil]); rfl) ?_
   with_reducible refine (spec_l14Less.calls k1 _ _ ah am _ _ ((qQh l0 ad).f0) ((qQh l0 ad).f1) true _ ?side1 ?side2 ?side3 ?side4 A7.out).mono ?_
   (case side1 => repeat (exact (Kd.V_reads' aa.out).2.2))
   (case side2 => exact (Kd.V_reads' aa.out).2.1)
   (case side3 => repeat (exact (by repeat ((with_reducible exact ai.out)))))
   (case side4 => exact aX.out)
   rintro e w32 ⟨rfl, hb⟩
   have cc := (hb.cell (World.block_lt_of_cell? _ _ (hHeld.2.2.1))).trans (hHeld.2.2.1)
   have cd := (hb.cell (World.block_lt_of_cell? _ _ (hHeld.2.2.2))).trans (hHeld.2.2.2)
   refine ⟨_, rfl, ?_⟩
   replace ae := ak (Kd.V_below (by exact ae.out) hb)
   replace aa := ak (Kd.V_below (by exact aa.out) hb)
   replace ag := ak (Kd.V_below (by exact ag.out) hb)
   replace ab := ak (qZe (bk ab) hb)
   replace ai := ak (Kd.C_below (by repeat ((with_reducible exact ai.out))) hb)
   replace HB := ak (qZd (bl1 HB af) hb)
   (try clear hb)
   (try clear hb2)
   (try clear hk)
   (try clear hi)
   refine hK.out _ _ ⟨(qZb ab.out 0).trans rfl, (qZb ab.out 1).trans rfl, cc, cd⟩ (fun hHeld => ?_)
   clear hK K
   refine qJd (a' := ?_) ?_ ?_
   rotate_left
   ·show Act.put _ (some 19) _ = _
    simp only [SX]
    rfl
   refine pu 11 20 ?_ (ms 13 4095) rfl rfl HT_ (by kernel_rfl) (fun _ _ _ h => h) (by rfl) ?_ ?_ ?_ ?_
   rotate_left
   ·intro w'
    go_simp
    with_reducible rfl
   rotate_left
   ·simp only [SX]
    rfl
   refine pu 12 21 ?_ (ms 13 8191) rfl rfl HT_ (by kernel_rfl) (fun _ _ _ h => h) (by rfl) ?_ ?_ ?_ ?_
   rotate_left
   ·intro w'
    go_simp
    with_reducible rfl
   rotate_left
   ·simp only [SX]
    rfl
   refine qXe (qJg HT_.out (by kernel_rfl)) ?_
   try go_wp2_with (first | ((with_reducible refine gate_dst (N := 24) rfl ?_); refine Kd.N_lit k103 _ 103 ?hg (N' := 24) ?hd (xs := ([] : List (S103))) (inner := []) (ok := (fun k_ => ((P0_ k_ ∨ P1_0_ k_) ∨ w.heap.size ≤ k_) ∧ k_ ≠ ac)) (okp := (fun k_ => ((P0_ k_ ∨ P1_0_ k_) ∨ w.heap.size ≤ k_) ∧ k_ ≠ ac)) ?hr ?hp (fun _ hk => hk) ((show ∀ k_, w32.heap.size ≤ k_ → (fun k_ => ((P0_ k_ ∨ P1_0_ k_) ∨ w.heap.size ≤ k_) ∧ k_ ≠ ac) k_ from fun k_ hk => ⟨(.inr (Nat.le_trans (qZc (bl1 HB af)) hk)), Kd.freshB (bk ab) k_ hk⟩) _ (Nat.le_refl _)) (Below.refl _ _) (Nat.le_refl _) (by simp) ?_; (case hd => rfl); (case hg => rfl); (case hr => (go_simp; done)); (case hp => exact (Reps.none _ _)); intro bz w33 bL hb hg_ hnew_; clear hg_ hnew_; (rw [← cR.out] at bL); replace ae := ak (Kd.V_elder' (by exact ae.out) (Kd.N_base bL) hb); replace aa := ak (Kd.V_elder' (by exact aa.out) (Kd.N_base bL) hb); replace ag := ak (Kd.V_elder' (by exact ag.out) (Kd.N_base bL) hb); have bq := ak (Kd.N_lower bL (qZc (bl1 HB af))); replace ab := ak (qZe (bk ab) hb); replace ai := ak (Kd.C_below (by repeat ((with_reducible exact ai.out))) hb); replace HB := ak (qZd (bl1 HB af) hb); clear hb bL; have q35 : (ad : Int) ≤ ((l0.length : Int) : Int) := oT (by (with_reducible assumption)); obtain ⟨i035, cY, _, dO, _⟩ := info_parts qJk; have bJ : l0.length ≤ c0 := (Kd.V_reads' ae.out).2.1; have dP : Kd.F k103 _ _ (some an) l0.length l0 := (Kd.V_at (base := w.heap.size) ae.out).2.2; have dr := qYd (P := Try.prog) 100 103 .i64 Try.underlying100 cY (some an) l0.length c0 ad (oT (by (with_reducible assumption))) q35 bJ; have dt := Kd.F_take (m := (ad : Int).toNat) dP (by omega); have du : aC.length = (ad : Int).toNat := (by rw [bH.out, List.length_take]; omega); rw [← bH.out] at dt; rw [← du] at dr; have au := ak (show Kd.V k103 103 _ w.heap.size _ (.slice (some an) aC.length c0) aC from Kd.V_mk (by omega) dt); have dQ := ak (show aC.length ≤ c0 from by omega); clear dt dP bJ cY dO; have eO := ak du; clear du; replace q35 := eq_true q35) | ((with_reducible refine gate_builtin (b := .append) (xs := #[.tmp 24, .tmp 27]) rfl ?_); at_builtin; refine Kd.N_append_rows k103 (w0 := w) w.heap.size rfl (.tmp 24) (.tmp 27) 100 103 (.agg #[(.slice none 0 0), (.int .i64 0)]) 32 rfl Try.underlying100 qJk rfl (by decide) (by omega) bz bg aC _ _ _ (fun k_ => ((P0_ k_ ∨ P1_0_ k_) ∨ w.heap.size ≤ k_) ∧ k_ ≠ ac) (fun k_ => ((fun k_ => ((P0_ k_ ∨ P1_0_ k_) ∨ w.heap.size ≤ k_) ∧ k_ ≠ ac)) k_ ∧ some k_ ≠ (bz : Value).ownBlock) rfl rfl ?aO ?aR (fun _ hk => hk) ?aF ?aB ?aS ?aL ?_; (case aR => exact (by skip; exact Kd.V_F (Kd.V_mono (ok' := (fun k_ => ((fun k_ => ((P0_ k_ ∨ P1_0_ k_) ∨ w.heap.size ≤ k_) ∧ k_ ≠ ac)) k_ ∧ some k_ ≠ (bz : Value).ownBlock)) (au.out) (fun k_ hk => ⟨⟨hk.1.1, hk.1.2⟩, hk.2⟩)))); (case aB => exact (bl1 HB af)); (case aF => exact (fun k_ hk => ⟨(.inr (Nat.le_trans (qZc (bl1 HB af)) hk)), Kd.freshB (bk ab) k_ hk⟩)); (case aO => exact (by exact bq.out)); (case aS => exact (qZc (bl1 HB af))); (case aL => have := cS.out; omega); intro bv w36 ho hb hg hat; rw [← cT.out] at ho; have n0_ := ak (Kd.V_afterv (ok := (fun k_ => ((P0_ k_ ∨ P1_0_ k_) ∨ w.heap.size ≤ k_) ∧ k_ ≠ ac)) (by exact ae.out) hg hat); have n1_ := ak (Kd.V_afterv (ok := (fun k_ => ((P0_ k_ ∨ P1_0_ k_) ∨ w.heap.size ≤ k_) ∧ k_ ≠ ac)) (by exact aa.out) hg hat); have n2_ := ak (qZj (bk ab) hg (Kd.N_away bq.out (fun _ hk => hk.2))); have n3_ := ak (Kd.V_afterv (ok := (fun k_ => ((P0_ k_ ∨ P1_0_ k_) ∨ w.heap.size ≤ k_) ∧ k_ ≠ ac)) (by exact ag.out) hg hat); have n4_ := ak (Kd.V_afterv (ok := (fun k_ => ((P0_ k_ ∨ P1_0_ k_) ∨ w.heap.size ≤ k_) ∧ k_ ≠ ac)) (by exact au.out) hg hat); have n5_ := ak (hb); have n6_ := ak (ho); clear ae; clear aa; clear ab; clear ag; clear au; clear HB; clear bq; have ae := n0_; have aa := n1_; have ab := n2_; have ag := n3_; have au := n4_; have HB := n5_; have br := n6_; clear n0_ n1_ n2_ n3_ n4_ n5_ n6_; clear ho hb hg hat; have ei := bc w36 ab 0 (.slice aH ah.length aI) rfl; have ej := bc w36 ab 1 (.int .i64 am) rfl; have ek := fz ab 0; have el := fz ab 1) | ((with_reducible refine gate_builtin (b := .append) (xs := #[.tmp 29, .tmp 31]) rfl ?_); at_builtin; refine Kd.N_append k103 (w0 := w) w.heap.size rfl (.tmp 29) (.tmp 31) 100 103 (.agg #[(.slice none 0 0), (.int .i64 0)]) 32 rfl Try.underlying100 qJk rfl (by decide) (by omega) bv aQ (⟨ah, am⟩ : S103) [.slice aH ah.length aI, .int .i64 am] (fun k_ => ((P0_ k_ ∨ P1_0_ k_) ∨ w.heap.size ≤ k_) ∧ k_ ≠ ac) (fun k_ => ((fun k_ => ((P0_ k_ ∨ P1_0_ k_) ∨ w.heap.size ≤ k_) ∧ k_ ≠ ac)) k_ ∧ some k_ ≠ (bv : Value).ownBlock) rfl rfl ?aP (fun _ hk => hk) ?aF ?aO ?aB ?aS ?aL ?_; (case aP => exact (qYf _ _ (⟨ah, am⟩ : S103) (Kd.V_reads' (Kd.V_mono (ok' := (fun k_ => ((fun k_ => ((P0_ k_ ∨ P1_0_ k_) ∨ w.heap.size ≤ k_) ∧ k_ ≠ ac)) k_ ∧ some k_ ≠ (bv : Value).ownBlock)) (aa.out) (fun k_ hk => ⟨⟨hk.1.1, hk.1.2⟩, hk.2⟩))).2.1 (Kd.V_F (Kd.V_mono (ok' := (fun k_ => ((fun k_ => ((P0_ k_ ∨ P1_0_ k_) ∨ w.heap.size ≤ k_) ∧ k_ ≠ ac)) k_ ∧ some k_ ≠ (bv : Value).ownBlock)) (aa.out) (fun k_ hk => ⟨⟨hk.1.1, hk.1.2⟩, hk.2⟩))))); (case aB => exact (bl1 HB af)); (case aF => exact (fun k_ hk => ⟨(.inr (Nat.le_trans (qZc (bl1 HB af)) hk)), Kd.freshB (bk ab) k_ hk⟩)); (case aO => exact (by exact br.out)); (case aS => exact (qZc (bl1 HB af))); (case aL => have := cU.out; omega); intro bA w38 ho hb hg hat; rw [← cV.out] at ho; have n0_ := ak (Kd.V_afterv (ok := (fun k_ => ((P0_ k_ ∨ P1_0_ k_) ∨ w.heap.size ≤ k_) ∧ k_ ≠ ac)) (by exact ae.out) hg hat); have n1_ := ak (Kd.V_afterv (ok := (fun k_ => ((P0_ k_ ∨ P1_0_ k_) ∨ w.heap.size ≤ k_) ∧ k_ ≠ ac)) (by exact aa.out) hg hat); have n2_ := ak (qZj (bk ab) hg (Kd.N_away br.out (fun _ hk => hk.2))); have n3_ := ak (Kd.V_afterv (ok := (fun k_ => ((P0_ k_ ∨ P1_0_ k_) ∨ w.heap.size ≤ k_) ∧ k_ ≠ ac)) (by exact ag.out) hg hat); have n4_ := ak (Kd.V_afterv (ok := (fun k_ => ((P0_ k_ ∨ P1_0_ k_) ∨ w.heap.size ≤ k_) ∧ k_ ≠ ac)) (by exact au.out) hg hat); have n5_ := ak (hb); have n6_ := ak (ho); clear ae; clear aa; clear ab; clear ag; clear au; clear HB; clear br; have ae := n0_; have aa := n1_; have ab := n2_; have ag := n3_; have au := n4_; have HB := n5_; have bs := n6_; clear n0_ n1_ n2_ n3_ n4_ n5_ n6_; clear ho hb hg hat; have q39 : (ad : Int) ≤ ((l0.length : Int) : Int) := oT (by (with_reducible assumption)); obtain ⟨i039, cZ, _, da, _⟩ := info_parts qJk; have be : l0.length ≤ c0 := (Kd.V_reads' ae.out).2.1; have dR : Kd.F k103 _ _ (some an) l0.length l0 := (Kd.V_at (base := w.heap.size) ae.out).2.2; have ex : (0 : Int) ≤ (ad : Int) := oT (by (with_reducible assumption)); have dv := qYe (P := Try.prog) 100 103 .i64 Try.underlying100 cZ 2 da (some an) l0.length c0 ad ex q39; have ck := Kd.F_cut (m := (ad : Int).toNat) (c := c0) dR (by omega) be; obtain ⟨A39, cv⟩ : ∃ A1, A1 = (if c0 = (ad : Int).toNat then (some an) else ((some an) : Option Addr).map (·.add ((ad : Int).toNat * 2))) := ⟨_, rfl⟩; obtain ⟨c39, cw⟩ : ∃ c1, c1 = c0 - (ad : Int).toNat := ⟨_, rfl⟩; have cl : ap.length = l0.length - (ad : Int).toNat := (by rw [bI.out, List.length_drop] <;> omega); rw [show (l0).drop (ad : Int).toNat = ap from bI.out.symm] at ck; replace ck : Kd.F k103 _ _ A39 ap.length ap := (by rw [cv]; exact ck); rw [← cl, ← cv, ← cw] at dv; have aY := ak (show Kd.V k103 103 _ w.heap.size _ (.slice A39 ap.length c39) ap from Kd.V_mk (by rw [cl, cw]; exact Nat.sub_le_sub_right be _) ck); have dS := ak (show ap.length ≤ c39 from by rw [cl, cw]; exact Nat.sub_le_sub_right be _); clear ck dR be cZ da cw; have eP := ak cl; have eQ := ak cv; clear cl cv; replace q39 := eq_true q39) | ((with_reducible refine gate_builtin (b := .append) (xs := #[.tmp 33, .tmp 36]) rfl ?_); at_builtin; refine Kd.N_append_rows k103 (w0 := w) w.heap.size rfl (.tmp 33) (.tmp 36) 100 103 (.agg #[(.slice none 0 0), (.int .i64 0)]) 32 rfl Try.underlying100 qJk rfl (by decide) (by omega) bA aD ap _ _ _ (fun k_ => ((P0_ k_ ∨ P1_0_ k_) ∨ w.heap.size ≤ k_) ∧ k_ ≠ ac) (fun k_ => ((fun k_ => ((P0_ k_ ∨ P1_0_ k_) ∨ w.heap.size ≤ k_) ∧ k_ ≠ ac)) k_ ∧ some k_ ≠ (bA : Value).ownBlock) rfl rfl ?aO ?aR (fun _ hk => hk) ?aF ?aB ?aS ?aL ?_; (case aR => exact (by skip; exact Kd.V_F (Kd.V_mono (ok' := (fun k_ => ((fun k_ => ((P0_ k_ ∨ P1_0_ k_) ∨ w.heap.size ≤ k_) ∧ k_ ≠ ac)) k_ ∧ some k_ ≠ (bA : Value).ownBlock)) (aY.out) (fun k_ hk => ⟨⟨hk.1.1, hk.1.2⟩, hk.2⟩)))); (case aB => exact (bl1 HB af)); (case aF => exact (fun k_ hk => ⟨(.inr (Nat.le_trans (qZc (bl1 HB af)) hk)), Kd.freshB (bk ab) k_ hk⟩)); (case aO => exact (by exact bs.out)); (case aS => exact (qZc (bl1 HB af))); (case aL => have := cW.out; omega); intro ey w40 ho hb hg hat; rw [← cX.out] at ho; have n0_ := ak (Kd.V_afterv (ok := (fun k_ => ((P0_ k_ ∨ P1_0_ k_) ∨ w.heap.size ≤ k_) ∧ k_ ≠ ac)) (by exact ae.out) hg hat); have n1_ := ak (Kd.V_afterv (ok := (fun k_ => ((P0_ k_ ∨ P1_0_ k_) ∨ w.heap.size ≤ k_) ∧ k_ ≠ ac)) (by exact aa.out) hg hat); have n2_ := ak (qZj (bk ab) hg (Kd.N_away bs.out (fun _ hk => hk.2))); have n3_ := ak (Kd.V_afterv (ok := (fun k_ => ((P0_ k_ ∨ P1_0_ k_) ∨ w.heap.size ≤ k_) ∧ k_ ≠ ac)) (by exact ag.out) hg hat); have n4_ := ak (Kd.V_afterv (ok := (fun k_ => ((P0_ k_ ∨ P1_0_ k_) ∨ w.heap.size ≤ k_) ∧ k_ ≠ ac)) (by exact au.out) hg hat); have n5_ := ak (Kd.V_afterv (ok := (fun k_ => ((P0_ k_ ∨ P1_0_ k_) ∨ w.heap.size ≤ k_) ∧ k_ ≠ ac)) (by exact aY.out) hg hat); have n6_ := ak (hb); have n7_ := ak (ho); clear ae; clear aa; clear ab; clear ag; clear au; clear aY; clear HB; clear bs; have ae := n0_; have aa := n1_; have ab := n2_; have ag := n3_; have au := n4_; have aY := n5_; have HB := n6_; have bt := n7_; clear n0_ n1_ n2_ n3_ n4_ n5_ n6_ n7_; clear ho hb hg hat; obtain ⟨eR, eS, ez⟩ := Kd.N_slice bt.out; subst ez))
   go_ret
   exact ⟨_, by rfl, by exact Kd.N_mono bt.out (fun _ hk => hk.1), bl1 HB af⟩
  rw [if_pos c16] at H
  have c16b0 : decide (a2 < (aj.length : Int)) = true := decide_eq_true c16
  clear c16
  by_cases c17 : 0 ≤ a2
  rotate_left
  ·rw [if_neg c17] at H
   exact absurd H (by simp)
  rw [if_pos c17] at H
  have c17b0 := eq_true c17
  have c17b1 : decide (0 ≤ a2) = true := decide_eq_true c17
  clear c17
  by_cases c18 : a2 ≤ (aj.length : Int)
  rotate_left
  ·rw [if_neg c18] at H
   exact absurd H (by simp)
  rw [if_pos c18] at H
  have c18b0 := eq_true c18
  have c18b1 : decide (a2 ≤ (aj.length : Int)) = true := decide_eq_true c18
  clear c18
  obtain ⟨dT, cm⟩ : ∃ y_ : List (S103), y_ = (aj.take (a2 : Int).toNat) := ⟨_, rfl⟩
  replace H : (some dT) = some r := by (rw [cm]; with_reducible exact H)
  have db := ak cm
  clear cm
  obtain rfl := Option.some.inj H
  try go_wp2
  replace ae := ak (Kd.V_drew ae.out)
  replace aa := ak (Kd.V_drew aa.out)
  replace ab := ak (qZp ab.out)
  replace HB := ak (qQg HB.out)
  have aV : 0 ≤ (ad : Int) := oT (by (with_reducible assumption))
  have aW : ad < (l0.length : Int) := oT (by (with_reducible assumption))
  obtain ⟨an, aJ, aK, cb, av, ay, az, aA⟩ := qWh (Kd.V_reads' ae.out).2.2 ad aV aW
  cases cb
  obtain ⟨cQ, bo, bp, aN⟩ := Kd.V_get ae.out z103 ad aV (by exact aW)
  obtain ⟨bF, bG, rfl, aw, ax⟩ := qXl bp
  have ao := aN 0 _ rfl
  rw [Nat.add_zero] at ao
  replace ao := Option.some.inj (ao.symm.trans av)
  injection ao with hva_ hvn_ hvc_
  rw [hva_] at ax
  rw [hvc_] at aw
  have ag := ak (show Kd.V (Kd.int .i64) 3 _ w.heap.size _ _ ((qQh l0 ad).f0) from Kd.V_mk aw ax)
  clear hva_ hvn_ hvc_ ax aw
  clear aN bo
  have ai := ak aA
  have aX := ak az
  clear aA az
  replace aV := eq_true aV
  replace aW := eq_true aW
  refine qJj (n := 13) (S := fun w' => w'.cell? ⟨ac, 0, none⟩ = some (.slice aH ah.length aI) ∧ w'.cell? ⟨ac, 1, none⟩ = some (.int .i64 am) ∧ w'.cell? (an.add ((ad).toNat * 2)) = some (.slice aJ ((qQh l0 ad).f0).length aK) ∧ w'.cell? ⟨(an.add ((ad).toNat * 2)).block, (an.add ((ad).toNat * 2)).off + 1, none⟩ = some (.int .i64 ((qQh l0 ad).f1))) (ds := []) (ms 13 0) (by kernel_rfl) rfl (by kernel_rfl) ⟨(qZb ab.out 0).trans rfl, (qZb ab.out 1).trans rfl, av, ay⟩ (fun hHeld => ?_); refine qQo spec_l14Put.tab2 spec_l14Put.bits2 (fun HT_ HW_ => ?_)
  generalize wr.drew = w19 at ae aa ab HB ag ai av ay hHeld ⊢
  refine pu 0 9 ?_ (ms 13 1) rfl rfl HT_ (by kernel_rfl) (fun _ _ _ h => h) (by rfl) ?_ ?_ ?_ ?_
  rotate_left
  ·intro w'
   go_simp
   with_reducible rfl
  rotate_left
  ·simp only [SX]
   rfl
  refine pu 1 10 ?_ (ms 13 3) rfl rfl HT_ (by kernel_rfl) (fun _ _ _ h => h) (by rfl) ?_ ?_ ?_ ?_
  rotate_left
  ·intro w'
   go_simp
   with_reducible rfl
  rotate_left
  ·simp only [SX]
   rfl
  refine pu 2 11 ?_ (ms 13 7) rfl rfl HT_ (by kernel_rfl) (fun _ _ _ h => h) (by rfl) ?_ ?_ ?_ ?_
  rotate_left
  ·intro w'
   go_simp
   with_reducible rfl
  rotate_left
  ·simp only [SX]
   rfl
  refine pu 3 12 ?_ (ms 13 15) rfl rfl HT_ (by kernel_rfl) (fun _ _ _ h => h) (by rfl) ?_ ?_ ?_ ?_
  rotate_left
  ·intro w'
   go_simp
   with_reducible rfl
  rotate_left
  ·simp only [SX]
   rfl
  refine pu 4 13 ?_ (ms 13 31) rfl rfl HT_ (by kernel_rfl) (fun _ _ _ h => h) (by rfl) ?_ ?_ ?_ ?_
  rotate_left
  ·intro w'
   go_simp
   with_reducible rfl
  rotate_left
  ·simp only [SX]
   rfl
  refine pu 6 15 ?_ (ms 13 95) rfl rfl HT_ (by kernel_rfl) (fun _ _ _ h => h) (by rfl) ?_ ?_ ?_ ?_
  rotate_left
  ·intro w'
   go_simp
   with_reducible rfl
  rotate_left
  ·simp only [SX]
   rfl
  refine pu 7 16 ?_ (ms 13 223) rfl rfl HT_ (by kernel_rfl) (fun _ _ _ h => h) (by rfl) ?_ ?_ ?_ ?_
  rotate_left
  ·intro w'
   go_simp
   with_reducible rfl
  rotate_left
  ·simp only [SX]
   rfl
  refine pu 8 17 ?_ (ms 13 479) rfl rfl HT_ (by kernel_rfl) (fun _ _ _ h => h) (by rfl) ?_ ?_ ?_ ?_
  rotate_left
  ·intro w'
   go_simp
   with_reducible rfl
  rotate_left
  ·simp only [SX]
   rfl
  refine tk 5 14 ?_ (ms 13 511) rfl rfl HT_ HW_ (by kernel_rfl) (fun _ _ _ h => h) (by rfl) ?_ hHeld ?_ ?_ ?_
  rotate_left
  ·rintro w' ⟨s0, s1, s2, s3⟩
   go_simp
   with_reducible rfl
  rotate_left
  ·simp only [SX]
   rfl
  refine tk 9 18 ?_ (ms 13 1023) rfl rfl HT_ HW_ (by kernel_rfl) (fun _ _ _ h => h) (by rfl) ?_ hHeld ?_ ?_ ?_
  rotate_left
  ·rintro w' ⟨s0, s1, s2, s3⟩
   go_simp
   with_reducible rfl
  rotate_left
  ·simp only [SX]
   rfl
  refine one_ (i := 10) (N := some 19) (ms 13 2047) rfl rfl (qJa HT_.out (by kernel_rfl)) (by decide) (fun K hK => ?_)
  refine qXc Try.func127 (by kernel_rfl) rfl #[.agg #[.slice aH ah.length aI, .int .i64 am], .agg #[.slice aJ ((qQh l0 ad).f0).length aK, .int .i64 ((qQh l0 ad).f1)]] (by rfl) rfl rfl (by (try simp only [List.map_toArray, List.map_cons, List.map_nil]); rfl) ?_
  with_reducible refine (spec_l14Less.calls k1 _ _ ah am _ _ ((qQh l0 ad).f0) ((qQh l0 ad).f1) true _ ?side1 ?side2 ?side3 ?side4 A7.out).mono ?_
  (case side1 => repeat (exact (Kd.V_reads' aa.out).2.2))
  (case side2 => exact (Kd.V_reads' aa.out).2.1)
  (case side3 => repeat (exact (by repeat ((with_reducible exact ai.out)))))
  (case side4 => exact aX.out)
  rintro e w20 ⟨rfl, hb⟩
  have cc := (hb.cell (World.block_lt_of_cell? _ _ (hHeld.2.2.1))).trans (hHeld.2.2.1)
  have cd := (hb.cell (World.block_lt_of_cell? _ _ (hHeld.2.2.2))).trans (hHeld.2.2.2)
  refine ⟨_, rfl, ?_⟩
  replace ae := ak (Kd.V_below (by exact ae.out) hb)
  replace aa := ak (Kd.V_below (by exact aa.out) hb)
  replace ag := ak (Kd.V_below (by exact ag.out) hb)
  replace ab := ak (qZe (bk ab) hb)
  replace ai := ak (Kd.C_below (by repeat ((with_reducible exact ai.out))) hb)
  replace HB := ak (qZd (bl1 HB af) hb)
  (try clear hb)
  (try clear hb2)
  (try clear hk)
  (try clear hi)
  refine hK.out _ _ ⟨(qZb ab.out 0).trans rfl, (qZb ab.out 1).trans rfl, cc, cd⟩ (fun hHeld => ?_)
  clear hK K
  refine qJd (a' := ?_) ?_ ?_
  rotate_left
  ·show Act.put _ (some 19) _ = _
   simp only [SX]
   rfl
  refine pu 11 20 ?_ (ms 13 4095) rfl rfl HT_ (by kernel_rfl) (fun _ _ _ h => h) (by rfl) ?_ ?_ ?_ ?_
  rotate_left
  ·intro w'
   go_simp
   with_reducible rfl
  rotate_left
  ·simp only [SX]
   rfl
  refine pu 12 21 ?_ (ms 13 8191) rfl rfl HT_ (by kernel_rfl) (fun _ _ _ h => h) (by rfl) ?_ ?_ ?_ ?_
  rotate_left
  ·intro w'
   go_simp
   with_reducible rfl
  rotate_left
  ·simp only [SX]
   rfl
  refine qXe (qJg HT_.out (by kernel_rfl)) ?_
  try go_wp2_with (first | ((with_reducible refine gate_dst (N := 24) rfl ?_); refine Kd.N_lit k103 _ 103 ?hg (N' := 24) ?hd (xs := ([] : List (S103))) (inner := []) (ok := (fun k_ => ((P0_ k_ ∨ P1_0_ k_) ∨ w.heap.size ≤ k_) ∧ k_ ≠ ac)) (okp := (fun k_ => ((P0_ k_ ∨ P1_0_ k_) ∨ w.heap.size ≤ k_) ∧ k_ ≠ ac)) ?hr ?hp (fun _ hk => hk) ((show ∀ k_, w20.heap.size ≤ k_ → (fun k_ => ((P0_ k_ ∨ P1_0_ k_) ∨ w.heap.size ≤ k_) ∧ k_ ≠ ac) k_ from fun k_ hk => ⟨(.inr (Nat.le_trans (qZc (bl1 HB af)) hk)), Kd.freshB (bk ab) k_ hk⟩) _ (Nat.le_refl _)) (Below.refl _ _) (Nat.le_refl _) (by simp) ?_; (case hd => rfl); (case hg => rfl); (case hr => (go_simp; done)); (case hp => exact (Reps.none _ _)); intro bz w21 bM hb hg_ hnew_; clear hg_ hnew_; (rw [← cR.out] at bM); replace ae := ak (Kd.V_elder' (by exact ae.out) (Kd.N_base bM) hb); replace aa := ak (Kd.V_elder' (by exact aa.out) (Kd.N_base bM) hb); replace ag := ak (Kd.V_elder' (by exact ag.out) (Kd.N_base bM) hb); have bq := ak (Kd.N_lower bM (qZc (bl1 HB af))); replace ab := ak (qZe (bk ab) hb); replace ai := ak (Kd.C_below (by repeat ((with_reducible exact ai.out))) hb); replace HB := ak (qZd (bl1 HB af) hb); clear hb bM; have q23 : (ad : Int) ≤ ((l0.length : Int) : Int) := oT (by (with_reducible assumption)); obtain ⟨i023, dc, _, dU, _⟩ := info_parts qJk; have bK : l0.length ≤ c0 := (Kd.V_reads' ae.out).2.1; have dV : Kd.F k103 _ _ (some an) l0.length l0 := (Kd.V_at (base := w.heap.size) ae.out).2.2; have dw := qYd (P := Try.prog) 100 103 .i64 Try.underlying100 dc (some an) l0.length c0 ad (oT (by (with_reducible assumption))) q23 bK; have dx := Kd.F_take (m := (ad : Int).toNat) dV (by omega); have dy : aC.length = (ad : Int).toNat := (by rw [bH.out, List.length_take]; omega); rw [← bH.out] at dx; rw [← dy] at dw; have au := ak (show Kd.V k103 103 _ w.heap.size _ (.slice (some an) aC.length c0) aC from Kd.V_mk (by omega) dx); have dQ := ak (show aC.length ≤ c0 from by omega); clear dx dV bK dc dU; have eT := ak dy; clear dy; replace q23 := eq_true q23) | ((with_reducible refine gate_builtin (b := .append) (xs := #[.tmp 24, .tmp 27]) rfl ?_); at_builtin; refine Kd.N_append_rows k103 (w0 := w) w.heap.size rfl (.tmp 24) (.tmp 27) 100 103 (.agg #[(.slice none 0 0), (.int .i64 0)]) 32 rfl Try.underlying100 qJk rfl (by decide) (by omega) bz bg aC _ _ _ (fun k_ => ((P0_ k_ ∨ P1_0_ k_) ∨ w.heap.size ≤ k_) ∧ k_ ≠ ac) (fun k_ => ((fun k_ => ((P0_ k_ ∨ P1_0_ k_) ∨ w.heap.size ≤ k_) ∧ k_ ≠ ac)) k_ ∧ some k_ ≠ (bz : Value).ownBlock) rfl rfl ?aO ?aR (fun _ hk => hk) ?aF ?aB ?aS ?aL ?_; (case aR => exact (by skip; exact Kd.V_F (Kd.V_mono (ok' := (fun k_ => ((fun k_ => ((P0_ k_ ∨ P1_0_ k_) ∨ w.heap.size ≤ k_) ∧ k_ ≠ ac)) k_ ∧ some k_ ≠ (bz : Value).ownBlock)) (au.out) (fun k_ hk => ⟨⟨hk.1.1, hk.1.2⟩, hk.2⟩)))); (case aB => exact (bl1 HB af)); (case aF => exact (fun k_ hk => ⟨(.inr (Nat.le_trans (qZc (bl1 HB af)) hk)), Kd.freshB (bk ab) k_ hk⟩)); (case aO => exact (by exact bq.out)); (case aS => exact (qZc (bl1 HB af))); (case aL => have := cS.out; omega); intro bv w24 ho hb hg hat; rw [← cT.out] at ho; have n0_ := ak (Kd.V_afterv (ok := (fun k_ => ((P0_ k_ ∨ P1_0_ k_) ∨ w.heap.size ≤ k_) ∧ k_ ≠ ac)) (by exact ae.out) hg hat); have n1_ := ak (Kd.V_afterv (ok := (fun k_ => ((P0_ k_ ∨ P1_0_ k_) ∨ w.heap.size ≤ k_) ∧ k_ ≠ ac)) (by exact aa.out) hg hat); have n2_ := ak (qZj (bk ab) hg (Kd.N_away bq.out (fun _ hk => hk.2))); have n3_ := ak (Kd.V_afterv (ok := (fun k_ => ((P0_ k_ ∨ P1_0_ k_) ∨ w.heap.size ≤ k_) ∧ k_ ≠ ac)) (by exact ag.out) hg hat); have n4_ := ak (Kd.V_afterv (ok := (fun k_ => ((P0_ k_ ∨ P1_0_ k_) ∨ w.heap.size ≤ k_) ∧ k_ ≠ ac)) (by exact au.out) hg hat); have n5_ := ak (hb); have n6_ := ak (ho); clear ae; clear aa; clear ab; clear ag; clear au; clear HB; clear bq; have ae := n0_; have aa := n1_; have ab := n2_; have ag := n3_; have au := n4_; have HB := n5_; have br := n6_; clear n0_ n1_ n2_ n3_ n4_ n5_ n6_; clear ho hb hg hat; have em := bc w24 ab 0 (.slice aH ah.length aI) rfl; have en := bc w24 ab 1 (.int .i64 am) rfl; have eo := fz ab 0; have ep := fz ab 1) | ((with_reducible refine gate_builtin (b := .append) (xs := #[.tmp 29, .tmp 31]) rfl ?_); at_builtin; refine Kd.N_append k103 (w0 := w) w.heap.size rfl (.tmp 29) (.tmp 31) 100 103 (.agg #[(.slice none 0 0), (.int .i64 0)]) 32 rfl Try.underlying100 qJk rfl (by decide) (by omega) bv aQ (⟨ah, am⟩ : S103) [.slice aH ah.length aI, .int .i64 am] (fun k_ => ((P0_ k_ ∨ P1_0_ k_) ∨ w.heap.size ≤ k_) ∧ k_ ≠ ac) (fun k_ => ((fun k_ => ((P0_ k_ ∨ P1_0_ k_) ∨ w.heap.size ≤ k_) ∧ k_ ≠ ac)) k_ ∧ some k_ ≠ (bv : Value).ownBlock) rfl rfl ?aP (fun _ hk => hk) ?aF ?aO ?aB ?aS ?aL ?_; (case aP => exact (qYf _ _ (⟨ah, am⟩ : S103) (Kd.V_reads' (Kd.V_mono (ok' := (fun k_ => ((fun k_ => ((P0_ k_ ∨ P1_0_ k_) ∨ w.heap.size ≤ k_) ∧ k_ ≠ ac)) k_ ∧ some k_ ≠ (bv : Value).ownBlock)) (aa.out) (fun k_ hk => ⟨⟨hk.1.1, hk.1.2⟩, hk.2⟩))).2.1 (Kd.V_F (Kd.V_mono (ok' := (fun k_ => ((fun k_ => ((P0_ k_ ∨ P1_0_ k_) ∨ w.heap.size ≤ k_) ∧ k_ ≠ ac)) k_ ∧ some k_ ≠ (bv : Value).ownBlock)) (aa.out) (fun k_ hk => ⟨⟨hk.1.1, hk.1.2⟩, hk.2⟩))))); (case aB => exact (bl1 HB af)); (case aF => exact (fun k_ hk => ⟨(.inr (Nat.le_trans (qZc (bl1 HB af)) hk)), Kd.freshB (bk ab) k_ hk⟩)); (case aO => exact (by exact br.out)); (case aS => exact (qZc (bl1 HB af))); (case aL => have := cU.out; omega); intro bA w26 ho hb hg hat; rw [← cV.out] at ho; have n0_ := ak (Kd.V_afterv (ok := (fun k_ => ((P0_ k_ ∨ P1_0_ k_) ∨ w.heap.size ≤ k_) ∧ k_ ≠ ac)) (by exact ae.out) hg hat); have n1_ := ak (Kd.V_afterv (ok := (fun k_ => ((P0_ k_ ∨ P1_0_ k_) ∨ w.heap.size ≤ k_) ∧ k_ ≠ ac)) (by exact aa.out) hg hat); have n2_ := ak (qZj (bk ab) hg (Kd.N_away br.out (fun _ hk => hk.2))); have n3_ := ak (Kd.V_afterv (ok := (fun k_ => ((P0_ k_ ∨ P1_0_ k_) ∨ w.heap.size ≤ k_) ∧ k_ ≠ ac)) (by exact ag.out) hg hat); have n4_ := ak (Kd.V_afterv (ok := (fun k_ => ((P0_ k_ ∨ P1_0_ k_) ∨ w.heap.size ≤ k_) ∧ k_ ≠ ac)) (by exact au.out) hg hat); have n5_ := ak (hb); have n6_ := ak (ho); clear ae; clear aa; clear ab; clear ag; clear au; clear HB; clear br; have ae := n0_; have aa := n1_; have ab := n2_; have ag := n3_; have au := n4_; have HB := n5_; have bs := n6_; clear n0_ n1_ n2_ n3_ n4_ n5_ n6_; clear ho hb hg hat; have q27 : (ad : Int) ≤ ((l0.length : Int) : Int) := oT (by (with_reducible assumption)); obtain ⟨i027, dd, _, de, _⟩ := info_parts qJk; have bf : l0.length ≤ c0 := (Kd.V_reads' ae.out).2.1; have dW : Kd.F k103 _ _ (some an) l0.length l0 := (Kd.V_at (base := w.heap.size) ae.out).2.2; have eA : (0 : Int) ≤ (ad : Int) := oT (by (with_reducible assumption)); have dz := qYe (P := Try.prog) 100 103 .i64 Try.underlying100 dd 2 de (some an) l0.length c0 ad eA q27; have cn := Kd.F_cut (m := (ad : Int).toNat) (c := c0) dW (by omega) bf; obtain ⟨A27, cx⟩ : ∃ A1, A1 = (if c0 = (ad : Int).toNat then (some an) else ((some an) : Option Addr).map (·.add ((ad : Int).toNat * 2))) := ⟨_, rfl⟩; obtain ⟨c27, cy⟩ : ∃ c1, c1 = c0 - (ad : Int).toNat := ⟨_, rfl⟩; have co : ap.length = l0.length - (ad : Int).toNat := (by rw [bI.out, List.length_drop] <;> omega); rw [show (l0).drop (ad : Int).toNat = ap from bI.out.symm] at cn; replace cn : Kd.F k103 _ _ A27 ap.length ap := (by rw [cx]; exact cn); rw [← co, ← cx, ← cy] at dz; have aY := ak (show Kd.V k103 103 _ w.heap.size _ (.slice A27 ap.length c27) ap from Kd.V_mk (by rw [co, cy]; exact Nat.sub_le_sub_right bf _) cn); have dS := ak (show ap.length ≤ c27 from by rw [co, cy]; exact Nat.sub_le_sub_right bf _); clear cn dW bf dd de cy; have eU := ak co; have eV := ak cx; clear co cx; replace q27 := eq_true q27) | ((with_reducible refine gate_builtin (b := .append) (xs := #[.tmp 33, .tmp 36]) rfl ?_); at_builtin; refine Kd.N_append_rows k103 (w0 := w) w.heap.size rfl (.tmp 33) (.tmp 36) 100 103 (.agg #[(.slice none 0 0), (.int .i64 0)]) 32 rfl Try.underlying100 qJk rfl (by decide) (by omega) bA aD ap _ _ _ (fun k_ => ((P0_ k_ ∨ P1_0_ k_) ∨ w.heap.size ≤ k_) ∧ k_ ≠ ac) (fun k_ => ((fun k_ => ((P0_ k_ ∨ P1_0_ k_) ∨ w.heap.size ≤ k_) ∧ k_ ≠ ac)) k_ ∧ some k_ ≠ (bA : Value).ownBlock) rfl rfl ?aO ?aR (fun _ hk => hk) ?aF ?aB ?aS ?aL ?_; (case aR => exact (by skip; exact Kd.V_F (Kd.V_mono (ok' := (fun k_ => ((fun k_ => ((P0_ k_ ∨ P1_0_ k_) ∨ w.heap.size ≤ k_) ∧ k_ ≠ ac)) k_ ∧ some k_ ≠ (bA : Value).ownBlock)) (aY.out) (fun k_ hk => ⟨⟨hk.1.1, hk.1.2⟩, hk.2⟩)))); (case aB => exact (bl1 HB af)); (case aF => exact (fun k_ hk => ⟨(.inr (Nat.le_trans (qZc (bl1 HB af)) hk)), Kd.freshB (bk ab) k_ hk⟩)); (case aO => exact (by exact bs.out)); (case aS => exact (qZc (bl1 HB af))); (case aL => have := cW.out; omega); intro ey w28 ho hb hg hat; rw [← cX.out] at ho; have n0_ := ak (Kd.V_afterv (ok := (fun k_ => ((P0_ k_ ∨ P1_0_ k_) ∨ w.heap.size ≤ k_) ∧ k_ ≠ ac)) (by exact ae.out) hg hat); have n1_ := ak (Kd.V_afterv (ok := (fun k_ => ((P0_ k_ ∨ P1_0_ k_) ∨ w.heap.size ≤ k_) ∧ k_ ≠ ac)) (by exact aa.out) hg hat); have n2_ := ak (qZj (bk ab) hg (Kd.N_away bs.out (fun _ hk => hk.2))); have n3_ := ak (Kd.V_afterv (ok := (fun k_ => ((P0_ k_ ∨ P1_0_ k_) ∨ w.heap.size ≤ k_) ∧ k_ ≠ ac)) (by exact ag.out) hg hat); have n4_ := ak (Kd.V_afterv (ok := (fun k_ => ((P0_ k_ ∨ P1_0_ k_) ∨ w.heap.size ≤ k_) ∧ k_ ≠ ac)) (by exact au.out) hg hat); have n5_ := ak (Kd.V_afterv (ok := (fun k_ => ((P0_ k_ ∨ P1_0_ k_) ∨ w.heap.size ≤ k_) ∧ k_ ≠ ac)) (by exact aY.out) hg hat); have n6_ := ak (hb); have n7_ := ak (ho); clear ae; clear aa; clear ab; clear ag; clear au; clear aY; clear HB; clear bs; have ae := n0_; have aa := n1_; have ab := n2_; have ag := n3_; have au := n4_; have aY := n5_; have HB := n6_; have bt := n7_; clear n0_ n1_ n2_ n3_ n4_ n5_ n6_ n7_; clear ho hb hg hat; obtain ⟨eB, eC, eD⟩ := Kd.N_slice bt.out; subst eD; have q30 : (a2 : Int) ≤ ((aj.length : Int) : Int) := oT (by (with_reducible assumption)); obtain ⟨i030, df, _, dX, _⟩ := info_parts qJk; have dA := qYd (P := Try.prog) 100 103 .i64 Try.underlying100 df eB aj.length eC a2 (oT (by (with_reducible assumption))) q30 (Kd.N_reads' bt.out).2.1; have cz := Kd.N_take (m := (a2 : Int).toNat) bt.out (by omega); have dY : dT.length = (a2 : Int).toNat := (by rw [db.out, List.length_take]; omega); rw [← db.out] at cz; rw [← dY] at cz dA; clear dY df dX bt; have dZ := ak cz; clear cz; replace q30 := eq_true q30))
  go_ret
  exact ⟨_, by rfl, by exact Kd.N_mono dZ.out (fun _ hk => hk.1), bl1 HB af⟩
end Go.Proofs.Ytlgolgfcolnddaa.F
