-- Printed by this claim's repository's tools (px.py, pgo.py, pack.py), one text behind the other. Lean checks it.
import Derived.Test.YtlgolgfcolnddaaFKindsPFnSomeOthers
namespace Go.Proofs.Ytlgolgfcolnddaa.F
open Go.RowKit Go.Proofs.YtlgolgfcolnddaaW.PrintWords Go.Proofs.YtlgolgfcolnddaaW.PrintLast Go.Proofs.YtlgolgfcolnddaaW.PrintMore
attribute [local go_sem] qQe qQd qQi qQh qZk qZl qQc qQb
set_option linter.unusedVariables false
set_option linter.unusedSimpArgs false
/-! ### spec_l1In: function 54 -/
def spec_l1In.f (a0 : Int) (a1 : Int) (a2 : Int) : Option (Bool) := if a0 ≥ a1 then (some (decide (a0 ≤ a2))) else (some false)
set_option maxHeartbeats 8000000 in
set_option maxRecDepth 100000 in
theorem spec_l1In.calls (a0 : Int) (a1 : Int) (a2 : Int) (r : Bool) (w : World) (h : spec_l1In.f a0 a1 a2 = some r) :
  Calls Try.prog 54 #[.int .i64 a0, .int .i64 a1, .int .i64 a2] w fun e w' => e = .returned (.bool r) ∧ Drawn0 w w' := by
 have H : (if a0 ≥ a1 then (some (decide (a0 ≤ a2))) else (some false)) = some r := h
 clear h
 by_cases c4 : a0 ≥ a1
 ·rw [if_pos c4] at H
  have c4b0 : decide (a1 ≤ a0) = true := decide_eq_true c4
  clear c4
  obtain rfl := Option.some.inj H
  go_enter Try.func54, Try.ntmps54
  go_wp2
  go_ret
  exact ⟨by rfl, by repeat (exact Drawn0.refl _)⟩
 rw [if_neg c4] at H
 have c4b0 : decide (a1 ≤ a0) = false := decide_eq_false c4
 clear c4
 obtain rfl := Option.some.inj H
 go_enter Try.func54, Try.ntmps54
 go_wp2
 go_ret
 exact ⟨by rfl, by repeat (exact Drawn0.refl _)⟩
/-! ### spec_l1Ok: function 53 -/
def spec_l1Ok.l0 : Nat → Int → Int → List (S58) → Option (Bool)
 | 0, _, _, _ => none
 | k + 1, x3, aA, ar => if x3 < (ar.length : Int) then (if 0 ≤ x3 then ((spec_l1In.f ((qZa ar x3).f0) 0 (wrap64 (aA - 1))).bind fun aF => (if aF = true then ((spec_l1In.f ((qZa ar x3).f1) 0 (wrap64 (aA - 1))).bind fun aG => (if aG = true then (if ((qZa ar x3).f0) = ((qZa ar x3).f1) then (some false) else ((spec_l1In.f ((qZa ar x3).f2) 0 99).bind fun aH => (if aH = true then ((spec_l1In.f ((qZa ar x3).f3) 0 99).bind fun aI => (if aI = true then ((spec_l1In.f ((qZa ar x3).f4) 0 9).bind fun aJ => (if aJ = true then (spec_l1Ok.l0 k (wrap64 (x3 + 1)) aA ar) else (some false))) else (some false))) else (some false)))) else (some false))) else (some false))) else (none)) else ((spec_l1In.f aA 1 8).bind fun aK => (if aK = true then (some (decide ((ar.length : Int) ≤ 16))) else (some false)))
def spec_l1Ok.f (k : Nat) (am : Int) (ac : List (S58)) : Option (Bool) := spec_l1Ok.l0 k 0 am ac
theorem spec_l1Ok.mono_l : ∀ k, (∀ y0 y1 y2, LeO (spec_l1Ok.l0 k y0 y1 y2) (spec_l1Ok.l0 (k + 1) y0 y1 y2))
 | 0 => fun _ _ _ r h => by simp [spec_l1Ok.l0] at h
 | k + 1 => by
  have ih0 := spec_l1Ok.mono_l k
  ·intro y0 y1 y2
   unfold spec_l1Ok.l0
   repeat' first | (with_reducible exact ih0 _ _ _) | (with_reducible exact LeO.refl _) | (with_reducible refine LeO.ite ?_ ?_) | (with_reducible refine LeO.bind ?_ (fun _ => ?_))
theorem spec_l1Ok.mono : ∀ a0 a1 k, LeO (spec_l1Ok.f k a0 a1) (spec_l1Ok.f (k + 1) a0 a1) := by
 intro a0 a1 k
 have ih0 := spec_l1Ok.mono_l k
 unfold spec_l1Ok.f
 repeat' (with_reducible exact ih0 _ _ _)
set_option maxHeartbeats 8000000 in
set_option maxRecDepth 100000 in
theorem spec_l1Ok.calls (k : Nat) (am : Int) (ay : Option Addr) (av : Nat) (ac : List (S58)) (r : Bool) (w : World) (aD : Kd.C k58 w ay ac.length ac) (aE : ac.length ≤ av) (h : spec_l1Ok.f k am ac = some r) :
  Calls Try.prog 53 #[.agg #[.int .i64 am, .slice ay ac.length av]] w fun e w' => e = .returned (.bool r) ∧ Below w.heap.size w w' := by
 have dS := Try.underlying25
 have dT := Try.underlying58
 have aB := ak aD
 have dC := ak aE
 clear aD aE
 have HB := ak (Below.refl w.heap.size w)
 have H : (spec_l1Ok.l0 k 0 am ac) = some r := h
 clear h
 have H' := ak H
 clear H
 go_enter Try.func53, Try.ntmps53
 go_wp2_with (((with_reducible refine gate_dst (N := 1) rfl ?_); refine qZj ?hg (N := 1) ?hd (cs := #[.int .i64 am, .slice ay ac.length av]) (t := 25) ?hr ?_; (case hd => rfl); (case hg => rfl); (case hr => (go_simp; done)); intro au hg w2 hbox hb; have aa := ak (hbox); have dD := ak ((by rw [hg]; exact (qZc (bl HB)) : w.heap.size ≤ au)); have ao := ak ((by rw [hg]; exact (qZc (bl HB)) : w.heap.size ≤ au)); replace HB := ak (qZd (bl HB) hb); clear hb hbox hg))
 go_loopg [3] k (fun kq v3 w' => ∃ (ad : Int), v3 = .int .i64 ad ∧ Aside0 (spec_l1Ok.l0 kq ad am ac = some r) ∧ Aside0 (kq ≤ k) ∧ Aside0 (w'.heap[au]? = some (.cells #[.int .i64 am, (.slice ay ac.length av)] 25 (0, 0))) ∧ Aside0 (Below w.heap.size w w'))
 case atStart => exact ⟨(0), (by rfl), H', ⟨Nat.le_refl _⟩, ⟨bk aa⟩, ⟨bl1 HB ao⟩⟩
 clear H'
 try clear p2
 obtain ⟨ad, rfl, HA, HK1, aa, HB⟩ := hrel
 cases gk with
 | zero => exact absurd HA.out (by simp [spec_l1Ok.l0])
 | succ k1 =>
  have H := HA.out
  clear HA
  simp only [spec_l1Ok.l0] at H
  by_cases c3 : ad < (ac.length : Int)
  rotate_left
  ·rw [if_neg c3] at H
   have c3b0 : decide (ad < (ac.length : Int)) = false := decide_eq_false c3
   clear c3
   replace H := Option.bind_eq_some_iff.mp H
   obtain ⟨aK, aL, H⟩ := H
   have A51 := ak aL
   clear aL
   by_cases c52 : aK = true
   ·subst c52
    rw [if_pos rfl] at H
    obtain rfl := Option.some.inj H
    have aP := bc wr aa 0 (.int .i64 am) rfl
    have aQ := bc wr aa 1 (.slice ay ac.length av) rfl
    have aR := fz aa 0
    have aS := fz aa 1
    go_wp2_with (((with_reducible refine gate_callee (f := 54) rfl ?_); refine qQj (some 60) rfl rfl Try.func54 (by kernel_rfl) rfl #[.int .i64 am, .int .i64 1, .int .i64 8] rfl (by (try simp only [List.map_toArray, List.map_cons, List.map_nil]); rfl) ?_; (with_reducible refine (spec_l1In.calls am 1 8 true _ A51.out).mono ?_); rintro e w' ⟨rfl, ⟨nd, rfl⟩⟩; refine ⟨_, rfl, ?_⟩))
    go_ret
    exact ⟨by rfl, bl1 HB ao⟩
   replace c52 := Bool.eq_false_iff.mpr c52
   subst c52
   rw [if_neg (show ¬ (false = true) by decide)] at H
   obtain rfl := Option.some.inj H
   have aT := bc wr aa 0 (.int .i64 am) rfl
   have aU := bc wr aa 1 (.slice ay ac.length av) rfl
   have aV := fz aa 0
   have aW := fz aa 1
   go_wp2_with (((with_reducible refine gate_callee (f := 54) rfl ?_); refine qQj (some 60) rfl rfl Try.func54 (by kernel_rfl) rfl #[.int .i64 am, .int .i64 1, .int .i64 8] rfl (by (try simp only [List.map_toArray, List.map_cons, List.map_nil]); rfl) ?_; (with_reducible refine (spec_l1In.calls am 1 8 false _ A51.out).mono ?_); rintro e w' ⟨rfl, ⟨nd, rfl⟩⟩; refine ⟨_, rfl, ?_⟩))
   go_ret
   exact ⟨by rfl, bl1 HB ao⟩
  rw [if_pos c3] at H
  have c3b0 : decide (ad < (ac.length : Int)) = true := decide_eq_true c3
  clear c3
  by_cases c4 : 0 ≤ ad
  rotate_left
  ·rw [if_neg c4] at H
   exact absurd H (by simp)
  rw [if_pos c4] at H
  have c4b0 : decide (0 ≤ ad) = true := decide_eq_true c4
  clear c4
  replace H := Option.bind_eq_some_iff.mp H
  obtain ⟨aF, A50, H⟩ := H
  have A5 := ak A50
  clear A50
  by_cases c6 : aF = true
  rotate_left
  ·replace c6 := Bool.eq_false_iff.mpr c6
   subst c6
   rw [if_neg (show ¬ (false = true) by decide)] at H
   obtain rfl := Option.some.inj H
   have aX := bc wr aa 0 (.int .i64 am) rfl
   have aY := bc wr aa 1 (.slice ay ac.length av) rfl
   have aZ := fz aa 0
   have ba := fz aa 1
   have ap : 0 ≤ (ad : Int) := oT (by (with_reducible assumption))
   have aq : ad < (ac.length : Int) := oT (by (with_reducible assumption))
   obtain ⟨aw, az, af, ag, ah, ai, aj⟩ := qJk aB.out ad ap aq
   cases az
   replace af := hcb HB.out af
   replace ag := hcb HB.out ag
   replace ah := hcb HB.out ah
   replace ai := hcb HB.out ai
   replace aj := hcb HB.out aj
   replace ap := eq_true ap
   replace aq := eq_true aq
   go_wp2_with (first | ((with_reducible refine gate_dst (N := 4) rfl ?_); refine qZj ?hg (N := 4) ?hd (cs := #[.int .i64 0, .int .i64 0, .int .i64 0, .int .i64 0, .int .i64 0]) (t := 58) ?hr ?_; (case hd => rfl); (case hg => rfl); (case hr => (go_simp; done)); intro al hg w47 hbox hb; have ab := ak (hbox); have aC := ak ((by rw [hg]; exact (qZc (bl1 HB ao)) : w.heap.size ≤ al)); have ax := ak ((by rw [hg]; exact (qZc (bl1 HB ao)) : w.heap.size ≤ al)); replace HB := ak (qZd (bl1 HB ao) hb); have ae := ak ((by rw [hg]; exact Nat.ne_of_lt (qZh (bk aa)) : au ≠ al)); have an := ak ((by rw [hg]; exact Nat.ne_of_gt (qZh (bk aa)) : al ≠ au)); replace aa := ak (qZe (bk aa) hb); clear hb hbox hg; have dE := an.out; have dF := ae.out; have bb := bc w47 ab 0 (.int .i64 0) rfl; have bd := bc w47 ab 1 (.int .i64 0) rfl; have be := bc w47 ab 2 (.int .i64 0) rfl; have bf := bc w47 ab 3 (.int .i64 0) rfl; have bg := bc w47 ab 4 (.int .i64 0) rfl; have bh := fz ab 0; have bi := fz ab 1; have bj := fz ab 2; have bm := fz ab 3; have bn := fz ab 4; have bo := bc w47 aa 0 (.int .i64 am) rfl; have bp := bc w47 aa 1 (.slice (some aw) ac.length av) rfl; have bq := fz aa 0; have br := fz aa 1) | ((with_reducible refine gate_callee (f := 54) rfl ?_); refine qQj (some 22) rfl rfl Try.func54 (by kernel_rfl) rfl #[.int .i64 ((qZa ac ad).f0), .int .i64 0, .int .i64 (wrap64 (am - 1))] rfl (by (try simp only [List.map_toArray, List.map_cons, List.map_nil]); rfl) ?_; (with_reducible refine (spec_l1In.calls ((qZa ac ad).f0) 0 (wrap64 (am - 1)) false _ A5.out).mono ?_); rintro e w' ⟨rfl, ⟨nd, rfl⟩⟩; refine ⟨_, rfl, ?_⟩))
   go_ret
   exact ⟨by rfl, bl2 HB ao ax⟩
  subst c6
  rw [if_pos rfl] at H
  replace H := Option.bind_eq_some_iff.mp H
  obtain ⟨aG, A70, H⟩ := H
  have A7 := ak A70
  clear A70
  by_cases c8 : aG = true
  rotate_left
  ·replace c8 := Bool.eq_false_iff.mpr c8
   subst c8
   rw [if_neg (show ¬ (false = true) by decide)] at H
   obtain rfl := Option.some.inj H
   have bs := bc wr aa 0 (.int .i64 am) rfl
   have bu := bc wr aa 1 (.slice ay ac.length av) rfl
   have bv := fz aa 0
   have bw := fz aa 1
   have ap : 0 ≤ (ad : Int) := oT (by (with_reducible assumption))
   have aq : ad < (ac.length : Int) := oT (by (with_reducible assumption))
   obtain ⟨aw, az, af, ag, ah, ai, aj⟩ := qJk aB.out ad ap aq
   cases az
   replace af := hcb HB.out af
   replace ag := hcb HB.out ag
   replace ah := hcb HB.out ah
   replace ai := hcb HB.out ai
   replace aj := hcb HB.out aj
   replace ap := eq_true ap
   replace aq := eq_true aq
   go_wp2_with (first | ((with_reducible refine gate_dst (N := 4) rfl ?_); refine qZj ?hg (N := 4) ?hd (cs := #[.int .i64 0, .int .i64 0, .int .i64 0, .int .i64 0, .int .i64 0]) (t := 58) ?hr ?_; (case hd => rfl); (case hg => rfl); (case hr => (go_simp; done)); intro al hg w42 hbox hb; have ab := ak (hbox); have aC := ak ((by rw [hg]; exact (qZc (bl1 HB ao)) : w.heap.size ≤ al)); have ax := ak ((by rw [hg]; exact (qZc (bl1 HB ao)) : w.heap.size ≤ al)); replace HB := ak (qZd (bl1 HB ao) hb); have ae := ak ((by rw [hg]; exact Nat.ne_of_lt (qZh (bk aa)) : au ≠ al)); have an := ak ((by rw [hg]; exact Nat.ne_of_gt (qZh (bk aa)) : al ≠ au)); replace aa := ak (qZe (bk aa) hb); clear hb hbox hg; have dG := an.out; have dH := ae.out; have bx := bc w42 ab 0 (.int .i64 0) rfl; have bz := bc w42 ab 1 (.int .i64 0) rfl; have bA := bc w42 ab 2 (.int .i64 0) rfl; have bB := bc w42 ab 3 (.int .i64 0) rfl; have bC := bc w42 ab 4 (.int .i64 0) rfl; have bD := fz ab 0; have bE := fz ab 1; have bG := fz ab 2; have bH := fz ab 3; have bI := fz ab 4; have bJ := bc w42 aa 0 (.int .i64 am) rfl; have bK := bc w42 aa 1 (.slice (some aw) ac.length av) rfl; have bL := fz aa 0; have bM := fz aa 1) | ((with_reducible refine gate_callee (f := 54) rfl ?_); refine qQj (some 22) rfl rfl Try.func54 (by kernel_rfl) rfl #[.int .i64 ((qZa ac ad).f0), .int .i64 0, .int .i64 (wrap64 (am - 1))] rfl (by (try simp only [List.map_toArray, List.map_cons, List.map_nil]); rfl) ?_; (with_reducible refine (spec_l1In.calls ((qZa ac ad).f0) 0 (wrap64 (am - 1)) true _ A5.out).mono ?_); rintro e w' ⟨rfl, ⟨nd, rfl⟩⟩; refine ⟨_, rfl, ?_⟩) | (go_at_call 54; (with_reducible refine (spec_l1In.calls ((qZa ac ad).f1) 0 (wrap64 (am - 1)) false _ A7.out).mono ?_); rintro e w' ⟨rfl, ⟨nd, rfl⟩⟩))
   go_ret
   exact ⟨by rfl, bl2 HB ao ax⟩
  subst c8
  rw [if_pos rfl] at H
  by_cases c9 : ((qZa ac ad).f0) = ((qZa ac ad).f1)
  ·rw [if_pos c9] at H
   have c9b0 : (((qZa ac ad).f0) == ((qZa ac ad).f1)) = true := beq_iff_eq.mpr c9
   have c9b1 : (((qZa ac ad).f0) != ((qZa ac ad).f1)) = false := bne_eq_false_iff_eq.mpr c9
   clear c9
   obtain rfl := Option.some.inj H
   have bN := bc wr aa 0 (.int .i64 am) rfl
   have bO := bc wr aa 1 (.slice ay ac.length av) rfl
   have bP := fz aa 0
   have bQ := fz aa 1
   have ap : 0 ≤ (ad : Int) := oT (by (with_reducible assumption))
   have aq : ad < (ac.length : Int) := oT (by (with_reducible assumption))
   obtain ⟨aw, az, af, ag, ah, ai, aj⟩ := qJk aB.out ad ap aq
   cases az
   replace af := hcb HB.out af
   replace ag := hcb HB.out ag
   replace ah := hcb HB.out ah
   replace ai := hcb HB.out ai
   replace aj := hcb HB.out aj
   replace ap := eq_true ap
   replace aq := eq_true aq
   go_wp2_with (first | ((with_reducible refine gate_dst (N := 4) rfl ?_); refine qZj ?hg (N := 4) ?hd (cs := #[.int .i64 0, .int .i64 0, .int .i64 0, .int .i64 0, .int .i64 0]) (t := 58) ?hr ?_; (case hd => rfl); (case hg => rfl); (case hr => (go_simp; done)); intro al hg w11 hbox hb; have ab := ak (hbox); have aC := ak ((by rw [hg]; exact (qZc (bl1 HB ao)) : w.heap.size ≤ al)); have ax := ak ((by rw [hg]; exact (qZc (bl1 HB ao)) : w.heap.size ≤ al)); replace HB := ak (qZd (bl1 HB ao) hb); have ae := ak ((by rw [hg]; exact Nat.ne_of_lt (qZh (bk aa)) : au ≠ al)); have an := ak ((by rw [hg]; exact Nat.ne_of_gt (qZh (bk aa)) : al ≠ au)); replace aa := ak (qZe (bk aa) hb); clear hb hbox hg; have dI := an.out; have dJ := ae.out; have bR := bc w11 ab 0 (.int .i64 0) rfl; have bS := bc w11 ab 1 (.int .i64 0) rfl; have bU := bc w11 ab 2 (.int .i64 0) rfl; have bV := bc w11 ab 3 (.int .i64 0) rfl; have bW := bc w11 ab 4 (.int .i64 0) rfl; have bX := fz ab 0; have bY := fz ab 1; have bZ := fz ab 2; have ca := fz ab 3; have cb := fz ab 4; have cc := bc w11 aa 0 (.int .i64 am) rfl; have cd := bc w11 aa 1 (.slice (some aw) ac.length av) rfl; have ce := fz aa 0; have cf := fz aa 1) | ((with_reducible refine gate_callee (f := 54) rfl ?_); refine qQj (some 22) rfl rfl Try.func54 (by kernel_rfl) rfl #[.int .i64 ((qZa ac ad).f0), .int .i64 0, .int .i64 (wrap64 (am - 1))] rfl (by (try simp only [List.map_toArray, List.map_cons, List.map_nil]); rfl) ?_; (with_reducible refine (spec_l1In.calls ((qZa ac ad).f0) 0 (wrap64 (am - 1)) true _ A5.out).mono ?_); rintro e w' ⟨rfl, ⟨nd, rfl⟩⟩; refine ⟨_, rfl, ?_⟩) | (go_at_call 54; (with_reducible refine (spec_l1In.calls ((qZa ac ad).f1) 0 (wrap64 (am - 1)) true _ A7.out).mono ?_); rintro e w' ⟨rfl, ⟨nd, rfl⟩⟩))
   go_ret
   exact ⟨by rfl, bl2 HB ao ax⟩
  rw [if_neg c9] at H
  have c9b0 : (((qZa ac ad).f0) == ((qZa ac ad).f1)) = false := beq_eq_false_iff_ne.mpr c9
  have c9b1 : (((qZa ac ad).f0) != ((qZa ac ad).f1)) = true := bne_iff_ne.mpr c9
  replace H := Option.bind_eq_some_iff.mp H
  obtain ⟨aH, aM, H⟩ := H
  have A15 := ak aM
  clear aM
  by_cases c16 : aH = true
  rotate_left
  ·replace c16 := Bool.eq_false_iff.mpr c16
   subst c16
   rw [if_neg (show ¬ (false = true) by decide)] at H
   obtain rfl := Option.some.inj H
   have cg := bc wr aa 0 (.int .i64 am) rfl
   have ch := bc wr aa 1 (.slice ay ac.length av) rfl
   have ci := fz aa 0
   have cj := fz aa 1
   have ap : 0 ≤ (ad : Int) := oT (by (with_reducible assumption))
   have aq : ad < (ac.length : Int) := oT (by (with_reducible assumption))
   obtain ⟨aw, az, af, ag, ah, ai, aj⟩ := qJk aB.out ad ap aq
   cases az
   replace af := hcb HB.out af
   replace ag := hcb HB.out ag
   replace ah := hcb HB.out ah
   replace ai := hcb HB.out ai
   replace aj := hcb HB.out aj
   replace ap := eq_true ap
   replace aq := eq_true aq
   go_wp2_with (first | ((with_reducible refine gate_dst (N := 4) rfl ?_); refine qZj ?hg (N := 4) ?hd (cs := #[.int .i64 0, .int .i64 0, .int .i64 0, .int .i64 0, .int .i64 0]) (t := 58) ?hr ?_; (case hd => rfl); (case hg => rfl); (case hr => (go_simp; done)); intro al hg w37 hbox hb; have ab := ak (hbox); have aC := ak ((by rw [hg]; exact (qZc (bl1 HB ao)) : w.heap.size ≤ al)); have ax := ak ((by rw [hg]; exact (qZc (bl1 HB ao)) : w.heap.size ≤ al)); replace HB := ak (qZd (bl1 HB ao) hb); have ae := ak ((by rw [hg]; exact Nat.ne_of_lt (qZh (bk aa)) : au ≠ al)); have an := ak ((by rw [hg]; exact Nat.ne_of_gt (qZh (bk aa)) : al ≠ au)); replace aa := ak (qZe (bk aa) hb); clear hb hbox hg; have dK := an.out; have dL := ae.out; have ck := bc w37 ab 0 (.int .i64 0) rfl; have cl := bc w37 ab 1 (.int .i64 0) rfl; have cm := bc w37 ab 2 (.int .i64 0) rfl; have cn := bc w37 ab 3 (.int .i64 0) rfl; have co := bc w37 ab 4 (.int .i64 0) rfl; have cp := fz ab 0; have cq := fz ab 1; have cr := fz ab 2; have ct := fz ab 3; have cu := fz ab 4; have cv := bc w37 aa 0 (.int .i64 am) rfl; have cw := bc w37 aa 1 (.slice (some aw) ac.length av) rfl; have cx := fz aa 0; have cy := fz aa 1) | ((with_reducible refine gate_callee (f := 54) rfl ?_); refine qQj (some 22) rfl rfl Try.func54 (by kernel_rfl) rfl #[.int .i64 ((qZa ac ad).f0), .int .i64 0, .int .i64 (wrap64 (am - 1))] rfl (by (try simp only [List.map_toArray, List.map_cons, List.map_nil]); rfl) ?_; (with_reducible refine (spec_l1In.calls ((qZa ac ad).f0) 0 (wrap64 (am - 1)) true _ A5.out).mono ?_); rintro e w' ⟨rfl, ⟨nd, rfl⟩⟩; refine ⟨_, rfl, ?_⟩) | (go_at_call 54; (with_reducible refine (spec_l1In.calls ((qZa ac ad).f1) 0 (wrap64 (am - 1)) true _ A7.out).mono ?_); rintro e w' ⟨rfl, ⟨nd, rfl⟩⟩) | (go_at_call 54; (with_reducible refine (spec_l1In.calls ((qZa ac ad).f2) 0 99 false _ A15.out).mono ?_); rintro e w' ⟨rfl, ⟨nd, rfl⟩⟩))
   go_ret
   exact ⟨by rfl, bl2 HB ao ax⟩
  subst c16
  rw [if_pos rfl] at H
  replace H := Option.bind_eq_some_iff.mp H
  obtain ⟨aI, aN, H⟩ := H
  have A17 := ak aN
  clear aN
  by_cases c18 : aI = true
  rotate_left
  ·replace c18 := Bool.eq_false_iff.mpr c18
   subst c18
   rw [if_neg (show ¬ (false = true) by decide)] at H
   obtain rfl := Option.some.inj H
   have cz := bc wr aa 0 (.int .i64 am) rfl
   have cA := bc wr aa 1 (.slice ay ac.length av) rfl
   have cB := fz aa 0
   have cC := fz aa 1
   have ap : 0 ≤ (ad : Int) := oT (by (with_reducible assumption))
   have aq : ad < (ac.length : Int) := oT (by (with_reducible assumption))
   obtain ⟨aw, az, af, ag, ah, ai, aj⟩ := qJk aB.out ad ap aq
   cases az
   replace af := hcb HB.out af
   replace ag := hcb HB.out ag
   replace ah := hcb HB.out ah
   replace ai := hcb HB.out ai
   replace aj := hcb HB.out aj
   replace ap := eq_true ap
   replace aq := eq_true aq
   go_wp2_with (first | ((with_reducible refine gate_dst (N := 4) rfl ?_); refine qZj ?hg (N := 4) ?hd (cs := #[.int .i64 0, .int .i64 0, .int .i64 0, .int .i64 0, .int .i64 0]) (t := 58) ?hr ?_; (case hd => rfl); (case hg => rfl); (case hr => (go_simp; done)); intro al hg w32 hbox hb; have ab := ak (hbox); have aC := ak ((by rw [hg]; exact (qZc (bl1 HB ao)) : w.heap.size ≤ al)); have ax := ak ((by rw [hg]; exact (qZc (bl1 HB ao)) : w.heap.size ≤ al)); replace HB := ak (qZd (bl1 HB ao) hb); have ae := ak ((by rw [hg]; exact Nat.ne_of_lt (qZh (bk aa)) : au ≠ al)); have an := ak ((by rw [hg]; exact Nat.ne_of_gt (qZh (bk aa)) : al ≠ au)); replace aa := ak (qZe (bk aa) hb); clear hb hbox hg; have dM := an.out; have dN := ae.out; have cD := bc w32 ab 0 (.int .i64 0) rfl; have cE := bc w32 ab 1 (.int .i64 0) rfl; have cF := bc w32 ab 2 (.int .i64 0) rfl; have cG := bc w32 ab 3 (.int .i64 0) rfl; have cH := bc w32 ab 4 (.int .i64 0) rfl; have cI := fz ab 0; have cJ := fz ab 1; have cK := fz ab 2; have cL := fz ab 3; have cM := fz ab 4; have cN := bc w32 aa 0 (.int .i64 am) rfl; have cO := bc w32 aa 1 (.slice (some aw) ac.length av) rfl; have cP := fz aa 0; have cQ := fz aa 1) | ((with_reducible refine gate_callee (f := 54) rfl ?_); refine qQj (some 22) rfl rfl Try.func54 (by kernel_rfl) rfl #[.int .i64 ((qZa ac ad).f0), .int .i64 0, .int .i64 (wrap64 (am - 1))] rfl (by (try simp only [List.map_toArray, List.map_cons, List.map_nil]); rfl) ?_; (with_reducible refine (spec_l1In.calls ((qZa ac ad).f0) 0 (wrap64 (am - 1)) true _ A5.out).mono ?_); rintro e w' ⟨rfl, ⟨nd, rfl⟩⟩; refine ⟨_, rfl, ?_⟩) | (go_at_call 54; (with_reducible refine (spec_l1In.calls ((qZa ac ad).f1) 0 (wrap64 (am - 1)) true _ A7.out).mono ?_); rintro e w' ⟨rfl, ⟨nd, rfl⟩⟩) | (go_at_call 54; (with_reducible refine (spec_l1In.calls ((qZa ac ad).f2) 0 99 true _ A15.out).mono ?_); rintro e w' ⟨rfl, ⟨nd, rfl⟩⟩) | (go_at_call 54; (with_reducible refine (spec_l1In.calls ((qZa ac ad).f3) 0 99 false _ A17.out).mono ?_); rintro e w' ⟨rfl, ⟨nd, rfl⟩⟩))
   go_ret
   exact ⟨by rfl, bl2 HB ao ax⟩
  subst c18
  rw [if_pos rfl] at H
  replace H := Option.bind_eq_some_iff.mp H
  obtain ⟨aJ, aO, H⟩ := H
  have A19 := ak aO
  clear aO
  by_cases c20 : aJ = true
  rotate_left
  ·replace c20 := Bool.eq_false_iff.mpr c20
   subst c20
   rw [if_neg (show ¬ (false = true) by decide)] at H
   obtain rfl := Option.some.inj H
   have cR := bc wr aa 0 (.int .i64 am) rfl
   have cS := bc wr aa 1 (.slice ay ac.length av) rfl
   have cT := fz aa 0
   have cU := fz aa 1
   have ap : 0 ≤ (ad : Int) := oT (by (with_reducible assumption))
   have aq : ad < (ac.length : Int) := oT (by (with_reducible assumption))
   obtain ⟨aw, az, af, ag, ah, ai, aj⟩ := qJk aB.out ad ap aq
   cases az
   replace af := hcb HB.out af
   replace ag := hcb HB.out ag
   replace ah := hcb HB.out ah
   replace ai := hcb HB.out ai
   replace aj := hcb HB.out aj
   replace ap := eq_true ap
   replace aq := eq_true aq
   go_wp2_with (first | ((with_reducible refine gate_dst (N := 4) rfl ?_); refine qZj ?hg (N := 4) ?hd (cs := #[.int .i64 0, .int .i64 0, .int .i64 0, .int .i64 0, .int .i64 0]) (t := 58) ?hr ?_; (case hd => rfl); (case hg => rfl); (case hr => (go_simp; done)); intro al hg w27 hbox hb; have ab := ak (hbox); have aC := ak ((by rw [hg]; exact (qZc (bl1 HB ao)) : w.heap.size ≤ al)); have ax := ak ((by rw [hg]; exact (qZc (bl1 HB ao)) : w.heap.size ≤ al)); replace HB := ak (qZd (bl1 HB ao) hb); have ae := ak ((by rw [hg]; exact Nat.ne_of_lt (qZh (bk aa)) : au ≠ al)); have an := ak ((by rw [hg]; exact Nat.ne_of_gt (qZh (bk aa)) : al ≠ au)); replace aa := ak (qZe (bk aa) hb); clear hb hbox hg; have dO := an.out; have dP := ae.out; have cV := bc w27 ab 0 (.int .i64 0) rfl; have cW := bc w27 ab 1 (.int .i64 0) rfl; have cX := bc w27 ab 2 (.int .i64 0) rfl; have cY := bc w27 ab 3 (.int .i64 0) rfl; have cZ := bc w27 ab 4 (.int .i64 0) rfl; have da := fz ab 0; have db := fz ab 1; have dc := fz ab 2; have dd := fz ab 3; have de := fz ab 4; have df := bc w27 aa 0 (.int .i64 am) rfl; have dg := bc w27 aa 1 (.slice (some aw) ac.length av) rfl; have dh := fz aa 0; have di := fz aa 1) | ((with_reducible refine gate_callee (f := 54) rfl ?_); refine qQj (some 22) rfl rfl Try.func54 (by kernel_rfl) rfl #[.int .i64 ((qZa ac ad).f0), .int .i64 0, .int .i64 (wrap64 (am - 1))] rfl (by (try simp only [List.map_toArray, List.map_cons, List.map_nil]); rfl) ?_; (with_reducible refine (spec_l1In.calls ((qZa ac ad).f0) 0 (wrap64 (am - 1)) true _ A5.out).mono ?_); rintro e w' ⟨rfl, ⟨nd, rfl⟩⟩; refine ⟨_, rfl, ?_⟩) | (go_at_call 54; (with_reducible refine (spec_l1In.calls ((qZa ac ad).f1) 0 (wrap64 (am - 1)) true _ A7.out).mono ?_); rintro e w' ⟨rfl, ⟨nd, rfl⟩⟩) | (go_at_call 54; (with_reducible refine (spec_l1In.calls ((qZa ac ad).f2) 0 99 true _ A15.out).mono ?_); rintro e w' ⟨rfl, ⟨nd, rfl⟩⟩) | (go_at_call 54; (with_reducible refine (spec_l1In.calls ((qZa ac ad).f3) 0 99 true _ A17.out).mono ?_); rintro e w' ⟨rfl, ⟨nd, rfl⟩⟩) | (go_at_call 54; (with_reducible refine (spec_l1In.calls ((qZa ac ad).f4) 0 9 false _ A19.out).mono ?_); rintro e w' ⟨rfl, ⟨nd, rfl⟩⟩))
   go_ret
   exact ⟨by rfl, bl2 HB ao ax⟩
  subst c20
  rw [if_pos rfl] at H
  have H' := ak H
  clear H
  have dj := bc wr aa 0 (.int .i64 am) rfl
  have dk := bc wr aa 1 (.slice ay ac.length av) rfl
  have dl := fz aa 0
  have dm := fz aa 1
  have ap : 0 ≤ (ad : Int) := oT (by (with_reducible assumption))
  have aq : ad < (ac.length : Int) := oT (by (with_reducible assumption))
  obtain ⟨aw, az, af, ag, ah, ai, aj⟩ := qJk aB.out ad ap aq
  cases az
  replace af := hcb HB.out af
  replace ag := hcb HB.out ag
  replace ah := hcb HB.out ah
  replace ai := hcb HB.out ai
  replace aj := hcb HB.out aj
  replace ap := eq_true ap
  replace aq := eq_true aq
  go_wp2_with (first | ((with_reducible refine gate_dst (N := 4) rfl ?_); refine qZj ?hg (N := 4) ?hd (cs := #[.int .i64 0, .int .i64 0, .int .i64 0, .int .i64 0, .int .i64 0]) (t := 58) ?hr ?_; (case hd => rfl); (case hg => rfl); (case hr => (go_simp; done)); intro al hg w22 hbox hb; have ab := ak (hbox); have aC := ak ((by rw [hg]; exact (qZc (bl1 HB ao)) : w.heap.size ≤ al)); have ax := ak ((by rw [hg]; exact (qZc (bl1 HB ao)) : w.heap.size ≤ al)); replace HB := ak (qZd (bl1 HB ao) hb); have ae := ak ((by rw [hg]; exact Nat.ne_of_lt (qZh (bk aa)) : au ≠ al)); have an := ak ((by rw [hg]; exact Nat.ne_of_gt (qZh (bk aa)) : al ≠ au)); replace aa := ak (qZe (bk aa) hb); clear hb hbox hg; have dQ := an.out; have dR := ae.out; have dn := bc w22 ab 0 (.int .i64 0) rfl; have dp := bc w22 ab 1 (.int .i64 0) rfl; have dq := bc w22 ab 2 (.int .i64 0) rfl; have dr := bc w22 ab 3 (.int .i64 0) rfl; have ds := bc w22 ab 4 (.int .i64 0) rfl; have dt := fz ab 0; have du := fz ab 1; have dv := fz ab 2; have dw := fz ab 3; have dx := fz ab 4; have dy := bc w22 aa 0 (.int .i64 am) rfl; have dz := bc w22 aa 1 (.slice (some aw) ac.length av) rfl; have dA := fz aa 0; have dB := fz aa 1) | ((with_reducible refine gate_callee (f := 54) rfl ?_); refine qQj (some 22) rfl rfl Try.func54 (by kernel_rfl) rfl #[.int .i64 ((qZa ac ad).f0), .int .i64 0, .int .i64 (wrap64 (am - 1))] rfl (by (try simp only [List.map_toArray, List.map_cons, List.map_nil]); rfl) ?_; (with_reducible refine (spec_l1In.calls ((qZa ac ad).f0) 0 (wrap64 (am - 1)) true _ A5.out).mono ?_); rintro e w' ⟨rfl, ⟨nd, rfl⟩⟩; refine ⟨_, rfl, ?_⟩) | (go_at_call 54; (with_reducible refine (spec_l1In.calls ((qZa ac ad).f1) 0 (wrap64 (am - 1)) true _ A7.out).mono ?_); rintro e w' ⟨rfl, ⟨nd, rfl⟩⟩) | (go_at_call 54; (with_reducible refine (spec_l1In.calls ((qZa ac ad).f2) 0 99 true _ A15.out).mono ?_); rintro e w' ⟨rfl, ⟨nd, rfl⟩⟩) | (go_at_call 54; (with_reducible refine (spec_l1In.calls ((qZa ac ad).f3) 0 99 true _ A17.out).mono ?_); rintro e w' ⟨rfl, ⟨nd, rfl⟩⟩) | (go_at_call 54; (with_reducible refine (spec_l1In.calls ((qZa ac ad).f4) 0 9 true _ A19.out).mono ?_); rintro e w' ⟨rfl, ⟨nd, rfl⟩⟩))
  go_roundg k1
  case measure => have := HK1.out; omega
  case rel => exact ⟨(wrap64 (ad + 1)), (by rfl), H', ⟨by have := HK1.out; omega⟩, ⟨by (with_reducible repeat (refine blk_drewN ?_ _)); refine blk_far ?_ ae.out _; refine blk_far ?_ ae.out _; refine blk_far ?_ ae.out _; refine blk_far ?_ ae.out _; refine blk_far ?_ ae.out _; exact aa.out⟩, ⟨bl2 HB ao ax⟩⟩
/-! ### spec_l14Less: function 127 -/
def spec_l14Less.l0 : Nat → Int → List Int → Int → List Int → Int → Option (Bool)
 | 0, _, _, _, _, _ => none
 | k + 1, x5, au, aG, av, aH => if x5 < (au.length : Int) then (if 0 ≤ x5 then (if x5 < (av.length : Int) then (if (rd au x5) = (rd av x5) then (spec_l14Less.l0 k (wrap64 (x5 + 1)) au aG av aH) else (some (decide ((rd au x5) < (rd av x5))))) else (none)) else (none)) else (some false)
def spec_l14Less.f (k : Nat) (ab : List Int) (ai : Int) (ac : List Int) (aj : Int) : Option (Bool) := if ai = aj then (if (ab.length : Int) = (ac.length : Int) then (spec_l14Less.l0 k 0 ab ai ac aj) else (some (decide ((ab.length : Int) < (ac.length : Int))))) else (some (decide (ai < aj)))
theorem spec_l14Less.mono_l : ∀ k, (∀ y0 y1 y2 y3 y4, LeO (spec_l14Less.l0 k y0 y1 y2 y3 y4) (spec_l14Less.l0 (k + 1) y0 y1 y2 y3 y4))
 | 0 => fun _ _ _ _ _ r h => by simp [spec_l14Less.l0] at h
 | k + 1 => by
  have ih0 := spec_l14Less.mono_l k
  ·intro y0 y1 y2 y3 y4
   unfold spec_l14Less.l0
   repeat' first | (with_reducible exact ih0 _ _ _ _ _) | (with_reducible exact LeO.refl _) | (with_reducible refine LeO.ite ?_ ?_)
theorem spec_l14Less.mono : ∀ a0 a1 a2 a3 k, LeO (spec_l14Less.f k a0 a1 a2 a3) (spec_l14Less.f (k + 1) a0 a1 a2 a3) := by
 intro a0 a1 a2 a3 k
 have ih0 := spec_l14Less.mono_l k
 unfold spec_l14Less.f
 repeat' first | (with_reducible exact ih0 _ _ _ _ _) | (with_reducible exact LeO.refl _) | (with_reducible refine LeO.ite ?_ ?_)
set_option maxHeartbeats 8000000 in
set_option maxRecDepth 100000 in
theorem spec_l14Less.calls (k : Nat) (aq : Option Addr) (ar : Nat) (ab : List Int) (ai : Int) (aw : Option Addr) (ax : Nat) (ac : List Int) (aj : Int) (r : Bool) (w : World) (aI : Kd.C (Kd.int .i64) w aq ab.length ab) (aJ : ab.length ≤ ar) (aK : Kd.C (Kd.int .i64) w aw ac.length ac) (aL : ac.length ≤ ax) (h : spec_l14Less.f k ab ai ac aj = some r) :
  Calls Try.prog 127 #[.agg #[.slice aq ab.length ar, .int .i64 ai], .agg #[.slice aw ac.length ax, .int .i64 aj]] w fun e w' => e = .returned (.bool r) ∧ Below w.heap.size w w' := by
 have bZ := Try.underlying103
 have aE := ak aI
 have ca := ak aJ
 clear aI aJ
 have aF := ak aK
 have cb := ak aL
 clear aK aL
 have HB := ak (Below.refl w.heap.size w)
 have H : (if ai = aj then (if (ab.length : Int) = (ac.length : Int) then (spec_l14Less.l0 k 0 ab ai ac aj) else (some (decide ((ab.length : Int) < (ac.length : Int))))) else (some (decide (ai < aj)))) = some r := h
 clear h
 by_cases c3 : ai = aj
 rotate_left
 ·rw [if_neg c3] at H
  have c3b0 : (ai == aj) = false := beq_eq_false_iff_ne.mpr c3
  have c3b1 : (ai != aj) = true := bne_iff_ne.mpr c3
  obtain rfl := Option.some.inj H
  go_enter Try.func127, Try.ntmps127
  go_wp2_with (first | ((with_reducible refine gate_dst (N := 2) rfl ?_); refine qZj ?hg (N := 2) ?hd (cs := #[.slice aq ab.length ar, .int .i64 ai]) (t := 103) ?hr ?_; (case hd => rfl); (case hg => rfl); (case hr => (go_simp; done)); intro al hg w27 hbox hb; have aa := ak (hbox); have aM := ak ((by rw [hg]; exact (qZc (bl HB)) : w.heap.size ≤ al)); have ah := ak ((by rw [hg]; exact (qZc (bl HB)) : w.heap.size ≤ al)); replace HB := ak (qZd (bl HB) hb); clear hb hbox hg) | ((with_reducible refine gate_dst (N := 3) rfl ?_); refine qZj ?hg (N := 3) ?hd (cs := #[.slice aw ac.length ax, .int .i64 aj]) (t := 103) ?hr ?_; (case hd => rfl); (case hg => rfl); (case hr => (go_simp; done)); intro am hg w28 hbox hb; have ae := ak (hbox); have aN := ak ((by rw [hg]; exact (qZc (bl1 HB ah)) : w.heap.size ≤ am)); have ap := ak ((by rw [hg]; exact (qZc (bl1 HB ah)) : w.heap.size ≤ am)); replace HB := ak (qZd (bl1 HB ah) hb); have af := ak ((by rw [hg]; exact Nat.ne_of_lt (qZh (bk aa)) : al ≠ am)); have ag := ak ((by rw [hg]; exact Nat.ne_of_gt (qZh (bk aa)) : am ≠ al)); replace aa := ak (qZe (bk aa) hb); clear hb hbox hg; have cc := af.out; have cd := ag.out; have bh := bc w28 aa 0 (.slice aq ab.length ar) rfl; have bi := bc w28 aa 1 (.int .i64 ai) rfl; have bj := fz aa 0; have bm := fz aa 1; have bn := bc w28 ae 0 (.slice aw ac.length ax) rfl; have bo := bc w28 ae 1 (.int .i64 aj) rfl; have bp := fz ae 0; have bq := fz ae 1) | go_step)
  go_ret
  exact ⟨by rfl, bl2 HB ah ap⟩
 rw [if_pos c3] at H
 have c3b0 : (ai == aj) = true := beq_iff_eq.mpr c3
 have c3b1 : (ai != aj) = false := bne_eq_false_iff_eq.mpr c3
 clear c3
 by_cases c4 : (ab.length : Int) = (ac.length : Int)
 rotate_left
 ·rw [if_neg c4] at H
  have c4b0 : ((ab.length : Int) == (ac.length : Int)) = false := beq_eq_false_iff_ne.mpr c4
  have c4b1 : ((ab.length : Int) != (ac.length : Int)) = true := bne_iff_ne.mpr c4
  have c4b2 : (ab.length == ac.length) = false := by (simp at c4 ⊢; omega)
  obtain rfl := Option.some.inj H
  go_enter Try.func127, Try.ntmps127
  go_wp2_with (first | ((with_reducible refine gate_dst (N := 2) rfl ?_); refine qZj ?hg (N := 2) ?hd (cs := #[.slice aq ab.length ar, .int .i64 ai]) (t := 103) ?hr ?_; (case hd => rfl); (case hg => rfl); (case hr => (go_simp; done)); intro al hg w22 hbox hb; have aa := ak (hbox); have aM := ak ((by rw [hg]; exact (qZc (bl HB)) : w.heap.size ≤ al)); have ah := ak ((by rw [hg]; exact (qZc (bl HB)) : w.heap.size ≤ al)); replace HB := ak (qZd (bl HB) hb); clear hb hbox hg) | ((with_reducible refine gate_dst (N := 3) rfl ?_); refine qZj ?hg (N := 3) ?hd (cs := #[.slice aw ac.length ax, .int .i64 aj]) (t := 103) ?hr ?_; (case hd => rfl); (case hg => rfl); (case hr => (go_simp; done)); intro am hg w23 hbox hb; have ae := ak (hbox); have aN := ak ((by rw [hg]; exact (qZc (bl1 HB ah)) : w.heap.size ≤ am)); have ap := ak ((by rw [hg]; exact (qZc (bl1 HB ah)) : w.heap.size ≤ am)); replace HB := ak (qZd (bl1 HB ah) hb); have af := ak ((by rw [hg]; exact Nat.ne_of_lt (qZh (bk aa)) : al ≠ am)); have ag := ak ((by rw [hg]; exact Nat.ne_of_gt (qZh (bk aa)) : am ≠ al)); replace aa := ak (qZe (bk aa) hb); clear hb hbox hg; have ce := af.out; have cf := ag.out; have br := bc w23 aa 0 (.slice aq ab.length ar) rfl; have bs := bc w23 aa 1 (.int .i64 ai) rfl; have bu := fz aa 0; have bv := fz aa 1; have bw := bc w23 ae 0 (.slice aw ac.length ax) rfl; have bx := bc w23 ae 1 (.int .i64 aj) rfl; have bz := fz ae 0; have bA := fz ae 1) | go_step)
  go_ret
  exact ⟨by rfl, bl2 HB ah ap⟩
 rw [if_pos c4] at H
 have c4b0 : ((ab.length : Int) == (ac.length : Int)) = true := beq_iff_eq.mpr c4
 have c4b1 : ((ab.length : Int) != (ac.length : Int)) = false := bne_eq_false_iff_eq.mpr c4
 have c4b2 : (ab.length == ac.length) = true := by (simp at c4 ⊢; omega)
 clear c4
 have H' := ak H
 clear H
 go_enter Try.func127, Try.ntmps127
 go_wp2_with (first | ((with_reducible refine gate_dst (N := 2) rfl ?_); refine qZj ?hg (N := 2) ?hd (cs := #[.slice aq ab.length ar, .int .i64 ai]) (t := 103) ?hr ?_; (case hd => rfl); (case hg => rfl); (case hr => (go_simp; done)); intro al hg w5 hbox hb; have aa := ak (hbox); have aM := ak ((by rw [hg]; exact (qZc (bl HB)) : w.heap.size ≤ al)); have ah := ak ((by rw [hg]; exact (qZc (bl HB)) : w.heap.size ≤ al)); replace HB := ak (qZd (bl HB) hb); clear hb hbox hg) | ((with_reducible refine gate_dst (N := 3) rfl ?_); refine qZj ?hg (N := 3) ?hd (cs := #[.slice aw ac.length ax, .int .i64 aj]) (t := 103) ?hr ?_; (case hd => rfl); (case hg => rfl); (case hr => (go_simp; done)); intro am hg w6 hbox hb; have ae := ak (hbox); have aN := ak ((by rw [hg]; exact (qZc (bl1 HB ah)) : w.heap.size ≤ am)); have ap := ak ((by rw [hg]; exact (qZc (bl1 HB ah)) : w.heap.size ≤ am)); replace HB := ak (qZd (bl1 HB ah) hb); have af := ak ((by rw [hg]; exact Nat.ne_of_lt (qZh (bk aa)) : al ≠ am)); have ag := ak ((by rw [hg]; exact Nat.ne_of_gt (qZh (bk aa)) : am ≠ al)); replace aa := ak (qZe (bk aa) hb); clear hb hbox hg; have cm := af.out; have cn := ag.out; have aQ := bc w6 aa 0 (.slice aq ab.length ar) rfl; have aR := bc w6 aa 1 (.int .i64 ai) rfl; have aS := fz aa 0; have aT := fz aa 1; have aU := bc w6 ae 0 (.slice aw ac.length ax) rfl; have aV := bc w6 ae 1 (.int .i64 aj) rfl; have aW := fz ae 0; have aX := fz ae 1) | go_step)
 go_loopg [5] k (fun kq v5 w' => ∃ (ad : Int), v5 = .int .i64 ad ∧ Aside0 (spec_l14Less.l0 kq ad ab ai ac aj = some r) ∧ Aside0 (kq ≤ k) ∧ Aside0 (w'.heap[al]? = some (.cells #[(.slice aq ab.length ar), .int .i64 ai] 103 (0, 0))) ∧ Aside0 (w'.heap[am]? = some (.cells #[(.slice aw ac.length ax), .int .i64 aj] 103 (0, 0))) ∧ Aside0 (Below w.heap.size w w'))
 case atStart => exact ⟨(0), (by rfl), H', ⟨Nat.le_refl _⟩, ⟨bk aa⟩, ⟨bk ae⟩, ⟨bl2 HB ah ap⟩⟩
 clear H'
 try clear c1
 try clear p2
 try clear c3
 try clear c3b0
 try clear c3b1
 try clear c4
 try clear c4b0
 try clear c4b1
 try clear c4b2
 try clear c7
 try clear aQ
 try clear aR
 try clear aU
 try clear aV
 try clear aS
 try clear aT
 try clear aW
 try clear aX
 obtain ⟨ad, rfl, HA, HK1, aa, ae, HB⟩ := hrel
 cases gk with
 | zero => exact absurd HA.out (by simp [spec_l14Less.l0])
 | succ k1 =>
  have H := HA.out
  clear HA
  simp only [spec_l14Less.l0] at H
  by_cases c10 : ad < (ab.length : Int)
  rotate_left
  ·rw [if_neg c10] at H
   have c10b0 : decide (ad < (ab.length : Int)) = false := decide_eq_false c10
   clear c10
   obtain rfl := Option.some.inj H
   have cg := af.out
   have ch := ag.out
   have bB := bc wr aa 0 (.slice aq ab.length ar) rfl
   have bC := bc wr aa 1 (.int .i64 ai) rfl
   have bD := fz aa 0
   have bE := fz aa 1
   go_wp2
   repeat (go_quiet (fail); try go_wp2)
   go_ret
   exact ⟨by rfl, bl2 HB ah ap⟩
  rw [if_pos c10] at H
  have c10b0 : decide (ad < (ab.length : Int)) = true := decide_eq_true c10
  clear c10
  by_cases c11 : 0 ≤ ad
  rotate_left
  ·rw [if_neg c11] at H
   exact absurd H (by simp)
  rw [if_pos c11] at H
  have c11b0 : decide (0 ≤ ad) = true := decide_eq_true c11
  clear c11
  by_cases c12 : ad < (ac.length : Int)
  rotate_left
  ·rw [if_neg c12] at H
   exact absurd H (by simp)
  rw [if_pos c12] at H
  have c12b0 : decide (ad < (ac.length : Int)) = true := decide_eq_true c12
  clear c12
  by_cases c13 : (rd ab ad) = (rd ac ad)
  ·rw [if_pos c13] at H
   have c13b0 : ((rd ab ad) == (rd ac ad)) = true := beq_iff_eq.mpr c13
   have c13b1 : ((rd ab ad) != (rd ac ad)) = false := bne_eq_false_iff_eq.mpr c13
   clear c13
   have H' := ak H
   clear H
   have ci := af.out
   have cj := ag.out
   have bG := bc wr aa 0 (.slice aq ab.length ar) rfl
   have bH := bc wr aa 1 (.int .i64 ai) rfl
   have bI := fz aa 0
   have bJ := fz aa 1
   have ay : 0 ≤ (ad : Int) := oT (by (with_reducible assumption))
   have az : ad < (ab.length : Int) := oT (by (with_reducible assumption))
   obtain ⟨aO, aY, an⟩ := Kd.at_int aE.out ad ay az
   cases aY
   replace an := hcb HB.out an
   replace ay := eq_true ay
   replace az := eq_true az
   have bK := bc wr ae 0 (.slice aw ac.length ax) rfl
   have bL := bc wr ae 1 (.int .i64 aj) rfl
   have bM := fz ae 0
   have bN := fz ae 1
   have aA : 0 ≤ (ad : Int) := oT (by (with_reducible assumption))
   have aB : ad < (ac.length : Int) := oT (by (with_reducible assumption))
   obtain ⟨aP, aZ, ao⟩ := Kd.at_int aF.out ad aA aB
   cases aZ
   replace ao := hcb HB.out ao
   replace aA := eq_true aA
   replace aB := eq_true aB
   go_wp2
   repeat (go_quiet (fail); try go_wp2)
   go_roundg k1
   case measure => have := HK1.out; omega
   case rel => exact ⟨(wrap64 (ad + 1)), (by rfl), H', ⟨by have := HK1.out; omega⟩, ⟨bk aa⟩, ⟨bk ae⟩, ⟨bl2 HB ah ap⟩⟩
  rw [if_neg c13] at H
  have c13b0 : ((rd ab ad) == (rd ac ad)) = false := beq_eq_false_iff_ne.mpr c13
  have c13b1 : ((rd ab ad) != (rd ac ad)) = true := bne_iff_ne.mpr c13
  obtain rfl := Option.some.inj H
  have ck := af.out
  have cl := ag.out
  have bO := bc wr aa 0 (.slice aq ab.length ar) rfl
  have bP := bc wr aa 1 (.int .i64 ai) rfl
  have bQ := fz aa 0
  have bR := fz aa 1
  have ay : 0 ≤ (ad : Int) := oT (by (with_reducible assumption))
  have az : ad < (ab.length : Int) := oT (by (with_reducible assumption))
  obtain ⟨aO, aY, an⟩ := Kd.at_int aE.out ad ay az
  cases aY
  replace an := hcb HB.out an
  replace ay := eq_true ay
  replace az := eq_true az
  have bS := bc wr ae 0 (.slice aw ac.length ax) rfl
  have bU := bc wr ae 1 (.int .i64 aj) rfl
  have bV := fz ae 0
  have bW := fz ae 1
  have aA : 0 ≤ (ad : Int) := oT (by (with_reducible assumption))
  have aB : ad < (ac.length : Int) := oT (by (with_reducible assumption))
  obtain ⟨aP, aZ, ao⟩ := Kd.at_int aF.out ad aA aB
  cases aZ
  replace ao := hcb HB.out ao
  replace aA := eq_true aA
  replace aB := eq_true aB
  have ba : 0 ≤ (ad : Int) := oT (by (with_reducible assumption))
  have bb : ad < (ab.length : Int) := oT (by (with_reducible assumption))
  obtain ⟨bf, bX, aC⟩ := Kd.at_int aE.out ad ba bb
  obtain rfl : aO = bf := (by injection bX)
  replace aC := hcb HB.out aC
  replace ba := eq_true ba
  replace bb := eq_true bb
  have bd : 0 ≤ (ad : Int) := oT (by (with_reducible assumption))
  have be : ad < (ac.length : Int) := oT (by (with_reducible assumption))
  obtain ⟨bg, bY, aD⟩ := Kd.at_int aF.out ad bd be
  obtain rfl : aP = bg := (by injection bY)
  replace aD := hcb HB.out aD
  replace bd := eq_true bd
  replace be := eq_true be
  go_wp2
  repeat (go_quiet (fail); try go_wp2)
  go_ret
  exact ⟨by rfl, bl2 HB ah ap⟩
/-! ### spec_l14Put: function 114 -/
def spec_l14Put.l0 : Nat → List (S103) → Int → Int → List Int → Int → Option ((List (S103)))
 | 0, _, _, _, _, _ => none
 | k + 1, x0, x2, x7, aY, aZ => if x7 < (x0.length : Int) then (if 0 ≤ x7 then ((spec_l14Less.f k aY aZ ((qQg x0 x7).f0) ((qQg x0 x7).f1)).bind fun dh => (if dh = true then ((some (([] : List (S103)) : List (S103))).bind fun bf => (if x7 ≤ (x0.length : Int) then ((some (x0.take (x7 : Int).toNat : List (S103))).bind fun aC => (if bf.length + aC.length < 4398046511104 then ((some (bf ++ aC : List (S103))).bind fun aN => (if aN.length < 4398046511104 then ((some (aN ++ [(⟨aY, aZ⟩ : S103)] : List (S103))).bind fun aD => ((some (x0.drop (x7 : Int).toNat : List (S103))).bind fun ap => (if aD.length + ap.length < 4398046511104 then ((some (aD ++ ap : List (S103))).bind fun aj => (if (aj.length : Int) > x2 then (if 0 ≤ x2 then (if x2 ≤ (aj.length : Int) then (some (aj.take (x2 : Int).toNat)) else (none)) else (none)) else (some aj))) else (none)))) else (none))) else (none))) else (none))) else (spec_l14Put.l0 k x0 x2 (wrap64 (x7 + 1)) aY aZ))) else (none)) else ((some (([] : List (S103)) : List (S103))).bind fun bg => (if 0 ≤ x7 then (if x7 ≤ (x0.length : Int) then ((some (x0.take (x7 : Int).toNat : List (S103))).bind fun aE => (if bg.length + aE.length < 4398046511104 then ((some (bg ++ aE : List (S103))).bind fun aQ => (if aQ.length < 4398046511104 then ((some (aQ ++ [(⟨aY, aZ⟩ : S103)] : List (S103))).bind fun aG => ((some (x0.drop (x7 : Int).toNat : List (S103))).bind fun aq => (if aG.length + aq.length < 4398046511104 then ((some (aG ++ aq : List (S103))).bind fun al => (if (al.length : Int) > x2 then (if 0 ≤ x2 then (if x2 ≤ (al.length : Int) then (some (al.take (x2 : Int).toNat)) else (none)) else (none)) else (some al))) else (none)))) else (none))) else (none))) else (none)) else (none)))
def spec_l14Put.f (k : Nat) (l0 : List (S103)) (ah : List Int) (am : Int) (a2 : Int) : Option ((List (S103))) := spec_l14Put.l0 k l0 a2 0 ah am
theorem spec_l14Put.mono_l : ∀ k, (∀ y0 y1 y2 y3 y4, LeO (spec_l14Put.l0 k y0 y1 y2 y3 y4) (spec_l14Put.l0 (k + 1) y0 y1 y2 y3 y4))
 | 0 => fun _ _ _ _ _ r h => by simp [spec_l14Put.l0] at h
 | k + 1 => by
  have ih0 := spec_l14Put.mono_l k
  ·intro y0 y1 y2 y3 y4
   unfold spec_l14Put.l0
   repeat' first | (with_reducible exact ih0 _ _ _ _ _) | (with_reducible exact spec_l14Less.mono _ _ _ _ _) | (with_reducible exact LeO.refl _) | (with_reducible refine LeO.ite ?_ ?_) | (with_reducible refine LeO.bind ?_ (fun _ => ?_))
theorem spec_l14Put.mono : ∀ a0 a1 a2 a3 k, LeO (spec_l14Put.f k a0 a1 a2 a3) (spec_l14Put.f (k + 1) a0 a1 a2 a3) := by
 intro a0 a1 a2 a3 k
 have ih0 := spec_l14Put.mono_l k
 unfold spec_l14Put.f
 repeat' (with_reducible exact ih0 _ _ _ _ _)
def spec_l14Put.T2 : Bool × List (List Nat × List Nat) := (true, [([], []), ([], []), ([1], [1]), ([0, 2], [0, 2]), ([3], [3]), ([4], [4]), ([4], [4]), ([4], [4]), ([6, 7, 4], [4, 6, 7]), ([8, 4], [4, 8]), ([5, 9, 4, 4], [4, 5, 9]), ([10, 4], [4, 10]), ([4, 11], [4, 11])])
def spec_l14Put.B2 : List Nat := [0, 0, 2, 7, 15, 31, 31, 31, 223, 479, 1023, 2047, 4095]
theorem spec_l14Put.tab2 : rtab .any (qKd Try.f114 2) = spec_l14Put.T2 := by kernel_rfl
theorem spec_l14Put.bits2 : qJf spec_l14Put.T2.2 spec_l14Put.B2 = true := by kernel_rfl
set_option maxHeartbeats 8000000 in
set_option maxRecDepth 100000 in
theorem spec_l14Put.calls (k : Nat) (P0_ : Nat → Prop) (A0 : Option Addr) (c0 : Nat) (l0 : List (S103)) (P1_0_ : Nat → Prop) (aH : Option Addr) (aI : Nat) (ah : List Int) (am : Int) (a2 : Int) (r : List (S103)) (w : World) (hs0 : Kd.V k103 103 w w.heap.size (fun k_ => P0_ k_) (.slice A0 l0.length c0) l0) (dC : Kd.V (Kd.int .i64) 3 w w.heap.size (fun k_ => P1_0_ k_) (.slice aH ah.length aI) ah) (h : spec_l14Put.f k l0 ah am a2 = some r) :
  Calls Try.prog 114 #[.slice A0 l0.length c0, .agg #[.slice aH ah.length aI, .int .i64 am], .int .i64 a2] w fun e w' => ∃ v0_ : Value, e = .returned (v0_) ∧ Kd.N k103 103 w' w.heap.size (fun k_ => ((P0_ k_ ∨ P1_0_ k_) ∨ w.heap.size ≤ k_)) v0_ r ∧ Below w.heap.size w w' := by
 have eF := Try.underlying103
 have HO0 := ak (show Kd.V k103 103 w w.heap.size (fun k_ => ((P0_ k_ ∨ P1_0_ k_) ∨ w.heap.size ≤ k_)) (.slice A0 l0.length c0) l0 from Kd.V_mono hs0 (fun k_ hk => .inl (.inl hk)))
 have bO := ak (show Kd.V (Kd.int .i64) 3 w w.heap.size (fun k_ => ((P0_ k_ ∨ P1_0_ k_) ∨ w.heap.size ≤ k_)) (.slice aH ah.length aI) ah from Kd.V_mono dC (fun k_ hk => .inl (.inr hk)))
 have HB := ak (Below.refl w.heap.size w)
 have H : (spec_l14Put.l0 k l0 a2 0 ah am) = some r := h
 clear h
 have H' := ak H
 clear H
 go_enter Try.func114, Try.ntmps114
 go_wp2_with (((with_reducible refine gate_dst (N := 4) rfl ?_); refine qZj ?hg (N := 4) ?hd (cs := #[.slice aH ah.length aI, .int .i64 am]) (t := 103) ?hr ?_; (case hd => rfl); (case hg => rfl); (case hr => (go_simp; done)); intro ac hg w4 hbox hb; replace HO0 := ak (Kd.V_below (Kd.V_elderB (by exact HO0.out) ac (Nat.le_of_eq hg.symm)) hb); replace bO := ak (Kd.V_below (Kd.V_elderB (by exact bO.out) ac (Nat.le_of_eq hg.symm)) hb); have ab := ak (hbox); have eG := ak ((by rw [hg]; exact (qZc (bl HB)) : w.heap.size ≤ ac)); have af := ak ((by rw [hg]; exact (qZc (bl HB)) : w.heap.size ≤ ac)); replace HB := ak (qZd (bl HB) hb); clear hb hbox hg))
 go_loopg [7] k (fun kq v7 w' => ∃ (ad : Int), v7 = .int .i64 ad ∧ Aside0 (spec_l14Put.l0 kq l0 a2 ad ah am = some r) ∧ Aside0 (kq ≤ k) ∧ Aside0 (Kd.V k103 103 w' w.heap.size (fun k_ => ((P0_ k_ ∨ P1_0_ k_) ∨ w.heap.size ≤ k_) ∧ k_ ≠ ac) (.slice A0 l0.length c0) l0) ∧ Aside0 (Kd.V (Kd.int .i64) 3 w' w.heap.size (fun k_ => ((P0_ k_ ∨ P1_0_ k_) ∨ w.heap.size ≤ k_) ∧ k_ ≠ ac) (.slice aH ah.length aI) ah) ∧ Aside0 (w'.heap[ac]? = some (.cells #[(.slice aH ah.length aI), .int .i64 am] 103 (0, 0))) ∧ Aside0 (Below w.heap.size w w'))
 case atStart => exact ⟨(0), (by rfl), H', ⟨Nat.le_refl _⟩, ⟨by exact HO0.out⟩, ⟨by exact bO.out⟩, ⟨bk ab⟩, ⟨bl1 HB af⟩⟩
 clear H'
 try clear c1
 try clear p2
 obtain ⟨ad, rfl, HA, HK1, ae, aa, ab, HB⟩ := hrel
 cases gk with
 | zero => exact absurd HA.out (by simp [spec_l14Put.l0])
 | succ k1 =>
  have H := HA.out
  clear HA
  simp only [spec_l14Put.l0] at H
  by_cases c5 : ad < (l0.length : Int)
  rotate_left
  ·rw [if_neg c5] at H
   have c5b0 : decide (ad < (l0.length : Int)) = false := decide_eq_false c5
   clear c5
   obtain ⟨bg, bP⟩ : ∃ y_ : List (S103), y_ = (([] : List (S103))) := ⟨_, rfl⟩
   replace H : (if 0 ≤ ad then (if ad ≤ (l0.length : Int) then ((some (l0.take (ad : Int).toNat : List (S103))).bind fun aE => (if bg.length + aE.length < 4398046511104 then ((some (bg ++ aE : List (S103))).bind fun aQ => (if aQ.length < 4398046511104 then ((some (aQ ++ [(⟨ah, am⟩ : S103)] : List (S103))).bind fun aG => ((some (l0.drop (ad : Int).toNat : List (S103))).bind fun aq => (if aG.length + aq.length < 4398046511104 then ((some (aG ++ aq : List (S103))).bind fun al => (if (al.length : Int) > a2 then (if 0 ≤ a2 then (if a2 ≤ (al.length : Int) then (some (al.take (a2 : Int).toNat)) else (none)) else (none)) else (some al))) else (none)))) else (none))) else (none))) else (none)) else (none)) = some r := by (have H2_ := (Option.bind_some _ _).symm.trans H; rw [bP]; with_reducible exact H2_)
   have cC := ak bP
   clear bP
   by_cases c44 : 0 ≤ ad
   rotate_left
   ·rw [if_neg c44] at H
    exact absurd H (by simp)
   rw [if_pos c44] at H
   have c44b0 := eq_true c44
   have c44b1 : decide (0 ≤ ad) = true := decide_eq_true c44
   clear c44
   by_cases c45 : ad ≤ (l0.length : Int)
   rotate_left
   ·rw [if_neg c45] at H
    exact absurd H (by simp)
   rw [if_pos c45] at H
   have c45b0 := eq_true c45
   have c45b1 : decide (ad ≤ (l0.length : Int)) = true := decide_eq_true c45
   clear c45
   obtain ⟨aE, bQ⟩ : ∃ y_ : List (S103), y_ = (l0.take (ad : Int).toNat) := ⟨_, rfl⟩
   replace H : (if bg.length + aE.length < 4398046511104 then ((some (bg ++ aE : List (S103))).bind fun aQ => (if aQ.length < 4398046511104 then ((some (aQ ++ [(⟨ah, am⟩ : S103)] : List (S103))).bind fun aG => ((some (l0.drop (ad : Int).toNat : List (S103))).bind fun aq => (if aG.length + aq.length < 4398046511104 then ((some (aG ++ aq : List (S103))).bind fun al => (if (al.length : Int) > a2 then (if 0 ≤ a2 then (if a2 ≤ (al.length : Int) then (some (al.take (a2 : Int).toNat)) else (none)) else (none)) else (some al))) else (none)))) else (none))) else (none)) = some r := by (have H2_ := (Option.bind_some _ _).symm.trans H; rw [bQ]; with_reducible exact H2_)
   have bB := ak bQ
   clear bQ
   by_cases c46 : bg.length + aE.length < 4398046511104
   rotate_left
   ·rw [if_neg c46] at H
    exact absurd H (by simp)
   rw [if_pos c46] at H
   have cD := ak c46
   clear c46
   obtain ⟨aQ, bR⟩ : ∃ y_ : List (S103), y_ = (bg ++ aE) := ⟨_, rfl⟩
   replace H : (if aQ.length < 4398046511104 then ((some (aQ ++ [(⟨ah, am⟩ : S103)] : List (S103))).bind fun aG => ((some (l0.drop (ad : Int).toNat : List (S103))).bind fun aq => (if aG.length + aq.length < 4398046511104 then ((some (aG ++ aq : List (S103))).bind fun al => (if (al.length : Int) > a2 then (if 0 ≤ a2 then (if a2 ≤ (al.length : Int) then (some (al.take (a2 : Int).toNat)) else (none)) else (none)) else (some al))) else (none)))) else (none)) = some r := by (have H2_ := (Option.bind_some _ _).symm.trans H; rw [bR]; with_reducible exact H2_)
   have cE := ak bR
   clear bR
   by_cases c47 : aQ.length < 4398046511104
   rotate_left
   ·rw [if_neg c47] at H
    exact absurd H (by simp)
   rw [if_pos c47] at H
   have cF := ak c47
   clear c47
   obtain ⟨aG, bS⟩ : ∃ y_ : List (S103), y_ = (aQ ++ [(⟨ah, am⟩ : S103)]) := ⟨_, rfl⟩
   replace H : ((some (l0.drop (ad : Int).toNat : List (S103))).bind fun aq => (if aG.length + aq.length < 4398046511104 then ((some (aG ++ aq : List (S103))).bind fun al => (if (al.length : Int) > a2 then (if 0 ≤ a2 then (if a2 ≤ (al.length : Int) then (some (al.take (a2 : Int).toNat)) else (none)) else (none)) else (some al))) else (none))) = some r := by (have H2_ := (Option.bind_some _ _).symm.trans H; rw [bS]; with_reducible exact H2_)
   have cG := ak bS
   clear bS
   have c48b0 := eq_true (oT (by (with_reducible assumption)) : 0 ≤ ad)
   have c49b0 := eq_true (oT (by (with_reducible assumption)) : ad ≤ (l0.length : Int))
   obtain ⟨aq, bU⟩ : ∃ y_ : List (S103), y_ = (l0.drop (ad : Int).toNat) := ⟨_, rfl⟩
   replace H : (if aG.length + aq.length < 4398046511104 then ((some (aG ++ aq : List (S103))).bind fun al => (if (al.length : Int) > a2 then (if 0 ≤ a2 then (if a2 ≤ (al.length : Int) then (some (al.take (a2 : Int).toNat)) else (none)) else (none)) else (some al))) else (none)) = some r := by (have H2_ := (Option.bind_some _ _).symm.trans H; rw [bU]; with_reducible exact H2_)
   have bC := ak bU
   clear bU
   by_cases c50 : aG.length + aq.length < 4398046511104
   rotate_left
   ·rw [if_neg c50] at H
    exact absurd H (by simp)
   rw [if_pos c50] at H
   have cH := ak c50
   clear c50
   obtain ⟨al, bV⟩ : ∃ y_ : List (S103), y_ = (aG ++ aq) := ⟨_, rfl⟩
   replace H : (if (al.length : Int) > a2 then (if 0 ≤ a2 then (if a2 ≤ (al.length : Int) then (some (al.take (a2 : Int).toNat)) else (none)) else (none)) else (some al)) = some r := by (have H2_ := (Option.bind_some _ _).symm.trans H; rw [bV]; with_reducible exact H2_)
   have cI := ak bV
   clear bV
   by_cases c51 : (al.length : Int) > a2
   rotate_left
   ·rw [if_neg c51] at H
    have c51b0 : decide (a2 < (al.length : Int)) = false := decide_eq_false c51
    clear c51
    obtain rfl := Option.some.inj H
    try go_wp2
    replace ae := ak (Kd.V_drew ae.out)
    replace aa := ak (Kd.V_drew aa.out)
    replace ab := ak (qZp ab.out)
    replace HB := ak (qZo HB.out)
    refine qJd (n := 13) (S := fun w' => True) (ds := []) (ms 13 0) (by kernel_rfl) rfl (by kernel_rfl) trivial (fun hHeld => ?_); refine qQk spec_l14Put.tab2 spec_l14Put.bits2 (fun HT_ HW_ => ?_)
    generalize wr.drew = w65 at ae aa ab HB hHeld ⊢
    refine pu 0 9 ?_ (ms 13 1) rfl rfl HT_ (by kernel_rfl) (fun _ _ _ h => h) (by rfl) ?_ ?_ ?_ ?_
    rotate_left
    ·intro w'
     go_simp
     with_reducible rfl
    rotate_left
    ·simp only [SX]
     rfl
    refine pu 1 10 ?_ (ms 13 3) rfl rfl HT_ (by kernel_rfl) (fun _ _ _ h => h) (by rfl) ?_ ?_ ?_ ?_
    rotate_left
    ·intro w'
     go_simp
     with_reducible rfl
    rotate_left
    ·simp only [SX]
     rfl
    refine pu 2 11 ?_ (ms 13 7) rfl rfl HT_ (by kernel_rfl) (fun _ _ _ h => h) (by rfl) ?_ ?_ ?_ ?_
    rotate_left
    ·intro w'
     go_simp
     with_reducible rfl
    rotate_left
    ·simp only [SX]
     rfl
    refine pu 3 12 ?_ (ms 13 15) rfl rfl HT_ (by kernel_rfl) (fun _ _ _ h => h) (by rfl) ?_ ?_ ?_ ?_
    rotate_left
    ·intro w'
     go_simp
     with_reducible rfl
    rotate_left
    ·simp only [SX]
     rfl
    refine pu 4 13 ?_ (ms 13 31) rfl rfl HT_ (by kernel_rfl) (fun _ _ _ h => h) (by rfl) ?_ ?_ ?_ ?_
    rotate_left
    ·intro w'
     go_simp
     with_reducible rfl
    rotate_left
    ·simp only [SX]
     rfl
    refine qZm (i := 5) (N := some 14) (v := undef) (a' := ?_) (ms 13 63) rfl rfl (qZf HT_.out (by kernel_rfl)) (fun _ _ _ h => h) (Or.inr ⟨by rfl, rfl⟩) ?_ ?_
    rotate_left
    ·simp only [SX]
     rfl
    refine qZm (i := 6) (N := some 15) (v := undef) (a' := ?_) (ms 13 127) rfl rfl (qZf HT_.out (by kernel_rfl)) (fun _ _ _ h => h) (Or.inr ⟨by rfl, rfl⟩) ?_ ?_
    rotate_left
    ·simp only [SX]
     rfl
    refine qZm (i := 7) (N := some 16) (v := undef) (a' := ?_) (ms 13 255) rfl rfl (qZf HT_.out (by kernel_rfl)) (fun _ _ _ h => h) (Or.inr ⟨by rfl, rfl⟩) ?_ ?_
    rotate_left
    ·simp only [SX]
     rfl
    refine qZm (i := 8) (N := some 17) (v := undef) (a' := ?_) (ms 13 511) rfl rfl (qZf HT_.out (by kernel_rfl)) (fun _ _ _ h => h) (Or.inr ⟨by rfl, rfl⟩) ?_ ?_
    rotate_left
    ·simp only [SX]
     rfl
    refine qZm (i := 9) (N := some 18) (v := undef) (a' := ?_) (ms 13 1023) rfl rfl (qZf HT_.out (by kernel_rfl)) (fun _ _ _ h => h) (Or.inr ⟨by rfl, rfl⟩) ?_ ?_
    rotate_left
    ·simp only [SX]
     rfl
    refine qZm (i := 10) (N := some 19) (v := undef) (a' := ?_) (ms 13 2047) rfl rfl (qZf HT_.out (by kernel_rfl)) (fun _ _ _ h => h) (Or.inr ⟨by rfl, rfl⟩) ?_ ?_
    rotate_left
    ·simp only [SX]
     rfl
    refine qZm (i := 11) (N := some 20) (v := undef) (a' := ?_) (ms 13 4095) rfl rfl (qZf HT_.out (by kernel_rfl)) (fun _ _ _ h => h) (Or.inr ⟨by rfl, rfl⟩) ?_ ?_
    rotate_left
    ·simp only [SX]
     rfl
    refine pu 12 21 ?_ (ms 13 8191) rfl rfl HT_ (by kernel_rfl) (fun _ _ _ h => h) (by rfl) ?_ ?_ ?_ ?_
    rotate_left
    ·intro w'
     go_simp
     with_reducible rfl
    rotate_left
    ·simp only [SX]
     rfl
    refine qXc (qQp HT_.out (by kernel_rfl)) ?_
    try go_wp2_with (first | ((with_reducible refine gate_dst (N := 24) rfl ?_); refine Kd.N_lit k103 _ 103 ?hg (N' := 24) ?hd (xs := ([] : List (S103))) (inner := []) (ok := (fun k_ => ((P0_ k_ ∨ P1_0_ k_) ∨ w.heap.size ≤ k_) ∧ k_ ≠ ac)) (okp := (fun k_ => ((P0_ k_ ∨ P1_0_ k_) ∨ w.heap.size ≤ k_) ∧ k_ ≠ ac)) ?hr ?hp (fun _ hk => hk) ((show ∀ k_, w65.heap.size ≤ k_ → (fun k_ => ((P0_ k_ ∨ P1_0_ k_) ∨ w.heap.size ≤ k_) ∧ k_ ≠ ac) k_ from fun k_ hk => ⟨(.inr (Nat.le_trans (qZc (bl1 HB af)) hk)), Kd.freshB (bk ab) k_ hk⟩) _ (Nat.le_refl _)) (Below.refl _ _) (Nat.le_refl _) (by simp) ?_; (case hd => rfl); (case hg => rfl); (case hr => (go_simp; done)); (case hp => exact (Reps.none _ _)); intro bw w66 bW hb hg_ hnew_; clear hg_ hnew_; (rw [← cC.out] at bW); replace ae := ak (Kd.V_elder' (by exact ae.out) (Kd.N_base bW) hb); replace aa := ak (Kd.V_elder' (by exact aa.out) (Kd.N_base bW) hb); have bh := ak (Kd.N_lower bW (qZc (bl1 HB af))); replace ab := ak (qZe (bk ab) hb); replace HB := ak (qZd (bl1 HB af) hb); clear hb bW; have q68 : (ad : Int) ≤ ((l0.length : Int) : Int) := oT (by (with_reducible assumption)); obtain ⟨i068, cJ, _, dD, _⟩ := info_parts qJh; have bD : l0.length ≤ c0 := (Kd.V_reads' ae.out).2.1; have dE : Kd.F k103 _ _ A0 l0.length l0 := (Kd.V_at (base := w.heap.size) ae.out).2.2; have di := qYk (P := Try.prog) 100 103 .i64 Try.underlying100 cJ A0 l0.length c0 ad (oT (by (with_reducible assumption))) q68 bD; have dj := Kd.F_take (m := (ad : Int).toNat) dE (by omega); have dk : aE.length = (ad : Int).toNat := (by rw [bB.out, List.length_take]; omega); rw [← bB.out] at dj; rw [← dk] at di; have ar := ak (show Kd.V k103 103 _ w.heap.size _ (.slice A0 aE.length c0) aE from Kd.V_mk (by omega) dj); have dF := ak (show aE.length ≤ c0 from by omega); clear dj dE bD cJ dD; have eH := ak dk; clear dk; replace q68 := eq_true q68) | ((with_reducible refine gate_builtin (b := .append) (xs := #[.tmp 24, .tmp 27]) rfl ?_); at_builtin; refine Kd.N_append_rows k103 (w0 := w) w.heap.size rfl (.tmp 24) (.tmp 27) 100 103 (.agg #[(.slice none 0 0), (.int .i64 0)]) 32 rfl Try.underlying100 qJh rfl (by decide) (by omega) bw bg aE _ _ _ (fun k_ => ((P0_ k_ ∨ P1_0_ k_) ∨ w.heap.size ≤ k_) ∧ k_ ≠ ac) (fun k_ => ((fun k_ => ((P0_ k_ ∨ P1_0_ k_) ∨ w.heap.size ≤ k_) ∧ k_ ≠ ac)) k_ ∧ some k_ ≠ (bw : Value).ownBlock) rfl rfl ?aO ?aR (fun _ hk => hk) ?aF ?aB ?aS ?aL ?_; (case aR => exact (by skip; exact Kd.V_F (Kd.V_mono (ok' := (fun k_ => ((fun k_ => ((P0_ k_ ∨ P1_0_ k_) ∨ w.heap.size ≤ k_) ∧ k_ ≠ ac)) k_ ∧ some k_ ≠ (bw : Value).ownBlock)) (ar.out) (fun k_ hk => ⟨⟨hk.1.1, hk.1.2⟩, hk.2⟩)))); (case aB => exact (bl1 HB af)); (case aF => exact (fun k_ hk => ⟨(.inr (Nat.le_trans (qZc (bl1 HB af)) hk)), Kd.freshB (bk ab) k_ hk⟩)); (case aO => exact (by exact bh.out)); (case aS => exact (qZc (bl1 HB af))); (case aL => have := cD.out; omega); intro bu w69 ho hb hg hat; rw [← cE.out] at ho; have n0_ := ak (Kd.V_afterv (ok := (fun k_ => ((P0_ k_ ∨ P1_0_ k_) ∨ w.heap.size ≤ k_) ∧ k_ ≠ ac)) (by exact ae.out) hg hat); have n1_ := ak (Kd.V_afterv (ok := (fun k_ => ((P0_ k_ ∨ P1_0_ k_) ∨ w.heap.size ≤ k_) ∧ k_ ≠ ac)) (by exact aa.out) hg hat); have n2_ := ak (qZg (bk ab) hg (Kd.N_away bh.out (fun _ hk => hk.2))); have n3_ := ak (Kd.V_afterv (ok := (fun k_ => ((P0_ k_ ∨ P1_0_ k_) ∨ w.heap.size ≤ k_) ∧ k_ ≠ ac)) (by exact ar.out) hg hat); have n4_ := ak (hb); have n5_ := ak (ho); clear ae; clear aa; clear ab; clear ar; clear HB; clear bh; have ae := n0_; have aa := n1_; have ab := n2_; have ar := n3_; have HB := n4_; have bi := n5_; clear n0_ n1_ n2_ n3_ n4_ n5_; clear ho hb hg hat; have eb := bc w69 ab 0 (.slice aH ah.length aI) rfl; have ec := bc w69 ab 1 (.int .i64 am) rfl; have ed := fz ab 0; have ee := fz ab 1) | ((with_reducible refine gate_builtin (b := .append) (xs := #[.tmp 29, .tmp 31]) rfl ?_); at_builtin; refine Kd.N_append k103 (w0 := w) w.heap.size rfl (.tmp 29) (.tmp 31) 100 103 (.agg #[(.slice none 0 0), (.int .i64 0)]) 32 rfl Try.underlying100 qJh rfl (by decide) (by omega) bu aQ (⟨ah, am⟩ : S103) [.slice aH ah.length aI, .int .i64 am] (fun k_ => ((P0_ k_ ∨ P1_0_ k_) ∨ w.heap.size ≤ k_) ∧ k_ ≠ ac) (fun k_ => ((fun k_ => ((P0_ k_ ∨ P1_0_ k_) ∨ w.heap.size ≤ k_) ∧ k_ ≠ ac)) k_ ∧ some k_ ≠ (bu : Value).ownBlock) rfl rfl ?aP (fun _ hk => hk) ?aF ?aO ?aB ?aS ?aL ?_; (case aP => exact (qYp _ _ (⟨ah, am⟩ : S103) (Kd.V_reads' (Kd.V_mono (ok' := (fun k_ => ((fun k_ => ((P0_ k_ ∨ P1_0_ k_) ∨ w.heap.size ≤ k_) ∧ k_ ≠ ac)) k_ ∧ some k_ ≠ (bu : Value).ownBlock)) (aa.out) (fun k_ hk => ⟨⟨hk.1.1, hk.1.2⟩, hk.2⟩))).2.1 (Kd.V_F (Kd.V_mono (ok' := (fun k_ => ((fun k_ => ((P0_ k_ ∨ P1_0_ k_) ∨ w.heap.size ≤ k_) ∧ k_ ≠ ac)) k_ ∧ some k_ ≠ (bu : Value).ownBlock)) (aa.out) (fun k_ hk => ⟨⟨hk.1.1, hk.1.2⟩, hk.2⟩))))); (case aB => exact (bl1 HB af)); (case aF => exact (fun k_ hk => ⟨(.inr (Nat.le_trans (qZc (bl1 HB af)) hk)), Kd.freshB (bk ab) k_ hk⟩)); (case aO => exact (by exact bi.out)); (case aS => exact (qZc (bl1 HB af))); (case aL => have := cF.out; omega); intro bx w71 ho hb hg hat; rw [← cG.out] at ho; have n0_ := ak (Kd.V_afterv (ok := (fun k_ => ((P0_ k_ ∨ P1_0_ k_) ∨ w.heap.size ≤ k_) ∧ k_ ≠ ac)) (by exact ae.out) hg hat); have n1_ := ak (Kd.V_afterv (ok := (fun k_ => ((P0_ k_ ∨ P1_0_ k_) ∨ w.heap.size ≤ k_) ∧ k_ ≠ ac)) (by exact aa.out) hg hat); have n2_ := ak (qZg (bk ab) hg (Kd.N_away bi.out (fun _ hk => hk.2))); have n3_ := ak (Kd.V_afterv (ok := (fun k_ => ((P0_ k_ ∨ P1_0_ k_) ∨ w.heap.size ≤ k_) ∧ k_ ≠ ac)) (by exact ar.out) hg hat); have n4_ := ak (hb); have n5_ := ak (ho); clear ae; clear aa; clear ab; clear ar; clear HB; clear bi; have ae := n0_; have aa := n1_; have ab := n2_; have ar := n3_; have HB := n4_; have bj := n5_; clear n0_ n1_ n2_ n3_ n4_ n5_; clear ho hb hg hat; have q72 : (ad : Int) ≤ ((l0.length : Int) : Int) := oT (by (with_reducible assumption)); obtain ⟨i072, cK, _, cL, _⟩ := info_parts qJh; have ba : l0.length ≤ c0 := (Kd.V_reads' ae.out).2.1; have dG : Kd.F k103 _ _ A0 l0.length l0 := (Kd.V_at (base := w.heap.size) ae.out).2.2; have er : (0 : Int) ≤ (ad : Int) := oT (by (with_reducible assumption)); have dl := qYn (P := Try.prog) 100 103 .i64 Try.underlying100 cK 2 cL A0 l0.length c0 ad er q72; have bX := Kd.F_cut (m := (ad : Int).toNat) (c := c0) dG (by omega) ba; obtain ⟨A72, cr⟩ : ∃ A1, A1 = (if c0 = (ad : Int).toNat then A0 else (A0 : Option Addr).map (·.add ((ad : Int).toNat * 2))) := ⟨_, rfl⟩; obtain ⟨c72, ct⟩ : ∃ c1, c1 = c0 - (ad : Int).toNat := ⟨_, rfl⟩; have bY : aq.length = l0.length - (ad : Int).toNat := (by rw [bC.out, List.length_drop] <;> omega); rw [show (l0).drop (ad : Int).toNat = aq from bC.out.symm] at bX; replace bX : Kd.F k103 _ _ A72 aq.length aq := (by rw [cr]; exact bX); rw [← bY, ← cr, ← ct] at dl; have aT := ak (show Kd.V k103 103 _ w.heap.size _ (.slice A72 aq.length c72) aq from Kd.V_mk (by rw [bY, ct]; exact Nat.sub_le_sub_right ba _) bX); have dH := ak (show aq.length ≤ c72 from by rw [bY, ct]; exact Nat.sub_le_sub_right ba _); clear bX dG ba cK cL ct; have eI := ak bY; have eJ := ak cr; clear bY cr; replace q72 := eq_true q72) | ((with_reducible refine gate_builtin (b := .append) (xs := #[.tmp 33, .tmp 36]) rfl ?_); at_builtin; refine Kd.N_append_rows k103 (w0 := w) w.heap.size rfl (.tmp 33) (.tmp 36) 100 103 (.agg #[(.slice none 0 0), (.int .i64 0)]) 32 rfl Try.underlying100 qJh rfl (by decide) (by omega) bx aG aq _ _ _ (fun k_ => ((P0_ k_ ∨ P1_0_ k_) ∨ w.heap.size ≤ k_) ∧ k_ ≠ ac) (fun k_ => ((fun k_ => ((P0_ k_ ∨ P1_0_ k_) ∨ w.heap.size ≤ k_) ∧ k_ ≠ ac)) k_ ∧ some k_ ≠ (bx : Value).ownBlock) rfl rfl ?aO ?aR (fun _ hk => hk) ?aF ?aB ?aS ?aL ?_; (case aR => exact (by skip; exact Kd.V_F (Kd.V_mono (ok' := (fun k_ => ((fun k_ => ((P0_ k_ ∨ P1_0_ k_) ∨ w.heap.size ≤ k_) ∧ k_ ≠ ac)) k_ ∧ some k_ ≠ (bx : Value).ownBlock)) (aT.out) (fun k_ hk => ⟨⟨hk.1.1, hk.1.2⟩, hk.2⟩)))); (case aB => exact (bl1 HB af)); (case aF => exact (fun k_ hk => ⟨(.inr (Nat.le_trans (qZc (bl1 HB af)) hk)), Kd.freshB (bk ab) k_ hk⟩)); (case aO => exact (by exact bj.out)); (case aS => exact (qZc (bl1 HB af))); (case aL => have := cH.out; omega); intro es w73 ho hb hg hat; rw [← cI.out] at ho; have n0_ := ak (Kd.V_afterv (ok := (fun k_ => ((P0_ k_ ∨ P1_0_ k_) ∨ w.heap.size ≤ k_) ∧ k_ ≠ ac)) (by exact ae.out) hg hat); have n1_ := ak (Kd.V_afterv (ok := (fun k_ => ((P0_ k_ ∨ P1_0_ k_) ∨ w.heap.size ≤ k_) ∧ k_ ≠ ac)) (by exact aa.out) hg hat); have n2_ := ak (qZg (bk ab) hg (Kd.N_away bj.out (fun _ hk => hk.2))); have n3_ := ak (Kd.V_afterv (ok := (fun k_ => ((P0_ k_ ∨ P1_0_ k_) ∨ w.heap.size ≤ k_) ∧ k_ ≠ ac)) (by exact ar.out) hg hat); have n4_ := ak (Kd.V_afterv (ok := (fun k_ => ((P0_ k_ ∨ P1_0_ k_) ∨ w.heap.size ≤ k_) ∧ k_ ≠ ac)) (by exact aT.out) hg hat); have n5_ := ak (hb); have n6_ := ak (ho); clear ae; clear aa; clear ab; clear ar; clear aT; clear HB; clear bj; have ae := n0_; have aa := n1_; have ab := n2_; have ar := n3_; have aT := n4_; have HB := n5_; have bm := n6_; clear n0_ n1_ n2_ n3_ n4_ n5_ n6_; clear ho hb hg hat; obtain ⟨eK, eL, et⟩ := Kd.N_slice bm.out; subst et))
    go_ret
    exact ⟨_, by rfl, by exact Kd.N_mono bm.out (fun _ hk => hk.1), bl1 HB af⟩
   rw [if_pos c51] at H
   have c51b0 : decide (a2 < (al.length : Int)) = true := decide_eq_true c51
   clear c51
   by_cases c52 : 0 ≤ a2
   rotate_left
   ·rw [if_neg c52] at H
    exact absurd H (by simp)
   rw [if_pos c52] at H
   have c52b0 := eq_true c52
   have c52b1 : decide (0 ≤ a2) = true := decide_eq_true c52
   clear c52
   by_cases c53 : a2 ≤ (al.length : Int)
   rotate_left
   ·rw [if_neg c53] at H
    exact absurd H (by simp)
   rw [if_pos c53] at H
   have c53b0 := eq_true c53
   have c53b1 : decide (a2 ≤ (al.length : Int)) = true := decide_eq_true c53
   clear c53
   obtain ⟨dI, bZ⟩ : ∃ y_ : List (S103), y_ = (al.take (a2 : Int).toNat) := ⟨_, rfl⟩
   replace H : (some dI) = some r := by (rw [bZ]; with_reducible exact H)
   have cM := ak bZ
   clear bZ
   obtain rfl := Option.some.inj H
   try go_wp2
   replace ae := ak (Kd.V_drew ae.out)
   replace aa := ak (Kd.V_drew aa.out)
   replace ab := ak (qZp ab.out)
   replace HB := ak (qZo HB.out)
   refine qJd (n := 13) (S := fun w' => True) (ds := []) (ms 13 0) (by kernel_rfl) rfl (by kernel_rfl) trivial (fun hHeld => ?_); refine qQk spec_l14Put.tab2 spec_l14Put.bits2 (fun HT_ HW_ => ?_)
   generalize wr.drew = w54 at ae aa ab HB hHeld ⊢
   refine pu 0 9 ?_ (ms 13 1) rfl rfl HT_ (by kernel_rfl) (fun _ _ _ h => h) (by rfl) ?_ ?_ ?_ ?_
   rotate_left
   ·intro w'
    go_simp
    with_reducible rfl
   rotate_left
   ·simp only [SX]
    rfl
   refine pu 1 10 ?_ (ms 13 3) rfl rfl HT_ (by kernel_rfl) (fun _ _ _ h => h) (by rfl) ?_ ?_ ?_ ?_
   rotate_left
   ·intro w'
    go_simp
    with_reducible rfl
   rotate_left
   ·simp only [SX]
    rfl
   refine pu 2 11 ?_ (ms 13 7) rfl rfl HT_ (by kernel_rfl) (fun _ _ _ h => h) (by rfl) ?_ ?_ ?_ ?_
   rotate_left
   ·intro w'
    go_simp
    with_reducible rfl
   rotate_left
   ·simp only [SX]
    rfl
   refine pu 3 12 ?_ (ms 13 15) rfl rfl HT_ (by kernel_rfl) (fun _ _ _ h => h) (by rfl) ?_ ?_ ?_ ?_
   rotate_left
   ·intro w'
    go_simp
    with_reducible rfl
   rotate_left
   ·simp only [SX]
    rfl
   refine pu 4 13 ?_ (ms 13 31) rfl rfl HT_ (by kernel_rfl) (fun _ _ _ h => h) (by rfl) ?_ ?_ ?_ ?_
   rotate_left
   ·intro w'
    go_simp
    with_reducible rfl
   rotate_left
   ·simp only [SX]
    rfl
   refine qZm (i := 5) (N := some 14) (v := undef) (a' := ?_) (ms 13 63) rfl rfl (qZf HT_.out (by kernel_rfl)) (fun _ _ _ h => h) (Or.inr ⟨by rfl, rfl⟩) ?_ ?_
   rotate_left
   ·simp only [SX]
    rfl
   refine qZm (i := 6) (N := some 15) (v := undef) (a' := ?_) (ms 13 127) rfl rfl (qZf HT_.out (by kernel_rfl)) (fun _ _ _ h => h) (Or.inr ⟨by rfl, rfl⟩) ?_ ?_
   rotate_left
   ·simp only [SX]
    rfl
   refine qZm (i := 7) (N := some 16) (v := undef) (a' := ?_) (ms 13 255) rfl rfl (qZf HT_.out (by kernel_rfl)) (fun _ _ _ h => h) (Or.inr ⟨by rfl, rfl⟩) ?_ ?_
   rotate_left
   ·simp only [SX]
    rfl
   refine qZm (i := 8) (N := some 17) (v := undef) (a' := ?_) (ms 13 511) rfl rfl (qZf HT_.out (by kernel_rfl)) (fun _ _ _ h => h) (Or.inr ⟨by rfl, rfl⟩) ?_ ?_
   rotate_left
   ·simp only [SX]
    rfl
   refine qZm (i := 9) (N := some 18) (v := undef) (a' := ?_) (ms 13 1023) rfl rfl (qZf HT_.out (by kernel_rfl)) (fun _ _ _ h => h) (Or.inr ⟨by rfl, rfl⟩) ?_ ?_
   rotate_left
   ·simp only [SX]
    rfl
   refine qZm (i := 10) (N := some 19) (v := undef) (a' := ?_) (ms 13 2047) rfl rfl (qZf HT_.out (by kernel_rfl)) (fun _ _ _ h => h) (Or.inr ⟨by rfl, rfl⟩) ?_ ?_
   rotate_left
   ·simp only [SX]
    rfl
   refine qZm (i := 11) (N := some 20) (v := undef) (a' := ?_) (ms 13 4095) rfl rfl (qZf HT_.out (by kernel_rfl)) (fun _ _ _ h => h) (Or.inr ⟨by rfl, rfl⟩) ?_ ?_
   rotate_left
   ·simp only [SX]
    rfl
   refine pu 12 21 ?_ (ms 13 8191) rfl rfl HT_ (by kernel_rfl) (fun _ _ _ h => h) (by rfl) ?_ ?_ ?_ ?_
   rotate_left
   ·intro w'
    go_simp
    with_reducible rfl
   rotate_left
   ·simp only [SX]
    rfl
   refine qXc (qQp HT_.out (by kernel_rfl)) ?_
   try go_wp2_with (first | ((with_reducible refine gate_dst (N := 24) rfl ?_); refine Kd.N_lit k103 _ 103 ?hg (N' := 24) ?hd (xs := ([] : List (S103))) (inner := []) (ok := (fun k_ => ((P0_ k_ ∨ P1_0_ k_) ∨ w.heap.size ≤ k_) ∧ k_ ≠ ac)) (okp := (fun k_ => ((P0_ k_ ∨ P1_0_ k_) ∨ w.heap.size ≤ k_) ∧ k_ ≠ ac)) ?hr ?hp (fun _ hk => hk) ((show ∀ k_, w54.heap.size ≤ k_ → (fun k_ => ((P0_ k_ ∨ P1_0_ k_) ∨ w.heap.size ≤ k_) ∧ k_ ≠ ac) k_ from fun k_ hk => ⟨(.inr (Nat.le_trans (qZc (bl1 HB af)) hk)), Kd.freshB (bk ab) k_ hk⟩) _ (Nat.le_refl _)) (Below.refl _ _) (Nat.le_refl _) (by simp) ?_; (case hd => rfl); (case hg => rfl); (case hr => (go_simp; done)); (case hp => exact (Reps.none _ _)); intro bw w55 ca hb hg_ hnew_; clear hg_ hnew_; (rw [← cC.out] at ca); replace ae := ak (Kd.V_elder' (by exact ae.out) (Kd.N_base ca) hb); replace aa := ak (Kd.V_elder' (by exact aa.out) (Kd.N_base ca) hb); have bh := ak (Kd.N_lower ca (qZc (bl1 HB af))); replace ab := ak (qZe (bk ab) hb); replace HB := ak (qZd (bl1 HB af) hb); clear hb ca; have q57 : (ad : Int) ≤ ((l0.length : Int) : Int) := oT (by (with_reducible assumption)); obtain ⟨i057, cN, _, dJ, _⟩ := info_parts qJh; have bE : l0.length ≤ c0 := (Kd.V_reads' ae.out).2.1; have dK : Kd.F k103 _ _ A0 l0.length l0 := (Kd.V_at (base := w.heap.size) ae.out).2.2; have dm := qYk (P := Try.prog) 100 103 .i64 Try.underlying100 cN A0 l0.length c0 ad (oT (by (with_reducible assumption))) q57 bE; have dn := Kd.F_take (m := (ad : Int).toNat) dK (by omega); have dp : aE.length = (ad : Int).toNat := (by rw [bB.out, List.length_take]; omega); rw [← bB.out] at dn; rw [← dp] at dm; have ar := ak (show Kd.V k103 103 _ w.heap.size _ (.slice A0 aE.length c0) aE from Kd.V_mk (by omega) dn); have dF := ak (show aE.length ≤ c0 from by omega); clear dn dK bE cN dJ; have eM := ak dp; clear dp; replace q57 := eq_true q57) | ((with_reducible refine gate_builtin (b := .append) (xs := #[.tmp 24, .tmp 27]) rfl ?_); at_builtin; refine Kd.N_append_rows k103 (w0 := w) w.heap.size rfl (.tmp 24) (.tmp 27) 100 103 (.agg #[(.slice none 0 0), (.int .i64 0)]) 32 rfl Try.underlying100 qJh rfl (by decide) (by omega) bw bg aE _ _ _ (fun k_ => ((P0_ k_ ∨ P1_0_ k_) ∨ w.heap.size ≤ k_) ∧ k_ ≠ ac) (fun k_ => ((fun k_ => ((P0_ k_ ∨ P1_0_ k_) ∨ w.heap.size ≤ k_) ∧ k_ ≠ ac)) k_ ∧ some k_ ≠ (bw : Value).ownBlock) rfl rfl ?aO ?aR (fun _ hk => hk) ?aF ?aB ?aS ?aL ?_; (case aR => exact (by skip; exact Kd.V_F (Kd.V_mono (ok' := (fun k_ => ((fun k_ => ((P0_ k_ ∨ P1_0_ k_) ∨ w.heap.size ≤ k_) ∧ k_ ≠ ac)) k_ ∧ some k_ ≠ (bw : Value).ownBlock)) (ar.out) (fun k_ hk => ⟨⟨hk.1.1, hk.1.2⟩, hk.2⟩)))); (case aB => exact (bl1 HB af)); (case aF => exact (fun k_ hk => ⟨(.inr (Nat.le_trans (qZc (bl1 HB af)) hk)), Kd.freshB (bk ab) k_ hk⟩)); (case aO => exact (by exact bh.out)); (case aS => exact (qZc (bl1 HB af))); (case aL => have := cD.out; omega); intro bu w58 ho hb hg hat; rw [← cE.out] at ho; have n0_ := ak (Kd.V_afterv (ok := (fun k_ => ((P0_ k_ ∨ P1_0_ k_) ∨ w.heap.size ≤ k_) ∧ k_ ≠ ac)) (by exact ae.out) hg hat); have n1_ := ak (Kd.V_afterv (ok := (fun k_ => ((P0_ k_ ∨ P1_0_ k_) ∨ w.heap.size ≤ k_) ∧ k_ ≠ ac)) (by exact aa.out) hg hat); have n2_ := ak (qZg (bk ab) hg (Kd.N_away bh.out (fun _ hk => hk.2))); have n3_ := ak (Kd.V_afterv (ok := (fun k_ => ((P0_ k_ ∨ P1_0_ k_) ∨ w.heap.size ≤ k_) ∧ k_ ≠ ac)) (by exact ar.out) hg hat); have n4_ := ak (hb); have n5_ := ak (ho); clear ae; clear aa; clear ab; clear ar; clear HB; clear bh; have ae := n0_; have aa := n1_; have ab := n2_; have ar := n3_; have HB := n4_; have bi := n5_; clear n0_ n1_ n2_ n3_ n4_ n5_; clear ho hb hg hat; have ef := bc w58 ab 0 (.slice aH ah.length aI) rfl; have eg := bc w58 ab 1 (.int .i64 am) rfl; have eh := fz ab 0; have ei := fz ab 1) | ((with_reducible refine gate_builtin (b := .append) (xs := #[.tmp 29, .tmp 31]) rfl ?_); at_builtin; refine Kd.N_append k103 (w0 := w) w.heap.size rfl (.tmp 29) (.tmp 31) 100 103 (.agg #[(.slice none 0 0), (.int .i64 0)]) 32 rfl Try.underlying100 qJh rfl (by decide) (by omega) bu aQ (⟨ah, am⟩ : S103) [.slice aH ah.length aI, .int .i64 am] (fun k_ => ((P0_ k_ ∨ P1_0_ k_) ∨ w.heap.size ≤ k_) ∧ k_ ≠ ac) (fun k_ => ((fun k_ => ((P0_ k_ ∨ P1_0_ k_) ∨ w.heap.size ≤ k_) ∧ k_ ≠ ac)) k_ ∧ some k_ ≠ (bu : Value).ownBlock) rfl rfl ?aP (fun _ hk => hk) ?aF ?aO ?aB ?aS ?aL ?_; (case aP => exact (qYp _ _ (⟨ah, am⟩ : S103) (Kd.V_reads' (Kd.V_mono (ok' := (fun k_ => ((fun k_ => ((P0_ k_ ∨ P1_0_ k_) ∨ w.heap.size ≤ k_) ∧ k_ ≠ ac)) k_ ∧ some k_ ≠ (bu : Value).ownBlock)) (aa.out) (fun k_ hk => ⟨⟨hk.1.1, hk.1.2⟩, hk.2⟩))).2.1 (Kd.V_F (Kd.V_mono (ok' := (fun k_ => ((fun k_ => ((P0_ k_ ∨ P1_0_ k_) ∨ w.heap.size ≤ k_) ∧ k_ ≠ ac)) k_ ∧ some k_ ≠ (bu : Value).ownBlock)) (aa.out) (fun k_ hk => ⟨⟨hk.1.1, hk.1.2⟩, hk.2⟩))))); (case aB => exact (bl1 HB af)); (case aF => exact (fun k_ hk => ⟨(.inr (Nat.le_trans (qZc (bl1 HB af)) hk)), Kd.freshB (bk ab) k_ hk⟩)); (case aO => exact (by exact bi.out)); (case aS => exact (qZc (bl1 HB af))); (case aL => have := cF.out; omega); intro bx w60 ho hb hg hat; rw [← cG.out] at ho; have n0_ := ak (Kd.V_afterv (ok := (fun k_ => ((P0_ k_ ∨ P1_0_ k_) ∨ w.heap.size ≤ k_) ∧ k_ ≠ ac)) (by exact ae.out) hg hat); have n1_ := ak (Kd.V_afterv (ok := (fun k_ => ((P0_ k_ ∨ P1_0_ k_) ∨ w.heap.size ≤ k_) ∧ k_ ≠ ac)) (by exact aa.out) hg hat); have n2_ := ak (qZg (bk ab) hg (Kd.N_away bi.out (fun _ hk => hk.2))); have n3_ := ak (Kd.V_afterv (ok := (fun k_ => ((P0_ k_ ∨ P1_0_ k_) ∨ w.heap.size ≤ k_) ∧ k_ ≠ ac)) (by exact ar.out) hg hat); have n4_ := ak (hb); have n5_ := ak (ho); clear ae; clear aa; clear ab; clear ar; clear HB; clear bi; have ae := n0_; have aa := n1_; have ab := n2_; have ar := n3_; have HB := n4_; have bj := n5_; clear n0_ n1_ n2_ n3_ n4_ n5_; clear ho hb hg hat; have q61 : (ad : Int) ≤ ((l0.length : Int) : Int) := oT (by (with_reducible assumption)); obtain ⟨i061, cO, _, cP, _⟩ := info_parts qJh; have bb : l0.length ≤ c0 := (Kd.V_reads' ae.out).2.1; have dL : Kd.F k103 _ _ A0 l0.length l0 := (Kd.V_at (base := w.heap.size) ae.out).2.2; have eu : (0 : Int) ≤ (ad : Int) := oT (by (with_reducible assumption)); have dq := qYn (P := Try.prog) 100 103 .i64 Try.underlying100 cO 2 cP A0 l0.length c0 ad eu q61; have cb := Kd.F_cut (m := (ad : Int).toNat) (c := c0) dL (by omega) bb; obtain ⟨A61, cu⟩ : ∃ A1, A1 = (if c0 = (ad : Int).toNat then A0 else (A0 : Option Addr).map (·.add ((ad : Int).toNat * 2))) := ⟨_, rfl⟩; obtain ⟨c61, cv⟩ : ∃ c1, c1 = c0 - (ad : Int).toNat := ⟨_, rfl⟩; have cc : aq.length = l0.length - (ad : Int).toNat := (by rw [bC.out, List.length_drop] <;> omega); rw [show (l0).drop (ad : Int).toNat = aq from bC.out.symm] at cb; replace cb : Kd.F k103 _ _ A61 aq.length aq := (by rw [cu]; exact cb); rw [← cc, ← cu, ← cv] at dq; have aT := ak (show Kd.V k103 103 _ w.heap.size _ (.slice A61 aq.length c61) aq from Kd.V_mk (by rw [cc, cv]; exact Nat.sub_le_sub_right bb _) cb); have dH := ak (show aq.length ≤ c61 from by rw [cc, cv]; exact Nat.sub_le_sub_right bb _); clear cb dL bb cO cP cv; have eN := ak cc; have eO := ak cu; clear cc cu; replace q61 := eq_true q61) | ((with_reducible refine gate_builtin (b := .append) (xs := #[.tmp 33, .tmp 36]) rfl ?_); at_builtin; refine Kd.N_append_rows k103 (w0 := w) w.heap.size rfl (.tmp 33) (.tmp 36) 100 103 (.agg #[(.slice none 0 0), (.int .i64 0)]) 32 rfl Try.underlying100 qJh rfl (by decide) (by omega) bx aG aq _ _ _ (fun k_ => ((P0_ k_ ∨ P1_0_ k_) ∨ w.heap.size ≤ k_) ∧ k_ ≠ ac) (fun k_ => ((fun k_ => ((P0_ k_ ∨ P1_0_ k_) ∨ w.heap.size ≤ k_) ∧ k_ ≠ ac)) k_ ∧ some k_ ≠ (bx : Value).ownBlock) rfl rfl ?aO ?aR (fun _ hk => hk) ?aF ?aB ?aS ?aL ?_; (case aR => exact (by skip; exact Kd.V_F (Kd.V_mono (ok' := (fun k_ => ((fun k_ => ((P0_ k_ ∨ P1_0_ k_) ∨ w.heap.size ≤ k_) ∧ k_ ≠ ac)) k_ ∧ some k_ ≠ (bx : Value).ownBlock)) (aT.out) (fun k_ hk => ⟨⟨hk.1.1, hk.1.2⟩, hk.2⟩)))); (case aB => exact (bl1 HB af)); (case aF => exact (fun k_ hk => ⟨(.inr (Nat.le_trans (qZc (bl1 HB af)) hk)), Kd.freshB (bk ab) k_ hk⟩)); (case aO => exact (by exact bj.out)); (case aS => exact (qZc (bl1 HB af))); (case aL => have := cH.out; omega); intro es w62 ho hb hg hat; rw [← cI.out] at ho; have n0_ := ak (Kd.V_afterv (ok := (fun k_ => ((P0_ k_ ∨ P1_0_ k_) ∨ w.heap.size ≤ k_) ∧ k_ ≠ ac)) (by exact ae.out) hg hat); have n1_ := ak (Kd.V_afterv (ok := (fun k_ => ((P0_ k_ ∨ P1_0_ k_) ∨ w.heap.size ≤ k_) ∧ k_ ≠ ac)) (by exact aa.out) hg hat); have n2_ := ak (qZg (bk ab) hg (Kd.N_away bj.out (fun _ hk => hk.2))); have n3_ := ak (Kd.V_afterv (ok := (fun k_ => ((P0_ k_ ∨ P1_0_ k_) ∨ w.heap.size ≤ k_) ∧ k_ ≠ ac)) (by exact ar.out) hg hat); have n4_ := ak (Kd.V_afterv (ok := (fun k_ => ((P0_ k_ ∨ P1_0_ k_) ∨ w.heap.size ≤ k_) ∧ k_ ≠ ac)) (by exact aT.out) hg hat); have n5_ := ak (hb); have n6_ := ak (ho); clear ae; clear aa; clear ab; clear ar; clear aT; clear HB; clear bj; have ae := n0_; have aa := n1_; have ab := n2_; have ar := n3_; have aT := n4_; have HB := n5_; have bm := n6_; clear n0_ n1_ n2_ n3_ n4_ n5_ n6_; clear ho hb hg hat; obtain ⟨ev, ew, ex⟩ := Kd.N_slice bm.out; subst ex; have q64 : (a2 : Int) ≤ ((al.length : Int) : Int) := oT (by (with_reducible assumption)); obtain ⟨i064, cQ, _, dM, _⟩ := info_parts qJh; have dr := qYk (P := Try.prog) 100 103 .i64 Try.underlying100 cQ ev al.length ew a2 (oT (by (with_reducible assumption))) q64 (Kd.N_reads' bm.out).2.1; have cw := Kd.N_take (m := (a2 : Int).toNat) bm.out (by omega); have dN : dI.length = (a2 : Int).toNat := (by rw [cM.out, List.length_take]; omega); rw [← cM.out] at cw; rw [← dN] at cw dr; clear dN cQ dM bm; have dO := ak cw; clear cw; replace q64 := eq_true q64))
   go_ret
   exact ⟨_, by rfl, by exact Kd.N_mono dO.out (fun _ hk => hk.1), bl1 HB af⟩
  rw [if_pos c5] at H
  have c5b0 : decide (ad < (l0.length : Int)) = true := decide_eq_true c5
  clear c5
  by_cases c6 : 0 ≤ ad
  rotate_left
  ·rw [if_neg c6] at H
   exact absurd H (by simp)
  rw [if_pos c6] at H
  have c6b0 : decide (0 ≤ ad) = true := decide_eq_true c6
  clear c6
  replace H := Option.bind_eq_some_iff.mp H
  obtain ⟨dh, A70, H⟩ := H
  have A7 := ak A70
  clear A70
  by_cases c8 : dh = true
  rotate_left
  ·replace c8 := Bool.eq_false_iff.mpr c8
   subst c8
   rw [if_neg (show ¬ (false = true) by decide)] at H
   have H' := ak H
   clear H
   try go_wp2
   replace ae := ak (Kd.V_drew ae.out)
   replace aa := ak (Kd.V_drew aa.out)
   replace ab := ak (qZp ab.out)
   replace HB := ak (qZo HB.out)
   have aU : 0 ≤ (ad : Int) := oT (by (with_reducible assumption))
   have aV : ad < (l0.length : Int) := oT (by (with_reducible assumption))
   obtain ⟨an, aJ, aK, cd, av, ay, az, aA⟩ := qYc (Kd.V_reads' ae.out).2.2 ad aU aV
   cases cd
   obtain ⟨cR, bn, bo, aM⟩ := Kd.V_get ae.out z103 ad aU (by exact aV)
   obtain ⟨bG, bH, rfl, aw, ax⟩ := qVa bo
   have ao := aM 0 _ rfl
   rw [Nat.add_zero] at ao
   replace ao := Option.some.inj (ao.symm.trans av)
   injection ao with hva_ hvn_ hvc_
   rw [hva_] at ax
   rw [hvc_] at aw
   have ag := ak (show Kd.V (Kd.int .i64) 3 _ w.heap.size _ _ ((qQg l0 ad).f0) from Kd.V_mk aw ax)
   clear hva_ hvn_ hvc_ ax aw
   clear aM bn
   have ai := ak aA
   have aW := ak az
   clear aA az
   replace aU := eq_true aU
   replace aV := eq_true aV
   refine qJd (n := 13) (S := fun w' => w'.cell? ⟨ac, 0, none⟩ = some (.slice aH ah.length aI) ∧ w'.cell? ⟨ac, 1, none⟩ = some (.int .i64 am) ∧ w'.cell? (an.add ((ad).toNat * 2)) = some (.slice aJ ((qQg l0 ad).f0).length aK) ∧ w'.cell? ⟨(an.add ((ad).toNat * 2)).block, (an.add ((ad).toNat * 2)).off + 1, none⟩ = some (.int .i64 ((qQg l0 ad).f1))) (ds := []) (ms 13 0) (by kernel_rfl) rfl (by kernel_rfl) ⟨(qZb ab.out 0).trans rfl, (qZb ab.out 1).trans rfl, av, ay⟩ (fun hHeld => ?_); refine qQk spec_l14Put.tab2 spec_l14Put.bits2 (fun HT_ HW_ => ?_)
   generalize wr.drew = w42 at ae aa ab HB ag ai av ay hHeld ⊢
   refine pu 0 9 ?_ (ms 13 1) rfl rfl HT_ (by kernel_rfl) (fun _ _ _ h => h) (by rfl) ?_ ?_ ?_ ?_
   rotate_left
   ·intro w'
    go_simp
    with_reducible rfl
   rotate_left
   ·simp only [SX]
    rfl
   refine pu 1 10 ?_ (ms 13 3) rfl rfl HT_ (by kernel_rfl) (fun _ _ _ h => h) (by rfl) ?_ ?_ ?_ ?_
   rotate_left
   ·intro w'
    go_simp
    with_reducible rfl
   rotate_left
   ·simp only [SX]
    rfl
   refine pu 2 11 ?_ (ms 13 7) rfl rfl HT_ (by kernel_rfl) (fun _ _ _ h => h) (by rfl) ?_ ?_ ?_ ?_
   rotate_left
   ·intro w'
    go_simp
    with_reducible rfl
   rotate_left
   ·simp only [SX]
    rfl
   refine pu 3 12 ?_ (ms 13 15) rfl rfl HT_ (by kernel_rfl) (fun _ _ _ h => h) (by rfl) ?_ ?_ ?_ ?_
   rotate_left
   ·intro w'
    go_simp
    with_reducible rfl
   rotate_left
   ·simp only [SX]
    rfl
   refine pu 4 13 ?_ (ms 13 31) rfl rfl HT_ (by kernel_rfl) (fun _ _ _ h => h) (by rfl) ?_ ?_ ?_ ?_
   rotate_left
   ·intro w'
    go_simp
    with_reducible rfl
   rotate_left
   ·simp only [SX]
    rfl
   refine pu 6 15 ?_ (ms 13 95) rfl rfl HT_ (by kernel_rfl) (fun _ _ _ h => h) (by rfl) ?_ ?_ ?_ ?_
   rotate_left
   ·intro w'
    go_simp
    with_reducible rfl
   rotate_left
   ·simp only [SX]
    rfl
   refine pu 7 16 ?_ (ms 13 223) rfl rfl HT_ (by kernel_rfl) (fun _ _ _ h => h) (by rfl) ?_ ?_ ?_ ?_
   rotate_left
   ·intro w'
    go_simp
    with_reducible rfl
   rotate_left
   ·simp only [SX]
    rfl
   refine pu 8 17 ?_ (ms 13 479) rfl rfl HT_ (by kernel_rfl) (fun _ _ _ h => h) (by rfl) ?_ ?_ ?_ ?_
   rotate_left
   ·intro w'
    go_simp
    with_reducible rfl
   rotate_left
   ·simp only [SX]
    rfl
   refine tk 5 14 ?_ (ms 13 511) rfl rfl HT_ HW_ (by kernel_rfl) (fun _ _ _ h => h) (by rfl) ?_ hHeld ?_ ?_ ?_
   rotate_left
   ·rintro w' ⟨s0, s1, s2, s3⟩
    go_simp
    with_reducible rfl
   rotate_left
   ·simp only [SX]
    rfl
   refine tk 9 18 ?_ (ms 13 1023) rfl rfl HT_ HW_ (by kernel_rfl) (fun _ _ _ h => h) (by rfl) ?_ hHeld ?_ ?_ ?_
   rotate_left
   ·rintro w' ⟨s0, s1, s2, s3⟩
    go_simp
    with_reducible rfl
   rotate_left
   ·simp only [SX]
    rfl
   refine one_ (i := 10) (N := some 19) (ms 13 2047) rfl rfl (qJb HT_.out (by kernel_rfl)) (by decide) (fun K hK => ?_)
   refine qXg Try.func127 (by kernel_rfl) rfl #[.agg #[.slice aH ah.length aI, .int .i64 am], .agg #[.slice aJ ((qQg l0 ad).f0).length aK, .int .i64 ((qQg l0 ad).f1)]] (by rfl) rfl rfl (by (try simp only [List.map_toArray, List.map_cons, List.map_nil]); rfl) ?_
   with_reducible refine (spec_l14Less.calls k1 _ _ ah am _ _ ((qQg l0 ad).f0) ((qQg l0 ad).f1) false _ ?side1 ?side2 ?side3 ?side4 A7.out).mono ?_
   (case side1 => repeat (exact (Kd.V_reads' aa.out).2.2))
   (case side2 => exact (Kd.V_reads' aa.out).2.1)
   (case side3 => repeat (exact (by repeat ((with_reducible exact ai.out)))))
   (case side4 => exact aW.out)
   rintro e w43 ⟨rfl, hb⟩
   have ce := (hb.cell (World.block_lt_of_cell? _ _ (hHeld.2.2.1))).trans (hHeld.2.2.1)
   have cf := (hb.cell (World.block_lt_of_cell? _ _ (hHeld.2.2.2))).trans (hHeld.2.2.2)
   refine ⟨_, rfl, ?_⟩
   replace ae := ak (Kd.V_below (by exact ae.out) hb)
   replace aa := ak (Kd.V_below (by exact aa.out) hb)
   replace ag := ak (Kd.V_below (by exact ag.out) hb)
   replace ab := ak (qZe (bk ab) hb)
   replace ai := ak (Kd.C_below (by repeat ((with_reducible exact ai.out))) hb)
   replace HB := ak (qZd (bl1 HB af) hb)
   (try clear hb)
   (try clear hb2)
   (try clear hk)
   (try clear hi)
   refine hK.out _ _ ⟨(qZb ab.out 0).trans rfl, (qZb ab.out 1).trans rfl, ce, cf⟩ (fun hHeld => ?_)
   clear hK K
   refine qJc (a' := ?_) ?_ ?_
   rotate_left
   ·show Act.put _ (some 19) _ = _
    simp only [SX]
    rfl
   refine pu 11 20 ?_ (ms 13 4095) rfl rfl HT_ (by kernel_rfl) (fun _ _ _ h => h) (by rfl) ?_ ?_ ?_ ?_
   rotate_left
   ·intro w'
    go_simp
    with_reducible rfl
   rotate_left
   ·simp only [SX]
    rfl
   refine pu 12 21 ?_ (ms 13 8191) rfl rfl HT_ (by kernel_rfl) (fun _ _ _ h => h) (by rfl) ?_ ?_ ?_ ?_
   rotate_left
   ·intro w'
    go_simp
    with_reducible rfl
   rotate_left
   ·simp only [SX]
    rfl
   refine qXc (qQp HT_.out (by kernel_rfl)) ?_
   try go_wp2
   go_roundg k1
   case measure => have := HK1.out; omega
   case rel => exact ⟨(wrap64 (ad + 1)), (by rfl), H', ⟨by have := HK1.out; omega⟩, ⟨by exact ae.out⟩, ⟨by exact aa.out⟩, ⟨bk ab⟩, ⟨bl1 HB af⟩⟩
  subst c8
  rw [if_pos rfl] at H
  obtain ⟨bf, cg⟩ : ∃ y_ : List (S103), y_ = (([] : List (S103))) := ⟨_, rfl⟩
  replace H : (if ad ≤ (l0.length : Int) then ((some (l0.take (ad : Int).toNat : List (S103))).bind fun aC => (if bf.length + aC.length < 4398046511104 then ((some (bf ++ aC : List (S103))).bind fun aN => (if aN.length < 4398046511104 then ((some (aN ++ [(⟨ah, am⟩ : S103)] : List (S103))).bind fun aD => ((some (l0.drop (ad : Int).toNat : List (S103))).bind fun ap => (if aD.length + ap.length < 4398046511104 then ((some (aD ++ ap : List (S103))).bind fun aj => (if (aj.length : Int) > a2 then (if 0 ≤ a2 then (if a2 ≤ (aj.length : Int) then (some (aj.take (a2 : Int).toNat)) else (none)) else (none)) else (some aj))) else (none)))) else (none))) else (none))) else (none)) = some r := by (have H2_ := (Option.bind_some _ _).symm.trans H; rw [cg]; with_reducible exact H2_)
  have cS := ak cg
  clear cg
  have c9b0 := eq_true (oT (by (with_reducible assumption)) : 0 ≤ ad)
  by_cases c10 : ad ≤ (l0.length : Int)
  rotate_left
  ·rw [if_neg c10] at H
   exact absurd H (by simp)
  rw [if_pos c10] at H
  have c10b0 := eq_true c10
  have c10b1 : decide (ad ≤ (l0.length : Int)) = true := decide_eq_true c10
  clear c10
  obtain ⟨aC, ch⟩ : ∃ y_ : List (S103), y_ = (l0.take (ad : Int).toNat) := ⟨_, rfl⟩
  replace H : (if bf.length + aC.length < 4398046511104 then ((some (bf ++ aC : List (S103))).bind fun aN => (if aN.length < 4398046511104 then ((some (aN ++ [(⟨ah, am⟩ : S103)] : List (S103))).bind fun aD => ((some (l0.drop (ad : Int).toNat : List (S103))).bind fun ap => (if aD.length + ap.length < 4398046511104 then ((some (aD ++ ap : List (S103))).bind fun aj => (if (aj.length : Int) > a2 then (if 0 ≤ a2 then (if a2 ≤ (aj.length : Int) then (some (aj.take (a2 : Int).toNat)) else (none)) else (none)) else (some aj))) else (none)))) else (none))) else (none)) = some r := by (have H2_ := (Option.bind_some _ _).symm.trans H; rw [ch]; with_reducible exact H2_)
  have bI := ak ch
  clear ch
  by_cases c11 : bf.length + aC.length < 4398046511104
  rotate_left
  ·rw [if_neg c11] at H
   exact absurd H (by simp)
  rw [if_pos c11] at H
  have cT := ak c11
  clear c11
  obtain ⟨aN, ci⟩ : ∃ y_ : List (S103), y_ = (bf ++ aC) := ⟨_, rfl⟩
  replace H : (if aN.length < 4398046511104 then ((some (aN ++ [(⟨ah, am⟩ : S103)] : List (S103))).bind fun aD => ((some (l0.drop (ad : Int).toNat : List (S103))).bind fun ap => (if aD.length + ap.length < 4398046511104 then ((some (aD ++ ap : List (S103))).bind fun aj => (if (aj.length : Int) > a2 then (if 0 ≤ a2 then (if a2 ≤ (aj.length : Int) then (some (aj.take (a2 : Int).toNat)) else (none)) else (none)) else (some aj))) else (none)))) else (none)) = some r := by (have H2_ := (Option.bind_some _ _).symm.trans H; rw [ci]; with_reducible exact H2_)
  have cU := ak ci
  clear ci
  by_cases c12 : aN.length < 4398046511104
  rotate_left
  ·rw [if_neg c12] at H
   exact absurd H (by simp)
  rw [if_pos c12] at H
  have cV := ak c12
  clear c12
  obtain ⟨aD, cj⟩ : ∃ y_ : List (S103), y_ = (aN ++ [(⟨ah, am⟩ : S103)]) := ⟨_, rfl⟩
  replace H : ((some (l0.drop (ad : Int).toNat : List (S103))).bind fun ap => (if aD.length + ap.length < 4398046511104 then ((some (aD ++ ap : List (S103))).bind fun aj => (if (aj.length : Int) > a2 then (if 0 ≤ a2 then (if a2 ≤ (aj.length : Int) then (some (aj.take (a2 : Int).toNat)) else (none)) else (none)) else (some aj))) else (none))) = some r := by (have H2_ := (Option.bind_some _ _).symm.trans H; rw [cj]; with_reducible exact H2_)
  have cW := ak cj
  clear cj
  have c13b0 := eq_true (oT (by (with_reducible assumption)) : 0 ≤ ad)
  have c14b0 := eq_true (oT (by (with_reducible assumption)) : ad ≤ (l0.length : Int))
  obtain ⟨ap, ck⟩ : ∃ y_ : List (S103), y_ = (l0.drop (ad : Int).toNat) := ⟨_, rfl⟩
  replace H : (if aD.length + ap.length < 4398046511104 then ((some (aD ++ ap : List (S103))).bind fun aj => (if (aj.length : Int) > a2 then (if 0 ≤ a2 then (if a2 ≤ (aj.length : Int) then (some (aj.take (a2 : Int).toNat)) else (none)) else (none)) else (some aj))) else (none)) = some r := by (have H2_ := (Option.bind_some _ _).symm.trans H; rw [ck]; with_reducible exact H2_)
  have bJ := ak ck
  clear ck
  by_cases c15 : aD.length + ap.length < 4398046511104
  rotate_left
  ·rw [if_neg c15] at H
   exact absurd H (by simp)
  rw [if_pos c15] at H
  have cX := ak c15
  clear c15
  obtain ⟨aj, cl⟩ : ∃ y_ : List (S103), y_ = (aD ++ ap) := ⟨_, rfl⟩
  replace H : (if (aj.length : Int) > a2 then (if 0 ≤ a2 then (if a2 ≤ (aj.length : Int) then (some (aj.take (a2 : Int).toNat)) else (none)) else (none)) else (some aj)) = some r := by (have H2_ := (Option.bind_some _ _).symm.trans H; rw [cl]; with_reducible exact H2_)
  have cY := ak cl
  clear cl
  by_cases c16 : (aj.length : Int) > a2
  rotate_left
  ·rw [if_neg c16] at H
   have c16b0 : decide (a2 < (aj.length : Int)) = false := decide_eq_false c16
   clear c16
   obtain rfl := Option.some.inj H
   try go_wp2
   replace ae := ak (Kd.V_drew ae.out)
   replace aa := ak (Kd.V_drew aa.out)
   replace ab := ak (qZp ab.out)
   replace HB := ak (qZo HB.out)
   have aU : 0 ≤ (ad : Int) := oT (by (with_reducible assumption))
   have aV : ad < (l0.length : Int) := oT (by (with_reducible assumption))
   obtain ⟨an, aJ, aK, cd, av, ay, az, aA⟩ := qYc (Kd.V_reads' ae.out).2.2 ad aU aV
   cases cd
   obtain ⟨cR, bn, bo, aM⟩ := Kd.V_get ae.out z103 ad aU (by exact aV)
   obtain ⟨bG, bH, rfl, aw, ax⟩ := qVa bo
   have ao := aM 0 _ rfl
   rw [Nat.add_zero] at ao
   replace ao := Option.some.inj (ao.symm.trans av)
   injection ao with hva_ hvn_ hvc_
   rw [hva_] at ax
   rw [hvc_] at aw
   have ag := ak (show Kd.V (Kd.int .i64) 3 _ w.heap.size _ _ ((qQg l0 ad).f0) from Kd.V_mk aw ax)
   clear hva_ hvn_ hvc_ ax aw
   clear aM bn
   have ai := ak aA
   have aW := ak az
   clear aA az
   replace aU := eq_true aU
   replace aV := eq_true aV
   refine qJd (n := 13) (S := fun w' => w'.cell? ⟨ac, 0, none⟩ = some (.slice aH ah.length aI) ∧ w'.cell? ⟨ac, 1, none⟩ = some (.int .i64 am) ∧ w'.cell? (an.add ((ad).toNat * 2)) = some (.slice aJ ((qQg l0 ad).f0).length aK) ∧ w'.cell? ⟨(an.add ((ad).toNat * 2)).block, (an.add ((ad).toNat * 2)).off + 1, none⟩ = some (.int .i64 ((qQg l0 ad).f1))) (ds := []) (ms 13 0) (by kernel_rfl) rfl (by kernel_rfl) ⟨(qZb ab.out 0).trans rfl, (qZb ab.out 1).trans rfl, av, ay⟩ (fun hHeld => ?_); refine qQk spec_l14Put.tab2 spec_l14Put.bits2 (fun HT_ HW_ => ?_)
   generalize wr.drew = w31 at ae aa ab HB ag ai av ay hHeld ⊢
   refine pu 0 9 ?_ (ms 13 1) rfl rfl HT_ (by kernel_rfl) (fun _ _ _ h => h) (by rfl) ?_ ?_ ?_ ?_
   rotate_left
   ·intro w'
    go_simp
    with_reducible rfl
   rotate_left
   ·simp only [SX]
    rfl
   refine pu 1 10 ?_ (ms 13 3) rfl rfl HT_ (by kernel_rfl) (fun _ _ _ h => h) (by rfl) ?_ ?_ ?_ ?_
   rotate_left
   ·intro w'
    go_simp
    with_reducible rfl
   rotate_left
   ·simp only [SX]
    rfl
   refine pu 2 11 ?_ (ms 13 7) rfl rfl HT_ (by kernel_rfl) (fun _ _ _ h => h) (by rfl) ?_ ?_ ?_ ?_
   rotate_left
   ·intro w'
    go_simp
    with_reducible rfl
   rotate_left
   ·simp only [SX]
    rfl
   refine pu 3 12 ?_ (ms 13 15) rfl rfl HT_ (by kernel_rfl) (fun _ _ _ h => h) (by rfl) ?_ ?_ ?_ ?_
   rotate_left
   ·intro w'
    go_simp
    with_reducible rfl
   rotate_left
   ·simp only [SX]
    rfl
   refine pu 4 13 ?_ (ms 13 31) rfl rfl HT_ (by kernel_rfl) (fun _ _ _ h => h) (by rfl) ?_ ?_ ?_ ?_
   rotate_left
   ·intro w'
    go_simp
    with_reducible rfl
   rotate_left
   ·simp only [SX]
    rfl
   refine pu 6 15 ?_ (ms 13 95) rfl rfl HT_ (by kernel_rfl) (fun _ _ _ h => h) (by rfl) ?_ ?_ ?_ ?_
   rotate_left
   ·intro w'
    go_simp
    with_reducible rfl
   rotate_left
   ·simp only [SX]
    rfl
   refine pu 7 16 ?_ (ms 13 223) rfl rfl HT_ (by kernel_rfl) (fun _ _ _ h => h) (by rfl) ?_ ?_ ?_ ?_
   rotate_left
   ·intro w'
    go_simp
    with_reducible rfl
   rotate_left
   ·simp only [SX]
    rfl
   refine pu 8 17 ?_ (ms 13 479) rfl rfl HT_ (by kernel_rfl) (fun _ _ _ h => h) (by rfl) ?_ ?_ ?_ ?_
   rotate_left
   ·intro w'
    go_simp
    with_reducible rfl
   rotate_left
   ·simp only [SX]
    rfl
   refine tk 5 14 ?_ (ms 13 511) rfl rfl HT_ HW_ (by kernel_rfl) (fun _ _ _ h => h) (by rfl) ?_ hHeld ?_ ?_ ?_
   rotate_left
   ·rintro w' ⟨s0, s1, s2, s3⟩
    go_simp
    with_reducible rfl
   rotate_left
   ·simp only [SX]
    rfl
   refine tk 9 18 ?_ (ms 13 1023) rfl rfl HT_ HW_ (by kernel_rfl) (fun _ _ _ h => h) (by rfl) ?_ hHeld ?_ ?_ ?_
   rotate_left
   ·rintro w' ⟨s0, s1, s2, s3⟩
    go_simp
    with_reducible rfl
   rotate_left
   ·simp only [SX]
    rfl
   refine one_ (i := 10) (N := some 19) (ms 13 2047) rfl rfl (qJb HT_.out (by kernel_rfl)) (by decide) (fun K hK => ?_)
   refine qXg Try.func127 (by kernel_rfl) rfl #[.agg #[.slice aH ah.length aI, .int .i64 am], .agg #[.slice aJ ((qQg l0 ad).f0).length aK, .int .i64 ((qQg l0 ad).f1)]] (by rfl) rfl rfl (by (try simp only [List.map_toArray, List.map_cons, List.map_nil]); rfl) ?_
   with_reducible refine (spec_l14Less.calls k1 _ _ ah am _ _ ((qQg l0 ad).f0) ((qQg l0 ad).f1) true _ ?side1 ?side2 ?side3 ?side4 A7.out).mono ?_
   (case side1 => repeat (exact (Kd.V_reads' aa.out).2.2))
   (case side2 => exact (Kd.V_reads' aa.out).2.1)
   (case side3 => repeat (exact (by repeat ((with_reducible exact ai.out)))))
   (case side4 => exact aW.out)
   rintro e w32 ⟨rfl, hb⟩
   have ce := (hb.cell (World.block_lt_of_cell? _ _ (hHeld.2.2.1))).trans (hHeld.2.2.1)
   have cf := (hb.cell (World.block_lt_of_cell? _ _ (hHeld.2.2.2))).trans (hHeld.2.2.2)
   refine ⟨_, rfl, ?_⟩
   replace ae := ak (Kd.V_below (by exact ae.out) hb)
   replace aa := ak (Kd.V_below (by exact aa.out) hb)
   replace ag := ak (Kd.V_below (by exact ag.out) hb)
   replace ab := ak (qZe (bk ab) hb)
   replace ai := ak (Kd.C_below (by repeat ((with_reducible exact ai.out))) hb)
   replace HB := ak (qZd (bl1 HB af) hb)
   (try clear hb)
   (try clear hb2)
   (try clear hk)
   (try clear hi)
   refine hK.out _ _ ⟨(qZb ab.out 0).trans rfl, (qZb ab.out 1).trans rfl, ce, cf⟩ (fun hHeld => ?_)
   clear hK K
   refine qJc (a' := ?_) ?_ ?_
   rotate_left
   ·show Act.put _ (some 19) _ = _
    simp only [SX]
    rfl
   refine pu 11 20 ?_ (ms 13 4095) rfl rfl HT_ (by kernel_rfl) (fun _ _ _ h => h) (by rfl) ?_ ?_ ?_ ?_
   rotate_left
   ·intro w'
    go_simp
    with_reducible rfl
   rotate_left
   ·simp only [SX]
    rfl
   refine pu 12 21 ?_ (ms 13 8191) rfl rfl HT_ (by kernel_rfl) (fun _ _ _ h => h) (by rfl) ?_ ?_ ?_ ?_
   rotate_left
   ·intro w'
    go_simp
    with_reducible rfl
   rotate_left
   ·simp only [SX]
    rfl
   refine qXc (qQp HT_.out (by kernel_rfl)) ?_
   try go_wp2_with (first | ((with_reducible refine gate_dst (N := 24) rfl ?_); refine Kd.N_lit k103 _ 103 ?hg (N' := 24) ?hd (xs := ([] : List (S103))) (inner := []) (ok := (fun k_ => ((P0_ k_ ∨ P1_0_ k_) ∨ w.heap.size ≤ k_) ∧ k_ ≠ ac)) (okp := (fun k_ => ((P0_ k_ ∨ P1_0_ k_) ∨ w.heap.size ≤ k_) ∧ k_ ≠ ac)) ?hr ?hp (fun _ hk => hk) ((show ∀ k_, w32.heap.size ≤ k_ → (fun k_ => ((P0_ k_ ∨ P1_0_ k_) ∨ w.heap.size ≤ k_) ∧ k_ ≠ ac) k_ from fun k_ hk => ⟨(.inr (Nat.le_trans (qZc (bl1 HB af)) hk)), Kd.freshB (bk ab) k_ hk⟩) _ (Nat.le_refl _)) (Below.refl _ _) (Nat.le_refl _) (by simp) ?_; (case hd => rfl); (case hg => rfl); (case hr => (go_simp; done)); (case hp => exact (Reps.none _ _)); intro bz w33 bM hb hg_ hnew_; clear hg_ hnew_; (rw [← cS.out] at bM); replace ae := ak (Kd.V_elder' (by exact ae.out) (Kd.N_base bM) hb); replace aa := ak (Kd.V_elder' (by exact aa.out) (Kd.N_base bM) hb); replace ag := ak (Kd.V_elder' (by exact ag.out) (Kd.N_base bM) hb); have bp := ak (Kd.N_lower bM (qZc (bl1 HB af))); replace ab := ak (qZe (bk ab) hb); replace ai := ak (Kd.C_below (by repeat ((with_reducible exact ai.out))) hb); replace HB := ak (qZd (bl1 HB af) hb); clear hb bM; have q35 : (ad : Int) ≤ ((l0.length : Int) : Int) := oT (by (with_reducible assumption)); obtain ⟨i035, cZ, _, dP, _⟩ := info_parts qJh; have bK : l0.length ≤ c0 := (Kd.V_reads' ae.out).2.1; have dQ : Kd.F k103 _ _ (some an) l0.length l0 := (Kd.V_at (base := w.heap.size) ae.out).2.2; have dt := qYk (P := Try.prog) 100 103 .i64 Try.underlying100 cZ (some an) l0.length c0 ad (oT (by (with_reducible assumption))) q35 bK; have du := Kd.F_take (m := (ad : Int).toNat) dQ (by omega); have dv : aC.length = (ad : Int).toNat := (by rw [bI.out, List.length_take]; omega); rw [← bI.out] at du; rw [← dv] at dt; have au := ak (show Kd.V k103 103 _ w.heap.size _ (.slice (some an) aC.length c0) aC from Kd.V_mk (by omega) du); have dR := ak (show aC.length ≤ c0 from by omega); clear du dQ bK cZ dP; have eP := ak dv; clear dv; replace q35 := eq_true q35) | ((with_reducible refine gate_builtin (b := .append) (xs := #[.tmp 24, .tmp 27]) rfl ?_); at_builtin; refine Kd.N_append_rows k103 (w0 := w) w.heap.size rfl (.tmp 24) (.tmp 27) 100 103 (.agg #[(.slice none 0 0), (.int .i64 0)]) 32 rfl Try.underlying100 qJh rfl (by decide) (by omega) bz bf aC _ _ _ (fun k_ => ((P0_ k_ ∨ P1_0_ k_) ∨ w.heap.size ≤ k_) ∧ k_ ≠ ac) (fun k_ => ((fun k_ => ((P0_ k_ ∨ P1_0_ k_) ∨ w.heap.size ≤ k_) ∧ k_ ≠ ac)) k_ ∧ some k_ ≠ (bz : Value).ownBlock) rfl rfl ?aO ?aR (fun _ hk => hk) ?aF ?aB ?aS ?aL ?_; (case aR => exact (by skip; exact Kd.V_F (Kd.V_mono (ok' := (fun k_ => ((fun k_ => ((P0_ k_ ∨ P1_0_ k_) ∨ w.heap.size ≤ k_) ∧ k_ ≠ ac)) k_ ∧ some k_ ≠ (bz : Value).ownBlock)) (au.out) (fun k_ hk => ⟨⟨hk.1.1, hk.1.2⟩, hk.2⟩)))); (case aB => exact (bl1 HB af)); (case aF => exact (fun k_ hk => ⟨(.inr (Nat.le_trans (qZc (bl1 HB af)) hk)), Kd.freshB (bk ab) k_ hk⟩)); (case aO => exact (by exact bp.out)); (case aS => exact (qZc (bl1 HB af))); (case aL => have := cT.out; omega); intro bv w36 ho hb hg hat; rw [← cU.out] at ho; have n0_ := ak (Kd.V_afterv (ok := (fun k_ => ((P0_ k_ ∨ P1_0_ k_) ∨ w.heap.size ≤ k_) ∧ k_ ≠ ac)) (by exact ae.out) hg hat); have n1_ := ak (Kd.V_afterv (ok := (fun k_ => ((P0_ k_ ∨ P1_0_ k_) ∨ w.heap.size ≤ k_) ∧ k_ ≠ ac)) (by exact aa.out) hg hat); have n2_ := ak (qZg (bk ab) hg (Kd.N_away bp.out (fun _ hk => hk.2))); have n3_ := ak (Kd.V_afterv (ok := (fun k_ => ((P0_ k_ ∨ P1_0_ k_) ∨ w.heap.size ≤ k_) ∧ k_ ≠ ac)) (by exact ag.out) hg hat); have n4_ := ak (Kd.V_afterv (ok := (fun k_ => ((P0_ k_ ∨ P1_0_ k_) ∨ w.heap.size ≤ k_) ∧ k_ ≠ ac)) (by exact au.out) hg hat); have n5_ := ak (hb); have n6_ := ak (ho); clear ae; clear aa; clear ab; clear ag; clear au; clear HB; clear bp; have ae := n0_; have aa := n1_; have ab := n2_; have ag := n3_; have au := n4_; have HB := n5_; have bq := n6_; clear n0_ n1_ n2_ n3_ n4_ n5_ n6_; clear ho hb hg hat; have ej := bc w36 ab 0 (.slice aH ah.length aI) rfl; have ek := bc w36 ab 1 (.int .i64 am) rfl; have el := fz ab 0; have em := fz ab 1) | ((with_reducible refine gate_builtin (b := .append) (xs := #[.tmp 29, .tmp 31]) rfl ?_); at_builtin; refine Kd.N_append k103 (w0 := w) w.heap.size rfl (.tmp 29) (.tmp 31) 100 103 (.agg #[(.slice none 0 0), (.int .i64 0)]) 32 rfl Try.underlying100 qJh rfl (by decide) (by omega) bv aN (⟨ah, am⟩ : S103) [.slice aH ah.length aI, .int .i64 am] (fun k_ => ((P0_ k_ ∨ P1_0_ k_) ∨ w.heap.size ≤ k_) ∧ k_ ≠ ac) (fun k_ => ((fun k_ => ((P0_ k_ ∨ P1_0_ k_) ∨ w.heap.size ≤ k_) ∧ k_ ≠ ac)) k_ ∧ some k_ ≠ (bv : Value).ownBlock) rfl rfl ?aP (fun _ hk => hk) ?aF ?aO ?aB ?aS ?aL ?_; (case aP => exact (qYp _ _ (⟨ah, am⟩ : S103) (Kd.V_reads' (Kd.V_mono (ok' := (fun k_ => ((fun k_ => ((P0_ k_ ∨ P1_0_ k_) ∨ w.heap.size ≤ k_) ∧ k_ ≠ ac)) k_ ∧ some k_ ≠ (bv : Value).ownBlock)) (aa.out) (fun k_ hk => ⟨⟨hk.1.1, hk.1.2⟩, hk.2⟩))).2.1 (Kd.V_F (Kd.V_mono (ok' := (fun k_ => ((fun k_ => ((P0_ k_ ∨ P1_0_ k_) ∨ w.heap.size ≤ k_) ∧ k_ ≠ ac)) k_ ∧ some k_ ≠ (bv : Value).ownBlock)) (aa.out) (fun k_ hk => ⟨⟨hk.1.1, hk.1.2⟩, hk.2⟩))))); (case aB => exact (bl1 HB af)); (case aF => exact (fun k_ hk => ⟨(.inr (Nat.le_trans (qZc (bl1 HB af)) hk)), Kd.freshB (bk ab) k_ hk⟩)); (case aO => exact (by exact bq.out)); (case aS => exact (qZc (bl1 HB af))); (case aL => have := cV.out; omega); intro bA w38 ho hb hg hat; rw [← cW.out] at ho; have n0_ := ak (Kd.V_afterv (ok := (fun k_ => ((P0_ k_ ∨ P1_0_ k_) ∨ w.heap.size ≤ k_) ∧ k_ ≠ ac)) (by exact ae.out) hg hat); have n1_ := ak (Kd.V_afterv (ok := (fun k_ => ((P0_ k_ ∨ P1_0_ k_) ∨ w.heap.size ≤ k_) ∧ k_ ≠ ac)) (by exact aa.out) hg hat); have n2_ := ak (qZg (bk ab) hg (Kd.N_away bq.out (fun _ hk => hk.2))); have n3_ := ak (Kd.V_afterv (ok := (fun k_ => ((P0_ k_ ∨ P1_0_ k_) ∨ w.heap.size ≤ k_) ∧ k_ ≠ ac)) (by exact ag.out) hg hat); have n4_ := ak (Kd.V_afterv (ok := (fun k_ => ((P0_ k_ ∨ P1_0_ k_) ∨ w.heap.size ≤ k_) ∧ k_ ≠ ac)) (by exact au.out) hg hat); have n5_ := ak (hb); have n6_ := ak (ho); clear ae; clear aa; clear ab; clear ag; clear au; clear HB; clear bq; have ae := n0_; have aa := n1_; have ab := n2_; have ag := n3_; have au := n4_; have HB := n5_; have br := n6_; clear n0_ n1_ n2_ n3_ n4_ n5_ n6_; clear ho hb hg hat; have q39 : (ad : Int) ≤ ((l0.length : Int) : Int) := oT (by (with_reducible assumption)); obtain ⟨i039, da, _, db, _⟩ := info_parts qJh; have bd : l0.length ≤ c0 := (Kd.V_reads' ae.out).2.1; have dS : Kd.F k103 _ _ (some an) l0.length l0 := (Kd.V_at (base := w.heap.size) ae.out).2.2; have ey : (0 : Int) ≤ (ad : Int) := oT (by (with_reducible assumption)); have dw := qYn (P := Try.prog) 100 103 .i64 Try.underlying100 da 2 db (some an) l0.length c0 ad ey q39; have cm := Kd.F_cut (m := (ad : Int).toNat) (c := c0) dS (by omega) bd; obtain ⟨A39, cx⟩ : ∃ A1, A1 = (if c0 = (ad : Int).toNat then (some an) else ((some an) : Option Addr).map (·.add ((ad : Int).toNat * 2))) := ⟨_, rfl⟩; obtain ⟨c39, cy⟩ : ∃ c1, c1 = c0 - (ad : Int).toNat := ⟨_, rfl⟩; have cn : ap.length = l0.length - (ad : Int).toNat := (by rw [bJ.out, List.length_drop] <;> omega); rw [show (l0).drop (ad : Int).toNat = ap from bJ.out.symm] at cm; replace cm : Kd.F k103 _ _ A39 ap.length ap := (by rw [cx]; exact cm); rw [← cn, ← cx, ← cy] at dw; have aX := ak (show Kd.V k103 103 _ w.heap.size _ (.slice A39 ap.length c39) ap from Kd.V_mk (by rw [cn, cy]; exact Nat.sub_le_sub_right bd _) cm); have dT := ak (show ap.length ≤ c39 from by rw [cn, cy]; exact Nat.sub_le_sub_right bd _); clear cm dS bd da db cy; have eQ := ak cn; have eR := ak cx; clear cn cx; replace q39 := eq_true q39) | ((with_reducible refine gate_builtin (b := .append) (xs := #[.tmp 33, .tmp 36]) rfl ?_); at_builtin; refine Kd.N_append_rows k103 (w0 := w) w.heap.size rfl (.tmp 33) (.tmp 36) 100 103 (.agg #[(.slice none 0 0), (.int .i64 0)]) 32 rfl Try.underlying100 qJh rfl (by decide) (by omega) bA aD ap _ _ _ (fun k_ => ((P0_ k_ ∨ P1_0_ k_) ∨ w.heap.size ≤ k_) ∧ k_ ≠ ac) (fun k_ => ((fun k_ => ((P0_ k_ ∨ P1_0_ k_) ∨ w.heap.size ≤ k_) ∧ k_ ≠ ac)) k_ ∧ some k_ ≠ (bA : Value).ownBlock) rfl rfl ?aO ?aR (fun _ hk => hk) ?aF ?aB ?aS ?aL ?_; (case aR => exact (by skip; exact Kd.V_F (Kd.V_mono (ok' := (fun k_ => ((fun k_ => ((P0_ k_ ∨ P1_0_ k_) ∨ w.heap.size ≤ k_) ∧ k_ ≠ ac)) k_ ∧ some k_ ≠ (bA : Value).ownBlock)) (aX.out) (fun k_ hk => ⟨⟨hk.1.1, hk.1.2⟩, hk.2⟩)))); (case aB => exact (bl1 HB af)); (case aF => exact (fun k_ hk => ⟨(.inr (Nat.le_trans (qZc (bl1 HB af)) hk)), Kd.freshB (bk ab) k_ hk⟩)); (case aO => exact (by exact br.out)); (case aS => exact (qZc (bl1 HB af))); (case aL => have := cX.out; omega); intro ez w40 ho hb hg hat; rw [← cY.out] at ho; have n0_ := ak (Kd.V_afterv (ok := (fun k_ => ((P0_ k_ ∨ P1_0_ k_) ∨ w.heap.size ≤ k_) ∧ k_ ≠ ac)) (by exact ae.out) hg hat); have n1_ := ak (Kd.V_afterv (ok := (fun k_ => ((P0_ k_ ∨ P1_0_ k_) ∨ w.heap.size ≤ k_) ∧ k_ ≠ ac)) (by exact aa.out) hg hat); have n2_ := ak (qZg (bk ab) hg (Kd.N_away br.out (fun _ hk => hk.2))); have n3_ := ak (Kd.V_afterv (ok := (fun k_ => ((P0_ k_ ∨ P1_0_ k_) ∨ w.heap.size ≤ k_) ∧ k_ ≠ ac)) (by exact ag.out) hg hat); have n4_ := ak (Kd.V_afterv (ok := (fun k_ => ((P0_ k_ ∨ P1_0_ k_) ∨ w.heap.size ≤ k_) ∧ k_ ≠ ac)) (by exact au.out) hg hat); have n5_ := ak (Kd.V_afterv (ok := (fun k_ => ((P0_ k_ ∨ P1_0_ k_) ∨ w.heap.size ≤ k_) ∧ k_ ≠ ac)) (by exact aX.out) hg hat); have n6_ := ak (hb); have n7_ := ak (ho); clear ae; clear aa; clear ab; clear ag; clear au; clear aX; clear HB; clear br; have ae := n0_; have aa := n1_; have ab := n2_; have ag := n3_; have au := n4_; have aX := n5_; have HB := n6_; have bs := n7_; clear n0_ n1_ n2_ n3_ n4_ n5_ n6_ n7_; clear ho hb hg hat; obtain ⟨eS, eT, eA⟩ := Kd.N_slice bs.out; subst eA))
   go_ret
   exact ⟨_, by rfl, by exact Kd.N_mono bs.out (fun _ hk => hk.1), bl1 HB af⟩
  rw [if_pos c16] at H
  have c16b0 : decide (a2 < (aj.length : Int)) = true := decide_eq_true c16
  clear c16
  by_cases c17 : 0 ≤ a2
  rotate_left
  ·rw [if_neg c17] at H
   exact absurd H (by simp)
  rw [if_pos c17] at H
  have c17b0 := eq_true c17
  have c17b1 : decide (0 ≤ a2) = true := decide_eq_true c17
  clear c17
  by_cases c18 : a2 ≤ (aj.length : Int)
  rotate_left
  ·rw [if_neg c18] at H
   exact absurd H (by simp)
  rw [if_pos c18] at H
  have c18b0 := eq_true c18
  have c18b1 : decide (a2 ≤ (aj.length : Int)) = true := decide_eq_true c18
  clear c18
  obtain ⟨dU, co⟩ : ∃ y_ : List (S103), y_ = (aj.take (a2 : Int).toNat) := ⟨_, rfl⟩
  replace H : (some dU) = some r := by (rw [co]; with_reducible exact H)
  have dc := ak co
  clear co
  obtain rfl := Option.some.inj H
  try go_wp2
  replace ae := ak (Kd.V_drew ae.out)
  replace aa := ak (Kd.V_drew aa.out)
  replace ab := ak (qZp ab.out)
  replace HB := ak (qZo HB.out)
  have aU : 0 ≤ (ad : Int) := oT (by (with_reducible assumption))
  have aV : ad < (l0.length : Int) := oT (by (with_reducible assumption))
  obtain ⟨an, aJ, aK, cd, av, ay, az, aA⟩ := qYc (Kd.V_reads' ae.out).2.2 ad aU aV
  cases cd
  obtain ⟨cR, bn, bo, aM⟩ := Kd.V_get ae.out z103 ad aU (by exact aV)
  obtain ⟨bG, bH, rfl, aw, ax⟩ := qVa bo
  have ao := aM 0 _ rfl
  rw [Nat.add_zero] at ao
  replace ao := Option.some.inj (ao.symm.trans av)
  injection ao with hva_ hvn_ hvc_
  rw [hva_] at ax
  rw [hvc_] at aw
  have ag := ak (show Kd.V (Kd.int .i64) 3 _ w.heap.size _ _ ((qQg l0 ad).f0) from Kd.V_mk aw ax)
  clear hva_ hvn_ hvc_ ax aw
  clear aM bn
  have ai := ak aA
  have aW := ak az
  clear aA az
  replace aU := eq_true aU
  replace aV := eq_true aV
  refine qJd (n := 13) (S := fun w' => w'.cell? ⟨ac, 0, none⟩ = some (.slice aH ah.length aI) ∧ w'.cell? ⟨ac, 1, none⟩ = some (.int .i64 am) ∧ w'.cell? (an.add ((ad).toNat * 2)) = some (.slice aJ ((qQg l0 ad).f0).length aK) ∧ w'.cell? ⟨(an.add ((ad).toNat * 2)).block, (an.add ((ad).toNat * 2)).off + 1, none⟩ = some (.int .i64 ((qQg l0 ad).f1))) (ds := []) (ms 13 0) (by kernel_rfl) rfl (by kernel_rfl) ⟨(qZb ab.out 0).trans rfl, (qZb ab.out 1).trans rfl, av, ay⟩ (fun hHeld => ?_); refine qQk spec_l14Put.tab2 spec_l14Put.bits2 (fun HT_ HW_ => ?_)
  generalize wr.drew = w19 at ae aa ab HB ag ai av ay hHeld ⊢
  refine pu 0 9 ?_ (ms 13 1) rfl rfl HT_ (by kernel_rfl) (fun _ _ _ h => h) (by rfl) ?_ ?_ ?_ ?_
  rotate_left
  ·intro w'
   go_simp
   with_reducible rfl
  rotate_left
  ·simp only [SX]
   rfl
  refine pu 1 10 ?_ (ms 13 3) rfl rfl HT_ (by kernel_rfl) (fun _ _ _ h => h) (by rfl) ?_ ?_ ?_ ?_
  rotate_left
  ·intro w'
   go_simp
   with_reducible rfl
  rotate_left
  ·simp only [SX]
   rfl
  refine pu 2 11 ?_ (ms 13 7) rfl rfl HT_ (by kernel_rfl) (fun _ _ _ h => h) (by rfl) ?_ ?_ ?_ ?_
  rotate_left
  ·intro w'
   go_simp
   with_reducible rfl
  rotate_left
  ·simp only [SX]
   rfl
  refine pu 3 12 ?_ (ms 13 15) rfl rfl HT_ (by kernel_rfl) (fun _ _ _ h => h) (by rfl) ?_ ?_ ?_ ?_
  rotate_left
  ·intro w'
   go_simp
   with_reducible rfl
  rotate_left
  ·simp only [SX]
   rfl
  refine pu 4 13 ?_ (ms 13 31) rfl rfl HT_ (by kernel_rfl) (fun _ _ _ h => h) (by rfl) ?_ ?_ ?_ ?_
  rotate_left
  ·intro w'
   go_simp
   with_reducible rfl
  rotate_left
  ·simp only [SX]
   rfl
  refine pu 6 15 ?_ (ms 13 95) rfl rfl HT_ (by kernel_rfl) (fun _ _ _ h => h) (by rfl) ?_ ?_ ?_ ?_
  rotate_left
  ·intro w'
   go_simp
   with_reducible rfl
  rotate_left
  ·simp only [SX]
   rfl
  refine pu 7 16 ?_ (ms 13 223) rfl rfl HT_ (by kernel_rfl) (fun _ _ _ h => h) (by rfl) ?_ ?_ ?_ ?_
  rotate_left
  ·intro w'
   go_simp
   with_reducible rfl
  rotate_left
  ·simp only [SX]
   rfl
  refine pu 8 17 ?_ (ms 13 479) rfl rfl HT_ (by kernel_rfl) (fun _ _ _ h => h) (by rfl) ?_ ?_ ?_ ?_
  rotate_left
  ·intro w'
   go_simp
   with_reducible rfl
  rotate_left
  ·simp only [SX]
   rfl
  refine tk 5 14 ?_ (ms 13 511) rfl rfl HT_ HW_ (by kernel_rfl) (fun _ _ _ h => h) (by rfl) ?_ hHeld ?_ ?_ ?_
  rotate_left
  ·rintro w' ⟨s0, s1, s2, s3⟩
   go_simp
   with_reducible rfl
  rotate_left
  ·simp only [SX]
   rfl
  refine tk 9 18 ?_ (ms 13 1023) rfl rfl HT_ HW_ (by kernel_rfl) (fun _ _ _ h => h) (by rfl) ?_ hHeld ?_ ?_ ?_
  rotate_left
  ·rintro w' ⟨s0, s1, s2, s3⟩
   go_simp
   with_reducible rfl
  rotate_left
  ·simp only [SX]
   rfl
  refine one_ (i := 10) (N := some 19) (ms 13 2047) rfl rfl (qJb HT_.out (by kernel_rfl)) (by decide) (fun K hK => ?_)
  refine qXg Try.func127 (by kernel_rfl) rfl #[.agg #[.slice aH ah.length aI, .int .i64 am], .agg #[.slice aJ ((qQg l0 ad).f0).length aK, .int .i64 ((qQg l0 ad).f1)]] (by rfl) rfl rfl (by (try simp only [List.map_toArray, List.map_cons, List.map_nil]); rfl) ?_
  with_reducible refine (spec_l14Less.calls k1 _ _ ah am _ _ ((qQg l0 ad).f0) ((qQg l0 ad).f1) true _ ?side1 ?side2 ?side3 ?side4 A7.out).mono ?_
  (case side1 => repeat (exact (Kd.V_reads' aa.out).2.2))
  (case side2 => exact (Kd.V_reads' aa.out).2.1)
  (case side3 => repeat (exact (by repeat ((with_reducible exact ai.out)))))
  (case side4 => exact aW.out)
  rintro e w20 ⟨rfl, hb⟩
  have ce := (hb.cell (World.block_lt_of_cell? _ _ (hHeld.2.2.1))).trans (hHeld.2.2.1)
  have cf := (hb.cell (World.block_lt_of_cell? _ _ (hHeld.2.2.2))).trans (hHeld.2.2.2)
  refine ⟨_, rfl, ?_⟩
  replace ae := ak (Kd.V_below (by exact ae.out) hb)
  replace aa := ak (Kd.V_below (by exact aa.out) hb)
  replace ag := ak (Kd.V_below (by exact ag.out) hb)
  replace ab := ak (qZe (bk ab) hb)
  replace ai := ak (Kd.C_below (by repeat ((with_reducible exact ai.out))) hb)
  replace HB := ak (qZd (bl1 HB af) hb)
  (try clear hb)
  (try clear hb2)
  (try clear hk)
  (try clear hi)
  refine hK.out _ _ ⟨(qZb ab.out 0).trans rfl, (qZb ab.out 1).trans rfl, ce, cf⟩ (fun hHeld => ?_)
  clear hK K
  refine qJc (a' := ?_) ?_ ?_
  rotate_left
  ·show Act.put _ (some 19) _ = _
   simp only [SX]
   rfl
  refine pu 11 20 ?_ (ms 13 4095) rfl rfl HT_ (by kernel_rfl) (fun _ _ _ h => h) (by rfl) ?_ ?_ ?_ ?_
  rotate_left
  ·intro w'
   go_simp
   with_reducible rfl
  rotate_left
  ·simp only [SX]
   rfl
  refine pu 12 21 ?_ (ms 13 8191) rfl rfl HT_ (by kernel_rfl) (fun _ _ _ h => h) (by rfl) ?_ ?_ ?_ ?_
  rotate_left
  ·intro w'
   go_simp
   with_reducible rfl
  rotate_left
  ·simp only [SX]
   rfl
  refine qXc (qQp HT_.out (by kernel_rfl)) ?_
  try go_wp2_with (first | ((with_reducible refine gate_dst (N := 24) rfl ?_); refine Kd.N_lit k103 _ 103 ?hg (N' := 24) ?hd (xs := ([] : List (S103))) (inner := []) (ok := (fun k_ => ((P0_ k_ ∨ P1_0_ k_) ∨ w.heap.size ≤ k_) ∧ k_ ≠ ac)) (okp := (fun k_ => ((P0_ k_ ∨ P1_0_ k_) ∨ w.heap.size ≤ k_) ∧ k_ ≠ ac)) ?hr ?hp (fun _ hk => hk) ((show ∀ k_, w20.heap.size ≤ k_ → (fun k_ => ((P0_ k_ ∨ P1_0_ k_) ∨ w.heap.size ≤ k_) ∧ k_ ≠ ac) k_ from fun k_ hk => ⟨(.inr (Nat.le_trans (qZc (bl1 HB af)) hk)), Kd.freshB (bk ab) k_ hk⟩) _ (Nat.le_refl _)) (Below.refl _ _) (Nat.le_refl _) (by simp) ?_; (case hd => rfl); (case hg => rfl); (case hr => (go_simp; done)); (case hp => exact (Reps.none _ _)); intro bz w21 bN hb hg_ hnew_; clear hg_ hnew_; (rw [← cS.out] at bN); replace ae := ak (Kd.V_elder' (by exact ae.out) (Kd.N_base bN) hb); replace aa := ak (Kd.V_elder' (by exact aa.out) (Kd.N_base bN) hb); replace ag := ak (Kd.V_elder' (by exact ag.out) (Kd.N_base bN) hb); have bp := ak (Kd.N_lower bN (qZc (bl1 HB af))); replace ab := ak (qZe (bk ab) hb); replace ai := ak (Kd.C_below (by repeat ((with_reducible exact ai.out))) hb); replace HB := ak (qZd (bl1 HB af) hb); clear hb bN; have q23 : (ad : Int) ≤ ((l0.length : Int) : Int) := oT (by (with_reducible assumption)); obtain ⟨i023, dd, _, dV, _⟩ := info_parts qJh; have bL : l0.length ≤ c0 := (Kd.V_reads' ae.out).2.1; have dW : Kd.F k103 _ _ (some an) l0.length l0 := (Kd.V_at (base := w.heap.size) ae.out).2.2; have dx := qYk (P := Try.prog) 100 103 .i64 Try.underlying100 dd (some an) l0.length c0 ad (oT (by (with_reducible assumption))) q23 bL; have dy := Kd.F_take (m := (ad : Int).toNat) dW (by omega); have dz : aC.length = (ad : Int).toNat := (by rw [bI.out, List.length_take]; omega); rw [← bI.out] at dy; rw [← dz] at dx; have au := ak (show Kd.V k103 103 _ w.heap.size _ (.slice (some an) aC.length c0) aC from Kd.V_mk (by omega) dy); have dR := ak (show aC.length ≤ c0 from by omega); clear dy dW bL dd dV; have eU := ak dz; clear dz; replace q23 := eq_true q23) | ((with_reducible refine gate_builtin (b := .append) (xs := #[.tmp 24, .tmp 27]) rfl ?_); at_builtin; refine Kd.N_append_rows k103 (w0 := w) w.heap.size rfl (.tmp 24) (.tmp 27) 100 103 (.agg #[(.slice none 0 0), (.int .i64 0)]) 32 rfl Try.underlying100 qJh rfl (by decide) (by omega) bz bf aC _ _ _ (fun k_ => ((P0_ k_ ∨ P1_0_ k_) ∨ w.heap.size ≤ k_) ∧ k_ ≠ ac) (fun k_ => ((fun k_ => ((P0_ k_ ∨ P1_0_ k_) ∨ w.heap.size ≤ k_) ∧ k_ ≠ ac)) k_ ∧ some k_ ≠ (bz : Value).ownBlock) rfl rfl ?aO ?aR (fun _ hk => hk) ?aF ?aB ?aS ?aL ?_; (case aR => exact (by skip; exact Kd.V_F (Kd.V_mono (ok' := (fun k_ => ((fun k_ => ((P0_ k_ ∨ P1_0_ k_) ∨ w.heap.size ≤ k_) ∧ k_ ≠ ac)) k_ ∧ some k_ ≠ (bz : Value).ownBlock)) (au.out) (fun k_ hk => ⟨⟨hk.1.1, hk.1.2⟩, hk.2⟩)))); (case aB => exact (bl1 HB af)); (case aF => exact (fun k_ hk => ⟨(.inr (Nat.le_trans (qZc (bl1 HB af)) hk)), Kd.freshB (bk ab) k_ hk⟩)); (case aO => exact (by exact bp.out)); (case aS => exact (qZc (bl1 HB af))); (case aL => have := cT.out; omega); intro bv w24 ho hb hg hat; rw [← cU.out] at ho; have n0_ := ak (Kd.V_afterv (ok := (fun k_ => ((P0_ k_ ∨ P1_0_ k_) ∨ w.heap.size ≤ k_) ∧ k_ ≠ ac)) (by exact ae.out) hg hat); have n1_ := ak (Kd.V_afterv (ok := (fun k_ => ((P0_ k_ ∨ P1_0_ k_) ∨ w.heap.size ≤ k_) ∧ k_ ≠ ac)) (by exact aa.out) hg hat); have n2_ := ak (qZg (bk ab) hg (Kd.N_away bp.out (fun _ hk => hk.2))); have n3_ := ak (Kd.V_afterv (ok := (fun k_ => ((P0_ k_ ∨ P1_0_ k_) ∨ w.heap.size ≤ k_) ∧ k_ ≠ ac)) (by exact ag.out) hg hat); have n4_ := ak (Kd.V_afterv (ok := (fun k_ => ((P0_ k_ ∨ P1_0_ k_) ∨ w.heap.size ≤ k_) ∧ k_ ≠ ac)) (by exact au.out) hg hat); have n5_ := ak (hb); have n6_ := ak (ho); clear ae; clear aa; clear ab; clear ag; clear au; clear HB; clear bp; have ae := n0_; have aa := n1_; have ab := n2_; have ag := n3_; have au := n4_; have HB := n5_; have bq := n6_; clear n0_ n1_ n2_ n3_ n4_ n5_ n6_; clear ho hb hg hat; have en := bc w24 ab 0 (.slice aH ah.length aI) rfl; have eo := bc w24 ab 1 (.int .i64 am) rfl; have ep := fz ab 0; have eq := fz ab 1) | ((with_reducible refine gate_builtin (b := .append) (xs := #[.tmp 29, .tmp 31]) rfl ?_); at_builtin; refine Kd.N_append k103 (w0 := w) w.heap.size rfl (.tmp 29) (.tmp 31) 100 103 (.agg #[(.slice none 0 0), (.int .i64 0)]) 32 rfl Try.underlying100 qJh rfl (by decide) (by omega) bv aN (⟨ah, am⟩ : S103) [.slice aH ah.length aI, .int .i64 am] (fun k_ => ((P0_ k_ ∨ P1_0_ k_) ∨ w.heap.size ≤ k_) ∧ k_ ≠ ac) (fun k_ => ((fun k_ => ((P0_ k_ ∨ P1_0_ k_) ∨ w.heap.size ≤ k_) ∧ k_ ≠ ac)) k_ ∧ some k_ ≠ (bv : Value).ownBlock) rfl rfl ?aP (fun _ hk => hk) ?aF ?aO ?aB ?aS ?aL ?_; (case aP => exact (qYp _ _ (⟨ah, am⟩ : S103) (Kd.V_reads' (Kd.V_mono (ok' := (fun k_ => ((fun k_ => ((P0_ k_ ∨ P1_0_ k_) ∨ w.heap.size ≤ k_) ∧ k_ ≠ ac)) k_ ∧ some k_ ≠ (bv : Value).ownBlock)) (aa.out) (fun k_ hk => ⟨⟨hk.1.1, hk.1.2⟩, hk.2⟩))).2.1 (Kd.V_F (Kd.V_mono (ok' := (fun k_ => ((fun k_ => ((P0_ k_ ∨ P1_0_ k_) ∨ w.heap.size ≤ k_) ∧ k_ ≠ ac)) k_ ∧ some k_ ≠ (bv : Value).ownBlock)) (aa.out) (fun k_ hk => ⟨⟨hk.1.1, hk.1.2⟩, hk.2⟩))))); (case aB => exact (bl1 HB af)); (case aF => exact (fun k_ hk => ⟨(.inr (Nat.le_trans (qZc (bl1 HB af)) hk)), Kd.freshB (bk ab) k_ hk⟩)); (case aO => exact (by exact bq.out)); (case aS => exact (qZc (bl1 HB af))); (case aL => have := cV.out; omega); intro bA w26 ho hb hg hat; rw [← cW.out] at ho; have n0_ := ak (Kd.V_afterv (ok := (fun k_ => ((P0_ k_ ∨ P1_0_ k_) ∨ w.heap.size ≤ k_) ∧ k_ ≠ ac)) (by exact ae.out) hg hat); have n1_ := ak (Kd.V_afterv (ok := (fun k_ => ((P0_ k_ ∨ P1_0_ k_) ∨ w.heap.size ≤ k_) ∧ k_ ≠ ac)) (by exact aa.out) hg hat); have n2_ := ak (qZg (bk ab) hg (Kd.N_away bq.out (fun _ hk => hk.2))); have n3_ := ak (Kd.V_afterv (ok := (fun k_ => ((P0_ k_ ∨ P1_0_ k_) ∨ w.heap.size ≤ k_) ∧ k_ ≠ ac)) (by exact ag.out) hg hat); have n4_ := ak (Kd.V_afterv (ok := (fun k_ => ((P0_ k_ ∨ P1_0_ k_) ∨ w.heap.size ≤ k_) ∧ k_ ≠ ac)) (by exact au.out) hg hat); have n5_ := ak (hb); have n6_ := ak (ho); clear ae; clear aa; clear ab; clear ag; clear au; clear HB; clear bq; have ae := n0_; have aa := n1_; have ab := n2_; have ag := n3_; have au := n4_; have HB := n5_; have br := n6_; clear n0_ n1_ n2_ n3_ n4_ n5_ n6_; clear ho hb hg hat; have q27 : (ad : Int) ≤ ((l0.length : Int) : Int) := oT (by (with_reducible assumption)); obtain ⟨i027, de, _, df, _⟩ := info_parts qJh; have be : l0.length ≤ c0 := (Kd.V_reads' ae.out).2.1; have dX : Kd.F k103 _ _ (some an) l0.length l0 := (Kd.V_at (base := w.heap.size) ae.out).2.2; have eB : (0 : Int) ≤ (ad : Int) := oT (by (with_reducible assumption)); have dA := qYn (P := Try.prog) 100 103 .i64 Try.underlying100 de 2 df (some an) l0.length c0 ad eB q27; have cp := Kd.F_cut (m := (ad : Int).toNat) (c := c0) dX (by omega) be; obtain ⟨A27, cz⟩ : ∃ A1, A1 = (if c0 = (ad : Int).toNat then (some an) else ((some an) : Option Addr).map (·.add ((ad : Int).toNat * 2))) := ⟨_, rfl⟩; obtain ⟨c27, cA⟩ : ∃ c1, c1 = c0 - (ad : Int).toNat := ⟨_, rfl⟩; have cq : ap.length = l0.length - (ad : Int).toNat := (by rw [bJ.out, List.length_drop] <;> omega); rw [show (l0).drop (ad : Int).toNat = ap from bJ.out.symm] at cp; replace cp : Kd.F k103 _ _ A27 ap.length ap := (by rw [cz]; exact cp); rw [← cq, ← cz, ← cA] at dA; have aX := ak (show Kd.V k103 103 _ w.heap.size _ (.slice A27 ap.length c27) ap from Kd.V_mk (by rw [cq, cA]; exact Nat.sub_le_sub_right be _) cp); have dT := ak (show ap.length ≤ c27 from by rw [cq, cA]; exact Nat.sub_le_sub_right be _); clear cp dX be de df cA; have eV := ak cq; have eW := ak cz; clear cq cz; replace q27 := eq_true q27) | ((with_reducible refine gate_builtin (b := .append) (xs := #[.tmp 33, .tmp 36]) rfl ?_); at_builtin; refine Kd.N_append_rows k103 (w0 := w) w.heap.size rfl (.tmp 33) (.tmp 36) 100 103 (.agg #[(.slice none 0 0), (.int .i64 0)]) 32 rfl Try.underlying100 qJh rfl (by decide) (by omega) bA aD ap _ _ _ (fun k_ => ((P0_ k_ ∨ P1_0_ k_) ∨ w.heap.size ≤ k_) ∧ k_ ≠ ac) (fun k_ => ((fun k_ => ((P0_ k_ ∨ P1_0_ k_) ∨ w.heap.size ≤ k_) ∧ k_ ≠ ac)) k_ ∧ some k_ ≠ (bA : Value).ownBlock) rfl rfl ?aO ?aR (fun _ hk => hk) ?aF ?aB ?aS ?aL ?_; (case aR => exact (by skip; exact Kd.V_F (Kd.V_mono (ok' := (fun k_ => ((fun k_ => ((P0_ k_ ∨ P1_0_ k_) ∨ w.heap.size ≤ k_) ∧ k_ ≠ ac)) k_ ∧ some k_ ≠ (bA : Value).ownBlock)) (aX.out) (fun k_ hk => ⟨⟨hk.1.1, hk.1.2⟩, hk.2⟩)))); (case aB => exact (bl1 HB af)); (case aF => exact (fun k_ hk => ⟨(.inr (Nat.le_trans (qZc (bl1 HB af)) hk)), Kd.freshB (bk ab) k_ hk⟩)); (case aO => exact (by exact br.out)); (case aS => exact (qZc (bl1 HB af))); (case aL => have := cX.out; omega); intro ez w28 ho hb hg hat; rw [← cY.out] at ho; have n0_ := ak (Kd.V_afterv (ok := (fun k_ => ((P0_ k_ ∨ P1_0_ k_) ∨ w.heap.size ≤ k_) ∧ k_ ≠ ac)) (by exact ae.out) hg hat); have n1_ := ak (Kd.V_afterv (ok := (fun k_ => ((P0_ k_ ∨ P1_0_ k_) ∨ w.heap.size ≤ k_) ∧ k_ ≠ ac)) (by exact aa.out) hg hat); have n2_ := ak (qZg (bk ab) hg (Kd.N_away br.out (fun _ hk => hk.2))); have n3_ := ak (Kd.V_afterv (ok := (fun k_ => ((P0_ k_ ∨ P1_0_ k_) ∨ w.heap.size ≤ k_) ∧ k_ ≠ ac)) (by exact ag.out) hg hat); have n4_ := ak (Kd.V_afterv (ok := (fun k_ => ((P0_ k_ ∨ P1_0_ k_) ∨ w.heap.size ≤ k_) ∧ k_ ≠ ac)) (by exact au.out) hg hat); have n5_ := ak (Kd.V_afterv (ok := (fun k_ => ((P0_ k_ ∨ P1_0_ k_) ∨ w.heap.size ≤ k_) ∧ k_ ≠ ac)) (by exact aX.out) hg hat); have n6_ := ak (hb); have n7_ := ak (ho); clear ae; clear aa; clear ab; clear ag; clear au; clear aX; clear HB; clear br; have ae := n0_; have aa := n1_; have ab := n2_; have ag := n3_; have au := n4_; have aX := n5_; have HB := n6_; have bs := n7_; clear n0_ n1_ n2_ n3_ n4_ n5_ n6_ n7_; clear ho hb hg hat; obtain ⟨eC, eD, eE⟩ := Kd.N_slice bs.out; subst eE; have q30 : (a2 : Int) ≤ ((aj.length : Int) : Int) := oT (by (with_reducible assumption)); obtain ⟨i030, dg, _, dY, _⟩ := info_parts qJh; have dB := qYk (P := Try.prog) 100 103 .i64 Try.underlying100 dg eC aj.length eD a2 (oT (by (with_reducible assumption))) q30 (Kd.N_reads' bs.out).2.1; have cB := Kd.N_take (m := (a2 : Int).toNat) bs.out (by omega); have dZ : dU.length = (a2 : Int).toNat := (by rw [dc.out, List.length_take]; omega); rw [← dc.out] at cB; rw [← dZ] at cB dB; clear dZ dg dY bs; have ea := ak cB; clear cB; replace q30 := eq_true q30))
  go_ret
  exact ⟨_, by rfl, by exact Kd.N_mono ea.out (fun _ hk => hk.1), bl1 HB af⟩
end Go.Proofs.Ytlgolgfcolnddaa.F
