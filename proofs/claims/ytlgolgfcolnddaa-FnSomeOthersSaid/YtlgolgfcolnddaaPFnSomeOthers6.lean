-- Printed by this claim's repository's tools (px.py, pgo.py, pack.py), one text behind the other. Lean checks it.
import Derived.Test.YtlgolgfcolnddaaFKindsPFnSomeOthers
import Derived.Test.YtlgolgfcolnddaaPFnSomeOthers4
import Derived.Test.YtlgolgfcolnddaaPFnSomeOthers5
namespace Go.Proofs.Ytlgolgfcolnddaa.F
open Go.RowKit Go.Proofs.YtlgolgfcolnddaaW.PrintWords Go.Proofs.YtlgolgfcolnddaaW.PrintLast Go.Proofs.YtlgolgfcolnddaaW.PrintMore
attribute [local go_sem] qQe qQd qQi qQh qZk qZl qQc qQb
set_option linter.unusedVariables false
set_option linter.unusedSimpArgs false
/-! ### spec_l2Cost: function 56 -/
def spec_l2Cost.l0 : Nat → List Int → Int → Int → Int → List (S58) → Option (Int)
 | 0, _, _, _, _, _ => none
 | k + 1, x1, x5, x6, aq, ad => if x6 < (x1.length : Int) then (if 0 ≤ x6 then (if 0 ≤ (rd x1 x6) then (if (rd x1 x6) < (ad.length : Int) then (spec_l2Cost.l0 k x1 (wrap64 (x5 + ((qZa ad (rd x1 x6)).f2))) (wrap64 (x6 + 1)) aq ad) else (none)) else (none)) else (none)) else (some x5)
def spec_l2Cost.f (k : Nat) (ae : Int) (ab : List (S58)) (l1 : List Int) : Option (Int) := spec_l2Cost.l0 k l1 0 0 ae ab
theorem spec_l2Cost.mono_l : ∀ k, (∀ y0 y1 y2 y3 y4, LeO (spec_l2Cost.l0 k y0 y1 y2 y3 y4) (spec_l2Cost.l0 (k + 1) y0 y1 y2 y3 y4))
 | 0 => fun _ _ _ _ _ r h => by simp [spec_l2Cost.l0] at h
 | k + 1 => by
  have ih0 := spec_l2Cost.mono_l k
  ·intro y0 y1 y2 y3 y4
   unfold spec_l2Cost.l0
   repeat' first | (with_reducible exact ih0 _ _ _ _ _) | (with_reducible exact LeO.refl _) | (with_reducible refine LeO.ite ?_ ?_)
theorem spec_l2Cost.mono : ∀ a0 a1 a2 k, LeO (spec_l2Cost.f k a0 a1 a2) (spec_l2Cost.f (k + 1) a0 a1 a2) := by
 intro a0 a1 a2 k
 have ih0 := spec_l2Cost.mono_l k
 unfold spec_l2Cost.f
 repeat' (with_reducible exact ih0 _ _ _ _ _)
set_option maxHeartbeats 8000000 in
set_option maxRecDepth 100000 in
theorem spec_l2Cost.calls (k : Nat) (ae : Int) (am : Option Addr) (an : Nat) (ab : List (S58)) (A1 : Option Addr) (c1 : Nat) (l1 : List Int) (r : Int) (w : World) (au : Kd.C k58 w am ab.length ab) (av : ab.length ≤ an) (hr1 : Kd.C (Kd.int .i64) w A1 l1.length l1) (hc1 : l1.length ≤ c1) (h : spec_l2Cost.f k ae ab l1 = some r) :
  Calls Try.prog 56 #[.agg #[.int .i64 ae, .slice am ab.length an], .slice A1 l1.length c1] w fun e w' => e = .returned (.int .i64 r) ∧ Below w.heap.size w w' := by
 have aL := Try.underlying25
 have aA := ak au
 have aH := ak av
 clear au av
 have HR1 := ak hr1
 have HC1 := ak hc1
 clear hr1 hc1
 have HB := ak (Below.refl w.heap.size w)
 have H : (spec_l2Cost.l0 k l1 0 0 ae ab) = some r := h
 clear h
 have H' := ak H
 clear H
 go_enter Try.func56, Try.ntmps56
 go_wp2_with (((with_reducible refine gate_dst (N := 2) rfl ?_); refine qZj ?hg (N := 2) ?hd (cs := #[.int .i64 ae, .slice am ab.length an]) (t := 25) ?hr ?_; (case hd => rfl); (case hg => rfl); (case hr => (go_simp; done)); intro ao hg w3 hbox hb; have ac := ak (hbox); have aI := ak ((by rw [hg]; exact (qZc (bl HB)) : w.heap.size ≤ ao)); have ap := ak ((by rw [hg]; exact (qZc (bl HB)) : w.heap.size ≤ ao)); replace HB := ak (qZd (bl HB) hb); clear hb hbox hg))
 repeat (go_quiet (fail); try go_wp2_with (fail))
 go_loopg [5, 6] k (fun kq v5 v6 w' => ∃ (ar : Int) (aa : Int), v5 = .int .i64 ar ∧ v6 = .int .i64 aa ∧ Aside0 (spec_l2Cost.l0 kq l1 ar aa ae ab = some r) ∧ Aside0 (kq ≤ k) ∧ Aside0 (w'.heap[ao]? = some (.cells #[.int .i64 ae, (.slice am ab.length an)] 25 (0, 0))) ∧ Aside0 (Below w.heap.size w w'))
 case atStart => exact ⟨(0), (0), (by rfl), (by rfl), H', ⟨Nat.le_refl _⟩, ⟨bk ac⟩, ⟨bl1 HB ap⟩⟩
 clear H'
 try clear c1
 try clear p2
 obtain ⟨ar, aa, rfl, rfl, HA, HK1, ac, HB⟩ := hrel
 cases gk with
 | zero => exact absurd HA.out (by simp [spec_l2Cost.l0])
 | succ k1 =>
  have H := HA.out
  clear HA
  simp only [spec_l2Cost.l0] at H
  by_cases c4 : aa < (l1.length : Int)
  rotate_left
  ·rw [if_neg c4] at H
   have c4b0 : decide (aa < (l1.length : Int)) = false := decide_eq_false c4
   clear c4
   obtain rfl := Option.some.inj H
   go_wp2
   repeat (go_quiet (fail); try go_wp2)
   go_ret
   exact ⟨by rfl, bl1 HB ap⟩
  rw [if_pos c4] at H
  have c4b0 : decide (aa < (l1.length : Int)) = true := decide_eq_true c4
  clear c4
  by_cases c5 : 0 ≤ aa
  rotate_left
  ·rw [if_neg c5] at H
   exact absurd H (by simp)
  rw [if_pos c5] at H
  have c5b0 : decide (0 ≤ aa) = true := decide_eq_true c5
  clear c5
  by_cases c6 : 0 ≤ (rd l1 aa)
  rotate_left
  ·rw [if_neg c6] at H
   exact absurd H (by simp)
  rw [if_pos c6] at H
  have c6b0 : decide (0 ≤ (rd l1 aa)) = true := decide_eq_true c6
  clear c6
  by_cases c7 : (rd l1 aa) < (ab.length : Int)
  rotate_left
  ·rw [if_neg c7] at H
   exact absurd H (by simp)
  rw [if_pos c7] at H
  have c7b0 : decide ((rd l1 aa) < (ab.length : Int)) = true := decide_eq_true c7
  clear c7
  have H' := ak H
  clear H
  have aB := bc wr ac 0 (.int .i64 ae) rfl
  have aC := bc wr ac 1 (.slice am ab.length an) rfl
  have aD := fz ac 0
  have aE := fz ac 1
  have aw : 0 ≤ (aa : Int) := oT (by (with_reducible assumption))
  have ax : aa < (l1.length : Int) := oT (by (with_reducible assumption))
  obtain ⟨aJ, aF, af⟩ := Kd.at_int HR1.out aa aw ax
  cases aF
  replace af := hcb HB.out af
  replace aw := eq_true aw
  replace ax := eq_true ax
  have ay : 0 ≤ ((rd l1 aa) : Int) := oT (by (with_reducible assumption))
  have az : (rd l1 aa) < (ab.length : Int) := oT (by (with_reducible assumption))
  obtain ⟨aK, aG, ag, ah, ai, aj, al⟩ := qJk aA.out (rd l1 aa) ay az
  cases aG
  replace ag := hcb HB.out ag
  replace ah := hcb HB.out ah
  replace ai := hcb HB.out ai
  replace aj := hcb HB.out aj
  replace al := hcb HB.out al
  replace ay := eq_true ay
  replace az := eq_true az
  go_wp2
  repeat (go_quiet (fail); try go_wp2)
  go_roundg k1
  case measure => have := HK1.out; omega
  case rel => exact ⟨(wrap64 (ar + ((qZa ab (rd l1 aa)).f2))), (wrap64 (aa + 1)), (by rfl), (by rfl), H', ⟨by have := HK1.out; omega⟩, ⟨bk ac⟩, ⟨bl1 HB ap⟩⟩
/-! ### spec_l12In: function 91 -/
def spec_l12In.l0 : Nat → List Int → Int → Int → Option (Bool)
 | 0, _, _, _ => none
 | k + 1, x0, x1, x5 => if x5 < (x0.length : Int) then (if 0 ≤ x5 then (if (rd x0 x5) = x1 then (some true) else (spec_l12In.l0 k x0 x1 (wrap64 (x5 + 1)))) else (none)) else (some false)
def spec_l12In.f (k : Nat) (l0 : List Int) (a1 : Int) : Option (Bool) := spec_l12In.l0 k l0 a1 0
theorem spec_l12In.mono_l : ∀ k, (∀ y0 y1 y2, LeO (spec_l12In.l0 k y0 y1 y2) (spec_l12In.l0 (k + 1) y0 y1 y2))
 | 0 => fun _ _ _ r h => by simp [spec_l12In.l0] at h
 | k + 1 => by
  have ih0 := spec_l12In.mono_l k
  ·intro y0 y1 y2
   unfold spec_l12In.l0
   repeat' first | (with_reducible exact ih0 _ _ _) | (with_reducible exact LeO.refl _) | (with_reducible refine LeO.ite ?_ ?_)
theorem spec_l12In.mono : ∀ a0 a1 k, LeO (spec_l12In.f k a0 a1) (spec_l12In.f (k + 1) a0 a1) := by
 intro a0 a1 k
 have ih0 := spec_l12In.mono_l k
 unfold spec_l12In.f
 repeat' (with_reducible exact ih0 _ _ _)
set_option maxHeartbeats 8000000 in
set_option maxRecDepth 100000 in
theorem spec_l12In.calls (k : Nat) (A0 : Option Addr) (c0 : Nat) (l0 : List Int) (a1 : Int) (r : Bool) (w : World) (hr0 : Kd.C (Kd.int .i64) w A0 l0.length l0) (hc0 : l0.length ≤ c0) (h : spec_l12In.f k l0 a1 = some r) :
  Calls Try.prog 91 #[.slice A0 l0.length c0, .int .i64 a1] w fun e w' => e = .returned (.bool r) ∧ Drawn0 w w' := by
 have HR0 := ak hr0
 have HC0 := ak hc0
 clear hr0 hc0
 have H : (spec_l12In.l0 k l0 a1 0) = some r := h
 clear h
 have H' := ak H
 clear H
 go_enter Try.func91, Try.ntmps91
 go_wp2
 go_loopg [5] k (fun kq v5 w' => ∃ (aa : Int), v5 = .int .i64 aa ∧ Aside0 (spec_l12In.l0 kq l0 a1 aa = some r) ∧ Aside0 (kq ≤ k) ∧ Drawn0 w w')
 case atStart => exact ⟨(0), (by rfl), H', ⟨Nat.le_refl _⟩, by repeat (exact Drawn0.refl _)⟩
 clear H'
 try clear p2
 obtain ⟨aa, rfl, HA, HK1, ⟨m1, rfl⟩⟩ := hrel
 cases gk with
 | zero => exact absurd HA.out (by simp [spec_l12In.l0])
 | succ k1 =>
  have H := HA.out
  clear HA
  simp only [spec_l12In.l0] at H
  by_cases c3 : aa < (l0.length : Int)
  rotate_left
  ·rw [if_neg c3] at H
   have c3b0 : decide (aa < (l0.length : Int)) = false := decide_eq_false c3
   clear c3
   obtain rfl := Option.some.inj H
   go_wp2
   go_ret
   exact ⟨by rfl, by repeat (first | exact Drawn0.refl _ | apply Drawn0.step)⟩
  rw [if_pos c3] at H
  have c3b0 : decide (aa < (l0.length : Int)) = true := decide_eq_true c3
  clear c3
  by_cases c4 : 0 ≤ aa
  rotate_left
  ·rw [if_neg c4] at H
   exact absurd H (by simp)
  rw [if_pos c4] at H
  have c4b0 : decide (0 ≤ aa) = true := decide_eq_true c4
  clear c4
  by_cases c5 : (rd l0 aa) = a1
  ·rw [if_pos c5] at H
   have c5b0 : ((rd l0 aa) == a1) = true := beq_iff_eq.mpr c5
   have c5b1 : ((rd l0 aa) != a1) = false := bne_eq_false_iff_eq.mpr c5
   clear c5
   obtain rfl := Option.some.inj H
   have ab : 0 ≤ (aa : Int) := oT (by (with_reducible assumption))
   have ac : aa < (l0.length : Int) := oT (by (with_reducible assumption))
   obtain ⟨af, ae, ad⟩ := Kd.at_int HR0.out aa ab ac
   cases ae
   replace ab := eq_true ab
   replace ac := eq_true ac
   go_wp2
   go_ret
   exact ⟨by rfl, by repeat (first | exact Drawn0.refl _ | apply Drawn0.step)⟩
  rw [if_neg c5] at H
  have c5b0 : ((rd l0 aa) == a1) = false := beq_eq_false_iff_ne.mpr c5
  have c5b1 : ((rd l0 aa) != a1) = true := bne_iff_ne.mpr c5
  have H' := ak H
  clear H
  have ab : 0 ≤ (aa : Int) := oT (by (with_reducible assumption))
  have ac : aa < (l0.length : Int) := oT (by (with_reducible assumption))
  obtain ⟨af, ae, ad⟩ := Kd.at_int HR0.out aa ab ac
  cases ae
  replace ab := eq_true ab
  replace ac := eq_true ac
  go_wp2
  go_roundg k1
  case measure => have := HK1.out; omega
  case rel => exact ⟨(wrap64 (aa + 1)), (by rfl), H', ⟨by have := HK1.out; omega⟩, by repeat (first | exact Drawn0.refl _ | apply Drawn0.step)⟩
/-! ### spec_l14Share: function 57 -/
def spec_l14Share.l0 : Nat → List Int → List Int → Int → Int → Int → List (S58) → Option (Int)
 | 0, _, _, _, _, _, _ => none
 | k + 1, x1, x2, x7, x8, ai, ae => if x8 < (x1.length : Int) then (if 0 ≤ x8 then ((spec_l12In.f k x2 (rd x1 x8)).bind fun aA => (if aA = true then (if 0 ≤ (rd x1 x8) then (if (rd x1 x8) < (ae.length : Int) then (spec_l14Share.l0 k x1 x2 (wrap64 (x7 + ((qZa ae (rd x1 x8)).f2))) (wrap64 (x8 + 1)) ai ae) else (none)) else (none)) else (spec_l14Share.l0 k x1 x2 x7 (wrap64 (x8 + 1)) ai ae))) else (none)) else (some x7)
def spec_l14Share.f (k : Nat) (af : Int) (ab : List (S58)) (l1 : List Int) (l2 : List Int) : Option (Int) := spec_l14Share.l0 k l1 l2 0 0 af ab
theorem spec_l14Share.mono_l : ∀ k, (∀ y0 y1 y2 y3 y4 y5, LeO (spec_l14Share.l0 k y0 y1 y2 y3 y4 y5) (spec_l14Share.l0 (k + 1) y0 y1 y2 y3 y4 y5))
 | 0 => fun _ _ _ _ _ _ r h => by simp [spec_l14Share.l0] at h
 | k + 1 => by
  have ih0 := spec_l14Share.mono_l k
  ·intro y0 y1 y2 y3 y4 y5
   unfold spec_l14Share.l0
   repeat' first | (with_reducible exact ih0 _ _ _ _ _ _) | (with_reducible exact spec_l12In.mono _ _ _) | (with_reducible exact LeO.refl _) | (with_reducible refine LeO.ite ?_ ?_) | (with_reducible refine LeO.bind ?_ (fun _ => ?_))
theorem spec_l14Share.mono : ∀ a0 a1 a2 a3 k, LeO (spec_l14Share.f k a0 a1 a2 a3) (spec_l14Share.f (k + 1) a0 a1 a2 a3) := by
 intro a0 a1 a2 a3 k
 have ih0 := spec_l14Share.mono_l k
 unfold spec_l14Share.f
 repeat' (with_reducible exact ih0 _ _ _ _ _ _)
set_option maxHeartbeats 8000000 in
set_option maxRecDepth 100000 in
theorem spec_l14Share.calls (k : Nat) (af : Int) (ar : Option Addr) (au : Nat) (ab : List (S58)) (A1 : Option Addr) (c1 : Nat) (l1 : List Int) (A2 : Option Addr) (c2 : Nat) (l2 : List Int) (r : Int) (w : World) (ax : Kd.C k58 w ar ab.length ab) (ay : ab.length ≤ au) (hr1 : Kd.C (Kd.int .i64) w A1 l1.length l1) (hc1 : l1.length ≤ c1) (hr2 : Kd.C (Kd.int .i64) w A2 l2.length l2) (hc2 : l2.length ≤ c2) (h : spec_l14Share.f k af ab l1 l2 = some r) :
  Calls Try.prog 57 #[.agg #[.int .i64 af, .slice ar ab.length au], .slice A1 l1.length c1, .slice A2 l2.length c2] w fun e w' => e = .returned (.int .i64 r) ∧ Below w.heap.size w w' := by
 have aR := Try.underlying25
 have aG := ak ax
 have aO := ak ay
 clear ax ay
 have HR1 := ak hr1
 have HC1 := ak hc1
 clear hr1 hc1
 have HR2 := ak hr2
 have HC2 := ak hc2
 clear hr2 hc2
 have HB := ak (Below.refl w.heap.size w)
 have H : (spec_l14Share.l0 k l1 l2 0 0 af ab) = some r := h
 clear h
 have H' := ak H
 clear H
 go_enter Try.func57, Try.ntmps57
 go_wp2_with (((with_reducible refine gate_dst (N := 3) rfl ?_); refine qZj ?hg (N := 3) ?hd (cs := #[.int .i64 af, .slice ar ab.length au]) (t := 25) ?hr ?_; (case hd => rfl); (case hg => rfl); (case hr => (go_simp; done)); intro av hg w4 hbox hb; have ad := ak (hbox); have aP := ak ((by rw [hg]; exact (qZc (bl HB)) : w.heap.size ≤ av)); have aj := ak ((by rw [hg]; exact (qZc (bl HB)) : w.heap.size ≤ av)); replace HB := ak (qZd (bl HB) hb); clear hb hbox hg))
 repeat (go_quiet (fail); try go_wp2_with (fail))
 go_loopg [7, 8] k (fun kq v7 v8 w' => ∃ (aw : Int) (aa : Int), v7 = .int .i64 aw ∧ v8 = .int .i64 aa ∧ Aside0 (spec_l14Share.l0 kq l1 l2 aw aa af ab = some r) ∧ Aside0 (kq ≤ k) ∧ Aside0 (w'.heap[av]? = some (.cells #[.int .i64 af, (.slice ar ab.length au)] 25 (0, 0))) ∧ Aside0 (Below w.heap.size w w'))
 case atStart => exact ⟨(0), (0), (by rfl), (by rfl), H', ⟨Nat.le_refl _⟩, ⟨bk ad⟩, ⟨bl1 HB aj⟩⟩
 clear H'
 try clear c1
 try clear c2
 try clear p2
 obtain ⟨aw, aa, rfl, rfl, HA, HK1, ad, HB⟩ := hrel
 cases gk with
 | zero => exact absurd HA.out (by simp [spec_l14Share.l0])
 | succ k1 =>
  have H := HA.out
  clear HA
  simp only [spec_l14Share.l0] at H
  by_cases c5 : aa < (l1.length : Int)
  rotate_left
  ·rw [if_neg c5] at H
   have c5b0 : decide (aa < (l1.length : Int)) = false := decide_eq_false c5
   clear c5
   obtain rfl := Option.some.inj H
   go_wp2
   repeat (go_quiet (fail); try go_wp2)
   go_ret
   exact ⟨by rfl, bl1 HB aj⟩
  rw [if_pos c5] at H
  have c5b0 : decide (aa < (l1.length : Int)) = true := decide_eq_true c5
  clear c5
  by_cases c6 : 0 ≤ aa
  rotate_left
  ·rw [if_neg c6] at H
   exact absurd H (by simp)
  rw [if_pos c6] at H
  have c6b0 : decide (0 ≤ aa) = true := decide_eq_true c6
  clear c6
  replace H := Option.bind_eq_some_iff.mp H
  obtain ⟨aA, A70, H⟩ := H
  have A7 := ak A70
  clear A70
  by_cases c8 : aA = true
  rotate_left
  ·replace c8 := Bool.eq_false_iff.mpr c8
   subst c8
   rw [if_neg (show ¬ (false = true) by decide)] at H
   have H' := ak H
   clear H
   have ag : 0 ≤ (aa : Int) := oT (by (with_reducible assumption))
   have ah : aa < (l1.length : Int) := oT (by (with_reducible assumption))
   obtain ⟨az, aB, ac⟩ := Kd.at_int HR1.out aa ag ah
   cases aB
   replace ac := hcb HB.out ac
   replace ag := eq_true ag
   replace ah := eq_true ah
   go_wp2_with ((go_at_call 91; (with_reducible refine (spec_l12In.calls k1 _ _ l2 (rd l1 aa) false _ ?side1 ?side2 A7.out).mono ?_); (case side1 => repeat (exact (Kd.C_below HR2.out HB.out))); (case side2 => exact HC2.out); rintro e w' ⟨rfl, ⟨nd, rfl⟩⟩; (try fail)))
   repeat (go_quiet (fail); try go_wp2_with (fail))
   go_roundg k1
   case measure => have := HK1.out; omega
   case rel => exact ⟨(aw), (wrap64 (aa + 1)), (by rfl), (by rfl), H', ⟨by have := HK1.out; omega⟩, ⟨bk ad⟩, ⟨bl1 HB aj⟩⟩
  subst c8
  rw [if_pos rfl] at H
  by_cases c9 : 0 ≤ (rd l1 aa)
  rotate_left
  ·rw [if_neg c9] at H
   exact absurd H (by simp)
  rw [if_pos c9] at H
  have c9b0 : decide (0 ≤ (rd l1 aa)) = true := decide_eq_true c9
  clear c9
  by_cases c10 : (rd l1 aa) < (ab.length : Int)
  rotate_left
  ·rw [if_neg c10] at H
   exact absurd H (by simp)
  rw [if_pos c10] at H
  have c10b0 : decide ((rd l1 aa) < (ab.length : Int)) = true := decide_eq_true c10
  clear c10
  have H' := ak H
  clear H
  have ag : 0 ≤ (aa : Int) := oT (by (with_reducible assumption))
  have ah : aa < (l1.length : Int) := oT (by (with_reducible assumption))
  obtain ⟨az, aB, ac⟩ := Kd.at_int HR1.out aa ag ah
  cases aB
  replace ac := hcb HB.out ac
  replace ag := eq_true ag
  replace ah := eq_true ah
  have aI := bc wr ad 0 (.int .i64 af) rfl
  have aJ := bc wr ad 1 (.slice ar ab.length au) rfl
  have aK := fz ad 0
  have aL := fz ad 1
  have aC : 0 ≤ (aa : Int) := oT (by (with_reducible assumption))
  have aD : aa < (l1.length : Int) := oT (by (with_reducible assumption))
  obtain ⟨aH, aM, al⟩ := Kd.at_int HR1.out aa aC aD
  obtain rfl : az = aH := (by injection aM)
  replace al := hcb HB.out al
  replace aC := eq_true aC
  replace aD := eq_true aD
  have aE : 0 ≤ ((rd l1 aa) : Int) := oT (by (with_reducible assumption))
  have aF : (rd l1 aa) < (ab.length : Int) := oT (by (with_reducible assumption))
  obtain ⟨aQ, aN, am, an, ao, ap, aq⟩ := qJk aG.out (rd l1 aa) aE aF
  cases aN
  replace am := hcb HB.out am
  replace an := hcb HB.out an
  replace ao := hcb HB.out ao
  replace ap := hcb HB.out ap
  replace aq := hcb HB.out aq
  replace aE := eq_true aE
  replace aF := eq_true aF
  go_wp2_with ((go_at_call 91; (with_reducible refine (spec_l12In.calls k1 _ _ l2 (rd l1 aa) true _ ?side1 ?side2 A7.out).mono ?_); (case side1 => repeat (exact (Kd.C_below HR2.out HB.out))); (case side2 => exact HC2.out); rintro e w' ⟨rfl, ⟨nd, rfl⟩⟩; (try fail)))
  repeat (go_quiet (fail); try go_wp2_with (fail))
  go_roundg k1
  case measure => have := HK1.out; omega
  case rel => exact ⟨(wrap64 (aw + ((qZa ab (rd l1 aa)).f2))), (wrap64 (aa + 1)), (by rfl), (by rfl), H', ⟨by have := HK1.out; omega⟩, ⟨bk ad⟩, ⟨bl1 HB aj⟩⟩
/-! ### spec_SomeOthers: function 14 -/
mutual
def spec_SomeOthers.j0 : Nat → Int → Int → Int → Int → List (List Int) → Bool → Int → List (S58) → Option ((List (List Int)))
 | 0, _, _, _, _, _, _, _, _ => none
 | k + 1, x1, x2, x3, x4, x11, x51, an, ao => if x51 = true then (some ([] : List (List Int))) else ((spec_l14Some.f k an ao x1 x2 6).bind fun ah => (spec_SomeOthers.l0 k x3 x4 x11 ah 0 an ao))
def spec_SomeOthers.l0 : Nat → Int → Int → List (List Int) → List (List Int) → Int → Int → List (S58) → Option ((List (List Int)))
 | 0, _, _, _, _, _, _, _ => none
 | k + 1, x3, x4, x11, x12, x13, an, ao => if x13 < (x12.length : Int) then (if 0 < (x12.length : Int) then ((spec_l2Cost.f k an ao (qQf x12 0)).bind fun cg => (if 0 ≤ x13 then ((spec_l2Cost.f k an ao (qQf x12 x13)).bind fun cW => (spec_SomeOthers.l1 k x3 x4 x11 x12 x13 cg (decide ((wrap64 (cW * 100)) ≤ (wrap64 (cg * (wrap64 (100 + x3)))))) 0 an ao)) else (none))) else (none)) else (some x11)
def spec_SomeOthers.l1 : Nat → Int → Int → List (List Int) → List (List Int) → Int → Int → Bool → Int → Int → List (S58) → Option ((List (List Int)))
 | 0, _, _, _, _, _, _, _, _, _, _ => none
 | k + 1, x3, x4, x11, x12, x13, x14, x15, x16, an, ao => if x16 < (x11.length : Int) then (if x15 = true then (if 0 ≤ x13 then (if x13 < (x12.length : Int) then (if 0 ≤ x16 then ((spec_l14Share.f k an ao (qQf x12 x13) (qQf x11 x16)).bind fun cX => (spec_SomeOthers.l1 k x3 x4 x11 x12 x13 x14 (decide ((wrap64 (cX * 100)) ≤ (wrap64 (x14 * x4)))) (wrap64 (x16 + 1)) an ao)) else (none)) else (none)) else (none)) else (spec_SomeOthers.l1 k x3 x4 x11 x12 x13 x14 false (wrap64 (x16 + 1)) an ao)) else (if x15 = true then (if 0 ≤ x13 then (if x13 < (x12.length : Int) then (if x11.length < 5864062014805 then (spec_SomeOthers.l0 k x3 x4 (x11 ++ [qQf x12 x13]) x12 (wrap64 (x13 + 1)) an ao) else (none)) else (none)) else (none)) else (spec_SomeOthers.l0 k x3 x4 x11 x12 (wrap64 (x13 + 1)) an ao))
end
def spec_SomeOthers.f (k : Nat) (ab : Int) (ad : List (S58)) (a1 : Int) (a2 : Int) (a3 : Int) (a4 : Int) : Option ((List (List Int))) := (some (([] : List (List Int)) : List (List Int))).bind fun av => ((spec_l1Ok.f k ab ad).bind fun ch => (if ch = true then ((spec_l1In.f a1 0 (wrap64 (ab - 1))).bind fun ci => (if ci = true then ((spec_l1In.f a2 0 (wrap64 (ab - 1))).bind fun cj => (if cj = true then (if a1 = a2 then (spec_SomeOthers.j0 k a1 a2 a3 a4 av true ab ad) else ((spec_l1In.f a3 0 200).bind fun ck => (if ck = true then ((spec_l1In.f a4 0 100).bind fun ce => (spec_SomeOthers.j0 k a1 a2 a3 a4 av (!ce) ab ad)) else (spec_SomeOthers.j0 k a1 a2 a3 a4 av true ab ad)))) else (spec_SomeOthers.j0 k a1 a2 a3 a4 av true ab ad))) else (spec_SomeOthers.j0 k a1 a2 a3 a4 av true ab ad))) else (spec_SomeOthers.j0 k a1 a2 a3 a4 av true ab ad)))
theorem spec_SomeOthers.mono_l : ∀ k, (∀ y0 y1 y2 y3 y4 y5 y6 y7, LeO (spec_SomeOthers.j0 k y0 y1 y2 y3 y4 y5 y6 y7) (spec_SomeOthers.j0 (k + 1) y0 y1 y2 y3 y4 y5 y6 y7)) ∧ (∀ y0 y1 y2 y3 y4 y5 y6, LeO (spec_SomeOthers.l0 k y0 y1 y2 y3 y4 y5 y6) (spec_SomeOthers.l0 (k + 1) y0 y1 y2 y3 y4 y5 y6)) ∧ (∀ y0 y1 y2 y3 y4 y5 y6 y7 y8 y9, LeO (spec_SomeOthers.l1 k y0 y1 y2 y3 y4 y5 y6 y7 y8 y9) (spec_SomeOthers.l1 (k + 1) y0 y1 y2 y3 y4 y5 y6 y7 y8 y9))
 | 0 => ⟨fun _ _ _ _ _ _ _ _ r h => by simp [spec_SomeOthers.j0] at h, fun _ _ _ _ _ _ _ r h => by simp [spec_SomeOthers.l0] at h, fun _ _ _ _ _ _ _ _ _ _ r h => by simp [spec_SomeOthers.l1] at h⟩
 | k + 1 => by
  obtain ⟨ih0, ih1, ih2⟩ := spec_SomeOthers.mono_l k
  refine ⟨?_, ?_, ?_⟩
  ·intro y0 y1 y2 y3 y4 y5 y6 y7
   unfold spec_SomeOthers.j0
   repeat' first | (with_reducible exact ih1 _ _ _ _ _ _ _) | (with_reducible exact spec_l14Some.mono _ _ _ _ _ _) | (with_reducible exact LeO.refl _) | (with_reducible refine LeO.ite ?_ ?_) | (with_reducible refine LeO.bind ?_ (fun _ => ?_))
  ·intro y0 y1 y2 y3 y4 y5 y6
   unfold spec_SomeOthers.l0
   repeat' first | (with_reducible exact ih2 _ _ _ _ _ _ _ _ _ _) | (with_reducible exact spec_l2Cost.mono _ _ _ _) | (with_reducible exact LeO.refl _) | (with_reducible refine LeO.ite ?_ ?_) | (with_reducible refine LeO.bind ?_ (fun _ => ?_))
  ·intro y0 y1 y2 y3 y4 y5 y6 y7 y8 y9
   unfold spec_SomeOthers.l1
   repeat' first | (with_reducible exact ih1 _ _ _ _ _ _ _) | (with_reducible exact ih2 _ _ _ _ _ _ _ _ _ _) | (with_reducible exact spec_l14Share.mono _ _ _ _ _) | (with_reducible exact LeO.refl _) | (with_reducible refine LeO.ite ?_ ?_) | (with_reducible refine LeO.bind ?_ (fun _ => ?_))
theorem spec_SomeOthers.mono : ∀ a0 a1 a2 a3 a4 a5 k, LeO (spec_SomeOthers.f k a0 a1 a2 a3 a4 a5) (spec_SomeOthers.f (k + 1) a0 a1 a2 a3 a4 a5) := by
 intro a0 a1 a2 a3 a4 a5 k
 obtain ⟨ih0, ih1, ih2⟩ := spec_SomeOthers.mono_l k
 unfold spec_SomeOthers.f
 repeat' first | (with_reducible exact ih0 _ _ _ _ _ _ _ _) | (with_reducible exact spec_l1Ok.mono _ _ _) | (with_reducible exact LeO.refl _) | (with_reducible refine LeO.ite ?_ ?_) | (with_reducible refine LeO.bind ?_ (fun _ => ?_))
def spec_SomeOthers.T9 : Bool × List (List Nat × List Nat) := (true, [([], []), ([], []), ([], []), ([1, 2], [1, 2]), ([3], [3]), ([0, 4], [0, 4]), ([5], [5]), ([], []), ([], []), ([8], [8]), ([7, 9], [7, 9]), ([6, 10], [6, 10]), ([11, 5, 0, 1, 2, 3, 4, 5, 6, 7, 8, 9, 10, 11], [11])])
def spec_SomeOthers.B9 : List Nat := [0, 0, 0, 6, 14, 31, 63, 0, 0, 256, 896, 2047, 4095]
theorem spec_SomeOthers.tab9 : rtab .any (qKd Try.f14 9) = spec_SomeOthers.T9 := by kernel_rfl
theorem spec_SomeOthers.bits9 : qJf spec_SomeOthers.T9.2 spec_SomeOthers.B9 = true := by kernel_rfl
def spec_SomeOthers.T13 : Bool × List (List Nat × List Nat) := (true, [([], []), ([0], [0]), ([1], [1]), ([1], [1]), ([1], [1]), ([3, 4, 1], [1, 3, 4]), ([5, 1], [1, 5]), ([1], [1]), ([1], [1]), ([7, 8, 1], [1, 7, 8]), ([9, 1], [1, 9]), ([2, 6, 10, 1, 1], [1, 2, 6, 10]), ([11, 1], [1, 11]), ([1], [1]), ([1], [1]), ([13, 14, 1], [1, 13, 14]), ([12, 15, 1], [1, 12, 15]), ([1, 16], [1, 16]), ([17, 11, 0, 1, 2, 3, 4, 5, 6, 7, 8, 9, 10, 11, 12, 13, 14, 15, 16, 17], [0, 17])])
def spec_SomeOthers.B13 : List Nat := [0, 1, 3, 3, 3, 27, 59, 3, 3, 387, 899, 2047, 4095, 3, 3, 24579, 65535, 131071, 262143]
theorem spec_SomeOthers.tab13 : rtab .any (qKd Try.f14 13) = spec_SomeOthers.T13 := by kernel_rfl
theorem spec_SomeOthers.bits13 : qJf spec_SomeOthers.T13.2 spec_SomeOthers.B13 = true := by kernel_rfl
set_option maxHeartbeats 8000000 in
set_option maxRecDepth 100000 in
theorem spec_SomeOthers.calls (k : Nat) (ab : Int) (ap : Option Addr) (aq : Nat) (ad : List (S58)) (a1 : Int) (a2 : Int) (a3 : Int) (a4 : Int) (r : List (List Int)) (w : World) (dl : Kd.C k58 w ap ad.length ad) (dm : ad.length ≤ aq) (h : spec_SomeOthers.f k ab ad a1 a2 a3 a4 = some r) :
  Calls Try.prog 14 #[.agg #[.int .i64 ab, .slice ap ad.length aq], .int .i64 a1, .int .i64 a2, .int .i64 a3, .int .i64 a4] w fun e w' => ∃ v0_ : Value, e = .returned (v0_) ∧ Kd.N (Kd.slice 3 (Kd.int .i64)) 33 w' w.heap.size (fun k_ => (w.heap.size ≤ k_)) v0_ r ∧ Below w.heap.size w w' := by
 have eB := Try.underlying25
 have az := ak dl
 have aA := ak dm
 clear dl dm
 have HB := ak (Below.refl w.heap.size w)
 have H : ((some (([] : List (List Int)) : List (List Int))).bind fun av => ((spec_l1Ok.f k ab ad).bind fun ch => (if ch = true then ((spec_l1In.f a1 0 (wrap64 (ab - 1))).bind fun ci => (if ci = true then ((spec_l1In.f a2 0 (wrap64 (ab - 1))).bind fun cj => (if cj = true then (if a1 = a2 then (spec_SomeOthers.j0 k a1 a2 a3 a4 av true ab ad) else ((spec_l1In.f a3 0 200).bind fun ck => (if ck = true then ((spec_l1In.f a4 0 100).bind fun ce => (spec_SomeOthers.j0 k a1 a2 a3 a4 av (!ce) ab ad)) else (spec_SomeOthers.j0 k a1 a2 a3 a4 av true ab ad)))) else (spec_SomeOthers.j0 k a1 a2 a3 a4 av true ab ad))) else (spec_SomeOthers.j0 k a1 a2 a3 a4 av true ab ad))) else (spec_SomeOthers.j0 k a1 a2 a3 a4 av true ab ad)))) = some r := h
 clear h
 obtain ⟨av, cE⟩ : ∃ y_ : List (List Int), y_ = (([] : List (List Int))) := ⟨_, rfl⟩
 replace H : ((spec_l1Ok.f k ab ad).bind fun ch => (if ch = true then ((spec_l1In.f a1 0 (wrap64 (ab - 1))).bind fun ci => (if ci = true then ((spec_l1In.f a2 0 (wrap64 (ab - 1))).bind fun cj => (if cj = true then (if a1 = a2 then (spec_SomeOthers.j0 k a1 a2 a3 a4 av true ab ad) else ((spec_l1In.f a3 0 200).bind fun ck => (if ck = true then ((spec_l1In.f a4 0 100).bind fun ce => (spec_SomeOthers.j0 k a1 a2 a3 a4 av (!ce) ab ad)) else (spec_SomeOthers.j0 k a1 a2 a3 a4 av true ab ad)))) else (spec_SomeOthers.j0 k a1 a2 a3 a4 av true ab ad))) else (spec_SomeOthers.j0 k a1 a2 a3 a4 av true ab ad))) else (spec_SomeOthers.j0 k a1 a2 a3 a4 av true ab ad))) = some r := by (have H2_ := (Option.bind_some _ _).symm.trans H; rw [cE]; with_reducible exact H2_)
 have dB := ak cE
 clear cE
 have HC6 := ak H
 clear H
 go_enter Try.func14, Try.ntmps14
 go_upto_region 2 with (first | ((with_reducible refine gate_dst (N := 5) rfl ?_); refine qZj ?hg (N := 5) ?hd (cs := #[.int .i64 ab, .slice ap ad.length aq]) (t := 25) ?hr ?_; (case hd => rfl); (case hg => rfl); (case hr => (go_simp; done)); intro al hg w7 hbox hb; have aa := ak (hbox); have eu := ak ((by rw [hg]; exact (qZc (bl HB)) : w.heap.size ≤ al)); have ai := ak ((by rw [hg]; exact (qZc (bl HB)) : w.heap.size ≤ al)); replace HB := ak (qZd (bl HB) hb); clear hb hbox hg) | ((with_reducible refine gate_dst (N := 17) rfl ?_); refine Kd.N_lit (Kd.slice 3 (Kd.int .i64)) _ 33 ?hg (N' := 17) ?hd (xs := ([] : List (List Int))) (inner := []) (ok := (fun k_ => (w.heap.size ≤ k_) ∧ k_ ≠ al)) (okp := (fun k_ => (w.heap.size ≤ k_) ∧ k_ ≠ al)) ?hr ?hp (fun _ hk => hk) ((show ∀ k_, w7.heap.size ≤ k_ → (fun k_ => (w.heap.size ≤ k_) ∧ k_ ≠ al) k_ from fun k_ hk => ⟨(Nat.le_trans (qZc (bl1 HB ai)) hk), Kd.freshB (bk aa) k_ hk⟩) _ (Nat.le_refl _)) (Below.refl _ _) (Nat.le_refl _) (by simp) ?_; (case hd => rfl); (case hg => rfl); (case hr => (go_simp; done)); (case hp => exact (Reps.none _ _)); intro dC w8 ho9 hb hg_ hnew_; clear hg_ hnew_; (rw [← dB.out] at ho9); have au := ak (Kd.N_lower ho9 (qZc (bl1 HB ai))); replace aa := ak (qZe (bk aa) hb); replace HB := ak (qZd (bl1 HB ai) hb); clear hb ho9))
 (try simp only [Act.put, List.setIfInBounds_toArray, List.set_cons_zero, List.set_cons_succ])
 go_cut [51] (fun v51 wc => ∃ (kq : Nat) (co : Bool), v51 = .bool co ∧ Aside0 (spec_SomeOthers.j0 kq a1 a2 a3 a4 av co ab ad = some r) ∧ Aside0 (kq ≤ k) ∧ Aside0 (Kd.N (Kd.slice 3 (Kd.int .i64)) 33 wc w.heap.size (fun k_ => (w.heap.size ≤ k_) ∧ k_ ≠ al) dC av) ∧ Aside0 (wc.heap[al]? = some (.cells #[.int .i64 ab, (.slice ap ad.length aq)] 25 (0, 0))) ∧ Aside0 (Below w.heap.size w wc))
 case first =>
  have H := HC6.out
  clear HC6
  replace H := Option.bind_eq_some_iff.mp H
  obtain ⟨ch, dD, H⟩ := H
  have A10 := ak dD
  clear dD
  by_cases c11 : ch = true
  rotate_left
  ·replace c11 := Bool.eq_false_iff.mpr c11
   subst c11
   rw [if_neg (show ¬ (false = true) by decide)] at H
   have H' := ak H
   clear H
   have aN := bc w8 aa 0 (.int .i64 ab) rfl
   have aQ := bc w8 aa 1 (.slice ap ad.length aq) rfl
   have aR := fz aa 0
   have aT := fz aa 1
   go_wp2_with (((with_reducible refine gate_callee (f := 53) rfl ?_); refine qQj (some 19) rfl rfl Try.func53 (by kernel_rfl) rfl #[.agg #[.int .i64 ab, .slice ap ad.length aq]] rfl (by (try simp only [List.map_toArray, List.map_cons, List.map_nil]); rfl) ?_; (with_reducible refine (spec_l1Ok.calls k ab _ _ ad false _ ?side1 ?side2 A10.out).mono ?_); (case side1 => repeat (exact (Kd.C_below az.out HB.out))); (case side2 => exact aA.out); rintro e w36 ⟨rfl, hb⟩; refine ⟨_, rfl, ?_⟩; replace au := ak (Kd.N_below (by exact au.out) hb); replace aa := ak (qZe (bk aa) hb); replace HB := ak (qZd (bl1 HB ai) hb); (try clear hb); (try clear hb2); (try clear hk); (try clear hi)))
   go_meet
   case rel => exact ⟨_, (true), (by rfl), H', ⟨by omega⟩, ⟨by exact au.out⟩, ⟨bk aa⟩, ⟨bl1 HB ai⟩⟩
  subst c11
  rw [if_pos rfl] at H
  replace H := Option.bind_eq_some_iff.mp H
  obtain ⟨ci, dE, H⟩ := H
  have A12 := ak dE
  clear dE
  by_cases c13 : ci = true
  rotate_left
  ·replace c13 := Bool.eq_false_iff.mpr c13
   subst c13
   rw [if_neg (show ¬ (false = true) by decide)] at H
   have H' := ak H
   clear H
   have aU := bc w8 aa 0 (.int .i64 ab) rfl
   have aV := bc w8 aa 1 (.slice ap ad.length aq) rfl
   have aW := fz aa 0
   have aX := fz aa 1
   go_wp2_with (first | ((with_reducible refine gate_callee (f := 53) rfl ?_); refine qQj (some 19) rfl rfl Try.func53 (by kernel_rfl) rfl #[.agg #[.int .i64 ab, .slice ap ad.length aq]] rfl (by (try simp only [List.map_toArray, List.map_cons, List.map_nil]); rfl) ?_; (with_reducible refine (spec_l1Ok.calls k ab _ _ ad true _ ?side1 ?side2 A10.out).mono ?_); (case side1 => repeat (exact (Kd.C_below az.out HB.out))); (case side2 => exact aA.out); rintro e w33 ⟨rfl, hb⟩; refine ⟨_, rfl, ?_⟩; replace au := ak (Kd.N_below (by exact au.out) hb); replace aa := ak (qZe (bk aa) hb); replace HB := ak (qZd (bl1 HB ai) hb); (try clear hb); (try clear hb2); (try clear hk); (try clear hi); have aY := bc w33 aa 0 (.int .i64 ab) rfl; have aZ := bc w33 aa 1 (.slice ap ad.length aq) rfl; have ba := fz aa 0; have bb := fz aa 1) | (go_at_call 54; (with_reducible refine (spec_l1In.calls a1 0 (wrap64 (ab - 1)) false _ A12.out).mono ?_); rintro e w' ⟨rfl, ⟨nd, rfl⟩⟩))
   go_meet
   case rel => exact ⟨_, (true), (by rfl), H', ⟨by omega⟩, ⟨by (with_reducible repeat (apply Kd.N_drewN)); exact au.out⟩, ⟨bk aa⟩, ⟨bl1 HB ai⟩⟩
  subst c13
  rw [if_pos rfl] at H
  replace H := Option.bind_eq_some_iff.mp H
  obtain ⟨cj, dF, H⟩ := H
  have A14 := ak dF
  clear dF
  by_cases c15 : cj = true
  rotate_left
  ·replace c15 := Bool.eq_false_iff.mpr c15
   subst c15
   rw [if_neg (show ¬ (false = true) by decide)] at H
   have H' := ak H
   clear H
   have bd := bc w8 aa 0 (.int .i64 ab) rfl
   have be := bc w8 aa 1 (.slice ap ad.length aq) rfl
   have bf := fz aa 0
   have bg := fz aa 1
   go_wp2_with (first | ((with_reducible refine gate_callee (f := 53) rfl ?_); refine qQj (some 19) rfl rfl Try.func53 (by kernel_rfl) rfl #[.agg #[.int .i64 ab, .slice ap ad.length aq]] rfl (by (try simp only [List.map_toArray, List.map_cons, List.map_nil]); rfl) ?_; (with_reducible refine (spec_l1Ok.calls k ab _ _ ad true _ ?side1 ?side2 A10.out).mono ?_); (case side1 => repeat (exact (Kd.C_below az.out HB.out))); (case side2 => exact aA.out); rintro e w30 ⟨rfl, hb⟩; refine ⟨_, rfl, ?_⟩; replace au := ak (Kd.N_below (by exact au.out) hb); replace aa := ak (qZe (bk aa) hb); replace HB := ak (qZd (bl1 HB ai) hb); (try clear hb); (try clear hb2); (try clear hk); (try clear hi); have bh := bc w30 aa 0 (.int .i64 ab) rfl; have bi := bc w30 aa 1 (.slice ap ad.length aq) rfl; have bj := fz aa 0; have bm := fz aa 1) | (go_at_call 54; (with_reducible refine (spec_l1In.calls a1 0 (wrap64 (ab - 1)) true _ A12.out).mono ?_); rintro e w' ⟨rfl, ⟨nd, rfl⟩⟩) | (go_at_call 54; (with_reducible refine (spec_l1In.calls a2 0 (wrap64 (ab - 1)) false _ A14.out).mono ?_); rintro e w' ⟨rfl, ⟨nd, rfl⟩⟩))
   go_meet
   case rel => exact ⟨_, (true), (by rfl), H', ⟨by omega⟩, ⟨by (with_reducible repeat (apply Kd.N_drewN)); exact au.out⟩, ⟨bk aa⟩, ⟨bl1 HB ai⟩⟩
  subst c15
  rw [if_pos rfl] at H
  by_cases c16 : a1 = a2
  ·rw [if_pos c16] at H
   have c16b0 : (a1 == a2) = true := beq_iff_eq.mpr c16
   have c16b1 : (a1 != a2) = false := bne_eq_false_iff_eq.mpr c16
   clear c16
   (skip)
   have H' := ak H
   clear H
   have bn := bc w8 aa 0 (.int .i64 ab) rfl
   have bo := bc w8 aa 1 (.slice ap ad.length aq) rfl
   have bp := fz aa 0
   have bq := fz aa 1
   go_wp2_with (first | ((with_reducible refine gate_callee (f := 53) rfl ?_); refine qQj (some 19) rfl rfl Try.func53 (by kernel_rfl) rfl #[.agg #[.int .i64 ab, .slice ap ad.length aq]] rfl (by (try simp only [List.map_toArray, List.map_cons, List.map_nil]); rfl) ?_; (with_reducible refine (spec_l1Ok.calls k ab _ _ ad true _ ?side1 ?side2 A10.out).mono ?_); (case side1 => repeat (exact (Kd.C_below az.out HB.out))); (case side2 => exact aA.out); rintro e w18 ⟨rfl, hb⟩; refine ⟨_, rfl, ?_⟩; replace au := ak (Kd.N_below (by exact au.out) hb); replace aa := ak (qZe (bk aa) hb); replace HB := ak (qZd (bl1 HB ai) hb); (try clear hb); (try clear hb2); (try clear hk); (try clear hi); have br := bc w18 aa 0 (.int .i64 ab) rfl; have bs := bc w18 aa 1 (.slice ap ad.length aq) rfl; have bu := fz aa 0; have bv := fz aa 1) | (go_at_call 54; (with_reducible refine (spec_l1In.calls a1 0 (wrap64 (ab - 1)) true _ A12.out).mono ?_); rintro e w' ⟨rfl, ⟨nd, rfl⟩⟩) | (go_at_call 54; (with_reducible refine (spec_l1In.calls a2 0 (wrap64 (ab - 1)) true _ A14.out).mono ?_); rintro e w' ⟨rfl, ⟨nd, rfl⟩⟩))
   go_meet
   case rel => exact ⟨_, (true), (by rfl), H', ⟨by omega⟩, ⟨by (with_reducible repeat (apply Kd.N_drewN)); exact au.out⟩, ⟨bk aa⟩, ⟨bl1 HB ai⟩⟩
  rw [if_neg c16] at H
  have c16b0 : (a1 == a2) = false := beq_eq_false_iff_ne.mpr c16
  have c16b1 : (a1 != a2) = true := bne_iff_ne.mpr c16
  (skip)
  replace H := Option.bind_eq_some_iff.mp H
  obtain ⟨ck, dG, H⟩ := H
  have A20 := ak dG
  clear dG
  by_cases c21 : ck = true
  rotate_left
  ·replace c21 := Bool.eq_false_iff.mpr c21
   subst c21
   rw [if_neg (show ¬ (false = true) by decide)] at H
   have H' := ak H
   clear H
   have bw := bc w8 aa 0 (.int .i64 ab) rfl
   have bx := bc w8 aa 1 (.slice ap ad.length aq) rfl
   have bz := fz aa 0
   have bA := fz aa 1
   go_wp2_with (first | ((with_reducible refine gate_callee (f := 53) rfl ?_); refine qQj (some 19) rfl rfl Try.func53 (by kernel_rfl) rfl #[.agg #[.int .i64 ab, .slice ap ad.length aq]] rfl (by (try simp only [List.map_toArray, List.map_cons, List.map_nil]); rfl) ?_; (with_reducible refine (spec_l1Ok.calls k ab _ _ ad true _ ?side1 ?side2 A10.out).mono ?_); (case side1 => repeat (exact (Kd.C_below az.out HB.out))); (case side2 => exact aA.out); rintro e w27 ⟨rfl, hb⟩; refine ⟨_, rfl, ?_⟩; replace au := ak (Kd.N_below (by exact au.out) hb); replace aa := ak (qZe (bk aa) hb); replace HB := ak (qZd (bl1 HB ai) hb); (try clear hb); (try clear hb2); (try clear hk); (try clear hi); have bB := bc w27 aa 0 (.int .i64 ab) rfl; have bC := bc w27 aa 1 (.slice ap ad.length aq) rfl; have bD := fz aa 0; have bE := fz aa 1) | (go_at_call 54; (with_reducible refine (spec_l1In.calls a1 0 (wrap64 (ab - 1)) true _ A12.out).mono ?_); rintro e w' ⟨rfl, ⟨nd, rfl⟩⟩) | (go_at_call 54; (with_reducible refine (spec_l1In.calls a2 0 (wrap64 (ab - 1)) true _ A14.out).mono ?_); rintro e w' ⟨rfl, ⟨nd, rfl⟩⟩) | (go_at_call 54; (with_reducible refine (spec_l1In.calls a3 0 200 false _ A20.out).mono ?_); rintro e w' ⟨rfl, ⟨nd, rfl⟩⟩))
   go_meet
   case rel => exact ⟨_, (true), (by rfl), H', ⟨by omega⟩, ⟨by (with_reducible repeat (apply Kd.N_drewN)); exact au.out⟩, ⟨bk aa⟩, ⟨bl1 HB ai⟩⟩
  subst c21
  rw [if_pos rfl] at H
  replace H := Option.bind_eq_some_iff.mp H
  obtain ⟨ce, dH, H⟩ := H
  have A22 := ak dH
  clear dH
  have H' := ak H
  clear H
  have bG := bc w8 aa 0 (.int .i64 ab) rfl
  have bH := bc w8 aa 1 (.slice ap ad.length aq) rfl
  have bI := fz aa 0
  have bJ := fz aa 1
  go_wp2_with (first | ((with_reducible refine gate_callee (f := 53) rfl ?_); refine qQj (some 19) rfl rfl Try.func53 (by kernel_rfl) rfl #[.agg #[.int .i64 ab, .slice ap ad.length aq]] rfl (by (try simp only [List.map_toArray, List.map_cons, List.map_nil]); rfl) ?_; (with_reducible refine (spec_l1Ok.calls k ab _ _ ad true _ ?side1 ?side2 A10.out).mono ?_); (case side1 => repeat (exact (Kd.C_below az.out HB.out))); (case side2 => exact aA.out); rintro e w24 ⟨rfl, hb⟩; refine ⟨_, rfl, ?_⟩; replace au := ak (Kd.N_below (by exact au.out) hb); replace aa := ak (qZe (bk aa) hb); replace HB := ak (qZd (bl1 HB ai) hb); (try clear hb); (try clear hb2); (try clear hk); (try clear hi); have bK := bc w24 aa 0 (.int .i64 ab) rfl; have bL := bc w24 aa 1 (.slice ap ad.length aq) rfl; have bM := fz aa 0; have bN := fz aa 1) | (go_at_call 54; (with_reducible refine (spec_l1In.calls a1 0 (wrap64 (ab - 1)) true _ A12.out).mono ?_); rintro e w' ⟨rfl, ⟨nd, rfl⟩⟩) | (go_at_call 54; (with_reducible refine (spec_l1In.calls a2 0 (wrap64 (ab - 1)) true _ A14.out).mono ?_); rintro e w' ⟨rfl, ⟨nd, rfl⟩⟩) | (go_at_call 54; (with_reducible refine (spec_l1In.calls a3 0 200 true _ A20.out).mono ?_); rintro e w' ⟨rfl, ⟨nd, rfl⟩⟩) | (go_at_call 54; (with_reducible refine (spec_l1In.calls a4 0 100 ce _ A22.out).mono ?_); rintro e w' ⟨rfl, ⟨nd, rfl⟩⟩))
  go_meet
  case rel => exact ⟨_, (!ce), (by rfl), H', ⟨by omega⟩, ⟨by (with_reducible repeat (apply Kd.N_drewN)); exact au.out⟩, ⟨bk aa⟩, ⟨bl1 HB ai⟩⟩
 clear HC6
 try clear c1
 try clear c2
 try clear p2
 try clear c5
 try clear p6
 try clear c11
 try clear c13
 try clear c14
 try clear c15
 try clear c16
 try clear c16b0
 try clear c16b1
 try clear c21
 try clear bn
 try clear bo
 try clear br
 try clear bs
 try clear bG
 try clear bH
 try clear bK
 try clear bL
 try clear bw
 try clear bx
 try clear bB
 try clear bC
 try clear bd
 try clear be
 try clear bh
 try clear bi
 try clear aU
 try clear aV
 try clear aY
 try clear aZ
 try clear aN
 try clear aQ
 try clear bp
 try clear bq
 try clear bu
 try clear bv
 try clear bI
 try clear bJ
 try clear bM
 try clear bN
 try clear bz
 try clear bA
 try clear bD
 try clear bE
 try clear bf
 try clear bg
 try clear bj
 try clear bm
 try clear aW
 try clear aX
 try clear ba
 try clear bb
 try clear aR
 try clear aT
 obtain ⟨kq, co, rfl, HA, HJ5, ae, aa, HB⟩ := hcut
 cases kq with
 | zero => exact absurd HA.out (by simp [spec_SomeOthers.j0])
 | succ kj5 =>
  have H := HA.out
  clear HA
  simp only [spec_SomeOthers.j0] at H
  by_cases c37 : co = true
  ·subst c37
   rw [if_pos rfl] at H
   obtain rfl := Option.some.inj H
   go_wp2
   go_ret
   exact ⟨_, by rfl, by exact Kd.N_nil _ _ _ _ _, bl1 HB ai⟩
  replace c37 := Bool.eq_false_iff.mpr c37
  subst c37
  rw [if_neg (show ¬ (false = true) by decide)] at H
  replace H := Option.bind_eq_some_iff.mp H
  obtain ⟨ah, dI, H⟩ := H
  have A38 := ak dI
  clear dI
  have H' := ak H
  clear H
  have cp := bc wc aa 0 (.int .i64 ab) rfl
  have cq := bc wc aa 1 (.slice ap ad.length aq) rfl
  have cr := fz aa 0
  have ct := fz aa 1
  go_wp2_with (((with_reducible refine gate_callee (f := 55) rfl ?_); refine qQj (some 55) rfl rfl Try.func55 (by kernel_rfl) rfl #[.agg #[.int .i64 ab, .slice ap ad.length aq], .int .i64 a1, .int .i64 a2, .int .i64 6] rfl (by (try simp only [List.map_toArray, List.map_cons, List.map_nil]); rfl) ?_; (with_reducible refine (spec_l14Some.calls kj5 ab _ _ ad a1 a2 6 ah _ ?side1 ?side2 A38.out).mono ?_); (case side1 => repeat (exact (Kd.C_below az.out HB.out))); (case side2 => exact aA.out); rintro e w40 ⟨dJ, rfl, ho0, hb⟩; refine ⟨_, rfl, ?_⟩; have dK := ak (Kd.N_lower (Kd.N_mono (ok' := fun k_ => (w.heap.size ≤ k_) ∧ some k_ ≠ (dC : Value).ownBlock ∧ k_ ≠ al) ho0 (fun k_ hk_ => ⟨(Nat.le_trans (qZc (bl1 HB ai)) hk_), (Kd.fresh' (Kd.N_lt (by exact ae.out)) k_ hk_), (Kd.freshB (bk aa) k_ hk_)⟩)) (qZc (bl1 HB ai))); replace ae := ak (Kd.N_elder' (by exact ae.out) (Kd.N_base ho0) hb); replace aa := ak (qZe (bk aa) hb); replace HB := ak (qZd (bl1 HB ai) hb); (try clear hb); (try clear hb2); (try clear hk); (try clear hi); (try clear ho0)))
  go_loopg [11, 13] kj5 (fun kq v11 v13 w' => ∃ (am : List (List Int)) (ac : Int), v13 = .int .i64 ac ∧ Aside0 (spec_SomeOthers.l0 kq a3 a4 am ah ac ab ad = some r) ∧ Aside0 (kq ≤ kj5) ∧ Aside0 (Kd.N (Kd.slice 3 (Kd.int .i64)) 33 w' w.heap.size (fun k_ => (w.heap.size ≤ k_) ∧ some k_ ≠ (dJ : Value).ownBlock ∧ k_ ≠ al) v11 am) ∧ Aside0 (Kd.N (Kd.slice 3 (Kd.int .i64)) 33 w' w.heap.size (fun k_ => (w.heap.size ≤ k_) ∧ some k_ ≠ (v11 : Value).ownBlock ∧ k_ ≠ al) dJ ah) ∧ Aside0 (w'.heap[al]? = some (.cells #[.int .i64 ab, (.slice ap ad.length aq)] 25 (0, 0))) ∧ Aside0 (Below w.heap.size w w'))
  case atStart => exact ⟨(av), (0), (by rfl), H', ⟨Nat.le_refl _⟩, ⟨by exact Kd.N_mono ae.out (fun _ hk => ⟨hk.1.1, ⟨hk.2, hk.1.2⟩⟩)⟩, ⟨by exact dK.out⟩, ⟨bk aa⟩, ⟨bl1 HB ai⟩⟩
  clear H'
  try clear c1
  try clear c2
  try clear p2
  try clear c3
  try clear c5
  try clear p6
  try clear c11
  try clear c13
  try clear c14
  try clear c15
  try clear c16
  try clear c16b0
  try clear c16b1
  try clear c21
  try clear c37
  try clear bn
  try clear bo
  try clear br
  try clear bs
  try clear bG
  try clear bH
  try clear bK
  try clear bL
  try clear bw
  try clear bx
  try clear bB
  try clear bC
  try clear bd
  try clear be
  try clear bh
  try clear bi
  try clear aU
  try clear aV
  try clear aY
  try clear aZ
  try clear aN
  try clear aQ
  try clear cp
  try clear cq
  try clear bp
  try clear bq
  try clear bu
  try clear bv
  try clear bI
  try clear bJ
  try clear bM
  try clear bN
  try clear bz
  try clear bA
  try clear bD
  try clear bE
  try clear bf
  try clear bg
  try clear bj
  try clear bm
  try clear aW
  try clear aX
  try clear ba
  try clear bb
  try clear aR
  try clear aT
  try clear cr
  try clear ct
  try clear p2
  try clear p6
  obtain ⟨am, ac, rfl, HA, HK2, ae, af, aa, HB⟩ := hrel
  cases gk with
  | zero => exact absurd HA.out (by simp [spec_SomeOthers.l0])
  | succ k2 =>
   have H := HA.out
   clear HA
   simp only [spec_SomeOthers.l0] at H
   by_cases c41 : ac < (ah.length : Int)
   rotate_left
   ·rw [if_neg c41] at H
    have c41b0 : decide (ac < (ah.length : Int)) = false := decide_eq_false c41
    clear c41
    obtain rfl := Option.some.inj H
    obtain ⟨eC, eD, ei⟩ := Kd.N_slice af.out
    subst ei
    go_wp2
    go_ret
    exact ⟨_, by rfl, by exact Kd.N_mono ae.out (fun _ hk => hk.1), bl1 HB ai⟩
   rw [if_pos c41] at H
   have c41b0 : decide (ac < (ah.length : Int)) = true := decide_eq_true c41
   clear c41
   by_cases c42 : 0 < (ah.length : Int)
   rotate_left
   ·rw [if_neg c42] at H
    exact absurd H (by simp)
   rw [if_pos c42] at H
   have c42b0 : decide (0 < (ah.length : Int)) = true := decide_eq_true c42
   have c42b1 : decide (0 < ah.length) = true := decide_eq_true (by omega)
   clear c42
   replace H := Option.bind_eq_some_iff.mp H
   obtain ⟨cg, dL, H⟩ := H
   have A43 := ak dL
   clear dL
   by_cases c44 : 0 ≤ ac
   rotate_left
   ·rw [if_neg c44] at H
    exact absurd H (by simp)
   rw [if_pos c44] at H
   have c44b0 : decide (0 ≤ ac) = true := decide_eq_true c44
   clear c44
   replace H := Option.bind_eq_some_iff.mp H
   obtain ⟨cW, dM, H⟩ := H
   have A45 := ak dM
   clear dM
   have H' := ak H
   clear H
   obtain ⟨eE, cl, ej⟩ := Kd.N_slice af.out
   subst ej
   try go_wp2
   replace ae := ak (Kd.N_drew ae.out)
   replace af := ak (Kd.N_drew af.out)
   replace aa := ak (qZp aa.out)
   replace HB := ak (qZo HB.out)
   have cF : 0 ≤ (0 : Int) := (by omega)
   have cG : 0 < (ah.length : Int) := oT (by (with_reducible assumption))
   obtain ⟨ax, cm, cH, ek, ay, cu, cv⟩ := qKb (Kd.N_reads' af.out).2.2 0 cF cG
   cases ek
   obtain ⟨ev, dn, dp, cI⟩ := Kd.N_get af.out [] 0 cF (by exact cG)
   obtain ⟨dW, dX, rfl, bO, bP⟩ := Kd.FK_slice_open dp
   have aD := cI 0 _ rfl
   rw [Nat.add_zero, show ((Kd.slice 3 (Kd.int .i64))).sz = 1 from rfl, Nat.mul_one] at aD
   replace aD := Option.some.inj (aD.symm.trans ay)
   injection aD with hva_ hvn_ hvc_
   rw [hva_] at bP
   rw [hvc_] at bO
   have aw := ak (show Kd.V (Kd.int .i64) 3 _ w.heap.size _ _ (qQf ah 0) from Kd.V_mk bO bP)
   clear hva_ hvn_ hvc_ bP bO
   clear cI dn
   have ew : (0 < ah.length) = True := eq_true (by omega)
   (try rw [show ((0 : Int)).toNat = 0 from rfl] at ay)
   (try rw [Addr.add_zero'] at ay)
   have ag := ak cv
   have cY := ak cu
   clear cv cu
   replace cF := eq_true cF
   replace cG := eq_true cG
   refine qJd (n := 6) (S := fun w' => w'.cell? ⟨al, 0, none⟩ = some (.int .i64 ab) ∧ w'.cell? ⟨al, 1, none⟩ = some (.slice ap ad.length aq) ∧ w'.cell? ax = some (.slice cm (qQf ah 0).length cH)) (ds := []) (ms 6 0) (by kernel_rfl) rfl (by kernel_rfl) ⟨(qZb aa.out 0).trans rfl, (qZb aa.out 1).trans rfl, ay⟩ (fun hHeld => ?_)
   generalize wr.drew = w47 at ae af aa HB aw ag ay hHeld ⊢
   refine qZm (i := 1) (N := some 63) (v := ?_) (a' := ?_) (ms 6 2) rfl rfl (by kernel_rfl) (fun _ _ _ h => h) (Or.inl ⟨by rfl, ?_⟩) ?_ ?_
   rotate_left
   ·intro w'
    go_simp
    with_reducible rfl
   rotate_left
   ·simp only [SX]
    rfl
   refine qZm (i := 2) (N := some 64) (v := ?_) (a' := ?_) (ms 6 6) rfl rfl (by kernel_rfl) (fun _ _ _ h => h) (Or.inl ⟨by rfl, ?_⟩) ?_ ?_
   rotate_left
   ·intro w'
    go_simp
    with_reducible rfl
   rotate_left
   ·simp only [SX]
    rfl
   refine take_ (i := 0) (N := some 62) (v := ?_) (a' := ?_) (ms 6 7) rfl rfl (by kernel_rfl) (fun _ _ _ h => h) (Or.inl ⟨by rfl, ?_⟩) hHeld ?_ ?_
   rotate_left
   ·rintro w' ⟨s0, s1, s2⟩
    go_simp
    with_reducible rfl
   rotate_left
   ·simp only [SX]
    rfl
   refine take_ (i := 3) (N := some 65) (v := ?_) (a' := ?_) (ms 6 15) rfl rfl (by kernel_rfl) (fun _ _ _ h => h) (Or.inl ⟨by rfl, ?_⟩) hHeld ?_ ?_
   rotate_left
   ·rintro w' ⟨s0, s1, s2⟩
    go_simp
    with_reducible rfl
   rotate_left
   ·simp only [SX]
    rfl
   refine one_ (i := 4) (N := some 66) (ms 6 31) rfl rfl (by kernel_rfl) (by decide) (fun K hK => ?_)
   refine qXg Try.func56 (by kernel_rfl) rfl #[.agg #[.int .i64 ab, .slice ap ad.length aq], .slice cm (qQf ah 0).length cH] (by rfl) rfl rfl (by (try simp only [List.map_toArray, List.map_cons, List.map_nil]); rfl) ?_
   with_reducible refine (spec_l2Cost.calls k2 ab _ _ ad _ _ (qQf ah 0) cg _ ?side1 ?side2 ?side3 ?side4 A43.out).mono ?_
   (case side1 => repeat (exact (Kd.C_below az.out HB.out)))
   (case side2 => exact aA.out)
   (case side3 => repeat (exact (by repeat ((with_reducible exact ag.out)))))
   (case side4 => exact cY.out)
   rintro e w48 ⟨rfl, hb⟩
   have cJ := (hb.cell (World.block_lt_of_cell? _ _ (hHeld.2.2))).trans (hHeld.2.2)
   refine ⟨_, rfl, ?_⟩
   replace ae := ak (Kd.N_below (by exact ae.out) hb)
   replace af := ak (Kd.N_below (by exact af.out) hb)
   replace aw := ak (Kd.V_below (by exact aw.out) hb)
   replace aa := ak (qZe (bk aa) hb)
   replace ag := ak (Kd.C_below (by repeat ((with_reducible exact ag.out))) hb)
   replace HB := ak (qZd (bl1 HB ai) hb)
   (try clear hb)
   (try clear hb2)
   (try clear hk)
   (try clear hi)
   refine hK.out _ _ ⟨(qZb aa.out 0).trans rfl, (qZb aa.out 1).trans rfl, cJ⟩ (fun hHeld => ?_)
   clear hK K
   refine qJc (a' := ?_) ?_ ?_
   rotate_left
   ·show Act.put _ (some 66) _ = _
    simp only [SX]
    rfl
   refine qZm (i := 5) (N := some 14) (v := ?_) (a' := ?_) (ms 6 63) rfl rfl (by kernel_rfl) (fun _ _ _ h => h) (Or.inl ⟨by rfl, ?_⟩) ?_ ?_
   rotate_left
   ·intro w'
    go_simp
    with_reducible rfl
   rotate_left
   ·simp only [SX]
    rfl
   refine qXc (by kernel_rfl) ?_
   try go_wp2
   replace ae := ak (Kd.N_drew ae.out)
   replace af := ak (Kd.N_drew af.out)
   replace aw := ak (Kd.V_drew aw.out)
   replace aa := ak (qZp aa.out)
   replace ag := ak (Kd.C_drew ag.out)
   replace HB := ak (qZo HB.out)
   have cK : 0 ≤ (ac : Int) := oT (by (with_reducible assumption))
   have cL : ac < (ah.length : Int) := oT (by (with_reducible assumption))
   obtain ⟨dN, cn, cM, el, aE, cw, cx⟩ := qKb (Kd.N_reads' af.out).2.2 ac cK cL
   obtain rfl : ax = dN := (by injection el)
   obtain ⟨ex, dq, dr, cN⟩ := Kd.N_get af.out [] ac cK (by exact cL)
   obtain ⟨dY, dZ, rfl, bQ, bR⟩ := Kd.FK_slice_open dr
   have aG := cN 0 _ rfl
   rw [Nat.add_zero, show ((Kd.slice 3 (Kd.int .i64))).sz = 1 from rfl, Nat.mul_one] at aG
   replace aG := Option.some.inj (aG.symm.trans aE)
   injection aG with hva_ hvn_ hvc_
   rw [hva_] at bR
   rw [hvc_] at bQ
   have bS := ak (show Kd.V (Kd.int .i64) 3 _ w.heap.size _ _ (qQf ah ac) from Kd.V_mk bQ bR)
   clear hva_ hvn_ hvc_ bR bQ
   clear cN dq
   have aj := ak cx
   have cZ := ak cw
   clear cx cw
   replace cK := eq_true cK
   replace cL := eq_true cL
   refine qJd (n := 13) (S := fun w' => w'.cell? ⟨al, 0, none⟩ = some (.int .i64 ab) ∧ w'.cell? ⟨al, 1, none⟩ = some (.slice ap ad.length aq) ∧ w'.cell? (ax.add (ac).toNat) = some (.slice cn (qQf ah ac).length cM)) (ds := []) (ms 13 0) (by kernel_rfl) rfl (by kernel_rfl) ⟨(qZb aa.out 0).trans rfl, (qZb aa.out 1).trans rfl, aE⟩ (fun hHeld => ?_); refine qQk spec_SomeOthers.tab9 spec_SomeOthers.bits9 (fun HT_ HW_ => ?_)
   generalize w48.drew = w49 at ae af aw aa ag HB bS aj aE hHeld ⊢
   refine pu 1 68 ?_ (ms 13 2) rfl rfl HT_ (by kernel_rfl) (fun _ _ _ h => h) (by rfl) ?_ ?_ ?_ ?_
   rotate_left
   ·intro w'
    go_simp
    with_reducible rfl
   rotate_left
   ·simp only [SX]
    rfl
   refine pu 2 69 ?_ (ms 13 6) rfl rfl HT_ (by kernel_rfl) (fun _ _ _ h => h) (by rfl) ?_ ?_ ?_ ?_
   rotate_left
   ·intro w'
    go_simp
    with_reducible rfl
   rotate_left
   ·simp only [SX]
    rfl
   refine pu 3 70 ?_ (ms 13 14) rfl rfl HT_ (by kernel_rfl) (fun _ _ _ h => h) (by rfl) ?_ ?_ ?_ ?_
   rotate_left
   ·intro w'
    go_simp
    with_reducible rfl
   rotate_left
   ·simp only [SX]
    rfl
   refine pu 7 74 ?_ (ms 13 142) rfl rfl HT_ (by kernel_rfl) (fun _ _ _ h => h) (by rfl) ?_ ?_ ?_ ?_
   rotate_left
   ·intro w'
    go_simp
    with_reducible rfl
   rotate_left
   ·simp only [SX]
    rfl
   refine pu 8 75 ?_ (ms 13 398) rfl rfl HT_ (by kernel_rfl) (fun _ _ _ h => h) (by rfl) ?_ ?_ ?_ ?_
   rotate_left
   ·intro w'
    go_simp
    with_reducible rfl
   rotate_left
   ·simp only [SX]
    rfl
   refine pu 9 76 ?_ (ms 13 910) rfl rfl HT_ (by kernel_rfl) (fun _ _ _ h => h) (by rfl) ?_ ?_ ?_ ?_
   rotate_left
   ·intro w'
    go_simp
    with_reducible rfl
   rotate_left
   ·simp only [SX]
    rfl
   refine pu 10 77 ?_ (ms 13 1934) rfl rfl HT_ (by kernel_rfl) (fun _ _ _ h => h) (by rfl) ?_ ?_ ?_ ?_
   rotate_left
   ·intro w'
    go_simp
    with_reducible rfl
   rotate_left
   ·simp only [SX]
    rfl
   refine tk 0 67 ?_ (ms 13 1935) rfl rfl HT_ HW_ (by kernel_rfl) (fun _ _ _ h => h) (by rfl) ?_ hHeld ?_ ?_ ?_
   rotate_left
   ·rintro w' ⟨s0, s1, s2⟩
    go_simp
    with_reducible rfl
   rotate_left
   ·simp only [SX]
    rfl
   refine tk 4 71 ?_ (ms 13 1951) rfl rfl HT_ HW_ (by kernel_rfl) (fun _ _ _ h => h) (by rfl) ?_ hHeld ?_ ?_ ?_
   rotate_left
   ·rintro w' ⟨s0, s1, s2⟩
    go_simp
    with_reducible rfl
   rotate_left
   ·simp only [SX]
    rfl
   refine one_ (i := 5) (N := some 72) (ms 13 1983) rfl rfl (qJb HT_.out (by kernel_rfl)) (by decide) (fun K hK => ?_)
   refine qXg Try.func56 (by kernel_rfl) rfl #[.agg #[.int .i64 ab, .slice ap ad.length aq], .slice cn (qQf ah ac).length cM] (by rfl) rfl rfl (by (try simp only [List.map_toArray, List.map_cons, List.map_nil]); rfl) ?_
   with_reducible refine (spec_l2Cost.calls k2 ab _ _ ad _ _ (qQf ah ac) cW _ ?side1 ?side2 ?side3 ?side4 A45.out).mono ?_
   (case side1 => repeat (exact (Kd.C_below az.out HB.out)))
   (case side2 => exact aA.out)
   (case side3 => repeat (exact (by repeat ((with_reducible exact aj.out)))))
   (case side4 => exact cZ.out)
   rintro e w50 ⟨rfl, hb⟩
   have cJ := (hb.cell (World.block_lt_of_cell? _ _ (hHeld.2.2))).trans (hHeld.2.2)
   refine ⟨_, rfl, ?_⟩
   replace ae := ak (Kd.N_below (by exact ae.out) hb)
   replace af := ak (Kd.N_below (by exact af.out) hb)
   replace aw := ak (Kd.V_below (by exact aw.out) hb)
   replace bS := ak (Kd.V_below (by exact bS.out) hb)
   replace aa := ak (qZe (bk aa) hb)
   replace ag := ak (Kd.C_below (by repeat ((with_reducible exact ag.out))) hb)
   replace aj := ak (Kd.C_below (by repeat ((with_reducible exact aj.out))) hb)
   replace HB := ak (qZd (bl1 HB ai) hb)
   (try clear hb)
   (try clear hb2)
   (try clear hk)
   (try clear hi)
   refine hK.out _ _ ⟨(qZb aa.out 0).trans rfl, (qZb aa.out 1).trans rfl, cJ⟩ (fun hHeld => ?_)
   clear hK K
   refine qJc (a' := ?_) ?_ ?_
   rotate_left
   ·show Act.put _ (some 72) _ = _
    simp only [SX]
    rfl
   refine pu 6 73 ?_ (ms 13 2047) rfl rfl HT_ (by kernel_rfl) (fun _ _ _ h => h) (by rfl) ?_ ?_ ?_ ?_
   rotate_left
   ·intro w'
    go_simp
    with_reducible rfl
   rotate_left
   ·simp only [SX]
    rfl
   refine pu 11 78 ?_ (ms 13 4095) rfl rfl HT_ (by kernel_rfl) (fun _ _ _ h => h) (by rfl) ?_ ?_ ?_ ?_
   rotate_left
   ·intro w'
    go_simp
    with_reducible rfl
   rotate_left
   ·simp only [SX]
    rfl
   refine pu 12 15 ?_ (ms 13 8191) rfl rfl HT_ (by kernel_rfl) (fun _ _ _ h => h) (by rfl) ?_ ?_ ?_ ?_
   rotate_left
   ·intro w'
    go_simp
    with_reducible rfl
   rotate_left
   ·simp only [SX]
    rfl
   refine qXc (qQp HT_.out (by kernel_rfl)) ?_
   try go_wp2
   go_loopg [15, 16] k2 (fun kq v15 v16 w' => ∃ (cf : Bool) (ar : Int), v15 = .bool cf ∧ v16 = .int .i64 ar ∧ Aside0 (spec_SomeOthers.l1 kq a3 a4 am ah ac cg cf ar ab ad = some r) ∧ Aside0 (kq ≤ k2) ∧ Aside0 (Kd.N (Kd.slice 3 (Kd.int .i64)) 33 w' w.heap.size (fun k_ => (w.heap.size ≤ k_) ∧ some k_ ≠ ((.slice (some ax) ah.length cl) : Value).ownBlock ∧ k_ ≠ al) u11 am) ∧ Aside0 (Kd.N (Kd.slice 3 (Kd.int .i64)) 33 w' w.heap.size (fun k_ => (w.heap.size ≤ k_) ∧ some k_ ≠ (u11 : Value).ownBlock ∧ k_ ≠ al) (.slice (some ax) ah.length cl) ah) ∧ Aside0 (w'.heap[al]? = some (.cells #[.int .i64 ab, (.slice ap ad.length aq)] 25 (0, 0))) ∧ Aside0 (Kd.C (Kd.int .i64) w' cm (qQf ah 0).length (qQf ah 0)) ∧ Aside0 (Kd.C (Kd.int .i64) w' cn (qQf ah ac).length (qQf ah ac)) ∧ Aside0 (Below w.heap.size w w'))
   case atStart => exact ⟨(decide ((wrap64 (cW * 100)) ≤ (wrap64 (cg * (wrap64 (100 + a3)))))), (0), (by rfl), (by rfl), H', ⟨Nat.le_refl _⟩, ⟨by exact ae.out⟩, ⟨by exact af.out⟩, ⟨bk aa⟩, ⟨by repeat ((with_reducible exact ag.out))⟩, ⟨by repeat ((with_reducible exact aj.out))⟩, ⟨bl1 HB ai⟩⟩
   clear H'
   try clear c1
   try clear c2
   try clear p2
   try clear c3
   try clear p3
   try clear q3
   try clear hx3
   try clear qi3
   try clear c4
   try clear c5
   try clear p6
   try clear c11
   try clear c13
   try clear c14
   try clear c15
   try clear c16
   try clear c16b0
   try clear c16b1
   try clear c21
   try clear c37
   try clear p37
   try clear q37
   try clear hx37
   try clear qi37
   try clear c41
   try clear c41b0
   try clear c42
   try clear c42b0
   try clear c42b1
   try clear c44
   try clear c44b0
   try clear bn
   try clear bo
   try clear br
   try clear bs
   try clear bG
   try clear bH
   try clear bK
   try clear bL
   try clear bw
   try clear bx
   try clear bB
   try clear bC
   try clear bd
   try clear be
   try clear bh
   try clear bi
   try clear aU
   try clear aV
   try clear aY
   try clear aZ
   try clear aN
   try clear aQ
   try clear cp
   try clear cq
   try clear bp
   try clear bq
   try clear bu
   try clear bv
   try clear bI
   try clear bJ
   try clear bM
   try clear bN
   try clear bz
   try clear bA
   try clear bD
   try clear bE
   try clear bf
   try clear bg
   try clear bj
   try clear bm
   try clear aW
   try clear aX
   try clear ba
   try clear bb
   try clear aR
   try clear aT
   try clear cr
   try clear ct
   try clear ay
   try clear aE
   try clear p2
   try clear cF
   try clear cK
   try clear p6
   try clear cG
   try clear cL
   obtain ⟨cf, ar, rfl, rfl, HA, HK3, ae, af, aa, ag, aj, HB⟩ := hrel
   cases gk with
   | zero => exact absurd HA.out (by simp [spec_SomeOthers.l1])
   | succ k3 =>
    have H := HA.out
    clear HA
    simp only [spec_SomeOthers.l1] at H
    by_cases c51 : ar < (am.length : Int)
    rotate_left
    ·rw [if_neg c51] at H
     have c51b0 : decide (ar < (am.length : Int)) = false := decide_eq_false c51
     clear c51
     by_cases c62 : cf = true
     rotate_left
     ·replace c62 := Bool.eq_false_iff.mpr c62
      subst c62
      rw [if_neg (show ¬ (false = true) by decide)] at H
      have H' := ak H
      clear H
      obtain ⟨eF, eG, em⟩ := Kd.N_slice ae.out
      subst em
      go_wp2
      go_roundg k3
      case measure => have := HJ5.out; have := HK2.out; have := HK3.out; omega
      case rel => exact ⟨(am), (wrap64 (ac + 1)), (by rfl), H', ⟨by have := HJ5.out; have := HK2.out; have := HK3.out; omega⟩, ⟨by exact ae.out⟩, ⟨by exact af.out⟩, ⟨bk aa⟩, ⟨bl1 HB ai⟩⟩
     subst c62
     rw [if_pos rfl] at H
     by_cases c63 : 0 ≤ ac
     rotate_left
     ·rw [if_neg c63] at H
      exact absurd H (by simp)
     rw [if_pos c63] at H
     have c63b0 : decide (0 ≤ ac) = true := decide_eq_true c63
     clear c63
     by_cases c64 : ac < (ah.length : Int)
     rotate_left
     ·rw [if_neg c64] at H
      exact absurd H (by simp)
     rw [if_pos c64] at H
     have c64b0 : decide (ac < (ah.length : Int)) = true := decide_eq_true c64
     clear c64
     by_cases c65 : am.length < 5864062014805
     rotate_left
     ·rw [if_neg c65] at H
      exact absurd H (by simp)
     rw [if_pos c65] at H
     have dO := ak c65
     clear c65
     obtain ⟨dP, cO⟩ : ∃ y_ : List (List Int), y_ = (am ++ [qQf ah ac]) := ⟨_, rfl⟩
     replace H : (spec_SomeOthers.l0 k3 a3 a4 dP ah (wrap64 (ac + 1)) ab ad) = some r := by (rw [cO]; with_reducible exact H)
     have dQ := ak cO
     clear cO
     have H' := ak H
     clear H
     obtain ⟨da, db, en⟩ := Kd.N_slice ae.out
     subst en
     have dc : 0 ≤ (ac : Int) := oT (by (with_reducible assumption))
     have dd : ac < (ah.length : Int) := oT (by (with_reducible assumption))
     obtain ⟨dR, dt, du, eo, de, cy, cz⟩ := qKb (Kd.N_reads' af.out).2.2 ac dc dd
     obtain rfl : ax = dR := (by injection eo)
     obtain ⟨ey, dv, dw, cP⟩ := Kd.N_get af.out [] ac dc (by exact dd)
     obtain ⟨ea, eb, rfl, bU, bV⟩ := Kd.FK_slice_open dw
     have aH := cP 0 _ rfl
     rw [Nat.add_zero, show ((Kd.slice 3 (Kd.int .i64))).sz = 1 from rfl, Nat.mul_one] at aH
     replace aH := Option.some.inj (aH.symm.trans de)
     injection aH with hva_ hvn_ hvc_
     rw [hva_] at bV
     rw [hvc_] at bU
     have aC := ak (show Kd.V (Kd.int .i64) 3 _ w.heap.size _ _ (qQf ah ac) from Kd.V_mk bU bV)
     clear hva_ hvn_ hvc_ bV bU
     clear cP dv
     have ec := ak cz
     have ed := ak cy
     clear cz cy
     replace dc := eq_true dc
     replace dd := eq_true dd
     go_wp2_with (((with_reducible refine gate_builtin (b := .append) (xs := #[.tmp 104, .tmp 109]) rfl ?_); at_builtin; refine Kd.N_append (Kd.slice 3 (Kd.int .i64)) (w0 := w) w.heap.size rfl (.tmp 104) (.tmp 109) 28 33 (.slice none 0 0) 24 rfl Try.underlying28 qYj rfl (by decide) (by omega) (.slice da am.length db) am (qQf ah ac) [.slice dt (qQf ah ac).length du] (fun k_ => (w.heap.size ≤ k_) ∧ some k_ ≠ (.slice (some ax) ah.length cl : Value).ownBlock ∧ k_ ≠ al) (fun k_ => ((fun k_ => (w.heap.size ≤ k_) ∧ some k_ ≠ (.slice (some ax) ah.length cl : Value).ownBlock ∧ k_ ≠ al)) k_ ∧ some k_ ≠ (.slice da am.length db : Value).ownBlock) rfl rfl ?aP (fun _ hk => hk) ?aF ?aO ?aB ?aS ?aL ?_; (case aP => exact (Kd.FK_slice_mk (Kd.V_reads' (Kd.V_mono (ok' := (fun k_ => ((fun k_ => (w.heap.size ≤ k_) ∧ some k_ ≠ (.slice (some ax) ah.length cl : Value).ownBlock ∧ k_ ≠ al)) k_ ∧ some k_ ≠ (.slice da am.length db : Value).ownBlock)) (aC.out) (fun k_ hk => ⟨⟨hk.1.1, ⟨hk.2, hk.1.2.2⟩⟩, hk.1.2.1⟩))).2.1 (Kd.V_F (Kd.V_mono (ok' := (fun k_ => ((fun k_ => (w.heap.size ≤ k_) ∧ some k_ ≠ (.slice (some ax) ah.length cl : Value).ownBlock ∧ k_ ≠ al)) k_ ∧ some k_ ≠ (.slice da am.length db : Value).ownBlock)) (aC.out) (fun k_ hk => ⟨⟨hk.1.1, ⟨hk.2, hk.1.2.2⟩⟩, hk.1.2.1⟩))))); (case aB => exact (bl1 HB ai)); (case aF => exact (fun k_ hk => ⟨(Nat.le_trans (qZc (bl1 HB ai)) hk), Kd.fresh' (Kd.N_lt (by exact af.out)) k_ hk, Kd.freshB (bk aa) k_ hk⟩)); (case aO => exact (by exact ae.out)); (case aS => exact (qZc (bl1 HB ai))); (case aL => have := dO.out; omega); intro eH w67 ho hb hg hat; rw [← dQ.out] at ho; have n0_ := ak (Kd.N_afterv (ok := (fun k_ => (w.heap.size ≤ k_) ∧ k_ ≠ al)) (by exact Kd.N_mono af.out (fun _ hk => ⟨⟨hk.1, hk.2.2⟩, hk.2.1⟩)) hg hat); have n1_ := ak (qZg (bk aa) hg (Kd.N_ne ae.out aa.out (by decide))); have n2_ := ak (Kd.V_afterv (ok := (fun k_ => (w.heap.size ≤ k_) ∧ some k_ ≠ (.slice (some ax) ah.length cl : Value).ownBlock ∧ k_ ≠ al)) (by exact Kd.V_mono aC.out (fun _ hk => ⟨⟨hk.1.1, ⟨hk.2, hk.1.2.2⟩⟩, hk.1.2.1⟩)) hg hat); have n3_ := ak (hb); have n4_ := ak (ho); clear af; clear aa; clear aC; clear HB; clear ae; have af := n0_; have aa := n1_; have aC := n2_; have HB := n3_; have dS := n4_; clear n0_ n1_ n2_ n3_ n4_; clear ho hb hg hat))
     go_roundg k3
     case measure => have := HJ5.out; have := HK2.out; have := HK3.out; omega
     case rel => exact ⟨(dP), (wrap64 (ac + 1)), (by rfl), H', ⟨by have := HJ5.out; have := HK2.out; have := HK3.out; omega⟩, ⟨by exact dS.out⟩, ⟨by exact Kd.N_mono af.out (fun _ hk => ⟨hk.1.1, ⟨hk.2, hk.1.2⟩⟩)⟩, ⟨bk aa⟩, ⟨bl1 HB ai⟩⟩
    rw [if_pos c51] at H
    have c51b0 : decide (ar < (am.length : Int)) = true := decide_eq_true c51
    clear c51
    by_cases c52 : cf = true
    rotate_left
    ·replace c52 := Bool.eq_false_iff.mpr c52
     subst c52
     rw [if_neg (show ¬ (false = true) by decide)] at H
     have H' := ak H
     clear H
     obtain ⟨eI, eJ, ep⟩ := Kd.N_slice ae.out
     subst ep
     try go_wp2
     replace ae := ak (Kd.N_drew ae.out)
     replace af := ak (Kd.N_drew af.out)
     replace aa := ak (qZp aa.out)
     replace ag := ak (Kd.C_drew ag.out)
     replace aj := ak (Kd.C_drew aj.out)
     replace HB := ak (qZo HB.out)
     refine qJd (n := 19) (S := fun w' => True) (ds := []) (ms 19 0) (by kernel_rfl) rfl (by kernel_rfl) trivial (fun hHeld => ?_); refine qQk spec_SomeOthers.tab13 spec_SomeOthers.bits13 (fun HT_ HW_ => ?_)
     generalize wr.drew = w61 at ae af aa ag aj HB hHeld ⊢
     refine pu 0 85 ?_ (ms 19 1) rfl rfl HT_ (by kernel_rfl) (fun _ _ _ h => h) (by rfl) ?_ ?_ ?_ ?_
     rotate_left
     ·intro w'
      go_simp
      with_reducible rfl
     rotate_left
     ·simp only [SX]
      rfl
     refine pu 1 86 ?_ (ms 19 3) rfl rfl HT_ (by kernel_rfl) (fun _ _ _ h => h) (by rfl) ?_ ?_ ?_ ?_
     rotate_left
     ·intro w'
      go_simp
      with_reducible rfl
     rotate_left
     ·simp only [SX]
      rfl
     refine qZm (i := 2) (N := some 87) (v := undef) (a' := ?_) (ms 19 7) rfl rfl (qZf HT_.out (by kernel_rfl)) (fun _ _ _ h => h) (Or.inr ⟨by rfl, rfl⟩) ?_ ?_
     rotate_left
     ·simp only [SX]
      rfl
     refine qZm (i := 3) (N := some 88) (v := undef) (a' := ?_) (ms 19 15) rfl rfl (qZf HT_.out (by kernel_rfl)) (fun _ _ _ h => h) (Or.inr ⟨by rfl, rfl⟩) ?_ ?_
     rotate_left
     ·simp only [SX]
      rfl
     refine qZm (i := 4) (N := some 89) (v := undef) (a' := ?_) (ms 19 31) rfl rfl (qZf HT_.out (by kernel_rfl)) (fun _ _ _ h => h) (Or.inr ⟨by rfl, rfl⟩) ?_ ?_
     rotate_left
     ·simp only [SX]
      rfl
     refine qZm (i := 5) (N := some 90) (v := undef) (a' := ?_) (ms 19 63) rfl rfl (qZf HT_.out (by kernel_rfl)) (fun _ _ _ h => h) (Or.inr ⟨by rfl, rfl⟩) ?_ ?_
     rotate_left
     ·simp only [SX]
      rfl
     refine qZm (i := 6) (N := some 91) (v := undef) (a' := ?_) (ms 19 127) rfl rfl (qZf HT_.out (by kernel_rfl)) (fun _ _ _ h => h) (Or.inr ⟨by rfl, rfl⟩) ?_ ?_
     rotate_left
     ·simp only [SX]
      rfl
     refine qZm (i := 7) (N := some 92) (v := undef) (a' := ?_) (ms 19 255) rfl rfl (qZf HT_.out (by kernel_rfl)) (fun _ _ _ h => h) (Or.inr ⟨by rfl, rfl⟩) ?_ ?_
     rotate_left
     ·simp only [SX]
      rfl
     refine qZm (i := 8) (N := some 93) (v := undef) (a' := ?_) (ms 19 511) rfl rfl (qZf HT_.out (by kernel_rfl)) (fun _ _ _ h => h) (Or.inr ⟨by rfl, rfl⟩) ?_ ?_
     rotate_left
     ·simp only [SX]
      rfl
     refine qZm (i := 9) (N := some 94) (v := undef) (a' := ?_) (ms 19 1023) rfl rfl (qZf HT_.out (by kernel_rfl)) (fun _ _ _ h => h) (Or.inr ⟨by rfl, rfl⟩) ?_ ?_
     rotate_left
     ·simp only [SX]
      rfl
     refine qZm (i := 10) (N := some 95) (v := undef) (a' := ?_) (ms 19 2047) rfl rfl (qZf HT_.out (by kernel_rfl)) (fun _ _ _ h => h) (Or.inr ⟨by rfl, rfl⟩) ?_ ?_
     rotate_left
     ·simp only [SX]
      rfl
     refine qZm (i := 11) (N := some 96) (v := undef) (a' := ?_) (ms 19 4095) rfl rfl (qZf HT_.out (by kernel_rfl)) (fun _ _ _ h => h) (Or.inr ⟨by rfl, rfl⟩) ?_ ?_
     rotate_left
     ·simp only [SX]
      rfl
     refine qZm (i := 12) (N := some 97) (v := undef) (a' := ?_) (ms 19 8191) rfl rfl (qZf HT_.out (by kernel_rfl)) (fun _ _ _ h => h) (Or.inr ⟨by rfl, rfl⟩) ?_ ?_
     rotate_left
     ·simp only [SX]
      rfl
     refine qZm (i := 13) (N := some 98) (v := undef) (a' := ?_) (ms 19 16383) rfl rfl (qZf HT_.out (by kernel_rfl)) (fun _ _ _ h => h) (Or.inr ⟨by rfl, rfl⟩) ?_ ?_
     rotate_left
     ·simp only [SX]
      rfl
     refine qZm (i := 14) (N := some 99) (v := undef) (a' := ?_) (ms 19 32767) rfl rfl (qZf HT_.out (by kernel_rfl)) (fun _ _ _ h => h) (Or.inr ⟨by rfl, rfl⟩) ?_ ?_
     rotate_left
     ·simp only [SX]
      rfl
     refine qZm (i := 15) (N := some 100) (v := undef) (a' := ?_) (ms 19 65535) rfl rfl (qZf HT_.out (by kernel_rfl)) (fun _ _ _ h => h) (Or.inr ⟨by rfl, rfl⟩) ?_ ?_
     rotate_left
     ·simp only [SX]
      rfl
     refine qZm (i := 16) (N := some 101) (v := undef) (a' := ?_) (ms 19 131071) rfl rfl (qZf HT_.out (by kernel_rfl)) (fun _ _ _ h => h) (Or.inr ⟨by rfl, rfl⟩) ?_ ?_
     rotate_left
     ·simp only [SX]
      rfl
     refine pu 17 102 ?_ (ms 19 262143) rfl rfl HT_ (by kernel_rfl) (fun _ _ _ h => h) (by rfl) ?_ ?_ ?_ ?_
     rotate_left
     ·intro w'
      go_simp
      with_reducible rfl
     rotate_left
     ·simp only [SX]
      rfl
     refine pu 18 15 ?_ (ms 19 524287) rfl rfl HT_ (by kernel_rfl) (fun _ _ _ h => h) (by rfl) ?_ ?_ ?_ ?_
     rotate_left
     ·intro w'
      go_simp
      with_reducible rfl
     rotate_left
     ·simp only [SX]
      rfl
     refine qXc (qQp HT_.out (by kernel_rfl)) ?_
     try go_wp2
     go_roundg k3
     case measure => have := HJ5.out; have := HK2.out; have := HK3.out; omega
     case rel => exact ⟨(false), (wrap64 (ar + 1)), (by rfl), (by rfl), H', ⟨by have := HJ5.out; have := HK2.out; have := HK3.out; omega⟩, ⟨by exact ae.out⟩, ⟨by exact af.out⟩, ⟨bk aa⟩, ⟨by repeat ((with_reducible exact ag.out))⟩, ⟨by repeat ((with_reducible exact aj.out))⟩, ⟨bl1 HB ai⟩⟩
    subst c52
    rw [if_pos rfl] at H
    by_cases c53 : 0 ≤ ac
    rotate_left
    ·rw [if_neg c53] at H
     exact absurd H (by simp)
    rw [if_pos c53] at H
    have c53b0 : decide (0 ≤ ac) = true := decide_eq_true c53
    clear c53
    by_cases c54 : ac < (ah.length : Int)
    rotate_left
    ·rw [if_neg c54] at H
     exact absurd H (by simp)
    rw [if_pos c54] at H
    have c54b0 : decide (ac < (ah.length : Int)) = true := decide_eq_true c54
    clear c54
    by_cases c55 : 0 ≤ ar
    rotate_left
    ·rw [if_neg c55] at H
     exact absurd H (by simp)
    rw [if_pos c55] at H
    have c55b0 : decide (0 ≤ ar) = true := decide_eq_true c55
    clear c55
    replace H := Option.bind_eq_some_iff.mp H
    obtain ⟨cX, dT, H⟩ := H
    have A56 := ak dT
    clear dT
    have H' := ak H
    clear H
    obtain ⟨eK, eL, eq⟩ := Kd.N_slice ae.out
    subst eq
    try go_wp2
    replace ae := ak (Kd.N_drew ae.out)
    replace af := ak (Kd.N_drew af.out)
    replace aa := ak (qZp aa.out)
    replace ag := ak (Kd.C_drew ag.out)
    replace aj := ak (Kd.C_drew aj.out)
    replace HB := ak (qZo HB.out)
    have df : 0 ≤ (ac : Int) := oT (by (with_reducible assumption))
    have dg : ac < (ah.length : Int) := oT (by (with_reducible assumption))
    obtain ⟨dU, cQ, cR, er, bW, cA, cB⟩ := qKb (Kd.N_reads' af.out).2.2 ac df dg
    obtain rfl : ax = dU := (by injection er)
    obtain ⟨ez, dx, dy, cS⟩ := Kd.N_get af.out [] ac df (by exact dg)
    obtain ⟨ee, ef, rfl, bX, bY⟩ := Kd.FK_slice_open dy
    have aI := cS 0 _ rfl
    rw [Nat.add_zero, show ((Kd.slice 3 (Kd.int .i64))).sz = 1 from rfl, Nat.mul_one] at aI
    replace aI := Option.some.inj (aI.symm.trans bW)
    injection aI with hva_ hvn_ hvc_
    rw [hva_] at bY
    rw [hvc_] at bX
    have bZ := ak (show Kd.V (Kd.int .i64) 3 _ w.heap.size _ _ (qQf ah ac) from Kd.V_mk bX bY)
    clear hva_ hvn_ hvc_ bY bX
    clear cS dx
    have aJ := ak cB
    have dh := ak cA
    clear cB cA
    replace df := eq_true df
    replace dg := eq_true dg
    have di : 0 ≤ (ar : Int) := oT (by (with_reducible assumption))
    have dj : ar < (am.length : Int) := oT (by (with_reducible assumption))
    obtain ⟨dV, cT, cU, es, ca, cC, cD⟩ := qKb (Kd.N_reads' ae.out).2.2 ar di dj
    cases es
    obtain ⟨eA, dz, dA, cV⟩ := Kd.N_get ae.out [] ar di (by exact dj)
    obtain ⟨eg, eh, rfl, cb, cc⟩ := Kd.FK_slice_open dA
    have aK := cV 0 _ rfl
    rw [Nat.add_zero, show ((Kd.slice 3 (Kd.int .i64))).sz = 1 from rfl, Nat.mul_one] at aK
    replace aK := Option.some.inj (aK.symm.trans ca)
    injection aK with hva_ hvn_ hvc_
    rw [hva_] at cc
    rw [hvc_] at cb
    have cd := ak (show Kd.V (Kd.int .i64) 3 _ w.heap.size _ _ (qQf am ar) from Kd.V_mk cb cc)
    clear hva_ hvn_ hvc_ cc cb
    clear cV dz
    have aM := ak cD
    have dk := ak cC
    clear cD cC
    replace di := eq_true di
    replace dj := eq_true dj
    refine qJd (n := 19) (S := fun w' => w'.cell? ⟨al, 0, none⟩ = some (.int .i64 ab) ∧ w'.cell? ⟨al, 1, none⟩ = some (.slice ap ad.length aq) ∧ w'.cell? (ax.add (ac).toNat) = some (.slice cQ (qQf ah ac).length cR) ∧ w'.cell? (dV.add (ar).toNat) = some (.slice cT (qQf am ar).length cU)) (ds := []) (ms 19 0) (by kernel_rfl) rfl (by kernel_rfl) ⟨(qZb aa.out 0).trans rfl, (qZb aa.out 1).trans rfl, bW, ca⟩ (fun hHeld => ?_); refine qQk spec_SomeOthers.tab13 spec_SomeOthers.bits13 (fun HT_ HW_ => ?_)
    generalize wr.drew = w58 at ae af aa ag aj HB bZ cd aJ aM bW ca hHeld ⊢
    refine pu 0 85 ?_ (ms 19 1) rfl rfl HT_ (by kernel_rfl) (fun _ _ _ h => h) (by rfl) ?_ ?_ ?_ ?_
    rotate_left
    ·intro w'
     go_simp
     with_reducible rfl
    rotate_left
    ·simp only [SX]
     rfl
    refine pu 1 86 ?_ (ms 19 3) rfl rfl HT_ (by kernel_rfl) (fun _ _ _ h => h) (by rfl) ?_ ?_ ?_ ?_
    rotate_left
    ·intro w'
     go_simp
     with_reducible rfl
    rotate_left
    ·simp only [SX]
     rfl
    refine pu 3 88 ?_ (ms 19 11) rfl rfl HT_ (by kernel_rfl) (fun _ _ _ h => h) (by rfl) ?_ ?_ ?_ ?_
    rotate_left
    ·intro w'
     go_simp
     with_reducible rfl
    rotate_left
    ·simp only [SX]
     rfl
    refine pu 4 89 ?_ (ms 19 27) rfl rfl HT_ (by kernel_rfl) (fun _ _ _ h => h) (by rfl) ?_ ?_ ?_ ?_
    rotate_left
    ·intro w'
     go_simp
     with_reducible rfl
    rotate_left
    ·simp only [SX]
     rfl
    refine pu 5 90 ?_ (ms 19 59) rfl rfl HT_ (by kernel_rfl) (fun _ _ _ h => h) (by rfl) ?_ ?_ ?_ ?_
    rotate_left
    ·intro w'
     go_simp
     with_reducible rfl
    rotate_left
    ·simp only [SX]
     rfl
    refine pu 7 92 ?_ (ms 19 187) rfl rfl HT_ (by kernel_rfl) (fun _ _ _ h => h) (by rfl) ?_ ?_ ?_ ?_
    rotate_left
    ·intro w'
     go_simp
     with_reducible rfl
    rotate_left
    ·simp only [SX]
     rfl
    refine pu 8 93 ?_ (ms 19 443) rfl rfl HT_ (by kernel_rfl) (fun _ _ _ h => h) (by rfl) ?_ ?_ ?_ ?_
    rotate_left
    ·intro w'
     go_simp
     with_reducible rfl
    rotate_left
    ·simp only [SX]
     rfl
    refine pu 9 94 ?_ (ms 19 955) rfl rfl HT_ (by kernel_rfl) (fun _ _ _ h => h) (by rfl) ?_ ?_ ?_ ?_
    rotate_left
    ·intro w'
     go_simp
     with_reducible rfl
    rotate_left
    ·simp only [SX]
     rfl
    refine pu 13 98 ?_ (ms 19 9147) rfl rfl HT_ (by kernel_rfl) (fun _ _ _ h => h) (by rfl) ?_ ?_ ?_ ?_
    rotate_left
    ·intro w'
     go_simp
     with_reducible rfl
    rotate_left
    ·simp only [SX]
     rfl
    refine pu 14 99 ?_ (ms 19 25531) rfl rfl HT_ (by kernel_rfl) (fun _ _ _ h => h) (by rfl) ?_ ?_ ?_ ?_
    rotate_left
    ·intro w'
     go_simp
     with_reducible rfl
    rotate_left
    ·simp only [SX]
     rfl
    refine pu 15 100 ?_ (ms 19 58299) rfl rfl HT_ (by kernel_rfl) (fun _ _ _ h => h) (by rfl) ?_ ?_ ?_ ?_
    rotate_left
    ·intro w'
     go_simp
     with_reducible rfl
    rotate_left
    ·simp only [SX]
     rfl
    refine tk 2 87 ?_ (ms 19 58303) rfl rfl HT_ HW_ (by kernel_rfl) (fun _ _ _ h => h) (by rfl) ?_ hHeld ?_ ?_ ?_
    rotate_left
    ·rintro w' ⟨s0, s1, s2, s3⟩
     go_simp
     with_reducible rfl
    rotate_left
    ·simp only [SX]
     rfl
    refine tk 6 91 ?_ (ms 19 58367) rfl rfl HT_ HW_ (by kernel_rfl) (fun _ _ _ h => h) (by rfl) ?_ hHeld ?_ ?_ ?_
    rotate_left
    ·rintro w' ⟨s0, s1, s2, s3⟩
     go_simp
     with_reducible rfl
    rotate_left
    ·simp only [SX]
     rfl
    refine tk 10 95 ?_ (ms 19 59391) rfl rfl HT_ HW_ (by kernel_rfl) (fun _ _ _ h => h) (by rfl) ?_ hHeld ?_ ?_ ?_
    rotate_left
    ·rintro w' ⟨s0, s1, s2, s3⟩
     go_simp
     with_reducible rfl
    rotate_left
    ·simp only [SX]
     rfl
    refine one_ (i := 11) (N := some 96) (ms 19 61439) rfl rfl (qJb HT_.out (by kernel_rfl)) (by decide) (fun K hK => ?_)
    refine qXg Try.func57 (by kernel_rfl) rfl #[.agg #[.int .i64 ab, .slice ap ad.length aq], .slice cQ (qQf ah ac).length cR, .slice cT (qQf am ar).length cU] (by rfl) rfl rfl (by (try simp only [List.map_toArray, List.map_cons, List.map_nil]); rfl) ?_
    with_reducible refine (spec_l14Share.calls k3 ab _ _ ad _ _ (qQf ah ac) _ _ (qQf am ar) cX _ ?side1 ?side2 ?side3 ?side4 ?side5 ?side6 A56.out).mono ?_
    (case side1 => repeat (exact (Kd.C_below az.out HB.out)))
    (case side2 => exact aA.out)
    (case side3 => repeat (exact (by repeat ((with_reducible exact aJ.out)))))
    (case side4 => exact dh.out)
    (case side5 => repeat (exact (by repeat ((with_reducible exact aM.out)))))
    (case side6 => exact dk.out)
    rintro e w59 ⟨rfl, hb⟩
    have cJ := (hb.cell (World.block_lt_of_cell? _ _ (hHeld.2.2.1))).trans (hHeld.2.2.1)
    have et := (hb.cell (World.block_lt_of_cell? _ _ (hHeld.2.2.2))).trans (hHeld.2.2.2)
    refine ⟨_, rfl, ?_⟩
    replace ae := ak (Kd.N_below (by exact ae.out) hb)
    replace af := ak (Kd.N_below (by exact af.out) hb)
    replace bZ := ak (Kd.V_below (by exact bZ.out) hb)
    replace cd := ak (Kd.V_below (by exact cd.out) hb)
    replace aa := ak (qZe (bk aa) hb)
    replace ag := ak (Kd.C_below (by repeat ((with_reducible exact ag.out))) hb)
    replace aj := ak (Kd.C_below (by repeat ((with_reducible exact aj.out))) hb)
    replace aJ := ak (Kd.C_below (by repeat ((with_reducible exact aJ.out))) hb)
    replace aM := ak (Kd.C_below (by repeat ((with_reducible exact aM.out))) hb)
    replace HB := ak (qZd (bl1 HB ai) hb)
    (try clear hb)
    (try clear hb2)
    (try clear hk)
    (try clear hi)
    refine hK.out _ _ ⟨(qZb aa.out 0).trans rfl, (qZb aa.out 1).trans rfl, cJ, et⟩ (fun hHeld => ?_)
    clear hK K
    refine qJc (a' := ?_) ?_ ?_
    rotate_left
    ·show Act.put _ (some 96) _ = _
     simp only [SX]
     rfl
    refine pu 12 97 ?_ (ms 19 65535) rfl rfl HT_ (by kernel_rfl) (fun _ _ _ h => h) (by rfl) ?_ ?_ ?_ ?_
    rotate_left
    ·intro w'
     go_simp
     with_reducible rfl
    rotate_left
    ·simp only [SX]
     rfl
    refine pu 16 101 ?_ (ms 19 131071) rfl rfl HT_ (by kernel_rfl) (fun _ _ _ h => h) (by rfl) ?_ ?_ ?_ ?_
    rotate_left
    ·intro w'
     go_simp
     with_reducible rfl
    rotate_left
    ·simp only [SX]
     rfl
    refine pu 17 102 ?_ (ms 19 262143) rfl rfl HT_ (by kernel_rfl) (fun _ _ _ h => h) (by rfl) ?_ ?_ ?_ ?_
    rotate_left
    ·intro w'
     go_simp
     with_reducible rfl
    rotate_left
    ·simp only [SX]
     rfl
    refine pu 18 15 ?_ (ms 19 524287) rfl rfl HT_ (by kernel_rfl) (fun _ _ _ h => h) (by rfl) ?_ ?_ ?_ ?_
    rotate_left
    ·intro w'
     go_simp
     with_reducible rfl
    rotate_left
    ·simp only [SX]
     rfl
    refine qXc (qQp HT_.out (by kernel_rfl)) ?_
    try go_wp2
    go_roundg k3
    case measure => have := HJ5.out; have := HK2.out; have := HK3.out; omega
    case rel => exact ⟨(decide ((wrap64 (cX * 100)) ≤ (wrap64 (cg * a4)))), (wrap64 (ar + 1)), (by rfl), (by rfl), H', ⟨by have := HJ5.out; have := HK2.out; have := HK3.out; omega⟩, ⟨by exact ae.out⟩, ⟨by exact af.out⟩, ⟨bk aa⟩, ⟨by repeat ((with_reducible exact ag.out))⟩, ⟨by repeat ((with_reducible exact aj.out))⟩, ⟨bl1 HB ai⟩⟩
end Go.Proofs.Ytlgolgfcolnddaa.F
